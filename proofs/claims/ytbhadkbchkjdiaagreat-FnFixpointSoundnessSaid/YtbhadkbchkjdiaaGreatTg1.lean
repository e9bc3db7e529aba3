import Derived.Test.YtbhadkbchkjdiaaGreatTg1d
set_option maxHeartbeats 2000000
set_option linter.unusedVariables false
set_option linter.unusedSimpArgs false
set_option linter.defProp false
set_option linter.unusedSectionVars false
set_option maxRecDepth 100000
namespace Go.Proofs.YtbhadkbchkjdiaaGreatH
open Go
noncomputable section
instance i13 {code : (List Int)} {i : Int} : Rn cx (f13 code i) 13 [(ssl eU code), (iT i)] (fun (r : Int) => (iT r)) (fun r => []) := Rn.o rfl (by unfold f13; exact go)
instance : Io0 cx 13 := ⟨rfl⟩
instance i40_0 {o1 : (List (List Int))} : Lp cx (f40_0 o1) 24 L40_0 (fun (zs : (List Int) × Int) => [(3, .v (osl eI true zs.1)), (4, .v (osl (eL eI) true o1)), (5, .v (iT zs.2))]) (QX 0 (fun (y : (List Int)) => [(3, .v (osl eI true y))])) := Lp.of (by unfold f40_0; exact go)
instance i40 {d : Database} : Rn cx (f40 d) 40 [(.agg [(ssl eRelation d.Relations), (ssl eFact d.Facts)])] (fun (r : (List Int)) => (osl eI true r)) (fun r => []) := Rn.o (e := (
  sn 4 3 (osl eI true ([])) <| 
  (f35 d).bind fun o1 =>
  (iter (f40_0 o1) ([], 0)).bind fun out_12 =>
  some out_12 : Option (List Int))) rfl (by exact go)
instance : Io0 cx 40 := ⟨rfl⟩
instance i14_0 {o4 : (List Int)} : Lp cx (f14_0 o4) 24 L14_0 (fun (zs : Int × Int) => [(3, .v (iT zs.1)), (4, .v (osl eI true o4)), (5, .v (iT zs.2))]) (QX 0 (fun (y : Int) => [(3, .v (iT y))])) := Lp.of (by unfold f14_0; exact go)
instance i14 {d : Database} : Rn cx (f14 d) 14 [(.agg [(ssl eRelation d.Relations), (ssl eFact d.Facts)])] (fun (r : Int) => (iT r)) (fun r => []) := Rn.o rfl (by unfold f14; exact go)
instance : Io0 cx 14 := ⟨rfl⟩
instance i12_0 {o6 : (List (List Int))} : Lp cx (f12_0 o6) 51 L12_0 (fun (zs : Int × (List Int) × Int) => [(1, .v (iT zs.1)), (6, .v (osl (eL eI) true o6)), (7, .v (osl eI true zs.2.1)), (8, .v (iT zs.2.2))]) (QX 0 (fun (y : (List Int)) => [(7, .v (osl eI true y))])) := Lp.of (by unfold f12_0; exact go)
instance i12 {d : Database} {k : Int} : Rn cx (f12 d k) 12 [(.agg [(ssl eRelation d.Relations), (ssl eFact d.Facts)]), (iT k)] (fun (r : (List Int) × Bool) => (.tup [(ssl eI r.1), (.bool r.2)])) (fun r => []) := Rn.o (e := (
  (f14 d).bind fun o1 =>
  (f38 k 0 (w64 (o1 - 1))).bind fun o3 =>
  if ¬ (o3 = true) then
  sn 3 4 (osl eI true ([])) <| 
  some ([], false)
  else
  (f35 d).bind fun o6 =>
  sn 3 7 (osl eI true ([])) <| 
  (iter (f12_0 o6) (k, [], w64 ((o6.length : Int) - 1))).bind fun out_24 =>
  sn 1 49 (ssl eI out_24) <| 
  (f39 out_24).bind fun o25 =>
  some (o25, true) : Option ((List Int) × Bool))) rfl (by exact go)
instance : Io0 cx 12 := ⟨rfl⟩
instance i25_1 {sets : (List (List Int))} {out_1 : (List (List Int))} {x_2 : Int} {v_4 : (List Int)} : Lp cx (lw out_1 (f25_1 sets x_2 v_4)) 56 L25_1 (fun (zs : Bool × Int) => [(0, .v (ssl (eL eI) sets)), (3, .v (osl (eL eI) true out_1)), (4, .v (iT x_2)), (5, .v (ssl eI v_4)), (6, .v (.bool zs.1)), (10, .v (ssl (eL eI) sets)), (11, .v (iT (sets.length : Int))), (12, .v (iT x_2)), (17, .v (ssl (eL eI) sets)), (18, .v (iT (sets.length : Int))), (19, .v (iT zs.2))]) (QX 2 (fun (y : Bool) => [(0, .v (ssl (eL eI) sets)), (3, .v (osl (eL eI) true out_1)), (5, .v (ssl eI v_4)), (6, .v (.bool y)), (10, .v (ssl (eL eI) sets)), (11, .v (iT (sets.length : Int))), (12, .v (iT x_2))])) := Lp.of (f := (fun
 | (minimal_6, x_7) =>
  if x_7 < (sets.length : Int) then
  (ix sets x_7).bind fun v_9 =>
  (jn (QN (fun (y : Bool) => [(0, .v (ssl (eL eI) sets)), (3, .v (osl (eL eI) true out_1)), (4, .v (iT x_2)), (5, .v (ssl eI v_4)), (6, .v (.bool minimal_6)), (10, .v (ssl (eL eI) sets)), (11, .v (iT (sets.length : Int))), (12, .v (iT x_2)), (17, .v (ssl (eL eI) sets)), (18, .v (iT (sets.length : Int))), (19, .v (iT x_7)), (45, .v (.bool y))])) ((if (v_9.length : Int) < (v_4.length : Int) then
  (f55 v_9 v_4).bind fun o14 =>
  some o14
  else
  (jn (QN (fun (y : Bool) => [(0, .v (ssl (eL eI) sets)), (3, .v (osl (eL eI) true out_1)), (4, .v (iT x_2)), (5, .v (ssl eI v_4)), (6, .v (.bool minimal_6)), (10, .v (ssl (eL eI) sets)), (11, .v (iT (sets.length : Int))), (12, .v (iT x_2)), (17, .v (ssl (eL eI) sets)), (18, .v (iT (sets.length : Int))), (19, .v (iT x_7)), (45, .v (.bool y))])) ((if (v_9.length : Int) = (v_4.length : Int) then
  (jn (QN (fun (y : Bool) => [(0, .v (ssl (eL eI) sets)), (3, .v (osl (eL eI) true out_1)), (4, .v (iT x_2)), (5, .v (ssl eI v_4)), (6, .v (.bool minimal_6)), (10, .v (ssl (eL eI) sets)), (11, .v (iT (sets.length : Int))), (12, .v (iT x_2)), (17, .v (ssl (eL eI) sets)), (18, .v (iT (sets.length : Int))), (19, .v (iT x_7)), (45, .v (.bool y))])) ((if x_7 < x_2 then
  (f55 v_9 v_4).bind fun o22 =>
  some o22
  else
  some false) : Option (Bool))).bind fun x_19 =>
  some x_19
  else
  some false) : Option (Bool))).bind fun x_16 =>
  some x_16) : Option (Bool))).bind fun x_11 =>
  (jn (QN (fun (y : Bool) => [(0, .v (ssl (eL eI) sets)), (3, .v (osl (eL eI) true out_1)), (4, .v (iT x_2)), (5, .v (ssl eI v_4)), (6, .v (.bool y)), (10, .v (ssl (eL eI) sets)), (11, .v (iT (sets.length : Int))), (12, .v (iT x_2)), (17, .v (ssl (eL eI) sets)), (18, .v (iT (sets.length : Int))), (19, .v (iT x_7))])) ((if x_11 = true then
  some false
  else
  some minimal_6) : Option Bool)).bind fun minimal_27 =>
  some (.inl (minimal_27, w64 (x_7 + 1)))
  else
  some (.inr minimal_6) : Bool × Int → Option ((Bool × Int) ⊕ Bool))) (by exact go)
instance i25_0 {sets : (List (List Int))} : Lp cx (f25_0 sets) 56 L25_0 (fun (zs : (List (List Int)) × Int) => [(0, .v (ssl (eL eI) sets)), (3, .v (osl (eL eI) true zs.1)), (10, .v (ssl (eL eI) sets)), (11, .v (iT (sets.length : Int))), (12, .v (iT zs.2))]) (QX 0 (fun (y : (List (List Int))) => [(3, .v (osl (eL eI) true y))])) := Lp.of (f := (fun
 | (out_1, x_2) =>
  if x_2 < (sets.length : Int) then
  (ix sets x_2).bind fun v_4 =>
  (iter (lw out_1  (f25_1 sets x_2 v_4)) (true, 0)).bind fun minimal_30 =>
  (jn (QN (fun (y : (List (List Int))) => [(0, .v (ssl (eL eI) sets)), (3, .v (osl (eL eI) true y)), (10, .v (ssl (eL eI) sets)), (11, .v (iT (sets.length : Int))), (12, .v (iT x_2))])) ((if minimal_30 = true then
  (app 8 ([]) v_4).bind fun l_34 =>
  sn 4 51 (osl eI true l_34) <| 
  (app 24 out_1 ([l_34])).bind fun l_36 =>
  some l_36
  else
  some out_1) : Option (List (List Int)))).bind fun out_38 =>
  some (.inl (out_38, w64 (x_2 + 1)))
  else
  some (.inr out_1) : (List (List Int)) × Int → Option (((List (List Int)) × Int) ⊕ (List (List Int))))) (by exact go)
instance i25 {sets : (List (List Int))} : Rn cx (f25 sets) 25 [(ssl (eL eI) sets)] (fun (r : (List (List Int))) => (osl (eL eI) true r)) (fun r => []) := Rn.o (e := (
  sn 3 3 (osl (eL eI) true ([])) <| 
  (iter (f25_0 sets) ([], 0)).bind fun out_41 =>
  some out_41 : Option (List (List Int)))) rfl (by exact go)
instance : Io0 cx 25 := ⟨rfl⟩
instance i117_0 {l : (List ConflictEdge)} {s1 : (List Int)} : Lp cx (f117_0 l s1) 28 L117_0 (fun (zs : Int) => [(0, .v (ssl eConflictEdge l)), (1, .v (ssl eI s1)), (5, .v (iT zs))]) (QO (QX 0 (fun (y : Unit) => [])) (QR (fun (y : Bool) => [(4, .v (.bool y))]))) := Lp.of (f := (fun
 | i_1 =>
  if i_1 < (l.length : Int) then
  (ix l i_1).bind fun v_3 =>
  (f85 s1 v_3.A).bind fun o5 =>
  (jn (QN (fun (y : Bool) => [(0, .v (ssl eConflictEdge l)), (1, .v (ssl eI s1)), (5, .v (iT i_1)), (27, .v (.bool y))])) ((if o5 = true then
  (f85 s1 v_3.B).bind fun o10 =>
  some o10
  else
  some false) : Option (Bool))).bind fun x_7 =>
  if x_7 = true then
  some (.inr (.inr false))
  else
  some (.inl (w64 (i_1 + 1)))
  else
  some (.inr (.inl ())) : Int → Option (Int ⊕ (Unit ⊕ Bool)))) (by exact go)
instance i117 {l : (List ConflictEdge)} {s1 : (List Int)} : Rn cx (f117 l s1) 117 [(ssl eConflictEdge l), (ssl eI s1)] (fun (r : Bool) => (.bool r)) (fun r => []) := Rn.o rfl (by unfold f117; exact go)
instance : Io0 cx 117 := ⟨rfl⟩
instance i89 {l : (List ConflictEdge)} {s1 : (List Int)} {x : Int} : Rn cx (f89 l s1 x) 89 [(ssl eConflictEdge l), (ssl eI s1), (iT x)] (fun (r : Bool) => (.bool r)) (fun r => []) := Rn.o (e := (
  (f85 s1 x).bind fun o1 =>
  (jn (QN (fun (y : Bool) => [(6, .v (.bool y))])) ((if ¬ (o1 = true) then
  (app 8 ([]) s1).bind fun l_6 =>
  (app 8 l_6 ([x])).bind fun l_8 =>
  sn 0 18 (osl eI true l_8) <| 
  (f117 l l_8).bind fun o10 =>
  some o10
  else
  some false) : Option (Bool))).bind fun x_3 =>
  some x_3 : Option Bool)) rfl (by exact go)
instance : Io0 cx 89 := ⟨rfl⟩
instance i59_0 {n1 : Int} {l : (List ConflictEdge)} : Lp cx (f59_0 n1 l) 38 L59_0 (fun (zs : (List Int) × Int × Int × (List Int) × Int) => [(0, .v (.ptr true [(ssl eU zs.1), (iT zs.2.1), (iT zs.2.2.1)])), (1, .v (iT n1)), (2, .v (ssl eConflictEdge l)), (7, .v (osl eI true zs.2.2.2.1)), (8, .v (iT zs.2.2.2.2))]) (QX 0 (fun (y : (List Int) × Int × Int × (List Int)) => [(0, .v (.ptr true [(ssl eU y.1), (iT y.2.1), (iT y.2.2.1)])), (1, .v (iT n1)), (7, .v (osl eI true y.2.2.2))])) := Lp.of (f := (fun
 | (c_1, c_2, c_3, s_4, x_5) =>
  if x_5 < n1 then
  (f63 ({ b := c_1, i := c_2, h := c_3 } : L1Cur) 2).bind fun o7 =>
  (jn (QN (fun (y : (List Int) × Int × Int × Bool) => [(0, .v (.ptr true [(ssl eU y.1), (iT y.2.1), (iT y.2.2.1)])), (1, .v (iT n1)), (2, .v (ssl eConflictEdge l)), (7, .v (osl eI true s_4)), (8, .v (iT x_5)), (26, .v (.bool y.2.2.2))])) ((if o7.1 = true then
  (f63 o7.2 8).bind fun o15 =>
  (jn (QN (fun (y : Bool) => [(0, .v (.ptr true [(ssl eU o15.2.b), (iT o15.2.i), (iT o15.2.h)])), (1, .v (iT n1)), (2, .v (ssl eConflictEdge l)), (7, .v (osl eI true s_4)), (8, .v (iT x_5)), (26, .v (.bool y))])) ((if o15.1 = true then
  some true
  else
  (f89 l s_4 x_5).bind fun o20 =>
  some o20) : Option (Bool))).bind fun x_17 =>
  some (o15.2.b, o15.2.i, o15.2.h, x_17)
  else
  some (o7.2.b, o7.2.i, o7.2.h, false)) : Option ((List Int) × Int × Int × Bool))).bind fun (c_9, c_10, c_11, x_12) =>
  (jn (QN (fun (y : (List Int)) => [(0, .v (.ptr true [(ssl eU c_9), (iT c_10), (iT c_11)])), (1, .v (iT n1)), (2, .v (ssl eConflictEdge l)), (7, .v (osl eI true y)), (8, .v (iT x_5))])) ((if x_12 = true then
  (app 8 s_4 ([x_5])).bind fun l_25 =>
  some l_25
  else
  some s_4) : Option (List Int))).bind fun s_27 =>
  some (.inl (c_9, c_10, c_11, s_27, w64 (x_5 + 1)))
  else
  some (.inr (c_1, c_2, c_3, s_4)) : (List Int) × Int × Int × (List Int) × Int → Option (((List Int) × Int × Int × (List Int) × Int) ⊕ ((List Int) × Int × Int × (List Int))))) (by exact go)
instance i59 {c : L1Cur} {n1 : Int} {l : (List ConflictEdge)} : Rn cx (f59 c n1 l) 59 [(.ptr true [(ssl eU c.b), (iT c.i), (iT c.h)]), (iT n1), (ssl eConflictEdge l)] (fun (r : (List Int) × L1Cur) => (osl eI true r.1)) (fun r => [(.ptr true [(ssl eU r.2.b), (iT r.2.i), (iT r.2.h)])]) := Rn.o (e := (
  sn 3 7 (osl eI true ([])) <| 
  (iter (f59_0 n1 l) (c.b, c.i, c.h, [], 0)).bind fun (c_30, c_31, c_32, s_33) =>
  (f63 ({ b := c_30, i := c_31, h := c_32 } : L1Cur) 12).bind fun o34 =>
  if o34.1 = true then
  (app 8 s_33 ([n1])).bind fun l_37 =>
  some (l_37, o34.2)
  else
  some (s_33, o34.2) : Option ((List Int) × L1Cur))) rfl (by exact go)
instance i58_0 : Lp cx f58_0 18 L58_0 (fun (zs : (List Int) × Int × Int × (List (List Int)) × Int) => [(0, .v (.ptr true [(ssl eU zs.1), (iT zs.2.1), (iT zs.2.2.1)])), (3, .v (osl (eL eI) true zs.2.2.2.1)), (4, .v (iT zs.2.2.2.2))]) (QX 0 (fun (y : (List Int) × Int × Int × (List (List Int))) => [(0, .v (.ptr true [(ssl eU y.1), (iT y.2.1), (iT y.2.2.1)])), (3, .v (osl (eL eI) true y.2.2.2))])) := Lp.of (by unfold f58_0; exact go)
instance i58 {c : L1Cur} : Rn cx (f58 c) 58 [(.ptr true [(ssl eU c.b), (iT c.i), (iT c.h)])] (fun (r : (List (List Int)) × L1Cur) => (osl (eL eI) true r.1)) (fun r => [(.ptr true [(ssl eU r.2.b), (iT r.2.i), (iT r.2.h)])]) := Rn.o (e := (
  sn 3 3 (osl (eL eI) true ([])) <| 
  (f88 c 6).bind fun o1 =>
  (iter f58_0 (o1.2.b, o1.2.i, o1.2.h, [], o1.1)).bind fun (c_15, c_16, c_17, l_18) =>
  some (l_18, ({ b := c_15, i := c_16, h := c_17 } : L1Cur)) : Option ((List (List Int)) × L1Cur))) rfl (by exact go)
instance i26 {code : (List Int)} : Rn cx (f26 code) 26 [(ssl eU code)] (fun (r : (List (List Int)) × (List Int)) => (.tup [(osl (eL eI) true r.1), (osl eI true r.2)])) (fun r => []) := Rn.o rfl (by unfold f26; exact go)
instance : Io0 cx 26 := ⟨rfl⟩
instance i28 {code : (List Int)} : Rn cx (f28 code) 28 [(ssl eU code)] (fun (r : (List (List Int))) => (osl (eL eI) true r)) (fun r => []) := Rn.o rfl (by unfold f28; exact go)
instance : Io0 cx 28 := ⟨rfl⟩
instance i29_1 {l : (List (List Int))} {out_1 : (List (List Int))} {i_2 : Int} : Lp cx (lw out_1 (f29_1 l i_2)) 78 L29_1 (fun (zs : Bool × Int) => [(0, .v (ssl (eL eI) l)), (3, .v (osl (eL eI) true out_1)), (4, .v (iT i_2)), (5, .v (.bool zs.1)), (6, .v (iT zs.2))]) (QX 2 (fun (y : Bool) => [(0, .v (ssl (eL eI) l)), (3, .v (osl (eL eI) true out_1)), (4, .v (iT i_2)), (5, .v (.bool y))])) := Lp.of (f := (fun
 | (least_4, k_5) =>
  if k_5 < (l.length : Int) then
  (ix l k_5).bind fun v_7 =>
  (ix l i_2).bind fun v_9 =>
  (jn (QN (fun (y : Bool) => [(0, .v (ssl (eL eI) l)), (3, .v (osl (eL eI) true out_1)), (4, .v (iT i_2)), (5, .v (.bool least_4)), (6, .v (iT k_5)), (7, .v (.bool y))])) ((if (v_7.length : Int) < (v_9.length : Int) then
  some true
  else
  (jn (QN (fun (y : Bool) => [(0, .v (ssl (eL eI) l)), (3, .v (osl (eL eI) true out_1)), (4, .v (iT i_2)), (5, .v (.bool least_4)), (6, .v (iT k_5)), (7, .v (.bool y))])) ((if k_5 < i_2 then
  some (decide ((v_7.length : Int) = (v_9.length : Int)))
  else
  some false) : Option (Bool))).bind fun smaller_14 =>
  some smaller_14) : Option (Bool))).bind fun smaller_11 =>
  (jn (QN (fun (y : Bool) => [(0, .v (ssl (eL eI) l)), (3, .v (osl (eL eI) true out_1)), (4, .v (iT i_2)), (5, .v (.bool y)), (6, .v (iT k_5))])) ((if least_4 = true then
  (jn (QN (fun (y : Bool) => [(0, .v (ssl (eL eI) l)), (3, .v (osl (eL eI) true out_1)), (4, .v (iT i_2)), (5, .v (.bool y)), (6, .v (iT k_5))])) ((if smaller_11 = true then
  sn 0 58 (osl (eL eI) false ([v_7])) <| 
  (f27 ([v_7]) v_9).bind fun o23 =>
  some (decide (¬ (o23 = true)))
  else
  some (decide (¬ (false = true)))) : Option (Bool))).bind fun least_20 =>
  some least_20
  else
  some false) : Option (Bool))).bind fun least_17 =>
  some (.inl (least_17, w64 (k_5 + 1)))
  else
  some (.inr least_4) : Bool × Int → Option ((Bool × Int) ⊕ Bool))) (by exact go)
instance i29_0 {l : (List (List Int))} : Lp cx (f29_0 l) 78 L29_0 (fun (zs : (List (List Int)) × Int) => [(0, .v (ssl (eL eI) l)), (3, .v (osl (eL eI) true zs.1)), (4, .v (iT zs.2))]) (QX 0 (fun (y : (List (List Int))) => [(3, .v (osl (eL eI) true y))])) := Lp.of (f := (fun
 | (out_1, i_2) =>
  if i_2 < (l.length : Int) then
  (iter (lw out_1  (f29_1 l i_2)) (true, 0)).bind fun least_27 =>
  (jn (QN (fun (y : (List (List Int))) => [(0, .v (ssl (eL eI) l)), (3, .v (osl (eL eI) true y)), (4, .v (iT i_2))])) ((if least_27 = true then
  (ix l i_2).bind fun v_31 =>
  (app 8 ([]) v_31).bind fun l_33 =>
  sn 7 74 (osl eI true l_33) <| 
  (app 24 out_1 ([l_33])).bind fun l_35 =>
  some l_35
  else
  some out_1) : Option (List (List Int)))).bind fun out_37 =>
  some (.inl (out_37, w64 (i_2 + 1)))
  else
  some (.inr out_1) : (List (List Int)) × Int → Option (((List (List Int)) × Int) ⊕ (List (List Int))))) (by exact go)
instance i29 {l : (List (List Int))} : Rn cx (f29 l) 29 [(ssl (eL eI) l)] (fun (r : (List (List Int))) => (osl (eL eI) true r)) (fun r => []) := Rn.o (e := (
  sn 3 3 (osl (eL eI) true ([])) <| 
  (iter (f29_0 l) ([], 0)).bind fun out_40 =>
  some out_40 : Option (List (List Int)))) rfl (by exact go)
instance : Io0 cx 29 := ⟨rfl⟩
instance i4_0 {code : (List Int)} {o8 : (List (List Int))} {o36 : (List (List Int))} : Lp cx (lw code (f4_0 o8 o36)) 102 L4_0 (fun (zs : Int) => [(0, .v (ssl eU code)), (6, .v (osl (eL eI) false o8)), (9, .v (osl (eL eI) true o36)), (10, .v (iT zs))]) (QO (QX 0 (fun (y : Unit) => [(0, .v (ssl eU code)), (6, .v (osl (eL eI) false o8)), (9, .v (osl (eL eI) true o36))])) (QR (fun (y : Bool) => [(2, .v (.bool y))]))) := Lp.of (by unfold lw f4_0; exact go)
instance i4 {code : (List Int)} : Rn cx (f4 code) 4 [(ssl eU code)] (fun (r : Bool) => (.bool r)) (fun r => []) := Rn.o (e := (
  (f5 code).bind fun o1 =>
  if o1 = true then
  some true
  else
  (f20 code).bind fun o4 =>
  sn 7 4 (.ptr false [(iT o4.2.VariableCount), (ssl eAtom o4.2.Atoms), (ssl eI o4.2.Free)]) <| 
  (f7 o4.2).bind fun o6 =>
  (f21 o4.1 o6).bind fun o8 =>
  (f22 o4.1 o6).bind fun o10 =>
  (f9 o8 o10).bind fun o12 =>
  if ¬ (o12 = true) then
  some false
  else
  (f11 o4.1 o6).bind fun o15 =>
  if ¬ (o15 = true) then
  some (decide ((o8.length : Int) = 0))
  else
  (f13 code 0).bind fun o18 =>
  (f14 o4.1).bind fun o20 =>
  (nz o20).bind fun z_22 =>
  (f12 o4.1 (o18.tmod o20)).bind fun o24 =>
  (f23 o8 o24.1).bind fun o26 =>
  (jn (QN (fun (y : Bool) => [(0, .v (ssl eU code)), (6, .v (osl (eL eI) false o8)), (58, .v (.bool y))])) ((if o26 = true then
  (f24 o4.1 o6).bind fun o31 =>
  (f23 o31 o24.1).bind fun o33 =>
  some (decide (¬ (o33 = true)))
  else
  some false) : Option (Bool))).bind fun x_28 =>
  if x_28 = true then
  some false
  else
  (f25 o8).bind fun o36 =>
  (iter (lw code  (f4_0 o8 o36)) 0).bind fun o => match o with
  | .inl _ =>
  (f26 code).bind fun o48 =>
  (jn (QN (fun (y : Bool) => [(2, .v (.bool y))])) ((if (o36.length : Int) ≤ (o8.length : Int) then
  (f23 o48.1 o48.2).bind fun o53 =>
  (f27 o48.1 o48.2).bind fun o55 =>
  (jn (QN (fun (y : Bool) => [(2, .v (.bool y))])) ((if (o53 == o55) = true then
  (f28 code).bind fun o60 =>
  (f25 o60).bind fun o62 =>
  (f28 code).bind fun o64 =>
  (f29 o64).bind fun o66 =>
  (f9 o62 o66).bind fun o68 =>
  some o68
  else
  some false) : Option (Bool))).bind fun x_57 =>
  some x_57
  else
  some false) : Option (Bool))).bind fun x_50 =>
  some x_50
  | .inr x_47 =>
  some x_47 : Option Bool)) rfl (by exact go)
instance : Io0 cx 4 := ⟨rfl⟩
end
end Go.Proofs.YtbhadkbchkjdiaaGreatH
