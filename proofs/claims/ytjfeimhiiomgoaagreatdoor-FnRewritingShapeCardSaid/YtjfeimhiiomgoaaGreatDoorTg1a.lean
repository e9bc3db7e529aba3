import Derived.Test.YtjfeimhiiomgoaaGreatDoorCx1
import Derived.Test.YtjfeimhiiomgoaaGreatDoorX3
import Derived.Test.YtjfeimhiiomgoaaGreatDoorTd1
set_option maxHeartbeats 2000000
set_option linter.unusedVariables false
set_option linter.unusedSimpArgs false
set_option linter.defProp false
set_option linter.unusedSectionVars false
set_option maxRecDepth 100000
namespace Go.Proofs.YtjfeimhiiomgoaaGreatDoorH
open Go
noncomputable section
variable {o4 : ((List Relation) × Query)} {o6 : ((List RewritingStep) × Bool)} {o1 o3 o5 : (Int × L1Cur)} {slices : (List (List Int))} {o24 : (List (List UInt8))} {atoms : (List Atom)} {a b code free indices l_43 not o19 o7 o9 plus_38 terms variables want : (List Int)} {l relations : (List Relation)} {f rewriting : (List RewritingStep)} {name s0 s1 : (List UInt8)} {atom : Atom} {from2 high i i_15 i_17 i_27 i_7 k low n n0 n1 n_12 n_17 n_40 sign skip t to v v_19 x : Int} {c : L1Cur} {q query : Query}
abbrev iT (n : Int) : T := .int .i64 n
instance : Cl cx := ⟨fun j h => vsound (fun _ _ _ _ h => h) h, fun f ts t outs h => .ext h⟩
@[simp high] theorem ioz {f : Nat} [h : Io0 cx f] : ioTab f = [] := h.io
@[simp] theorem ioz23 : ioTab 23 = [0] := rfl
@[simp] theorem ioz57 : ioTab 57 = [0] := rfl
@[simp] theorem ioz58 : ioTab 58 = [0] := rfl
@[simp] theorem ioz75 : ioTab 75 = [0] := rfl
@[simp] theorem ioz76 : ioTab 76 = [0] := rfl
@[simp] theorem ioz95 : ioTab 95 = [0] := rfl
@[simp] theorem ioz96 : ioTab 96 = [0] := rfl
@[simp] theorem ioz97 : ioTab 97 = [0] := rfl
@[simp] theorem ioz115 : ioTab 115 = [0] := rfl
@[simp] theorem ioz116 : ioTab 116 = [0] := rfl
@[simp] theorem ioz117 : ioTab 117 = [0] := rfl
@[simp] theorem ioz118 : ioTab 118 = [0] := rfl
@[simp] theorem ioz129 : ioTab 129 = [0] := rfl
instance i4 : Rn cx (f4 code) 4 [(ssl eU code)] (fun (r : Bool) => (.bool r)) (fun r => []) := Rn.o rfl (by unfold f4; exact go)
instance : Io0 cx 4 := ⟨rfl⟩
instance i74_0 : Lp cx (f74_0 code) 32 L74_0 (fun (zs : Int × Int) => [(0, .v (ssl eU code)), (3, .v (iT zs.1)), (4, .v (iT zs.2))]) (QX 0 (fun (y : Int) => [(0, .v (ssl eU code)), (3, .v (iT y))])) := Lp.of (f := (fun
 | (h_1, i_2) =>
  (jn (QN (fun (y : Bool) => [(0, .v (ssl eU code)), (3, .v (iT h_1)), (4, .v (iT i_2)), (15, .v (.bool y))])) ((if i_2 < (code.length : Int) then
  some (decide (i_2 < 4000))
  else
  some false) : Option (Bool))).bind fun x_3 =>
  if x_3 = true then
  (ix code i_2).bind fun v_7 =>
  some (.inl (band .i64 (w64 ((w64 ((w64 (h_1 * 131)) + (w64 v_7))) + 7)) 1073741823, w64 (i_2 + 1)))
  else
  some (.inr h_1) : Int × Int -> Option ((Int × Int) ⊕ Int))) (by exact go)
instance i74 : Rn cx (f74 code) 74 [(ssl eU code)] (fun (r : L1Cur) => (.ptr true [(ssl eU r.b), (iT r.i), (iT r.h)])) (fun r => []) := Rn.o rfl (by unfold f74; exact go)
instance : Io0 cx 74 := ⟨rfl⟩
instance i115 : Rn cx (f115 c) 115 [(.ptr true [(ssl eU c.b), (iT c.i), (iT c.h)])] (fun (r : Int × L1Cur) => (iT r.1)) (fun r => [(.ptr true [(ssl eU r.2.b), (iT r.2.i), (iT r.2.h)])]) := Rn.o (e := (
  (jn (QN (fun (y : Int × Int) => [(0, .v (.ptr true [(ssl eU c.b), (iT y.1), (iT (w64 ((w64 (c.h * 6364136223846793005)) + 1442695040888963407)))])), (3, .v (iT y.2))])) ((if c.i < (c.b.length : Int) then
  (ix c.b c.i).bind fun v_4 =>
  some (w64 (c.i + 1), band .i64 (w64 ((band .i64 (bxor .i64 (sshr .i64 (w64 ((w64 (c.h * 6364136223846793005)) + 1442695040888963407)) 33) (sshr .i64 (w64 ((w64 (c.h * 6364136223846793005)) + 1442695040888963407)) 45)) 255) + (w64 v_4))) 255)
  else
  some (c.i, band .i64 (bxor .i64 (sshr .i64 (w64 ((w64 (c.h * 6364136223846793005)) + 1442695040888963407)) 33) (sshr .i64 (w64 ((w64 (c.h * 6364136223846793005)) + 1442695040888963407)) 45)) 255)) : Option (Int × Int))).bind fun (c_6, x_7) =>
  some (x_7, ({ b := c.b, i := c_6, h := w64 ((w64 (c.h * 6364136223846793005)) + 1442695040888963407) } : L1Cur)) : Option (Int × L1Cur))) rfl (by exact go)
instance i96 : Rn cx (f96 c n1) 96 [(.ptr true [(ssl eU c.b), (iT c.i), (iT c.h)]), (iT n1)] (fun (r : Int × L1Cur) => (iT r.1)) (fun r => [(.ptr true [(ssl eU r.2.b), (iT r.2.i), (iT r.2.h)])]) := Rn.o rfl (by unfold f96; exact go)
instance i95 {list : (List Int)} : Rn cx (f95 c list) 95 [(.ptr true [(ssl eU c.b), (iT c.i), (iT c.h)]), (ssl eI list)] (fun (r : Int × L1Cur) => (iT r.1)) (fun r => [(.ptr true [(ssl eU r.2.b), (iT r.2.i), (iT r.2.h)])]) := Rn.o rfl (by unfold f95; exact go)
instance i75 : Rn cx (f75 c) 75 [(.ptr true [(ssl eU c.b), (iT c.i), (iT c.h)])] (fun (r : (List Relation) × L1Cur) => (osl eRelation true r.1)) (fun r => [(.ptr true [(ssl eU r.2.b), (iT r.2.i), (iT r.2.h)])]) := Rn.o (e := (
  sn 5 6 (osl eI true ([1, 1, 2, 0])) <| 
  sn 0 6 (ssl eI ([1, 1, 2, 0])) <| 
  (f95 c ([1, 1, 2, 0])).bind fun o1 =>
  (f96 o1.2 2).bind fun o3 =>
  sn 4 2 (osl eRelation true ([({ Name := [114], Arity := 2, KeyLength := 1 } : Relation), ({ Name := [115], Arity := 2, KeyLength := 1 } : Relation), ({ Name := [116], Arity := 2, KeyLength := o1.1 } : Relation), ({ Name := [117], Arity := 3, KeyLength := w64 (1 + o3.1) } : Relation)])) <| 
  some ([({ Name := [114], Arity := 2, KeyLength := 1 } : Relation), ({ Name := [115], Arity := 2, KeyLength := 1 } : Relation), ({ Name := [116], Arity := 2, KeyLength := o1.1 } : Relation), ({ Name := [117], Arity := 3, KeyLength := w64 (1 + o3.1) } : Relation)], o3.2) : Option ((List Relation) × L1Cur))) rfl (by exact go)
instance i117 : Rn cx (f117 c n1) 117 [(.ptr true [(ssl eU c.b), (iT c.i), (iT c.h)]), (iT n1)] (fun (r : Bool × L1Cur) => (.bool r.1)) (fun r => [(.ptr true [(ssl eU r.2.b), (iT r.2.i), (iT r.2.h)])]) := Rn.o rfl (by unfold f117; exact go)
instance i25_0 : Lp cx (f25_0 q) 40 L25_0 (fun (zs : Int × (List Atom) × (List Int) × Int) => [(1, .v (.ptr true [(iT q.VariableCount), (ssl eAtom q.Atoms), (ssl eI q.Free)])), (2, .v (.ptr true [(iT 0), (osl eAtom true ([])), (osl eI true ([]))])), (3, .v (.ptr true [(iT zs.1), (osl eAtom true zs.2.1), (osl eI true zs.2.2.1)])), (4, .v (iT zs.2.2.2))]) (QX 0 (fun (y : Int × (List Atom) × (List Int)) => [(2, .v (.ptr true [(iT 0), (osl eAtom true ([])), (osl eI true ([]))])), (3, .v (.ptr true [(iT y.1), (osl eAtom true y.2.1), (osl eI true y.2.2)]))])) := Lp.of (f := (fun
 | (x_3, x_4, x_5, i_6) =>
  if i_6 < (q.Atoms.length : Int) then
  (ix q.Atoms i_6).bind fun v_8 =>
  (app 8 ([]) v_8.Terms).bind fun l_10 =>
  sn 16 34 (osl eI true l_10) <| 
  (app 32 x_4 ([({ Relation := v_8.Relation, Terms := l_10 } : Atom)])).bind fun l_12 =>
  some (.inl (x_3, l_12, x_5, w64 (i_6 + 1)))
  else
  some (.inr (x_3, x_4, x_5)) : Int × (List Atom) × (List Int) × Int -> Option ((Int × (List Atom) × (List Int) × Int) ⊕ (Int × (List Atom) × (List Int))))) (by exact go)
instance i25 : Rn cx (f25 q) 25 [(.agg [(iT q.VariableCount), (ssl eAtom q.Atoms), (ssl eI q.Free)])] (fun (r : Query) => (.agg [(iT r.VariableCount), (osl eAtom true r.Atoms), (osl eI true r.Free)])) (fun r => []) := Rn.o (e := (
  sn 2 2 (.ptr true [(iT 0), (osl eAtom true ([])), (osl eI true ([]))]) <| 
  (app 8 ([]) q.Free).bind fun l_1 =>
  sn 7 10 (osl eI true l_1) <| 
  sn 1 11 (.agg [(iT q.VariableCount), (osl eAtom true ([])), (osl eI true l_1)]) <| 
  (iter (f25_0 q) (q.VariableCount, [], l_1, 0)).bind fun (x_16, x_17, x_18) =>
  some ({ VariableCount := x_16, Atoms := x_17, Free := x_18 } : Query) : Option Query)) rfl (by exact go)
instance : Io0 cx 25 := ⟨rfl⟩
instance i127_2 {x_9 : Int} {x_10 : (List Atom)} {x_11 : (List Int)} {name_12 : (List Int)} {k_13 : Int} : Lp cx (lw (i_7, x_9, x_10, x_11, k_13) (f127_2 name_12 v_19)) 76 L127_2 (fun (zs : Int × Int) => [(2, .v (.ptr true [(iT 0), (osl eAtom true ([])), (osl eI true ([]))])), (3, .v (.ptr true [(iT x_9), (osl eAtom true x_10), (osl eI true x_11)])), (4, .v (osl eI true name_12)), (5, .v (iT i_7)), (6, .v (iT k_13)), (7, .v (iT v_19)), (8, .v (iT zs.1)), (9, .v (iT zs.2))]) (QX 4 (fun (y : Int) => [(2, .v (.ptr true [(iT 0), (osl eAtom true ([])), (osl eI true ([]))])), (3, .v (.ptr true [(iT x_9), (osl eAtom true x_10), (osl eI true x_11)])), (4, .v (osl eI true name_12)), (5, .v (iT i_7)), (6, .v (iT k_13)), (7, .v (iT v_19)), (8, .v (iT y))])) := Lp.of (f := (fun
 | (at_22, j_23) =>
  if j_23 < (name_12.length : Int) then
  (ix name_12 j_23).bind fun v_25 =>
  (jn (QN (fun (y : Int) => [(2, .v (.ptr true [(iT 0), (osl eAtom true ([])), (osl eI true ([]))])), (3, .v (.ptr true [(iT x_9), (osl eAtom true x_10), (osl eI true x_11)])), (4, .v (osl eI true name_12)), (5, .v (iT i_7)), (6, .v (iT k_13)), (7, .v (iT v_19)), (8, .v (iT y)), (9, .v (iT j_23))])) ((if v_25 = v_19 then
  some j_23
  else
  some at_22) : Option Int)).bind fun at_30 =>
  some (.inl (at_30, w64 (j_23 + 1)))
  else
  some (.inr at_22) : Int × Int -> Option ((Int × Int) ⊕ Int))) (by exact go)
instance i127_1 : Lp cx (f127_1 i_7) 76 L127_1 (fun (zs : Int × (List Atom) × (List Int) × (List Int) × Int) => [(2, .v (.ptr true [(iT 0), (osl eAtom true ([])), (osl eI true ([]))])), (3, .v (.ptr true [(iT zs.1), (osl eAtom true zs.2.1), (osl eI true zs.2.2.1)])), (4, .v (osl eI true zs.2.2.2.1)), (5, .v (iT i_7)), (6, .v (iT zs.2.2.2.2))]) (QX 2 (fun (y : Int × (List Atom) × (List Int) × (List Int)) => [(2, .v (.ptr true [(iT 0), (osl eAtom true ([])), (osl eI true ([]))])), (3, .v (.ptr true [(iT y.1), (osl eAtom true y.2.1), (osl eI true y.2.2.1)])), (4, .v (osl eI true y.2.2.2)), (5, .v (iT i_7))])) := Lp.of (f := (fun
 | (x_9, x_10, x_11, name_12, k_13) =>
  (ix x_10 i_7).bind fun v_14 =>
  if k_13 < (v_14.Terms.length : Int) then
  (jb 3 (QN (fun (y : (List Atom) × (List Int)) => [(2, .v (.ptr true [(iT 0), (osl eAtom true ([])), (osl eI true ([]))])), (3, .v (.ptr true [(iT x_9), (osl eAtom true y.1), (osl eI true x_11)])), (4, .v (osl eI true y.2)), (5, .v (iT i_7)), (6, .v (iT k_13))])) (((ix v_14.Terms k_13).bind fun v_19 =>
  if v_19 < 0 then
  some (x_10, name_12)
  else
  (iter (lw (i_7, x_9, x_10, x_11, k_13)  (f127_2 name_12 v_19)) (-1, 0)).bind fun at_33 =>
  (jn (QN (fun (y : (List Int) × Int) => [(2, .v (.ptr true [(iT 0), (osl eAtom true ([])), (osl eI true ([]))])), (3, .v (.ptr true [(iT x_9), (osl eAtom true x_10), (osl eI true x_11)])), (4, .v (osl eI true y.1)), (5, .v (iT i_7)), (6, .v (iT k_13)), (8, .v (iT y.2))])) ((if at_33 < 0 then
  (app 8 name_12 ([v_19])).bind fun l_37 =>
  some (l_37, (name_12.length : Int))
  else
  some (name_12, at_33)) : Option ((List Int) × Int))).bind fun (name_39, at_40) =>
  some ((x_10.set i_7.toNat ({ Relation := v_14.Relation, Terms := (v_14.Terms.set k_13.toNat at_40) } : Atom)), name_39)) : Option ((List Atom) × (List Int)))).bind fun (x_43, name_44) =>
  some (.inl (x_9, x_43, x_11, name_44, w64 (k_13 + 1)))
  else
  some (.inr (x_9, x_10, x_11, name_12)) : Int × (List Atom) × (List Int) × (List Int) × Int -> Option ((Int × (List Atom) × (List Int) × (List Int) × Int) ⊕ (Int × (List Atom) × (List Int) × (List Int))))) (by exact go)
instance i127_0 : Lp cx f127_0 76 L127_0 (fun (zs : Int × (List Atom) × (List Int) × (List Int) × Int) => [(2, .v (.ptr true [(iT 0), (osl eAtom true ([])), (osl eI true ([]))])), (3, .v (.ptr true [(iT zs.1), (osl eAtom true zs.2.1), (osl eI true zs.2.2.1)])), (4, .v (osl eI true zs.2.2.2.1)), (5, .v (iT zs.2.2.2.2))]) (QX 0 (fun (y : Int × (List Atom) × (List Int) × (List Int)) => [(2, .v (.ptr true [(iT 0), (osl eAtom true ([])), (osl eI true ([]))])), (3, .v (.ptr true [(iT y.1), (osl eAtom true y.2.1), (osl eI true y.2.2.1)])), (4, .v (osl eI true y.2.2.2))])) := Lp.of (by unfold f127_0; exact go)
instance i127 : Rn cx (f127 q) 127 [(.agg [(iT q.VariableCount), (ssl eAtom q.Atoms), (ssl eI q.Free)])] (fun (r : Query) => (.agg [(iT r.VariableCount), (osl eAtom true r.Atoms), (osl eI true r.Free)])) (fun r => []) := Rn.o (e := (
  sn 2 2 (.ptr true [(iT 0), (osl eAtom true ([])), (osl eI true ([]))]) <| 
  (f25 q).bind fun o1 =>
  sn 4 4 (osl eI true ([])) <| 
  (iter f127_0 (o1.VariableCount, o1.Atoms, o1.Free, [], 0)).bind fun (x_53, x_54, x_55, name_56) =>
  some ({ VariableCount := (name_56.length : Int), Atoms := x_54, Free := x_55 } : Query) : Option Query)) rfl (by exact go)
instance : Io0 cx 127 := ⟨rfl⟩
instance i116_1 {q_10 : Int} {q_11 : (List Atom)} {q_12 : (List Int)} {i_13 : Int} : Lp cx (lw (o1, o5, q_10, q_11, q_12, i_13) (f116_1 o3)) 64 L116_1 (fun (zs : (List Int) × Int × Int × Int × (List Int) × Int) => [(0, .v (.ptr true [(ssl eU zs.1), (iT zs.2.1), (iT zs.2.2.1)])), (2, .v (.ptr true [(iT 0), (osl eAtom true ([])), (osl eI true ([]))])), (3, .v (.ptr true [(iT q_10), (osl eAtom true q_11), (osl eI true q_12)])), (4, .v (iT (w64 (1 + o1.1)))), (5, .v (iT (w64 (1 + o3.1)))), (6, .v (iT o5.1)), (7, .v (iT i_13)), (9, .v (.ptr true [(iT zs.2.2.2.1), (osl eI true zs.2.2.2.2.1)])), (10, .v (iT zs.2.2.2.2.2))]) (QX 2 (fun (y : (List Int) × Int × Int × Int × (List Int)) => [(0, .v (.ptr true [(ssl eU y.1), (iT y.2.1), (iT y.2.2.1)])), (2, .v (.ptr true [(iT 0), (osl eAtom true ([])), (osl eI true ([]))])), (3, .v (.ptr true [(iT q_10), (osl eAtom true q_11), (osl eI true q_12)])), (4, .v (iT (w64 (1 + o1.1)))), (5, .v (iT (w64 (1 + o3.1)))), (6, .v (iT o5.1)), (7, .v (iT i_13)), (9, .v (.ptr true [(iT y.2.2.2.1), (osl eI true y.2.2.2.2)]))])) := Lp.of (f := (fun
 | (c_15, c_16, c_17, a_18, a_19, m_20) =>
  if m_20 > 0 then
  (f117 ({ b := c_15, i := c_16, h := c_17 } : L1Cur) 12).bind fun o22 =>
  (jn (QN (fun (y : (List Int) × Int × Int × (List Int)) => [(0, .v (.ptr true [(ssl eU y.1), (iT y.2.1), (iT y.2.2.1)])), (2, .v (.ptr true [(iT 0), (osl eAtom true ([])), (osl eI true ([]))])), (3, .v (.ptr true [(iT q_10), (osl eAtom true q_11), (osl eI true q_12)])), (4, .v (iT (w64 (1 + o1.1)))), (5, .v (iT (w64 (1 + o3.1)))), (6, .v (iT o5.1)), (7, .v (iT i_13)), (9, .v (.ptr true [(iT a_18), (osl eI true y.2.2.2)])), (10, .v (iT m_20))])) ((if o22.1 = true then
  (f96 o22.2 2).bind fun o27 =>
  (app 8 a_19 ([w64 ((-1) - o27.1)])).bind fun l_29 =>
  some (o27.2.b, o27.2.i, o27.2.h, l_29)
  else
  (f96 o22.2 (w64 (1 + o3.1))).bind fun o31 =>
  (app 8 a_19 ([o31.1])).bind fun l_33 =>
  some (o31.2.b, o31.2.i, o31.2.h, l_33)) : Option ((List Int) × Int × Int × (List Int)))).bind fun (c_35, c_36, c_37, a_38) =>
  some (.inl (c_35, c_36, c_37, a_18, a_38, w64 (m_20 - 1)))
  else
  some (.inr (c_15, c_16, c_17, a_18, a_19)) : (List Int) × Int × Int × Int × (List Int) × Int -> Option (((List Int) × Int × Int × Int × (List Int) × Int) ⊕ ((List Int) × Int × Int × Int × (List Int))))) (by exact go)
instance i116_0 : Lp cx (f116_0 o1 o3 o5) 64 L116_0 (fun (zs : (List Int) × Int × Int × Int × (List Atom) × (List Int) × Int) => [(0, .v (.ptr true [(ssl eU zs.1), (iT zs.2.1), (iT zs.2.2.1)])), (2, .v (.ptr true [(iT 0), (osl eAtom true ([])), (osl eI true ([]))])), (3, .v (.ptr true [(iT zs.2.2.2.1), (osl eAtom true zs.2.2.2.2.1), (osl eI true zs.2.2.2.2.2.1)])), (4, .v (iT (w64 (1 + o1.1)))), (5, .v (iT (w64 (1 + o3.1)))), (6, .v (iT o5.1)), (7, .v (iT zs.2.2.2.2.2.2))]) (QX 0 (fun (y : (List Int) × Int × Int × Int × (List Atom) × (List Int)) => [(0, .v (.ptr true [(ssl eU y.1), (iT y.2.1), (iT y.2.2.1)])), (2, .v (.ptr true [(iT 0), (osl eAtom true ([])), (osl eI true ([]))])), (3, .v (.ptr true [(iT y.2.2.2.1), (osl eAtom true y.2.2.2.2.1), (osl eI true y.2.2.2.2.2)]))])) := Lp.of (f := (fun
 | (c_7, c_8, c_9, q_10, q_11, q_12, i_13) =>
  if i_13 < (w64 (1 + o1.1)) then
  sn 8 30 (.agg [(iT ((w64 (o5.1 + i_13)).tmod 4)), (osl eI true ([]))]) <| 
  (iter (lw (o1, o5, q_10, q_11, q_12, i_13)  (f116_1 o3)) (c_7, c_8, c_9, (w64 (o5.1 + i_13)).tmod 4, [], w64 (2 + (w64 (((w64 (o5.1 + i_13)).tmod 4).tdiv 3))))).bind fun (c_41, c_42, c_43, a_44, a_45) =>
  (app 32 q_11 ([({ Relation := a_44, Terms := a_45 } : Atom)])).bind fun l_46 =>
  some (.inl (c_41, c_42, c_43, q_10, l_46, q_12, w64 (i_13 + 1)))
  else
  some (.inr (c_7, c_8, c_9, q_10, q_11, q_12)) : (List Int) × Int × Int × Int × (List Atom) × (List Int) × Int -> Option (((List Int) × Int × Int × Int × (List Atom) × (List Int) × Int) ⊕ ((List Int) × Int × Int × Int × (List Atom) × (List Int))))) (by exact go)
instance i116 : Rn cx (f116 c) 116 [(.ptr true [(ssl eU c.b), (iT c.i), (iT c.h)])] (fun (r : Query × L1Cur) => (.agg [(iT r.1.VariableCount), (osl eAtom true r.1.Atoms), (osl eI true r.1.Free)])) (fun r => [(.ptr true [(ssl eU r.2.b), (iT r.2.i), (iT r.2.h)])]) := Rn.o (e := (
  sn 1 2 (.ptr true [(iT 0), (osl eAtom true ([])), (osl eI true ([]))]) <| 
  sn 2 11 (.agg [(iT 0), (osl eAtom true ([])), (osl eI true ([]))]) <| 
  (f96 c 3).bind fun o1 =>
  (f96 o1.2 4).bind fun o3 =>
  (f96 o3.2 4).bind fun o5 =>
  (iter (f116_0 o1 o3 o5) (o5.2.b, o5.2.i, o5.2.h, 0, [], [], 0)).bind fun (c_50, c_51, c_52, q_53, q_54, q_55) =>
  (f127 ({ VariableCount := q_53, Atoms := q_54, Free := q_55 } : Query)).bind fun o56 =>
  some (o56, ({ b := c_50, i := c_51, h := c_52 } : L1Cur)) : Option (Query × L1Cur))) rfl (by exact go)
instance i129 {list : (List (List UInt8))} : Rn cx (f129 c list) 129 [(.ptr true [(ssl eU c.b), (iT c.i), (iT c.h)]), (ssl eS list)] (fun (r : (List UInt8) × L1Cur) => (.str r.1)) (fun r => [(.ptr true [(ssl eU r.2.b), (iT r.2.i), (iT r.2.h)])]) := Rn.o rfl (by unfold f129; exact go)
instance i132_0 : Lp cx (f132_0 s0 sign) 35 L132_0 (fun (zs : (List (List UInt8)) × Int × Int) => [(0, .v (.str s0)), (1, .v (.int .u8 sign)), (5, .v (osl eS true zs.1)), (6, .v (iT zs.2.1)), (7, .v (iT zs.2.2))]) (QX 0 (fun (y : (List (List UInt8)) × Int) => [(0, .v (.str s0)), (5, .v (osl eS true y.1)), (6, .v (iT y.2))])) := Lp.of (f := (fun
 | (out_1, from_2, i_3) =>
  if i_3 < (s0.length : Int) then
  (ix s0 i_3).bind fun c_5 =>
  (jn (QN (fun (y : (List (List UInt8)) × Int) => [(0, .v (.str s0)), (1, .v (.int .u8 sign)), (5, .v (osl eS true y.1)), (6, .v (iT y.2)), (7, .v (iT i_3))])) ((if (c_5.toNat : Int) = sign then
  (cutL s0 from_2 i_3).bind fun l_10 =>
  (app 16 out_1 ([l_10])).bind fun l_12 =>
  some (l_12, w64 (i_3 + 1))
  else
  some (out_1, from_2)) : Option ((List (List UInt8)) × Int))).bind fun (out_14, from_15) =>
  some (.inl (out_14, from_15, w64 (i_3 + 1)))
  else
  some (.inr (out_1, from_2)) : (List (List UInt8)) × Int × Int -> Option (((List (List UInt8)) × Int × Int) ⊕ ((List (List UInt8)) × Int)))) (by exact go)
instance i132 : Rn cx (f132 s0 sign) 132 [(.str s0), (.int .u8 sign)] (fun (r : (List (List UInt8))) => (osl eS true r)) (fun r => []) := Rn.o (e := (
  sn 3 5 (osl eS true ([])) <| 
  (iter (f132_0 s0 sign) ([], 0, 0)).bind fun (out_18, from_19) =>
  (cutL s0 from_19 s0.length).bind fun l_20 =>
  (app 16 out_18 ([l_20])).bind fun l_22 =>
  some l_22 : Option (List (List UInt8)))) rfl (by exact go)
instance : Io0 cx 132 := ⟨rfl⟩
instance i39 : Rn cx (f39 x low high) 39 [(iT x), (iT low), (iT high)] (fun (r : Bool) => (.bool r)) (fun r => []) := Rn.o (e := (
  (jn (QN (fun (y : Bool) => [(6, .v (.bool y))])) ((if x >= low then
  some (decide (x <= high))
  else
  some false) : Option (Bool))).bind fun x_1 =>
  some x_1 : Option Bool)) rfl (by exact go)
instance : Io0 cx 39 := ⟨rfl⟩
instance i93 : Rn cx (f93 t) 93 [(iT t)] (fun (r : Int × Bool) => (.tup [(iT r.1), (.bool r.2)])) (fun r => []) := Rn.o (e := (
  (jn (QN (fun (y : Bool) => [(0, .v (iT t)), (11, .v (.bool y))])) ((if t >= 0 then
  some true
  else
  (f39 (w64 ((-1) - t)) 0 9).bind fun o4 =>
  some (decide (¬ (o4 = true)))) : Option (Bool))).bind fun x_1 =>
  if x_1 = true then
  some (0, false)
  else
  some (w64 ((-1) - t), true) : Option (Int × Bool))) rfl (by exact go)
instance : Io0 cx 93 := ⟨rfl⟩
instance i94_0 : Lp cx (lw n0 f94_0) 31 L94_0 (fun (zs : Int × (List UInt8)) => [(0, .v (iT zs.1)), (3, .v (.str zs.2)), (4, .v (.bool (decide (n0 < 0))))]) (QX 0 (fun (y : (List UInt8)) => [(3, .v (.str y)), (4, .v (.bool (decide (n0 < 0))))])) := Lp.of (f := (fun
 | (n_2, out_3) =>
  if n_2 ≠ 0 then
  (jn (QN (fun (y : Int) => [(0, .v (iT n_2)), (3, .v (.str out_3)), (4, .v (.bool (decide (n0 < 0)))), (5, .v (iT y))])) ((if (n_2.tmod 10) < 0 then
  some (w64 (-(n_2.tmod 10)))
  else
  some (n_2.tmod 10)) : Option Int)).bind fun d_8 =>
  (cat ([UInt8.ofNat (w8 (w64 (48 + d_8))).toNat]) out_3).bind fun s_9 =>
  some (.inl (w64 (n_2.tdiv 10), s_9))
  else
  some (.inr out_3) : Int × (List UInt8) -> Option ((Int × (List UInt8)) ⊕ (List UInt8)))) (by exact go)
instance i94 : Rn cx (f94 n0) 94 [(iT n0)] (fun (r : (List UInt8)) => (.str r)) (fun r => []) := Rn.o (e := (
  if n0 = 0 then
  some ([48])
  else
  (iter (lw n0  f94_0) (n0, [])).bind fun out_13 =>
  if n0 < 0 then
  (cat ([45]) out_13).bind fun s_15 =>
  some s_15
  else
  some out_13 : Option (List UInt8))) rfl (by exact go)
instance : Io0 cx 94 := ⟨rfl⟩
instance i69 : Rn cx (f69 t) 69 [(iT t)] (fun (r : (List UInt8)) => (.str r)) (fun r => []) := Rn.o rfl (by unfold f69; exact go)
instance : Io0 cx 69 := ⟨rfl⟩
instance i133_0 : Lp cx (f133_0 s0) 14 L133_0 (fun (zs : Int) => [(0, .v (.str s0)), (4, .v (iT zs))]) (QO (QX 0 (fun (y : Unit) => [])) (QR (fun (y : Int × Bool) => [(2, .v (iT y.1)), (3, .v (.bool y.2))]))) := Lp.of (by unfold f133_0; exact go)
instance i133 : Rn cx (f133 s0) 133 [(.str s0)] (fun (r : Int × Bool) => (.tup [(iT r.1), (.bool r.2)])) (fun r => []) := Rn.o rfl (by unfold f133; exact go)
instance : Io0 cx 133 := ⟨rfl⟩
instance i134_0 : Lp cx (f134_0 l name) 20 L134_0 (fun (zs : Int) => [(0, .v (ssl eRelation l)), (1, .v (.str name)), (5, .v (iT zs))]) (QO (QX 0 (fun (y : Unit) => [])) (QR (fun (y : Int) => [(4, .v (iT y))]))) := Lp.of (by unfold f134_0; exact go)
instance i134 : Rn cx (f134 l name) 134 [(ssl eRelation l), (.str name)] (fun (r : Int) => (iT r)) (fun r => []) := Rn.o rfl (by unfold f134; exact go)
instance : Io0 cx 134 := ⟨rfl⟩
instance i73 {s0 : Relation} : Rn cx (f73 s0) 73 [(.agg [(.str s0.Name), (iT s0.Arity), (iT s0.KeyLength)])] (fun (r : Bool) => (.bool r)) (fun r => []) := Rn.o (e := (
  (jn (QN (fun (y : Bool) => [(2, .v (.bool y))])) ((if (s0.Name.length : Int) = 1 then
  (ix s0.Name 0).bind fun c_4 =>
  (jn (QN (fun (y : Bool) => [(2, .v (.bool y))])) ((if (c_4.toNat : Int) >= 97 then
  (jn (QN (fun (y : Bool) => [(2, .v (.bool y))])) ((if (c_4.toNat : Int) <= 122 then
  (f39 s0.Arity 1 3).bind fun o12 =>
  (jn (QN (fun (y : Bool) => [(2, .v (.bool y))])) ((if o12 = true then
  (f39 s0.KeyLength 0 s0.Arity).bind fun o17 =>
  some o17
  else
  some false) : Option (Bool))).bind fun x_14 =>
  some x_14
  else
  some false) : Option (Bool))).bind fun x_9 =>
  some x_9
  else
  some false) : Option (Bool))).bind fun x_6 =>
  some x_6
  else
  some false) : Option (Bool))).bind fun x_1 =>
  some x_1 : Option Bool)) rfl (by exact go)
instance : Io0 cx 73 := ⟨rfl⟩
instance i46_0 : Lp cx (f46_0 l) 37 L46_0 (fun (zs : Int) => [(0, .v (ssl eRelation l)), (3, .v (iT zs))]) (QO (QX 0 (fun (y : Unit) => [(0, .v (ssl eRelation l))])) (QR (fun (y : Bool) => [(2, .v (.bool y))]))) := Lp.of (f := (fun
 | i_1 =>
  if i_1 < (l.length : Int) then
  (ix l i_1).bind fun v_3 =>
  (f73 v_3).bind fun o5 =>
  (jn (QN (fun (y : Bool) => [(0, .v (ssl eRelation l)), (3, .v (iT i_1)), (33, .v (.bool y))])) ((if ¬ (o5 = true) then
  some true
  else
  (jn (QN (fun (y : Bool) => [(0, .v (ssl eRelation l)), (3, .v (iT i_1)), (33, .v (.bool y))])) ((if i_1 > 0 then
  (ix l (w64 (i_1 - 1))).bind fun v_13 =>
  some (!(Op.bytesLess v_13.Name v_3.Name))
  else
  some false) : Option (Bool))).bind fun x_10 =>
  some x_10) : Option (Bool))).bind fun x_7 =>
  if x_7 = true then
  some (.inr (.inr false))
  else
  some (.inl (w64 (i_1 + 1)))
  else
  some (.inr (.inl ())) : Int -> Option (Int ⊕ (Unit ⊕ Bool)))) (by exact go)
instance i46 : Rn cx (f46 l) 46 [(ssl eRelation l)] (fun (r : Bool) => (.bool r)) (fun r => []) := Rn.o rfl (by unfold f46; exact go)
instance : Io0 cx 46 := ⟨rfl⟩
instance i29_3 {met_16 : (List Bool)} {v_19 : Atom} : Lp cx (lw (l, met_16) (f29_3 q i_17 v_19)) 150 L29_3 (fun (zs : Int) => [(0, .v (ssl eRelation l)), (3, .v (.ptr true [(iT q.VariableCount), (ssl eAtom q.Atoms), (ssl eI q.Free)])), (5, .v (osl eB true met_16)), (6, .v (iT i_17)), (7, .v (.ptr true [(iT v_19.Relation), (ssl eI v_19.Terms)])), (8, .v (iT zs))]) (QO (QX 2 (fun (y : Unit) => [(0, .v (ssl eRelation l)), (3, .v (.ptr true [(iT q.VariableCount), (ssl eAtom q.Atoms), (ssl eI q.Free)])), (5, .v (osl eB true met_16)), (6, .v (iT i_17)), (7, .v (.ptr true [(iT v_19.Relation), (ssl eI v_19.Terms)]))])) (QR (fun (y : Bool) => [(4, .v (.bool y))]))) := Lp.of (by unfold lw f29_3; exact go)
instance i29_4 {v_19 : Atom} : Lp cx (lw (l, i_17) (f29_4 q v_19)) 150 L29_4 (fun (zs : (List Bool) × Int) => [(0, .v (ssl eRelation l)), (3, .v (.ptr true [(iT q.VariableCount), (ssl eAtom q.Atoms), (ssl eI q.Free)])), (5, .v (osl eB true zs.1)), (6, .v (iT i_17)), (7, .v (.ptr true [(iT v_19.Relation), (ssl eI v_19.Terms)])), (9, .v (iT zs.2))]) (QO (QX 4 (fun (y : (List Bool)) => [(0, .v (ssl eRelation l)), (3, .v (.ptr true [(iT q.VariableCount), (ssl eAtom q.Atoms), (ssl eI q.Free)])), (5, .v (osl eB true y)), (6, .v (iT i_17))])) (QR (fun (y : Bool) => [(4, .v (.bool y))]))) := Lp.of (f := (fun
 | (met_37, k_38) =>
  if k_38 < (v_19.Terms.length : Int) then
  (ix v_19.Terms k_38).bind fun v_40 =>
  (f39 v_40 (-10) (w64 (q.VariableCount - 1))).bind fun o42 =>
  if ¬ (o42 = true) then
  some (.inr (.inr false))
  else
  (jn (QN (fun (y : (List Bool)) => [(0, .v (ssl eRelation l)), (3, .v (.ptr true [(iT q.VariableCount), (ssl eAtom q.Atoms), (ssl eI q.Free)])), (5, .v (osl eB true y)), (6, .v (iT i_17)), (7, .v (.ptr true [(iT v_19.Relation), (ssl eI v_19.Terms)])), (9, .v (iT k_38))])) ((if v_40 >= 0 then
  (ix met_37 v_40).bind fun v_48 =>
  some (met_37.set v_40.toNat true)
  else
  some met_37) : Option (List Bool))).bind fun met_51 =>
  some (.inl (met_51, w64 (k_38 + 1)))
  else
  some (.inr (.inl met_37)) : (List Bool) × Int -> Option (((List Bool) × Int) ⊕ ((List Bool) ⊕ Bool)))) (by exact go)
instance i29_0 : Lp cx (f29_0 l q) 150 L29_0 (fun (zs : (List Bool) × Int) => [(0, .v (ssl eRelation l)), (3, .v (.ptr true [(iT q.VariableCount), (ssl eAtom q.Atoms), (ssl eI q.Free)])), (5, .v (osl eB true zs.1)), (6, .v (iT zs.2))]) (QO (QX 0 (fun (y : (List Bool)) => [(3, .v (.ptr true [(iT q.VariableCount), (ssl eAtom q.Atoms), (ssl eI q.Free)])), (5, .v (osl eB true y))])) (QR (fun (y : Bool) => [(4, .v (.bool y))]))) := Lp.of (f := (fun
 | (met_16, i_17) =>
  if i_17 < (q.Atoms.length : Int) then
  (ix q.Atoms i_17).bind fun v_19 =>
  (f39 v_19.Relation 0 (w64 ((l.length : Int) - 1))).bind fun o21 =>
  (jn (QN (fun (y : Bool) => [(0, .v (ssl eRelation l)), (3, .v (.ptr true [(iT q.VariableCount), (ssl eAtom q.Atoms), (ssl eI q.Free)])), (5, .v (osl eB true met_16)), (6, .v (iT i_17)), (7, .v (.ptr true [(iT v_19.Relation), (ssl eI v_19.Terms)])), (59, .v (.bool y))])) ((if ¬ (o21 = true) then
  some true
  else
  (ix l v_19.Relation).bind fun v_26 =>
  some (decide ((v_19.Terms.length : Int) ≠ v_26.Arity))) : Option (Bool))).bind fun x_23 =>
  if x_23 = true then
  some (.inr (.inr false))
  else
  (iter (lw (l, met_16)  (f29_3 q i_17 v_19)) 0).bind fun o => match o with
  | .inl _ =>
  ((iter (lw (l, i_17)  (f29_4 q v_19)) (met_16, 0)).bind fun o => match o with
  | .inl met_54 =>
  some (.inl (met_54, w64 (i_17 + 1)))
  | .inr x_55 =>
  some (.inr (.inr x_55)))
  | .inr x_36 =>
  some (.inr (.inr x_36))
  else
  some (.inr (.inl met_16)) : (List Bool) × Int -> Option (((List Bool) × Int) ⊕ ((List Bool) ⊕ Bool)))) (by exact go)
instance i29_1 {met_58 : (List Bool)} : Lp cx (f29_1 q met_58) 150 L29_1 (fun (zs : Int) => [(3, .v (.ptr true [(iT q.VariableCount), (ssl eAtom q.Atoms), (ssl eI q.Free)])), (5, .v (osl eB true met_58)), (10, .v (iT zs))]) (QO (QX 6 (fun (y : Unit) => [(3, .v (.ptr true [(iT q.VariableCount), (ssl eAtom q.Atoms), (ssl eI q.Free)]))])) (QR (fun (y : Bool) => [(4, .v (.bool y))]))) := Lp.of (by unfold f29_1; exact go)
instance i29_2 : Lp cx (f29_2 q) 150 L29_2 (fun (zs : Int) => [(3, .v (.ptr true [(iT q.VariableCount), (ssl eAtom q.Atoms), (ssl eI q.Free)])), (11, .v (iT zs))]) (QO (QX 8 (fun (y : Unit) => [])) (QR (fun (y : Bool) => [(4, .v (.bool y))]))) := Lp.of (f := (fun
 | i_68 =>
  if i_68 < (q.Free.length : Int) then
  (ix q.Free i_68).bind fun v_70 =>
  (f39 v_70 0 (w64 (q.VariableCount - 1))).bind fun o72 =>
  (jn (QN (fun (y : Bool) => [(3, .v (.ptr true [(iT q.VariableCount), (ssl eAtom q.Atoms), (ssl eI q.Free)])), (11, .v (iT i_68)), (149, .v (.bool y))])) ((if ¬ (o72 = true) then
  some true
  else
  (jn (QN (fun (y : Bool) => [(3, .v (.ptr true [(iT q.VariableCount), (ssl eAtom q.Atoms), (ssl eI q.Free)])), (11, .v (iT i_68)), (149, .v (.bool y))])) ((if i_68 > 0 then
  (ix q.Free (w64 (i_68 - 1))).bind fun v_80 =>
  some (decide (v_70 <= v_80))
  else
  some false) : Option (Bool))).bind fun x_77 =>
  some x_77) : Option (Bool))).bind fun x_74 =>
  if x_74 = true then
  some (.inr (.inr false))
  else
  some (.inl (w64 (i_68 + 1)))
  else
  some (.inr (.inl ())) : Int -> Option (Int ⊕ (Unit ⊕ Bool)))) (by exact go)
instance i29 : Rn cx (f29 l q) 29 [(ssl eRelation l), (.agg [(iT q.VariableCount), (ssl eAtom q.Atoms), (ssl eI q.Free)])] (fun (r : Bool) => (.bool r)) (fun r => []) := Rn.o (e := (
  (f46 l).bind fun o1 =>
  (jn (QN (fun (y : Bool) => [(0, .v (ssl eRelation l)), (3, .v (.ptr true [(iT q.VariableCount), (ssl eAtom q.Atoms), (ssl eI q.Free)])), (27, .v (.bool y))])) ((if ¬ (o1 = true) then
  some true
  else
  (f39 q.VariableCount 0 4).bind fun o6 =>
  (jn (QN (fun (y : Bool) => [(0, .v (ssl eRelation l)), (3, .v (.ptr true [(iT q.VariableCount), (ssl eAtom q.Atoms), (ssl eI q.Free)])), (27, .v (.bool y))])) ((if ¬ (o6 = true) then
  some true
  else
  (f39 (q.Atoms.length : Int) 1 3).bind fun o11 =>
  some (decide (¬ (o11 = true)))) : Option (Bool))).bind fun x_8 =>
  some x_8) : Option (Bool))).bind fun x_3 =>
  if x_3 = true then
  some false
  else
  (mkl 1 4 false).bind fun l_14 =>
  sn 2 5 (osl eB true l_14) <| 
  (iter (f29_0 l q) (l_14, 0)).bind fun o => match o with
  | .inl met_58 =>
  ((iter (f29_1 q met_58) 0).bind fun o => match o with
  | .inl _ =>
  ((iter (f29_2 q) 0).bind fun o => match o with
  | .inl _ =>
  some true
  | .inr x_85 =>
  some x_85)
  | .inr x_67 =>
  some x_67)
  | .inr x_59 =>
  some x_59 : Option Bool)) rfl (by exact go)
instance : Io0 cx 29 := ⟨rfl⟩
instance i38_0 {a : Atom} : Lp cx (f38_0 l a) 39 L38_0 (fun (zs : (List UInt8) × Int) => [(0, .v (ssl eRelation l)), (3, .v (.ptr true [(iT a.Relation), (ssl eI a.Terms)])), (5, .v (.str zs.1)), (6, .v (iT zs.2))]) (QX 0 (fun (y : (List UInt8)) => [(5, .v (.str y))])) := Lp.of (f := (fun
 | (s_3, i_4) =>
  if i_4 < (a.Terms.length : Int) then
  (ix l a.Relation).bind fun v_6 =>
  (jn (QN (fun (y : (List UInt8)) => [(0, .v (ssl eRelation l)), (3, .v (.ptr true [(iT a.Relation), (ssl eI a.Terms)])), (5, .v (.str y)), (6, .v (iT i_4))])) ((if i_4 = v_6.KeyLength then
  (cat s_3 ([124])).bind fun s_11 =>
  some s_11
  else
  some s_3) : Option (List UInt8))).bind fun s_13 =>
  (ix a.Terms i_4).bind fun v_14 =>
  (f69 v_14).bind fun o16 =>
  (cat s_13 o16).bind fun s_18 =>
  some (.inl (s_18, w64 (i_4 + 1)))
  else
  some (.inr s_3) : (List UInt8) × Int -> Option (((List UInt8) × Int) ⊕ (List UInt8)))) (by exact go)
instance i38 {a : Atom} : Rn cx (f38 l a) 38 [(ssl eRelation l), (.agg [(iT a.Relation), (ssl eI a.Terms)])] (fun (r : (List UInt8)) => (.str r)) (fun r => []) := Rn.o rfl (by unfold f38; exact go)
instance : Io0 cx 38 := ⟨rfl⟩
instance i135_0 : Lp cx (lw l (f135_0 q)) 50 L135_0 (fun (zs : (List UInt8) × Int) => [(0, .v (ssl eRelation l)), (3, .v (.ptr true [(iT q.VariableCount), (ssl eAtom q.Atoms), (ssl eI q.Free)])), (5, .v (.str zs.1)), (6, .v (iT zs.2))]) (QX 0 (fun (y : (List UInt8)) => [(0, .v (ssl eRelation l)), (3, .v (.ptr true [(iT q.VariableCount), (ssl eAtom q.Atoms), (ssl eI q.Free)])), (5, .v (.str y))])) := Lp.of (by unfold lw f135_0; exact go)
instance i135_1 : Lp cx (f135_1 l q) 50 L135_1 (fun (zs : (List UInt8) × Int) => [(0, .v (ssl eRelation l)), (3, .v (.ptr true [(iT q.VariableCount), (ssl eAtom q.Atoms), (ssl eI q.Free)])), (5, .v (.str zs.1)), (7, .v (iT zs.2))]) (QX 2 (fun (y : (List UInt8)) => [(5, .v (.str y))])) := Lp.of (f := (fun
 | (s_18, i_19) =>
  if i_19 < (q.Atoms.length : Int) then
  (jn (QN (fun (y : (List UInt8)) => [(0, .v (ssl eRelation l)), (3, .v (.ptr true [(iT q.VariableCount), (ssl eAtom q.Atoms), (ssl eI q.Free)])), (5, .v (.str y)), (7, .v (iT i_19))])) ((if i_19 > 0 then
  (cat s_18 ([32])).bind fun s_24 =>
  some s_24
  else
  some s_18) : Option (List UInt8))).bind fun s_26 =>
  (ix q.Atoms i_19).bind fun v_27 =>
  (f38 l v_27).bind fun o29 =>
  (cat s_26 o29).bind fun s_31 =>
  some (.inl (s_31, w64 (i_19 + 1)))
  else
  some (.inr s_18) : (List UInt8) × Int -> Option (((List UInt8) × Int) ⊕ (List UInt8)))) (by exact go)
instance i135 : Rn cx (f135 l q) 135 [(ssl eRelation l), (.agg [(iT q.VariableCount), (ssl eAtom q.Atoms), (ssl eI q.Free)])] (fun (r : (List UInt8)) => (.str r)) (fun r => []) := Rn.o (e := (
  (f29 l q).bind fun o1 =>
  if ¬ (o1 = true) then
  some ([])
  else
  (iter (lw l  (f135_0 q)) ([], 0)).bind fun s_15 =>
  (cat s_15 ([63])).bind fun s_16 =>
  (iter (f135_1 l q) (s_16, 0)).bind fun s_35 =>
  some s_35 : Option (List UInt8))) rfl (by exact go)
instance : Io0 cx 135 := ⟨rfl⟩
instance i128_0 {o1 : (List (List UInt8))} : Lp cx (lw (l, s1) (f128_0 o1)) 123 L128_0 (fun (zs : Int × (List Atom) × (List Int) × Int) => [(0, .v (ssl eRelation l)), (1, .v (.str s1)), (4, .v (.ptr true [(iT 0), (osl eAtom true ([])), (osl eI true ([]))])), (6, .v (osl eS true o1)), (7, .v (.ptr true [(iT zs.1), (osl eAtom true zs.2.1), (osl eI true zs.2.2.1)])), (8, .v (iT zs.2.2.2))]) (QX 0 (fun (y : Int × (List Atom) × (List Int)) => [(0, .v (ssl eRelation l)), (1, .v (.str s1)), (4, .v (.ptr true [(iT 0), (osl eAtom true ([])), (osl eI true ([]))])), (6, .v (osl eS true o1)), (7, .v (.ptr true [(iT y.1), (osl eAtom true y.2.1), (osl eI true y.2.2)]))])) := Lp.of (by unfold lw f128_0; exact go)
instance i128_2 {i_29 : Int} : Lp cx (lw s1 (f128_2 l o24 i_29)) 123 L128_2 (fun (zs : Int × (List Atom) × (List Int) × Int × (List Int) × Int) => [(0, .v (ssl eRelation l)), (1, .v (.str s1)), (4, .v (.ptr true [(iT 0), (osl eAtom true ([])), (osl eI true ([]))])), (7, .v (.ptr true [(iT zs.1), (osl eAtom true zs.2.1), (osl eI true zs.2.2.1)])), (11, .v (osl eS true o24)), (12, .v (iT i_29)), (13, .v (.ptr true [(iT zs.2.2.2.1), (osl eI true zs.2.2.2.2.1)])), (14, .v (iT zs.2.2.2.2.2))]) (QX 4 (fun (y : Int × (List Atom) × (List Int) × Int × (List Int)) => [(0, .v (ssl eRelation l)), (1, .v (.str s1)), (4, .v (.ptr true [(iT 0), (osl eAtom true ([])), (osl eI true ([]))])), (7, .v (.ptr true [(iT y.1), (osl eAtom true y.2.1), (osl eI true y.2.2.1)])), (11, .v (osl eS true o24)), (12, .v (iT i_29)), (13, .v (.ptr true [(iT y.2.2.2.1), (osl eI true y.2.2.2.2)]))])) := Lp.of (f := (fun
 | (q_31, q_32, q_33, a_34, a_35, k_36) =>
  (ix o24 i_29).bind fun v_37 =>
  if k_36 < (v_37.length : Int) then
  (jb 5 (QN (fun (y : Int × Int × (List Int)) => [(0, .v (ssl eRelation l)), (1, .v (.str s1)), (4, .v (.ptr true [(iT 0), (osl eAtom true ([])), (osl eI true ([]))])), (7, .v (.ptr true [(iT y.1), (osl eAtom true q_32), (osl eI true q_33)])), (11, .v (osl eS true o24)), (12, .v (iT i_29)), (13, .v (.ptr true [(iT y.2.1), (osl eI true y.2.2)])), (14, .v (iT k_36))])) ((if k_36 = 0 then
  (cutL v_37 0 1).bind fun l_43 =>
  (f134 l l_43).bind fun o45 =>
  some (q_31, o45, a_35)
  else
  (ix v_37 k_36).bind fun c_47 =>
  if (c_47.toNat : Int) = 124 then
  some (q_31, a_34, a_35)
  else
  (cutL v_37 k_36 (w64 (k_36 + 1))).bind fun l_50 =>
  (f133 l_50).bind fun o52 =>
  (app 8 a_35 ([o52.1])).bind fun l_54 =>
  some (if w64 (o52.1 + 1) > q_31 then w64 (o52.1 + 1) else q_31, a_34, l_54)) : Option (Int × Int × (List Int)))).bind fun (q_56, a_57, a_58) =>
  some (.inl (q_56, q_32, q_33, a_57, a_58, w64 (k_36 + 1)))
  else
  some (.inr (q_31, q_32, q_33, a_34, a_35)) : Int × (List Atom) × (List Int) × Int × (List Int) × Int -> Option ((Int × (List Atom) × (List Int) × Int × (List Int) × Int) ⊕ (Int × (List Atom) × (List Int) × Int × (List Int))))) (by exact go)
instance i128_1 : Lp cx (lw s1 (f128_1 l o24)) 123 L128_1 (fun (zs : Int × (List Atom) × (List Int) × Int) => [(0, .v (ssl eRelation l)), (1, .v (.str s1)), (4, .v (.ptr true [(iT 0), (osl eAtom true ([])), (osl eI true ([]))])), (7, .v (.ptr true [(iT zs.1), (osl eAtom true zs.2.1), (osl eI true zs.2.2.1)])), (11, .v (osl eS true o24)), (12, .v (iT zs.2.2.2))]) (QX 2 (fun (y : Int × (List Atom) × (List Int)) => [(0, .v (ssl eRelation l)), (1, .v (.str s1)), (4, .v (.ptr true [(iT 0), (osl eAtom true ([])), (osl eI true ([]))])), (7, .v (.ptr true [(iT y.1), (osl eAtom true y.2.1), (osl eI true y.2.2)]))])) := Lp.of (f := (fun
 | (q_26, q_27, q_28, i_29) =>
  if i_29 < (o24.length : Int) then
  sn 2 59 (.agg [(iT 0), (osl eI true ([]))]) <| 
  (iter (lw s1  (f128_2 l o24 i_29)) (q_26, q_27, q_28, 0, [], 0)).bind fun (q_61, q_62, q_63, a_64, a_65) =>
  (app 32 q_62 ([({ Relation := a_64, Terms := a_65 } : Atom)])).bind fun l_66 =>
  some (.inl (q_61, l_66, q_63, w64 (i_29 + 1)))
  else
  some (.inr (q_26, q_27, q_28)) : Int × (List Atom) × (List Int) × Int -> Option ((Int × (List Atom) × (List Int) × Int) ⊕ (Int × (List Atom) × (List Int))))) (by exact go)
instance i128 : Rn cx (f128 l s1) 128 [(ssl eRelation l), (.str s1)] (fun (r : Query × Bool) => (.tup [(.agg [(iT r.1.VariableCount), (osl eAtom true r.1.Atoms), (osl eI true r.1.Free)]), (.bool r.2)])) (fun r => []) := Rn.o (e := (
  sn 2 4 (.ptr true [(iT 0), (osl eAtom true ([])), (osl eI true ([]))]) <| 
  (f132 s1 63).bind fun o1 =>
  if (o1.length : Int) ≠ 2 then
  sn 1 22 (.agg [(iT 0), (osl eAtom true ([])), (osl eI true ([]))]) <| 
  some (({ VariableCount := 0, Atoms := [], Free := [] } : Query), false)
  else
  sn 2 23 (.agg [(iT 0), (osl eAtom true ([])), (osl eI true ([]))]) <| 
  (iter (lw (l, s1)  (f128_0 o1)) (0, [], [], 0)).bind fun (q_19, q_20, q_21) =>
  (ix o1 1).bind fun v_22 =>
  (f132 v_22 32).bind fun o24 =>
  (iter (lw s1  (f128_1 l o24)) (q_19, q_20, q_21, 0)).bind fun (q_70, q_71, q_72) =>
  (f135 l ({ VariableCount := q_70, Atoms := q_71, Free := q_72 } : Query)).bind fun o73 =>
  if o73 ≠ s1 then
  sn 1 121 (.agg [(iT 0), (osl eAtom true ([])), (osl eI true ([]))]) <| 
  some (({ VariableCount := 0, Atoms := [], Free := [] } : Query), false)
  else
  some (({ VariableCount := q_70, Atoms := q_71, Free := q_72 } : Query), true) : Option (Query × Bool))) rfl (by exact go)
instance : Io0 cx 128 := ⟨rfl⟩
instance i118 : Rn cx (f118 c l) 118 [(.ptr true [(ssl eU c.b), (iT c.i), (iT c.h)]), (ssl eRelation l)] (fun (r : Query × L1Cur) => (.agg [(iT r.1.VariableCount), (osl eAtom true r.1.Atoms), (osl eI true r.1.Free)])) (fun r => [(.ptr true [(ssl eU r.2.b), (iT r.2.i), (iT r.2.h)])]) := Rn.o (e := (
  sn 1 4 (.ptr true [(iT 0), (osl eAtom true ([])), (osl eI true ([]))]) <| 
  sn 3 10 (osl eS true ([[63, 114, 120, 124, 121, 32, 115, 121, 124, 122], [63, 114, 120, 124, 121, 32, 115, 121, 124, 120], [63, 114, 120, 124, 121, 32, 115, 122, 124, 121], [63, 114, 120, 124, 121, 32, 115, 120, 124, 122], [63, 114, 120, 124, 49], [63, 114, 120, 124, 120], [63, 114, 120, 124, 121, 32, 115, 121, 124, 49], [63, 114, 120, 124, 121, 32, 115, 121, 124, 122, 32, 114], [63, 114, 120, 124, 121], [63, 114, 120, 124, 122, 32, 115, 121, 124, 122]])) <| 
  sn 0 10 (ssl eS ([[63, 114, 120, 124, 121, 32, 115, 121, 124, 122], [63, 114, 120, 124, 121, 32, 115, 121, 124, 120], [63, 114, 120, 124, 121, 32, 115, 122, 124, 121], [63, 114, 120, 124, 121, 32, 115, 120, 124, 122], [63, 114, 120, 124, 49], [63, 114, 120, 124, 120], [63, 114, 120, 124, 121, 32, 115, 121, 124, 49], [63, 114, 120, 124, 121, 32, 115, 121, 124, 122, 32, 114], [63, 114, 120, 124, 121], [63, 114, 120, 124, 122, 32, 115, 121, 124, 122]])) <| 
  (f129 c ([[63, 114, 120, 124, 121, 32, 115, 121, 124, 122], [63, 114, 120, 124, 121, 32, 115, 121, 124, 120], [63, 114, 120, 124, 121, 32, 115, 122, 124, 121], [63, 114, 120, 124, 121, 32, 115, 120, 124, 122], [63, 114, 120, 124, 49], [63, 114, 120, 124, 120], [63, 114, 120, 124, 121, 32, 115, 121, 124, 49], [63, 114, 120, 124, 121, 32, 115, 121, 124, 122, 32, 114], [63, 114, 120, 124, 121], [63, 114, 120, 124, 122, 32, 115, 121, 124, 122]])).bind fun o1 =>
  (f128 l o1.1).bind fun o3 =>
  (jn (QN (fun (y : Int × (List Atom) × (List Int)) => [(0, .v (.ptr true [(ssl eU o1.2.b), (iT o1.2.i), (iT o1.2.h)])), (4, .v (.ptr true [(iT 0), (osl eAtom true ([])), (osl eI true ([]))])), (5, .v (.ptr true [(iT y.1), (osl eAtom true y.2.1), (osl eI true y.2.2)]))])) ((if ¬ (o3.2 = true) then
  (f128 l ([63, 114, 120, 124, 121, 32, 115, 121, 124, 122])).bind fun o8 =>
  some (o8.1.VariableCount, o8.1.Atoms, o8.1.Free)
  else
  some (o3.1.VariableCount, o3.1.Atoms, o3.1.Free)) : Option (Int × (List Atom) × (List Int)))).bind fun (q_10, q_11, q_12) =>
  some (({ VariableCount := q_10, Atoms := q_11, Free := q_12 } : Query), o1.2) : Option (Query × L1Cur))) rfl (by exact go)
instance i97_0 : Lp cx f97_0 31 L97_0 (fun (zs : (List Int) × Int × Int × Int × (List Atom) × (List Int) × Int) => [(0, .v (.ptr true [(ssl eU zs.1), (iT zs.2.1), (iT zs.2.2.1)])), (4, .v (.ptr true [(iT 0), (osl eAtom true ([])), (osl eI true ([]))])), (5, .v (.ptr true [(iT zs.2.2.2.1), (osl eAtom true zs.2.2.2.2.1), (osl eI true zs.2.2.2.2.2.1)])), (6, .v (iT zs.2.2.2.2.2.2))]) (QX 0 (fun (y : (List Int) × Int × Int × Int × (List Atom) × (List Int)) => [(0, .v (.ptr true [(ssl eU y.1), (iT y.2.1), (iT y.2.2.1)])), (4, .v (.ptr true [(iT 0), (osl eAtom true ([])), (osl eI true ([]))])), (5, .v (.ptr true [(iT y.2.2.2.1), (osl eAtom true y.2.2.2.2.1), (osl eI true y.2.2.2.2.2)]))])) := Lp.of (f := (fun
 | (c_21, c_22, c_23, q_24, q_25, q_26, v_27) =>
  if v_27 < q_24 then
  (f117 ({ b := c_21, i := c_22, h := c_23 } : L1Cur) 3).bind fun o29 =>
  (jn (QN (fun (y : (List Int)) => [(0, .v (.ptr true [(ssl eU o29.2.b), (iT o29.2.i), (iT o29.2.h)])), (4, .v (.ptr true [(iT 0), (osl eAtom true ([])), (osl eI true ([]))])), (5, .v (.ptr true [(iT q_24), (osl eAtom true q_25), (osl eI true y)])), (6, .v (iT v_27))])) ((if o29.1 = true then
  (app 8 q_26 ([v_27])).bind fun l_34 =>
  some l_34
  else
  some q_26) : Option (List Int))).bind fun q_36 =>
  some (.inl (o29.2.b, o29.2.i, o29.2.h, q_24, q_25, q_36, w64 (v_27 + 1)))
  else
  some (.inr (c_21, c_22, c_23, q_24, q_25, q_26)) : (List Int) × Int × Int × Int × (List Atom) × (List Int) × Int -> Option (((List Int) × Int × Int × Int × (List Atom) × (List Int) × Int) ⊕ ((List Int) × Int × Int × Int × (List Atom) × (List Int))))) (by exact go)
instance i97 : Rn cx (f97 c l) 97 [(.ptr true [(ssl eU c.b), (iT c.i), (iT c.h)]), (ssl eRelation l)] (fun (r : Query × L1Cur) => (.agg [(iT r.1.VariableCount), (osl eAtom true r.1.Atoms), (osl eI true r.1.Free)])) (fun r => [(.ptr true [(ssl eU r.2.b), (iT r.2.i), (iT r.2.h)])]) := Rn.o (e := (
  sn 1 4 (.ptr true [(iT 0), (osl eAtom true ([])), (osl eI true ([]))]) <| 
  (f116 c).bind fun o1 =>
  (f117 o1.2 3).bind fun o3 =>
  (jn (QN (fun (y : (List Int) × Int × Int × Int × (List Atom) × (List Int)) => [(0, .v (.ptr true [(ssl eU y.1), (iT y.2.1), (iT y.2.2.1)])), (4, .v (.ptr true [(iT 0), (osl eAtom true ([])), (osl eI true ([]))])), (5, .v (.ptr true [(iT y.2.2.2.1), (osl eAtom true y.2.2.2.2.1), (osl eI true y.2.2.2.2.2)]))])) ((if o3.1 = true then
  (f118 o3.2 l).bind fun o8 =>
  some (o8.2.b, o8.2.i, o8.2.h, o8.1.VariableCount, o8.1.Atoms, o8.1.Free)
  else
  some (o3.2.b, o3.2.i, o3.2.h, o1.1.VariableCount, o1.1.Atoms, o1.1.Free)) : Option ((List Int) × Int × Int × Int × (List Atom) × (List Int)))).bind fun (c_10, c_11, c_12, q_13, q_14, q_15) =>
  (f117 ({ b := c_10, i := c_11, h := c_12 } : L1Cur) 4).bind fun o16 =>
  (jn (QN (fun (y : (List Int) × Int × Int × Int × (List Atom) × (List Int)) => [(0, .v (.ptr true [(ssl eU y.1), (iT y.2.1), (iT y.2.2.1)])), (4, .v (.ptr true [(iT 0), (osl eAtom true ([])), (osl eI true ([]))])), (5, .v (.ptr true [(iT y.2.2.2.1), (osl eAtom true y.2.2.2.2.1), (osl eI true y.2.2.2.2.2)]))])) ((if o16.1 = true then
  (iter f97_0 (o16.2.b, o16.2.i, o16.2.h, q_13, q_14, q_15, 0)).bind fun (c_39, c_40, c_41, q_42, q_43, q_44) =>
  some (c_39, c_40, c_41, q_42, q_43, q_44)
  else
  some (o16.2.b, o16.2.i, o16.2.h, q_13, q_14, q_15)) : Option ((List Int) × Int × Int × Int × (List Atom) × (List Int)))).bind fun (c_45, c_46, c_47, q_48, q_49, q_50) =>
  some (({ VariableCount := q_48, Atoms := q_49, Free := q_50 } : Query), ({ b := c_45, i := c_46, h := c_47 } : L1Cur)) : Option (Query × L1Cur))) rfl (by exact go)
end
end Go.Proofs.YtjfeimhiiomgoaaGreatDoorH
