import Derived.Test.YtjfeimhiiomgoaaCx1
import Derived.Test.YtjfeimhiiomgoaaX3
import Derived.Test.YtjfeimhiiomgoaaTd1
set_option maxHeartbeats 2000000
set_option linter.unusedVariables false
set_option linter.unusedSimpArgs false
set_option linter.defProp false
set_option linter.unusedSectionVars false
set_option maxRecDepth 100000
namespace Go.Proofs.YtjfeimhiiomgoaaH
open Go
noncomputable section
variable {slices : (List (List (List Int)))} {clauses l : (List (List Int))} {a b c clause literals s0 set1 : (List Int)} {high k left low n0 v x : Int}
abbrev iT (n : Int) : T := .int .i64 n
instance : Cl cx := ⟨fun j h => vsound (fun _ _ _ _ h => h) h, fun f ts t outs h => .ext h⟩
@[simp high] theorem ioz {f : Nat} [h : Io0 cx f] : ioTab f = [] := h.io
@[simp] theorem ioz21 : ioTab 21 = [0] := rfl
@[simp] theorem ioz22 : ioTab 22 = [0] := rfl
@[simp] theorem ioz27 : ioTab 27 = [0] := rfl
@[simp] theorem ioz28 : ioTab 28 = [0] := rfl
@[simp] theorem ioz46 : ioTab 46 = [0] := rfl
@[simp] theorem ioz51 : ioTab 51 = [0] := rfl
@[simp] theorem ioz54 : ioTab 54 = [0] := rfl
instance i43 : Rn cx (f43 a left) 43 [(ssl eI a), (iT left)] (fun (r : Int) => (iT r)) (fun r => []) := Rn.o rfl (by unfold f43; exact go)
instance : Io0 cx 43 := ⟨rfl⟩
instance i17_0 {a : (List (List Int))} : Lp cx (f17_0 a) 27 L17_0 (fun (zs : Int × Int) => [(0, .v (ssl (eL eI) a)), (1, .v (iT zs.1)), (5, .v (iT zs.2))]) (QO (QX 0 (fun (y : Int) => [(1, .v (iT y))])) (QR (fun (y : Int) => [(4, .v (iT y))]))) := Lp.of (by unfold f17_0; exact go)
instance i17 {a : (List (List Int))} : Rn cx (f17 a left) 17 [(ssl (eL eI) a), (iT left)] (fun (r : Int) => (iT r)) (fun r => []) := Rn.o rfl (by unfold f17; exact go)
instance : Io0 cx 17 := ⟨rfl⟩
instance i44_0 : Lp cx (f44_0 a) 22 L44_0 (fun (zs : (List Int) × Int) => [(0, .v (ssl eI a)), (3, .v (osl eI true zs.1)), (4, .v (iT zs.2))]) (QX 0 (fun (y : (List Int)) => [(3, .v (osl eI true y))])) := Lp.of (by unfold f44_0; exact go)
instance i44 : Rn cx (f44 a) 44 [(ssl eI a)] (fun (r : (List Int)) => (osl eI true r)) (fun r => []) := Rn.o (e := (
  (mkl 8 (a.length : Int) 0).bind fun l_1 =>
  sn 5 3 (osl eI true l_1) <| 
  (iter (f44_0 a) (l_1, 0)).bind fun out_13 =>
  some out_13 : Option (List Int))) rfl (by exact go)
instance : Io0 cx 44 := ⟨rfl⟩
instance i18_0 {a : (List (List Int))} : Lp cx (f18_0 a) 23 L18_0 (fun (zs : (List (List Int)) × Int) => [(0, .v (ssl (eL eI) a)), (3, .v (osl (eL eI) true zs.1)), (4, .v (iT zs.2))]) (QX 0 (fun (y : (List (List Int))) => [(3, .v (osl (eL eI) true y))])) := Lp.of (by unfold f18_0; exact go)
instance i18 {a : (List (List Int))} : Rn cx (f18 a) 18 [(ssl (eL eI) a)] (fun (r : (List (List Int))) => (osl (eL eI) true r)) (fun r => []) := Rn.o (e := (
  (mkl 24 (a.length : Int) ([] : (List Int))).bind fun l_1 =>
  sn 5 3 (osl (eL eI) true l_1) <| 
  (iter (f18_0 a) (l_1, 0)).bind fun out_15 =>
  some out_15 : Option (List (List Int)))) rfl (by exact go)
instance : Io0 cx 18 := ⟨rfl⟩
instance i31 : Rn cx (f31 x low high) 31 [(iT x), (iT low), (iT high)] (fun (r : Bool) => (.bool r)) (fun r => []) := Rn.o (e := (
  (jn (QN (fun (y : Bool) => [(6, .v (.bool y))])) ((if x >= low then
  some (decide (x <= high))
  else
  some false) : Option (Bool))).bind fun x_1 =>
  some x_1 : Option Bool)) rfl (by exact go)
instance : Io0 cx 31 := ⟨rfl⟩
instance i30_1 {i_1 : Int} : Lp cx (lw n0 (f30_1 c i_1)) 68 L30_1 (fun (zs : Int) => [(0, .v (iT n0)), (1, .v (ssl eI c)), (5, .v (iT i_1)), (7, .v (iT zs))]) (QO (QX 2 (fun (y : Unit) => [(0, .v (iT n0)), (1, .v (ssl eI c)), (5, .v (iT i_1))])) (QR (fun (y : Bool) => [(4, .v (.bool y))]))) := Lp.of (f := (fun
 | k_15 =>
  if k_15 < i_1 then
  (ix c k_15).bind fun v_17 =>
  (ix c i_1).bind fun v_19 =>
  (jn (QN (fun (y : Bool) => [(0, .v (iT n0)), (1, .v (ssl eI c)), (5, .v (iT i_1)), (7, .v (iT k_15)), (67, .v (.bool y))])) ((if v_17 = v_19 then
  some true
  else
  some (decide (v_17 = (w64 (-v_19))))) : Option (Bool))).bind fun x_21 =>
  if x_21 = true then
  some (.inr (.inr false))
  else
  some (.inl (w64 (k_15 + 1)))
  else
  some (.inr (.inl ())) : Int -> Option (Int ⊕ (Unit ⊕ Bool)))) (by exact go)
instance i30_0 : Lp cx (f30_0 n0 c) 68 L30_0 (fun (zs : Int) => [(0, .v (iT n0)), (1, .v (ssl eI c)), (5, .v (iT zs))]) (QO (QX 0 (fun (y : Unit) => [])) (QR (fun (y : Bool) => [(4, .v (.bool y))]))) := Lp.of (f := (fun
 | i_1 =>
  if i_1 < (c.length : Int) then
  (ix c i_1).bind fun v_3 =>
  (jn (QN (fun (y : Bool) => [(0, .v (iT n0)), (1, .v (ssl eI c)), (5, .v (iT i_1)), (6, .v (iT (if 0 > v_3 then 0 else v_3))), (32, .v (.bool y))])) ((if v_3 < 0 then
  some (decide (v_3 >= (w64 (-n0))))
  else
  some false) : Option (Bool))).bind fun x_5 =>
  (jn (QN (fun (y : Int) => [(0, .v (iT n0)), (1, .v (ssl eI c)), (5, .v (iT i_1)), (6, .v (iT y))])) ((if x_5 = true then
  some (w64 (-v_3))
  else
  some (if 0 > v_3 then 0 else v_3)) : Option Int)).bind fun v_11 =>
  (f31 v_11 1 n0).bind fun o12 =>
  if ¬ (o12 = true) then
  some (.inr (.inr false))
  else
  (iter (lw n0  (f30_1 c i_1)) 0).bind fun o => match o with
  | .inl _ =>
  some (.inl (w64 (i_1 + 1)))
  | .inr x_27 =>
  some (.inr (.inr x_27))
  else
  some (.inr (.inl ())) : Int -> Option (Int ⊕ (Unit ⊕ Bool)))) (by exact go)
instance i30 : Rn cx (f30 n0 c) 30 [(iT n0), (ssl eI c)] (fun (r : Bool) => (.bool r)) (fun r => []) := Rn.o rfl (by unfold f30; exact go)
instance : Io0 cx 30 := ⟨rfl⟩
instance i12_0 : Lp cx (f12_0 n0 l) 26 L12_0 (fun (zs : Int) => [(0, .v (iT n0)), (1, .v (ssl (eL eI) l)), (5, .v (iT zs))]) (QO (QX 0 (fun (y : Unit) => [(0, .v (iT n0)), (1, .v (ssl (eL eI) l))])) (QR (fun (y : Bool) => [(4, .v (.bool y))]))) := Lp.of (by unfold f12_0; exact go)
instance i12 : Rn cx (f12 n0 l) 12 [(iT n0), (ssl (eL eI) l)] (fun (r : Bool) => (.bool r)) (fun r => []) := Rn.o (e := (
  (iter (f12_0 n0 l) 0).bind fun o => match o with
  | .inl _ =>
  (f31 n0 0 14).bind fun o11 =>
  (jn (QN (fun (y : Bool) => [(4, .v (.bool y))])) ((if o11 = true then
  some (decide ((l.length : Int) <= 400))
  else
  some false) : Option (Bool))).bind fun x_13 =>
  some x_13
  | .inr x_10 =>
  some x_10 : Option Bool)) rfl (by exact go)
instance : Io0 cx 12 := ⟨rfl⟩
instance i55_0 {l : (List Int)} : Lp cx (f55_0 l x) 18 L55_0 (fun (zs : Int) => [(0, .v (ssl eI l)), (1, .v (iT x)), (5, .v (iT zs))]) (QO (QX 0 (fun (y : Unit) => [])) (QR (fun (y : Bool) => [(4, .v (.bool y))]))) := Lp.of (by unfold f55_0; exact go)
instance i55 {l : (List Int)} : Rn cx (f55 l x) 55 [(ssl eI l), (iT x)] (fun (r : Bool) => (.bool r)) (fun r => []) := Rn.o rfl (by unfold f55; exact go)
instance : Io0 cx 55 := ⟨rfl⟩
instance i63_0 : Lp cx (f63_0 c set1) 38 L63_0 (fun (zs : (List Int) × Int) => [(0, .v (ssl eI c)), (1, .v (ssl eI set1)), (6, .v (osl eI true zs.1)), (7, .v (iT zs.2))]) (QO (QX 0 (fun (y : (List Int)) => [(6, .v (osl eI true y))])) (QR (fun (y : (List Int) × Bool) => [(4, .v (osl eI true y.1)), (5, .v (.bool y.2))]))) := Lp.of (f := (fun
 | (out_1, i_2) =>
  if i_2 < (c.length : Int) then
  (ix c i_2).bind fun v_4 =>
  (f55 set1 v_4).bind fun o6 =>
  if o6 = true then
  some (.inr (.inr (out_1, true)))
  else
  (f55 set1 (w64 (-v_4))).bind fun o9 =>
  (jn (QN (fun (y : (List Int)) => [(0, .v (ssl eI c)), (1, .v (ssl eI set1)), (6, .v (osl eI true y)), (7, .v (iT i_2))])) ((if ¬ (o9 = true) then
  (app 8 out_1 ([v_4])).bind fun l_14 =>
  some l_14
  else
  some out_1) : Option (List Int))).bind fun out_16 =>
  some (.inl (out_16, w64 (i_2 + 1)))
  else
  some (.inr (.inl out_1)) : (List Int) × Int -> Option (((List Int) × Int) ⊕ ((List Int) ⊕ ((List Int) × Bool))))) (by exact go)
instance i63 : Rn cx (f63 c set1) 63 [(ssl eI c), (ssl eI set1)] (fun (r : (List Int) × Bool) => (.tup [(osl eI true r.1), (.bool r.2)])) (fun r => []) := Rn.o (e := (
  sn 4 6 (osl eI true ([])) <| 
  (iter (f63_0 c set1) ([], 0)).bind fun o => match o with
  | .inl out_19 =>
  some (out_19, false)
  | .inr (x_20, x_21) =>
  some (x_20, x_21) : Option ((List Int) × Bool))) rfl (by exact go)
instance : Io0 cx 63 := ⟨rfl⟩
instance i41_1 : Lp cx (f41_1 l) 49 L41_1 (fun (zs : (List Int) × Bool × Int) => [(0, .v (ssl (eL eI) l)), (6, .v (osl eI true zs.1)), (7, .v (.bool zs.2.1)), (8, .v (iT zs.2.2))]) (QO (QX 2 (fun (y : (List Int) × Bool) => [(0, .v (ssl (eL eI) l)), (6, .v (osl eI true y.1)), (7, .v (.bool y.2))])) (QR (fun (y : (List Int) × Bool) => [(4, .v (osl eI true y.1)), (5, .v (.bool y.2))]))) := Lp.of (f := (fun
 | (out_6, more_7, i_8) =>
  (jn (QN (fun (y : Bool) => [(0, .v (ssl (eL eI) l)), (6, .v (osl eI true out_6)), (7, .v (.bool more_7)), (8, .v (iT i_8)), (22, .v (.bool y))])) ((if i_8 < (l.length : Int) then
  some (decide (¬ (more_7 = true)))
  else
  some false) : Option (Bool))).bind fun x_9 =>
  if x_9 = true then
  (jb 3 (QO (QN (fun (y : (List Int) × Bool) => [(0, .v (ssl (eL eI) l)), (6, .v (osl eI true y.1)), (7, .v (.bool y.2)), (8, .v (iT i_8))])) (QR (fun (y : (List Int) × Bool) => [(4, .v (osl eI true y.1)), (5, .v (.bool y.2))]))) (((ix l i_8).bind fun v_15 =>
  (f63 v_15 out_6).bind fun o17 =>
  if o17.2 = true then
  some (.inl (out_6, more_7))
  else
  if (o17.1.length : Int) = 0 then
  some (.inr (out_6, true))
  else
  (jn (QN (fun (y : (List Int) × Bool) => [(0, .v (ssl (eL eI) l)), (6, .v (osl eI true y.1)), (7, .v (.bool y.2)), (8, .v (iT i_8))])) ((if (o17.1.length : Int) = 1 then
  (ix o17.1 0).bind fun v_24 =>
  (app 8 out_6 ([v_24])).bind fun l_26 =>
  some (l_26, true)
  else
  some (out_6, more_7)) : Option ((List Int) × Bool))).bind fun (out_28, more_29) =>
  some (.inl (out_28, more_29))) : Option (((List Int) × Bool) ⊕ ((List Int) × Bool)))).bind fun o => match o with
  | .inl (out_30, more_31) =>
  some (.inl (out_30, more_31, w64 (i_8 + 1)))
  | .inr (x_32, x_33) =>
  some (.inr (.inr (x_32, x_33)))
  else
  some (.inr (.inl (out_6, more_7))) : (List Int) × Bool × Int -> Option (((List Int) × Bool × Int) ⊕ (((List Int) × Bool) ⊕ ((List Int) × Bool))))) (by exact go)
instance i41_0 : Lp cx (f41_0 l) 49 L41_0 (fun (zs : (List Int) × Bool) => [(0, .v (ssl (eL eI) l)), (6, .v (osl eI true zs.1)), (7, .v (.bool zs.2))]) (QO (QX 0 (fun (y : (List Int)) => [(6, .v (osl eI true y))])) (QR (fun (y : (List Int) × Bool) => [(4, .v (osl eI true y.1)), (5, .v (.bool y.2))]))) := Lp.of (by unfold f41_0; exact go)
instance i41 : Rn cx (f41 l set1) 41 [(ssl (eL eI) l), (ssl eI set1)] (fun (r : (List Int) × Bool) => (.tup [(osl eI true r.1), (.bool r.2)])) (fun r => []) := Rn.o (e := (
  (app 8 ([]) set1).bind fun l_1 =>
  sn 6 6 (osl eI true l_1) <| 
  (iter (f41_0 l) (l_1, true)).bind fun o => match o with
  | .inl out_42 =>
  some (out_42, false)
  | .inr (x_43, x_44) =>
  some (x_43, x_44) : Option ((List Int) × Bool))) rfl (by exact go)
instance : Io0 cx 41 := ⟨rfl⟩
instance i42_0 {l : (List Int)} : Lp cx (f42_0 l) 21 L42_0 (fun (zs : (List Int) × Int) => [(0, .v (ssl eI l)), (3, .v (osl eI true zs.1)), (4, .v (iT zs.2))]) (QX 0 (fun (y : (List Int)) => [(3, .v (osl eI true y))])) := Lp.of (by unfold f42_0; exact go)
instance i42 {l : (List Int)} : Rn cx (f42 l) 42 [(ssl eI l)] (fun (r : (List Int)) => (osl eI true r)) (fun r => []) := Rn.o (e := (
  sn 3 3 (osl eI true ([])) <| 
  (iter (f42_0 l) ([], 0)).bind fun out_10 =>
  some out_10 : Option (List Int))) rfl (by exact go)
instance : Io0 cx 42 := ⟨rfl⟩
instance i54 {t : L22State} {signs : (List Int)} : Rn cx (f54 t signs) 54 [(.ptr true [(iT t.n), (osl (eL eI) false t.l), (osl (eL eI) false t.proof), (osl eB true t.model)]), (ssl eI signs)] (fun (r : L22State) => (.tup [])) (fun r => [(.ptr true [(iT r.n), (osl (eL eI) false r.l), (osl (eL eI) false r.proof), (osl eB true r.model)])]) := Rn.o (e := (
  (f42 signs).bind fun o1 =>
  sn 1 4 (ssl eI o1) <| 
  sn 7 13 (osl (eL eI) false ([o1])) <| 
  sn 0 13 (ssl (eL eI) ([o1])) <| 
  (app 24 t.l ([o1])).bind fun l_3 =>
  (app 24 t.proof ([o1])).bind fun l_5 =>
  some ({ n := t.n, l := l_3, proof := l_5, model := t.model } : L22State) : Option L22State)) rfl (by exact go)
instance i28_0 {t : L22State} {signs : (List Int)} {o1 : ((List Int) × Bool)} {rec : L22State -> (List Int) -> Option (Bool × L22State)} [hrec : ∀ t signs, Rn cx (rec t signs) 28 [(.ptr true [(iT t.n), (osl (eL eI) false t.l), (osl (eL eI) false t.proof), (osl eB true t.model)]), (ssl eI signs)] (fun o => (.bool o.1)) (fun o => [(.ptr true [(iT o.2.n), (osl (eL eI) false o.2.l), (osl (eL eI) false o.2.proof), (osl eB true o.2.model)])])] : Lp cx (f28_0 t signs rec o1) 81 L28_0 (fun (zs : Int) => [(0, .v (.ptr true [(iT t.n), (osl (eL eI) false t.l), (osl (eL eI) false t.proof), (osl eB true t.model)])), (1, .v (ssl eI signs)), (5, .v (osl eI true o1.1)), (7, .v (iT zs))]) (QO (QX 0 (fun (y : Unit) => [(0, .v (.ptr true [(iT t.n), (osl (eL eI) false t.l), (osl (eL eI) false t.proof), (osl eB true t.model)])), (5, .v (osl eI true o1.1))])) (QR (fun (y : Int × (List (List Int)) × (List (List Int)) × (List Bool) × Bool) => [(0, .v (.ptr true [(iT y.1), (osl (eL eI) false y.2.1), (osl (eL eI) false y.2.2.1), (osl eB true y.2.2.2.1)])), (4, .v (.bool y.2.2.2.2))]))) := Lp.of (f := (fun
 | v_6 =>
  if v_6 <= t.n then
  (f55 o1.1 v_6).bind fun o8 =>
  (jn (QN (fun (y : Bool) => [(0, .v (.ptr true [(iT t.n), (osl (eL eI) false t.l), (osl (eL eI) false t.proof), (osl eB true t.model)])), (1, .v (ssl eI signs)), (5, .v (osl eI true o1.1)), (7, .v (iT v_6)), (38, .v (.bool y))])) ((if o8 = true then
  some true
  else
  (f55 o1.1 (w64 (-v_6))).bind fun o13 =>
  some o13) : Option (Bool))).bind fun x_10 =>
  if x_10 = true then
  some (.inl (w64 (v_6 + 1)))
  else
  (app 8 ([]) signs).bind fun l_16 =>
  (app 8 l_16 ([v_6])).bind fun l_18 =>
  sn 7 45 (osl eI true l_18) <| 
  sn 0 45 (ssl eI l_18) <| 
  (rec t l_18).bind fun o20 =>
  (jn (QN (fun (y : Int × (List (List Int)) × (List (List Int)) × (List Bool) × Bool) => [(0, .v (.ptr true [(iT y.1), (osl (eL eI) false y.2.1), (osl (eL eI) false y.2.2.1), (osl eB true y.2.2.2.1)])), (1, .v (ssl eI signs)), (57, .v (.bool y.2.2.2.2))])) ((if o20.1 = true then
  some (o20.2.n, o20.2.l, o20.2.proof, o20.2.model, true)
  else
  (app 8 l_16 ([w64 (-v_6)])).bind fun l_29 =>
  sn 0 55 (osl eI true l_29) <| 
  sn 0 55 (ssl eI l_29) <| 
  (rec o20.2 l_29).bind fun o31 =>
  some (o31.2.n, o31.2.l, o31.2.proof, o31.2.model, o31.1)) : Option (Int × (List (List Int)) × (List (List Int)) × (List Bool) × Bool))).bind fun (t_22, t_23, t_24, t_25, x_26) =>
  if x_26 = true then
  some (.inr (.inr (t_22, t_23, t_24, t_25, true)))
  else
  (f54 ({ n := t_22, l := t_23, proof := t_24, model := t_25 } : L22State) signs).bind fun o34 =>
  some (.inr (.inr (o34.n, o34.l, o34.proof, o34.model, false)))
  else
  some (.inr (.inl ())) : Int -> Option (Int ⊕ (Unit ⊕ (Int × (List (List Int)) × (List (List Int)) × (List Bool) × Bool))))) (by exact go)
instance i28_1 {o1 : ((List Int) × Bool)} : Lp cx (f28_1 o1) 81 L28_1 (fun (zs : Int × (List (List Int)) × (List (List Int)) × (List Bool) × Int) => [(0, .v (.ptr true [(iT zs.1), (osl (eL eI) false zs.2.1), (osl (eL eI) false zs.2.2.1), (osl eB true zs.2.2.2.1)])), (5, .v (osl eI true o1.1)), (8, .v (iT zs.2.2.2.2))]) (QX 2 (fun (y : Int × (List (List Int)) × (List (List Int)) × (List Bool)) => [(0, .v (.ptr true [(iT y.1), (osl (eL eI) false y.2.1), (osl (eL eI) false y.2.2.1), (osl eB true y.2.2.2)]))])) := Lp.of (by unfold f28_1; exact go)
instance i28 : ∀ (n : Nat) t signs, Rn cx (f28 n t signs) 28 [(.ptr true [(iT t.n), (osl (eL eI) false t.l), (osl (eL eI) false t.proof), (osl eB true t.model)]), (ssl eI signs)] (fun (r : Bool × L22State) => (.bool r.1)) (fun r => [(.ptr true [(iT r.2.n), (osl (eL eI) false r.2.l), (osl (eL eI) false r.2.proof), (osl eB true r.2.model)])]) := by
 intro n
 induction n with
 | zero => intro t signs; exact ⟨fun r h => by simp [f28] at h⟩
 | succ n ih =>
  intro t signs
  refine Rn.of rfl rfl (by decide) rfl ?_
  simp only [f28]
  exact go
instance i8 : Rn cx (f8 n0 l) 8 [(iT n0), (ssl (eL eI) l)] (fun (r : (List Bool) × (List (List Int)) × Bool) => (.tup [(osl eB true r.1), (osl (eL eI) false r.2.1), (.bool r.2.2)])) (fun r => []) := Rn.o (e := (
  (f12 n0 l).bind fun o1 =>
  if ¬ (o1 = true) then
  sn 5 4 (osl eB true ([])) <| 
  sn 0 5 (osl (eL eI) true ([])) <| 
  some ([], [], false)
  else
  (app 24 ([]) l).bind fun l_4 =>
  sn 4 17 (osl (eL eI) false l_4) <| 
  sn 1 18 (.agg [(iT n0), (osl (eL eI) false l_4), (osl (eL eI) true ([])), (osl eB true ([]))]) <| 
  sn 2 7 (.ptr true [(iT n0), (osl (eL eI) false l_4), (osl (eL eI) false ([])), (osl eB true ([]))]) <| 
  sn 2 21 (osl eI true ([])) <| 
  sn 0 21 (ssl eI ([])) <| 
  (f28 64 ({ n := n0, l := l_4, proof := [], model := [] } : L22State) ([])).bind fun o6 =>
  if o6.1 = true then
  sn 8 5 (osl (eL eI) true ([])) <| 
  some (o6.2.model, [], true)
  else
  sn 8 4 (osl eB true ([])) <| 
  some ([], o6.2.proof, false) : Option ((List Bool) × (List (List Int)) × Bool))) rfl (by exact go)
instance : Io0 cx 8 := ⟨rfl⟩
instance i58 : Rn cx (f58 n0 low high) 58 [(iT n0), (iT low), (iT high)] (fun (r : Bool) => (.bool r)) (fun r => []) := Rn.o (e := (
  (jn (QN (fun (y : Bool) => [(6, .v (.bool y))])) ((if low <= n0 then
  some (decide (n0 <= high))
  else
  some false) : Option (Bool))).bind fun x_1 =>
  some x_1 : Option Bool)) rfl (by exact go)
instance : Io0 cx 58 := ⟨rfl⟩
instance i56_0 {s0 : (List (List Int))} {g_f : Nat} {cp_f : List T} {f : (List Int) -> Option Bool} [hp_f : ∀ x0, Rn cx (f x0) g_f ((ssl eI x0) :: cp_f) (fun o => (.bool o)) (fun _ => [])] [Io0 cx g_f] : Lp cx (f56_0 s0 f) 19 L56_0 (fun (zs : Int) => [(0, .v (ssl (eL eI) s0)), (1, .v (.fn g_f cp_f)), (7, .v (iT (s0.length : Int))), (8, .v (iT zs))]) (QO (QX 0 (fun (y : Unit) => [])) (QR (fun (y : Int) => [(4, .v (iT y))]))) := Lp.of (by unfold f56_0; exact go)
instance i56 {s0 : (List (List Int))} {g_f : Nat} {cp_f : List T} {f : (List Int) -> Option Bool} [hp_f : ∀ x0, Rn cx (f x0) g_f ((ssl eI x0) :: cp_f) (fun o => (.bool o)) (fun _ => [])] [Io0 cx g_f] : Rn cx (f56 s0 f) 56 [(ssl (eL eI) s0), (.fn g_f cp_f)] (fun (r : Int) => (iT r)) (fun r => []) := Rn.o rfl (by unfold f56; exact go)
instance : Io0 cx 56 := ⟨rfl⟩
instance i32 {s0 : (List (List Int))} {g_f : Nat} {cp_f : List T} {f : (List Int) -> Option Bool} [hp_f : ∀ x0, Rn cx (f x0) g_f ((ssl eI x0) :: cp_f) (fun o => (.bool o)) (fun _ => [])] [Io0 cx g_f] : Rn cx (f32 s0 f) 32 [(ssl (eL eI) s0), (.fn g_f cp_f)] (fun (r : Bool) => (.bool r)) (fun r => []) := Rn.o rfl (by unfold f32; exact go)
instance : Io0 cx 32 := ⟨rfl⟩
instance i68_0 : Lp cx (f68_0 s0 v) 19 L68_0 (fun (zs : Int) => [(0, .v (ssl eI s0)), (1, .v (iT v)), (7, .v (iT (s0.length : Int))), (8, .v (iT zs))]) (QO (QX 0 (fun (y : Unit) => [])) (QR (fun (y : Int) => [(4, .v (iT y))]))) := Lp.of (by unfold f68_0; exact go)
instance i68 : Rn cx (f68 s0 v) 68 [(ssl eI s0), (iT v)] (fun (r : Int) => (iT r)) (fun r => []) := Rn.o rfl (by unfold f68; exact go)
instance : Io0 cx 68 := ⟨rfl⟩
instance i52 : Rn cx (f52 s0 v) 52 [(ssl eI s0), (iT v)] (fun (r : Bool) => (.bool r)) (fun r => []) := Rn.o rfl (by unfold f52; exact go)
instance : Io0 cx 52 := ⟨rfl⟩
instance i60_0 : Lp cx (f60_0 n0 clause) 40 L60_0 (fun (zs : Int) => [(0, .v (iT n0)), (1, .v (ssl eI clause)), (7, .v (ssl eI clause)), (8, .v (iT (clause.length : Int))), (9, .v (iT zs))]) (QO (QX 0 (fun (y : Unit) => [])) (QR (fun (y : Bool) => [(4, .v (.bool y))]))) := Lp.of (f := (fun
 | x_1 =>
  if x_1 < (clause.length : Int) then
  (ix clause x_1).bind fun v_3 =>
  (jn (QN (fun (y : Bool) => [(0, .v (iT n0)), (1, .v (ssl eI clause)), (7, .v (ssl eI clause)), (8, .v (iT (clause.length : Int))), (9, .v (iT x_1)), (38, .v (.bool y))])) ((if v_3 = 0 then
  some true
  else
  (f58 v_3 (w64 (-n0)) n0).bind fun o8 =>
  (jn (QN (fun (y : Bool) => [(0, .v (iT n0)), (1, .v (ssl eI clause)), (7, .v (ssl eI clause)), (8, .v (iT (clause.length : Int))), (9, .v (iT x_1)), (38, .v (.bool y))])) ((if ¬ (o8 = true) then
  some true
  else
  (cutL clause 0 x_1).bind fun l_13 =>
  (f52 l_13 v_3).bind fun o15 =>
  (jn (QN (fun (y : Bool) => [(0, .v (iT n0)), (1, .v (ssl eI clause)), (7, .v (ssl eI clause)), (8, .v (iT (clause.length : Int))), (9, .v (iT x_1)), (38, .v (.bool y))])) ((if o15 = true then
  some true
  else
  (f52 l_13 (w64 (-v_3))).bind fun o20 =>
  some o20) : Option (Bool))).bind fun x_17 =>
  some x_17) : Option (Bool))).bind fun x_10 =>
  some x_10) : Option (Bool))).bind fun x_5 =>
  if x_5 = true then
  some (.inr (.inr false))
  else
  some (.inl (w64 (x_1 + 1)))
  else
  some (.inr (.inl ())) : Int -> Option (Int ⊕ (Unit ⊕ Bool)))) (by exact go)
instance i60 : Rn cx (f60 n0 clause) 60 [(iT n0), (ssl eI clause)] (fun (r : Bool) => (.bool r)) (fun r => []) := Rn.o rfl (by unfold f60; exact go)
instance : Io0 cx 60 := ⟨rfl⟩
instance i59 {c : Int} : Rn cx (f59 clause c) 59 [(ssl eI clause), (.ptr false [(iT c)])] (fun (r : Bool) => (.bool r)) (fun r => []) := Rn.o rfl (by unfold f59; exact go)
instance : Io0 cx 59 := ⟨rfl⟩
instance i37 : Rn cx (f37 n0 clauses) 37 [(iT n0), (ssl (eL eI) clauses)] (fun (r : Bool) => (.bool r)) (fun r => []) := Rn.o (e := (
  (f58 n0 0 14).bind fun o1 =>
  (jn (QN (fun (y : Bool) => [(4, .v (.bool y))])) ((if o1 = true then
  (f32 clauses (fun x0 => f59 x0 n0)).bind fun o6 =>
  some (decide (¬ (o6 = true)))
  else
  some false) : Option (Bool))).bind fun x_3 =>
  some x_3 : Option Bool)) rfl (by exact go)
instance : Io0 cx 37 := ⟨rfl⟩
instance i26 : Rn cx (f26 n0 clauses) 26 [(iT n0), (ssl (eL eI) clauses)] (fun (r : Bool) => (.bool r)) (fun r => []) := Rn.o (e := (
  (jn (QN (fun (y : Bool) => [(4, .v (.bool y))])) ((if (clauses.length : Int) <= 400 then
  (f37 n0 clauses).bind fun o4 =>
  some o4
  else
  some false) : Option (Bool))).bind fun x_1 =>
  some x_1 : Option Bool)) rfl (by exact go)
instance : Io0 cx 26 := ⟨rfl⟩
theorem r67 {n : Int} {r : Nat} (h : f67 n = some r) : VJx cx (.ca 67 [.nils, .int .i64 n] (.sl true true 1 r []) []) := by
 exact ca_grow (zs := [.nils]) (zt := [.nils]) rfl rfl rfl rfl (by decide) (by decide) h
instance i67 {n : Int} : Rn cx (f67 n) 67 [.nils, .int .i64 n] (fun r => .sl true true 1 r []) (fun _ => []) := ⟨fun _ h => r67 h⟩
instance i50_0 : Lp cx (f50_0 slices) 36 L50_0 (fun (zs : Int × Int) => [(0, .v (ssl (eL (eL eI)) slices)), (3, .v (iT zs.1)), (9, .v (ssl (eL (eL eI)) slices)), (10, .v (iT (slices.length : Int))), (11, .v (iT zs.2))]) (QX 0 (fun (y : Int) => [(0, .v (ssl (eL (eL eI)) slices)), (3, .v (iT y))])) := Lp.of (f := (fun
 | (size_1, x_2) =>
  if x_2 < (slices.length : Int) then
  (ix slices x_2).bind fun v_4 =>
  (jn (QN (fun (y : Unit) => [(0, .v (ssl (eL (eL eI)) slices)), (3, .v (iT (w64 (size_1 + (v_4.length : Int))))), (9, .v (ssl (eL (eL eI)) slices)), (10, .v (iT (slices.length : Int))), (11, .v (iT x_2))])) ((if (w64 (size_1 + (v_4.length : Int))) < 0 then
  none
  else
  some ()) : Option Unit)).bind fun _ =>
  some (.inl (w64 (size_1 + (v_4.length : Int)), w64 (x_2 + 1)))
  else
  some (.inr size_1) : Int × Int -> Option ((Int × Int) ⊕ Int))) (by exact go)
instance i50_1 : Lp cx (f50_1 slices) 36 L50_1 (fun (zs : Nat × (List (List Int)) × Int) => [(6, .v (.sl true true 1 zs.1 (arr (eL eI) false zs.2.1))), (25, .v (ssl (eL (eL eI)) slices)), (26, .v (iT (slices.length : Int))), (27, .v (iT zs.2.2))]) (QX 2 (fun (y : Nat × (List (List Int))) => [(6, .v (.sl true true 1 y.1 (arr (eL eI) false y.2)))])) := Lp.of (by unfold f50_1; exact go)
instance i50 : Rn cx (f50 slices) 50 [(ssl (eL (eL eI)) slices)] (fun (r : (List (List Int))) => (osl (eL eI) false r)) (fun r => []) := Rn.o rfl (by unfold f50; exact go)
instance : Io0 cx 50 := ⟨rfl⟩
instance i57_0 {s0 : (List Int)} {g_f : Nat} {cp_f : List T} {f : Int -> Option Bool} [hp_f : ∀ x0, Rn cx (f x0) g_f ((iT x0) :: cp_f) (fun o => (.bool o)) (fun _ => [])] [Io0 cx g_f] : Lp cx (f57_0 s0 f) 19 L57_0 (fun (zs : Int) => [(0, .v (ssl eI s0)), (1, .v (.fn g_f cp_f)), (7, .v (iT (s0.length : Int))), (8, .v (iT zs))]) (QO (QX 0 (fun (y : Unit) => [])) (QR (fun (y : Int) => [(4, .v (iT y))]))) := Lp.of (by unfold f57_0; exact go)
instance i57 {s0 : (List Int)} {g_f : Nat} {cp_f : List T} {f : Int -> Option Bool} [hp_f : ∀ x0, Rn cx (f x0) g_f ((iT x0) :: cp_f) (fun o => (.bool o)) (fun _ => [])] [Io0 cx g_f] : Rn cx (f57 s0 f) 57 [(ssl eI s0), (.fn g_f cp_f)] (fun (r : Int) => (iT r)) (fun r => []) := Rn.o rfl (by unfold f57; exact go)
instance : Io0 cx 57 := ⟨rfl⟩
instance i34 {s0 : (List Int)} {g_f : Nat} {cp_f : List T} {f : Int -> Option Bool} [hp_f : ∀ x0, Rn cx (f x0) g_f ((iT x0) :: cp_f) (fun o => (.bool o)) (fun _ => [])] [Io0 cx g_f] : Rn cx (f34 s0 f) 34 [(ssl eI s0), (.fn g_f cp_f)] (fun (r : Bool) => (.bool r)) (fun r => []) := Rn.o rfl (by unfold f34; exact go)
instance : Io0 cx 34 := ⟨rfl⟩
instance i61 : Rn cx (f61 x c) 61 [(iT x), (.ptr false [(.sl false false 1 0 (arr eI false c))])] (fun (r : Bool) => (.bool r)) (fun r => []) := Rn.o (e := (
  sn 3 4 (ssl eI c) <| 
  (f52 c x).bind fun o1 =>
  some o1 : Option Bool)) rfl (by exact go)
instance : Io0 cx 61 := ⟨rfl⟩
instance i40_0 : Lp cx (f40_0 literals) 20 L40_0 (fun (zs : (List Int) × Int) => [(3, .v (osl eI true zs.1)), (7, .v (ssl eI literals)), (8, .v (iT (literals.length : Int))), (9, .v (iT zs.2))]) (QX 0 (fun (y : (List Int)) => [(3, .v (osl eI true y))])) := Lp.of (by unfold f40_0; exact go)
instance i40 : Rn cx (f40 literals) 40 [(ssl eI literals)] (fun (r : (List Int)) => (osl eI true r)) (fun r => []) := Rn.o (e := (
  sn 3 3 (osl eI true ([])) <| 
  (iter (f40_0 literals) ([], 0)).bind fun out_10 =>
  some out_10 : Option (List Int))) rfl (by exact go)
instance : Io0 cx 40 := ⟨rfl⟩
instance i62_0 : Lp cx (f62_0 a b) 25 L62_0 (fun (zs : (List Int) × Int) => [(1, .v (ssl eI b)), (5, .v (osl eI true zs.1)), (9, .v (ssl eI a)), (10, .v (iT (a.length : Int))), (11, .v (iT zs.2))]) (QX 0 (fun (y : (List Int)) => [(5, .v (osl eI true y))])) := Lp.of (f := (fun
 | (out_1, x_2) =>
  if x_2 < (a.length : Int) then
  (ix a x_2).bind fun v_4 =>
  (f52 b v_4).bind fun o6 =>
  (jn (QN (fun (y : (List Int)) => [(1, .v (ssl eI b)), (5, .v (osl eI true y)), (9, .v (ssl eI a)), (10, .v (iT (a.length : Int))), (11, .v (iT x_2))])) ((if ¬ (o6 = true) then
  (app 8 out_1 ([v_4])).bind fun l_11 =>
  some l_11
  else
  some out_1) : Option (List Int))).bind fun out_13 =>
  some (.inl (out_13, w64 (x_2 + 1)))
  else
  some (.inr out_1) : (List Int) × Int -> Option (((List Int) × Int) ⊕ (List Int)))) (by exact go)
instance i62 : Rn cx (f62 a b) 62 [(ssl eI a), (ssl eI b)] (fun (r : (List Int)) => (osl eI true r)) (fun r => []) := Rn.o (e := (
  sn 3 5 (osl eI true ([])) <| 
  (iter (f62_0 a b) ([], 0)).bind fun out_16 =>
  some out_16 : Option (List Int))) rfl (by exact go)
instance : Io0 cx 62 := ⟨rfl⟩
theorem r39_1 {out_3 : (List Int)} : ∀ zs zo, iter (f39_1 clauses out_3) zs = some zo -> Wc cx 44 (.loop L39_1) [(0, .v (ssl (eL eI) clauses)), (6, .v (.ptr true [(.sl true false 1 0 (arr eI true out_3))])), (7, .v (.bool false)), (14, .v (ssl (eL eI) clauses)), (15, .v (iT (clauses.length : Int))), (16, .v (iT zs))] ((QO (QX 2 (fun (y : (List Int) × Bool) => [(0, .v (ssl (eL eI) clauses)), (6, .v (.ptr true [(.sl true false 1 0 (arr eI true y.1))])), (7, .v (.bool y.2))])) (QR (fun (y : (List Int) × Bool) => [(4, .v (.sl true false 1 0 (arr eI true y.1))), (5, .v (.bool y.2)), (6, .v (.ptr true [.und]))]))) zo) := by
 intro zs0 zo0 zh0
 refine iter_run (f := (f39_1 clauses out_3)) (P := fun zs zo => Wc cx 44 (.loop L39_1) [(0, .v (ssl (eL eI) clauses)), (6, .v (.ptr true [(.sl true false 1 0 (arr eI true out_3))])), (7, .v (.bool false)), (14, .v (ssl (eL eI) clauses)), (15, .v (iT (clauses.length : Int))), (16, .v (iT zs))] ((QO (QX 2 (fun (y : (List Int) × Bool) => [(0, .v (ssl (eL eI) clauses)), (6, .v (.ptr true [(.sl true false 1 0 (arr eI true y.1))])), (7, .v (.bool y.2))])) (QR (fun (y : (List Int) × Bool) => [(4, .v (.sl true false 1 0 (arr eI true y.1))), (5, .v (.bool y.2)), (6, .v (.ptr true [.und]))]))) zo)) ?_ zh0
 rintro x_4 zo zr h hk hx
 try dsimp only at hk ⊢
 rw [f39_1] at h
 refine Wc.loop ?_
 refine Wc.seq ?_
 refine Wc.evs (by conv => lhs; simp [-aI_app1, -aI_app0, -aB_app0, -aS_app0, -aL_app0, -aI_app10, -aB_app10, -aS_app10, -aLt_app10I, -aLf_app10I, -aLt_app1I, -aLf_app1I]) ?_
 refine Wo.nil ?_
 refine Wc.seq ?_
 by_cases kc5 : x_4 < (clauses.length : Int)
 ·rw [if_pos kc5] at h
  refine Wc.condT' (t := _) (by conv => lhs; simp) (by simpa using kc5) ?_
  refine Wc.seq ?_
  refine Wc.kil (by conv => lhs; simp) ?_
  refine Wc.skip ?_
  refine Wc.seq ?_
  obtain ⟨w6, h7, h⟩ := bind_some h
  refine Wc.mono (Q := (QO (QN (fun (y : Unit) => [(0, .v (ssl (eL eI) clauses)), (6, .v (.ptr true [(.sl true false 1 0 (arr eI true out_3))])), (7, .v (.bool false)), (14, .v (ssl (eL eI) clauses)), (15, .v (iT (clauses.length : Int))), (16, .v (iT x_4))])) (QO (QX 2 (fun (y : (List Int) × Bool) => [(0, .v (ssl (eL eI) clauses)), (6, .v (.ptr true [(.sl true false 1 0 (arr eI true y.1))])), (7, .v (.bool y.2))])) (QR (fun (y : (List Int) × Bool) => [(4, .v (.sl true false 1 0 (arr eI true y.1))), (5, .v (.bool y.2)), (6, .v (.ptr true [.und]))])))) w6) ?_ ?_
  ·skip
   refine Wc.block ?_
   refine Wc.seq ?_
   obtain ⟨v_8, h9, h7⟩ := bind_some h7
   obtain ⟨ga9, gb9, gc9⟩ := ix_some h9
   have gn9 := ix_ne h9
   have gd9 := arr_at (E := (eL eI)) (b := false) gc9
   simp at gd9
   refine Wc.evs (by conv => lhs; simp [-aI_app1, -aI_app0, -aB_app0, -aS_app0, -aL_app0, -aI_app10, -aB_app10, -aS_app10, -aLt_app10I, -aLf_app10I, -aLt_app1I, -aLf_app1I, ga9, gb9, gn9, gd9]) ?_
   refine Wo.nil ?_
   refine Wc.seq ?_
   refine Wc.seq ?_
   refine Wc.evs (by conv => lhs; simp [-aI_app1, -aI_app0, -aB_app0, -aS_app0, -aL_app0, -aI_app10, -aB_app10, -aS_app10, -aLt_app10I, -aLf_app10I, -aLt_app1I, -aLf_app1I]) ?_
   obtain ⟨o10, h11, h7⟩ := bind_some h7
   refine Wo.call rfl rfl (by (conv => lhs; simp [-aI_app1, -aI_app0, -aB_app0, -aS_app0, -aL_app0, -aI_app10, -aB_app10, -aS_app10, -aLt_app10I, -aLf_app10I, -aLt_app1I, -aLf_app1I, cx, ioTab]) <;> rfl) (run_ h11) (by simp) (by simp) (by (conv => lhs; simp [-aI_app1, -aI_app0, -aB_app0, -aS_app0, -aL_app0, -aI_app10, -aB_app10, -aS_app10, -aLt_app10I, -aLf_app10I, -aLt_app1I, -aLf_app1I, cx, ioTab]) <;> rfl) (by (conv => lhs; simp [-aI_app1, -aI_app0, -aB_app0, -aS_app0, -aL_app0, -aI_app10, -aB_app10, -aS_app10, -aLt_app10I, -aLf_app10I, -aLt_app1I, -aLf_app1I]) <;> rfl) ?_
   refine Wo.nil ?_
   by_cases kc12 : o10 = true
   ·rw [if_pos kc12] at h7
    refine Wc.condT' (t := _) (by conv => lhs; simp) (by simpa using kc12) ?_
    refine Wc.seq ?_
    refine Wc.kil (by conv => lhs; simp) ?_
    refine Wc.exit ?_
    cases h7
    exact ⟨rfl, by first | rfl | simp [-aI_app1, -aI_app0, -aB_app0, -aS_app0, -aL_app0, -aI_app10, -aB_app10, -aS_app10, -aLt_app10I, -aLf_app10I, -aLt_app1I, -aLf_app1I]⟩
   ·rw [if_neg kc12] at h7
    refine Wc.condF' (t := _) (by conv => lhs; simp) (by simpa using kc12) ?_
    refine Wc.seq ?_
    refine Wc.kil (by conv => lhs; simp) ?_
    refine Wc.skip ?_
    refine Wc.seq ?_
    refine Wc.evs (by conv => lhs; simp [-aI_app1, -aI_app0, -aB_app0, -aS_app0, -aL_app0, -aI_app10, -aB_app10, -aS_app10, -aLt_app10I, -aLf_app10I, -aLt_app1I, -aLf_app1I, ga9, gb9, gn9, gd9]) ?_
    obtain ⟨o13, h14, h7⟩ := bind_some h7
    refine Wo.call rfl rfl (by (conv => lhs; simp [-aI_app1, -aI_app0, -aB_app0, -aS_app0, -aL_app0, -aI_app10, -aB_app10, -aS_app10, -aLt_app10I, -aLf_app10I, -aLt_app1I, -aLf_app1I, ga9, gb9, gn9, gd9, cx, ioTab]) <;> rfl) (VJx.res (run_ h14) (by exact tles_go) (TLe.refl _) (TLes.refl _)) (by simp) (by simp) (by (conv => lhs; simp [-aI_app1, -aI_app0, -aB_app0, -aS_app0, -aL_app0, -aI_app10, -aB_app10, -aS_app10, -aLt_app10I, -aLf_app10I, -aLt_app1I, -aLf_app1I, ga9, gb9, gn9, gd9, cx, ioTab]) <;> rfl) (by (conv => lhs; simp [-aI_app1, -aI_app0, -aB_app0, -aS_app0, -aL_app0, -aI_app10, -aB_app10, -aS_app10, -aLt_app10I, -aLf_app10I, -aLt_app1I, -aLf_app1I, ga9, gb9, gn9, gd9]) <;> rfl) ?_
    obtain ⟨o15, h16, h7⟩ := bind_some h7
    refine Wo.call rfl rfl (by (conv => lhs; simp [-aI_app1, -aI_app0, -aB_app0, -aS_app0, -aL_app0, -aI_app10, -aB_app10, -aS_app10, -aLt_app10I, -aLf_app10I, -aLt_app1I, -aLf_app1I, ga9, gb9, gn9, gd9, cx, ioTab]) <;> rfl) (run_ h16) (by simp) (by simp) (by (conv => lhs; simp [-aI_app1, -aI_app0, -aB_app0, -aS_app0, -aL_app0, -aI_app10, -aB_app10, -aS_app10, -aLt_app10I, -aLf_app10I, -aLt_app1I, -aLf_app1I, ga9, gb9, gn9, gd9, cx, ioTab]) <;> rfl) (by (conv => lhs; simp [-aI_app1, -aI_app0, -aB_app0, -aS_app0, -aL_app0, -aI_app10, -aB_app10, -aS_app10, -aLt_app10I, -aLf_app10I, -aLt_app1I, -aLf_app1I, ga9, gb9, gn9, gd9]) <;> rfl) ?_
    refine Wo.evs (by conv => lhs; simp [-aI_app1, -aI_app0, -aB_app0, -aS_app0, -aL_app0, -aI_app10, -aB_app10, -aS_app10, -aLt_app10I, -aLf_app10I, -aLt_app1I, -aLf_app1I, ga9, gb9, gn9, gd9]) ?_
    refine Wo.nil ?_
    refine Wc.seq ?_
    refine Wc.seq ?_
    refine Wc.evs (by conv => lhs; simp [-aI_app1, -aI_app0, -aB_app0, -aS_app0, -aL_app0, -aI_app10, -aB_app10, -aS_app10, -aLt_app10I, -aLf_app10I, -aLt_app1I, -aLf_app1I]) ?_
    refine Wo.nil ?_
    by_cases kc17 : (o15.length : Int) = 0
    ·rw [if_pos kc17] at h7
     refine Wc.condT' (t := _) (by conv => lhs; simp) (by simpa using kc17) ?_
     refine Wc.seq ?_
     refine Wc.kil (by conv => lhs; simp) ?_
     refine Wc.seq ?_
     refine Wc.evs (by conv => lhs; simp [-aI_app1, -aI_app0, -aB_app0, -aS_app0, -aL_app0, -aI_app10, -aB_app10, -aS_app10, -aLt_app10I, -aLf_app10I, -aLt_app1I, -aLf_app1I, ga9, gb9, gn9, gd9]) ?_
     refine Wo.nil ?_
     refine Wc.gh (vle_take (s := 4) (by simp) (by conv => lhs; simp [-aI_app1, -aI_app0, -aB_app0, -aS_app0, -aL_app0, -aI_app10, -aB_app10, -aS_app10, -aLt_app10I, -aLf_app10I, -aLt_app1I, -aLf_app1I, ga9, gb9, gn9, gd9]) (by conv => lhs; simp)) ?_
     refine Wc.ret ?_
     cases h7
     exact ⟨rfl, by first | rfl | simp [-aI_app1, -aI_app0, -aB_app0, -aS_app0, -aL_app0, -aI_app10, -aB_app10, -aS_app10, -aLt_app10I, -aLf_app10I, -aLt_app1I, -aLf_app1I, ga9, gb9, gn9, gd9]⟩
    ·rw [if_neg kc17] at h7
     refine Wc.condF' (t := _) (by conv => lhs; simp) (by simpa using kc17) ?_
     refine Wc.seq ?_
     refine Wc.kil (by conv => lhs; simp) ?_
     refine Wc.skip ?_
     refine Wc.seq ?_
     refine Wc.evs (by conv => lhs; simp [-aI_app1, -aI_app0, -aB_app0, -aS_app0, -aL_app0, -aI_app10, -aB_app10, -aS_app10, -aLt_app10I, -aLf_app10I, -aLt_app1I, -aLf_app1I]) ?_
     refine Wo.nil ?_
     by_cases kc18 : (o15.length : Int) = 1
     ·rw [if_pos kc18] at h7
      refine Wc.condT' (t := _) (by conv => lhs; simp) (by simpa using kc18) ?_
      refine Wc.seq ?_
      refine Wc.kil (by conv => lhs; simp) ?_
      refine Wc.seq ?_
      obtain ⟨v_19, h20, h7⟩ := bind_some h7
      obtain ⟨ga20, gb20, gc20⟩ := ix_some h20
      have gn20 := ix_ne h20
      have gf20 := arr_fit (E := eI) (b := true) (i := (0 : Int).toNat) (l := o15) (by omega)
      have gg20_0 := arr_get (E := eI) (b := true) (o := 0) gc20 (by decide)
      simp at gf20 gg20_0
      have gl20 : (0 : Int).toNat < o15.length := by omega
      have gk20 : 0 < o15.length := by omega
      obtain ⟨l_21, h22, h7⟩ := bind_some h7
      have gx22 := appT_arr (E := eI) (b := true) (y := false) h22 (by decide)
      simp [-aI_app1, -aI_app0, -aB_app0, -aS_app0, -aL_app0, -aLt_app1I, -aLf_app1I, -aLt_app10I, -aLf_app10I] at gx22
      refine Wc.evs (by conv => lhs; simp [-aI_app1, -aI_app0, -aB_app0, -aS_app0, -aL_app0, -aI_app10, -aB_app10, -aS_app10, -aLt_app10I, -aLf_app10I, -aLt_app1I, -aLf_app1I, -getElem?_pos, List.getElem?_cons_zero, List.getElem?_cons_succ, gb20, gn20, gf20, gg20_0, gl20, gk20, gx22, ga9, gb9, gn9, gd9]) ?_
      refine Wo.nil ?_
      refine Wc.exit ?_
      cases h7
      exact ⟨rfl, by first | rfl | simp [-aI_app1, -aI_app0, -aB_app0, -aS_app0, -aL_app0, -aI_app10, -aB_app10, -aS_app10, -aLt_app10I, -aLf_app10I, -aLt_app1I, -aLf_app1I, -getElem?_pos, List.getElem?_cons_zero, List.getElem?_cons_succ, gb20, gn20, gf20, gg20_0, gl20, gk20, gx22, ga9, gb9, gn9, gd9]⟩
     ·rw [if_neg kc18] at h7
      refine Wc.condF' (t := _) (by conv => lhs; simp) (by simpa using kc18) ?_
      refine Wc.seq ?_
      refine Wc.kil (by conv => lhs; simp) ?_
      refine Wc.skip ?_
      cases h7
      exact ⟨rfl, by first | rfl | simp [-aI_app1, -aI_app0, -aB_app0, -aS_app0, -aL_app0, -aI_app10, -aB_app10, -aS_app10, -aLt_app10I, -aLf_app10I, -aLt_app1I, -aLf_app1I, ga9, gb9, gn9, gd9]⟩
  ·skip
   rcases w6 with ⟨⟩ | ⟨out_23, found_24⟩ | ⟨x_25, x_26⟩
   ·rintro ex V ⟨rfl, rfl⟩
    try dsimp only at h
    refine Wc.evs (by conv => lhs; simp [-aI_app1, -aI_app0, -aB_app0, -aS_app0, -aL_app0, -aI_app10, -aB_app10, -aS_app10, -aLt_app10I, -aLf_app10I, -aLt_app1I, -aLf_app1I]) ?_
    refine Wo.nil ?_
    refine Wc.start (V1 := [(0, .v (ssl (eL eI) clauses)), (6, .v (.ptr true [(.sl true false 1 0 (arr eI true out_3))])), (7, .v (.bool false)), (14, .v (ssl (eL eI) clauses)), (15, .v (iT (clauses.length : Int))), (16, .v (iT (w64 (x_4 + 1))))]) ?_ (hk _ (Option.some.inj h).symm)
    first | rfl | simp [-aI_app1, -aI_app0, -aB_app0, -aS_app0, -aL_app0, -aI_app10, -aB_app10, -aS_app10, -aLt_app10I, -aLf_app10I, -aLt_app1I, -aLf_app1I]
   ·rintro ex V ⟨rfl, rfl⟩
    dsimp only at h ⊢
    have e0 := hx _ (Option.some.inj h).symm
    subst e0
    exact ⟨rfl, by first | rfl | simp [-aI_app1, -aI_app0, -aB_app0, -aS_app0, -aL_app0, -aI_app10, -aB_app10, -aS_app10, -aLt_app10I, -aLf_app10I, -aLt_app1I, -aLf_app1I]⟩
   ·rintro ex V ⟨rfl, rfl⟩
    dsimp only at h ⊢
    have e0 := hx _ (Option.some.inj h).symm
    subst e0
    exact ⟨rfl, by first | rfl | simp [-aI_app1, -aI_app0, -aB_app0, -aS_app0, -aL_app0, -aI_app10, -aB_app10, -aS_app10, -aLt_app10I, -aLf_app10I, -aLt_app1I, -aLf_app1I]⟩
 ·rw [if_neg kc5] at h
  refine Wc.condF' (t := _) (by conv => lhs; simp) (by simpa using kc5) ?_
  refine Wc.seq ?_
  refine Wc.kil (by conv => lhs; simp) ?_
  refine Wc.exit ?_
  have e0 := hx _ (Option.some.inj h).symm
  subst e0
  exact ⟨rfl, by first | rfl | simp [-aI_app1, -aI_app0, -aB_app0, -aS_app0, -aL_app0, -aI_app10, -aB_app10, -aS_app10, -aLt_app10I, -aLf_app10I, -aLt_app1I, -aLf_app1I]⟩
theorem r39_0 : ∀ zs zo, iter (f39_0 clauses) zs = some zo -> Wc cx 44 (.loop L39_0) [(0, .v (ssl (eL eI) clauses)), (6, .v (.ptr true [(.sl true false 1 0 (arr eI true zs))]))] ((QR (fun (y : (List Int) × Bool) => [(4, .v (.sl true false 1 0 (arr eI true y.1))), (5, .v (.bool y.2)), (6, .v (.ptr true [.und]))])) zo) := by
 intro zs0 zo0 zh0
 refine iter_run (f := (f39_0 clauses)) (P := fun zs zo => Wc cx 44 (.loop L39_0) [(0, .v (ssl (eL eI) clauses)), (6, .v (.ptr true [(.sl true false 1 0 (arr eI true zs))]))] ((QR (fun (y : (List Int) × Bool) => [(4, .v (.sl true false 1 0 (arr eI true y.1))), (5, .v (.bool y.2)), (6, .v (.ptr true [.und]))])) zo)) ?_ zh0
 rintro out_3 zo zr h hk hx
 try dsimp only at hk ⊢
 rw [f39_0] at h
 refine Wc.loop ?_
 refine Wc.block ?_
 refine Wc.seq ?_
 refine Wc.evs (by conv => lhs; simp [-aI_app1, -aI_app0, -aB_app0, -aS_app0, -aL_app0, -aI_app10, -aB_app10, -aS_app10, -aLt_app10I, -aLf_app10I, -aLt_app1I, -aLf_app1I]) ?_
 refine Wo.nil ?_
 refine Wc.seq ?_
 refine Wc.seq ?_
 refine Wc.evs (by conv => lhs; simp [-aI_app1, -aI_app0, -aB_app0, -aS_app0, -aL_app0, -aI_app10, -aB_app10, -aS_app10, -aLt_app10I, -aLf_app10I, -aLt_app1I, -aLf_app1I]) ?_
 refine Wo.nil ?_
 refine Wc.block ?_
 obtain ⟨w27, h28, h⟩ := bind_some h
 refine Wc.start (V1 := [(0, .v (ssl (eL eI) clauses)), (6, .v (.ptr true [(.sl true false 1 0 (arr eI true out_3))])), (7, .v (.bool false)), (14, .v (ssl (eL eI) clauses)), (15, .v (iT (clauses.length : Int))), (16, .v (iT 0))]) (by first | rfl | simp [-aI_app1, -aI_app0, -aB_app0, -aS_app0, -aL_app0, -aI_app10, -aB_app10, -aS_app10, -aLt_app10I, -aLf_app10I, -aLt_app1I, -aLf_app1I]) ?_
 refine Wc.mono (r39_1 _ _ h28) ?_
 rcases w27 with ⟨out_29, found_30⟩ | ⟨x_31, x_32⟩
 ·rintro ex V ⟨rfl, rfl⟩
  dsimp only at h ⊢
  refine Wc.seq ?_
  refine Wc.evs (by conv => lhs; simp [-aI_app1, -aI_app0, -aB_app0, -aS_app0, -aL_app0, -aI_app10, -aB_app10, -aS_app10, -aLt_app10I, -aLf_app10I, -aLt_app1I, -aLf_app1I]) ?_
  refine Wo.nil ?_
  by_cases kc33 : ¬ (found_30 = true)
  ·rw [if_pos kc33] at h
   refine Wc.condT' (t := _) (by conv => lhs; simp) (by simpa using kc33) ?_
   refine Wc.seq ?_
   refine Wc.kil (by conv => lhs; simp) ?_
   refine Wc.seq ?_
   refine Wc.evs (by conv => lhs; simp [-aI_app1, -aI_app0, -aB_app0, -aS_app0, -aL_app0, -aI_app10, -aB_app10, -aS_app10, -aLt_app10I, -aLf_app10I, -aLt_app1I, -aLf_app1I]) ?_
   refine Wo.nil ?_
   refine Wc.gh (vle_take (s := 4) (by simp) (by conv => lhs; simp [-aI_app1, -aI_app0, -aB_app0, -aS_app0, -aL_app0, -aI_app10, -aB_app10, -aS_app10, -aLt_app10I, -aLf_app10I, -aLt_app1I, -aLf_app1I]) (by conv => lhs; simp)) ?_
   refine Wc.ret ?_
   have e0 := hx _ (Option.some.inj h).symm
   subst e0
   exact ⟨rfl, by first | rfl | simp [-aI_app1, -aI_app0, -aB_app0, -aS_app0, -aL_app0, -aI_app10, -aB_app10, -aS_app10, -aLt_app10I, -aLf_app10I, -aLt_app1I, -aLf_app1I]⟩
  ·rw [if_neg kc33] at h
   refine Wc.condF' (t := _) (by conv => lhs; simp) (by simpa using kc33) ?_
   refine Wc.seq ?_
   refine Wc.kil (by conv => lhs; simp) ?_
   refine Wc.skip ?_
   refine Wc.start (V1 := [(0, .v (ssl (eL eI) clauses)), (6, .v (.ptr true [(.sl true false 1 0 (arr eI true out_29))]))]) ?_ (hk _ (Option.some.inj h).symm)
   first | rfl | simp [-aI_app1, -aI_app0, -aB_app0, -aS_app0, -aL_app0, -aI_app10, -aB_app10, -aS_app10, -aLt_app10I, -aLf_app10I, -aLt_app1I, -aLf_app1I]
 ·rintro ex V ⟨rfl, rfl⟩
  dsimp only at h ⊢
  have e0 := hx _ (Option.some.inj h).symm
  subst e0
  exact ⟨rfl, by first | rfl | simp [-aI_app1, -aI_app0, -aB_app0, -aS_app0, -aL_app0, -aI_app10, -aB_app10, -aS_app10, -aLt_app10I, -aLf_app10I, -aLt_app1I, -aLf_app1I]⟩
theorem r39 {clauses : (List (List Int))} {start : (List Int)} {r : (List Int) × Bool} (h : f39 clauses start = some r) : VJx cx (.ca 39 [(ssl (eL eI) clauses), (ssl eI start)] (.tup [(.sl true false 1 0 (arr eI true r.1)), (.bool r.2)]) []) := by
 unfold f39 at h
 refine ca_of rfl rfl (by decide) rfl ?_
 refine Wc.start (V1 := [(0, .v (ssl (eL eI) clauses)), (1, .v (ssl eI start))]) (by simp) ?_
 refine Wc.seq ?_
 refine Wc.evs (by conv => lhs; simp [-aI_app1, -aI_app0, -aB_app0, -aS_app0, -aL_app0, -aI_app10, -aB_app10, -aS_app10, -aLt_app10I, -aLf_app10I, -aLt_app1I, -aLf_app1I]) ?_
 refine Wo.nil ?_
 refine Wc.seq ?_
 obtain ⟨l_1, h2, h⟩ := bind_some h
 have gx2 := appT_arr2 (E := eI) (b := true) (b' := false) (y := false) h2 (by decide) (arr_sc rfl _)
 simp [-aI_app1, -aI_app0, -aB_app0, -aS_app0, -aL_app0, -aLt_app1I, -aLf_app1I, -aLt_app10I, -aLf_app10I] at gx2
 refine Wc.evs (by conv => lhs; simp [-aI_app1, -aI_app0, -aB_app0, -aS_app0, -aL_app0, -aI_app10, -aB_app10, -aS_app10, -aLt_app10I, -aLf_app10I, -aLt_app1I, -aLf_app1I, gx2]) ?_
 refine Wo.nil ?_
 refine Wc.block ?_
 obtain ⟨w34, h35, h⟩ := bind_some h
 refine Wc.start (V1 := [(0, .v (ssl (eL eI) clauses)), (6, .v (.ptr true [(.sl true false 1 0 (arr eI true l_1))]))]) (by first | rfl | simp [-aI_app1, -aI_app0, -aB_app0, -aS_app0, -aL_app0, -aI_app10, -aB_app10, -aS_app10, -aLt_app10I, -aLf_app10I, -aLt_app1I, -aLf_app1I, gx2]) ?_
 refine Wc.mono (r39_0 _ _ h35) ?_
 obtain ⟨x_36, x_37⟩ := w34
 rintro ex V ⟨rfl, rfl⟩
 dsimp only at h ⊢
 refine res_of (.inr rfl) ?_
 cases h
 exact ⟨_, _, _, by conv => lhs; simp, by (conv => lhs; simp [cx, ioTab, List.range, List.range.loop]) <;> rfl, by first | rfl | simp [-aI_app1, -aI_app0, -aB_app0, -aS_app0, -aL_app0, -aI_app10, -aB_app10, -aS_app10, -aLt_app10I, -aLf_app10I, -aLt_app1I, -aLf_app1I, gx2]⟩
instance i39 {start : (List Int)} : Rn cx (f39 clauses start) 39 [(ssl (eL eI) clauses), (ssl eI start)] (fun (r : (List Int) × Bool) => (.tup [(.sl true false 1 0 (arr eI true r.1)), (.bool r.2)])) (fun r => []) := ⟨fun _ h => r39 h⟩
instance : Io0 cx 39 := ⟨rfl⟩
instance i51 {s0 : Solver} {assumed : (List Int)} : Rn cx (f51 s0 assumed) 51 [(.ptr true [(iT s0.n), (ssl (eL eI) s0.clauses), (osl (eL eI) true s0.learned)]), (ssl eI assumed)] (fun (r : Unit × Solver) => .nils) (fun r => [(.ptr true [(iT r.2.n), (ssl (eL eI) r.2.clauses), (osl (eL eI) true r.2.learned)])]) := Rn.o rfl (by unfold f51; exact go)
end
end Go.Proofs.YtjfeimhiiomgoaaH
