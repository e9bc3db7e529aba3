import Derived.Test.YtbpdhmbdpjafeaaDoorCx1
import Derived.Test.YtbpdhmbdpjafeaaDoorX3
import Derived.Test.YtbpdhmbdpjafeaaDoorTd1
set_option maxHeartbeats 2000000
set_option linter.unusedVariables false
set_option linter.unusedSimpArgs false
set_option linter.defProp false
set_option linter.unusedSectionVars false
set_option maxRecDepth 100000
namespace Go.Proofs.YtbpdhmbdpjafeaaDoorH
open Go
noncomputable section
variable {o1 : (Int × L1Cur)} {clauses l proof : (List (List Int))} {model : (List Bool)} {a b c clause code literals s0 set1 : (List Int)} {high low n0 n1 v x : Int}
abbrev iT (n : Int) : T := .int .i64 n
instance : Cl cx := ⟨fun j h => vsound (fun _ _ _ _ h => h) h, fun f ts t outs h => .ext h⟩
@[simp high] theorem ioz {f : Nat} [h : Io0 cx f] : ioTab f = [] := h.io
@[simp] theorem ioz16 : ioTab 16 = [0] := rfl
@[simp] theorem ioz18 : ioTab 18 = [0] := rfl
@[simp] theorem ioz19 : ioTab 19 = [0] := rfl
@[simp] theorem ioz20 : ioTab 20 = [0] := rfl
@[simp] theorem ioz35 : ioTab 35 = [0] := rfl
@[simp] theorem ioz36 : ioTab 36 = [0] := rfl
@[simp] theorem ioz37 : ioTab 37 = [0] := rfl
@[simp] theorem ioz55 : ioTab 55 = [0] := rfl
instance i4 : Rn cx (f4 code) 4 [(ssl eU code)] (fun (r : Bool) => (.bool r)) (fun r => []) := Rn.o rfl (by unfold f4; exact go)
instance : Io0 cx 4 := ⟨rfl⟩
instance i15_0 : Lp cx (f15_0 code) 32 L15_0 (fun (zs : Int × Int) => [(0, .v (ssl eU code)), (3, .v (iT zs.1)), (4, .v (iT zs.2))]) (QX 0 (fun (y : Int) => [(0, .v (ssl eU code)), (3, .v (iT y))])) := Lp.of (f := (fun
 | (h_1, i_2) =>
  (jn (QN (fun (y : Bool) => [(0, .v (ssl eU code)), (3, .v (iT h_1)), (4, .v (iT i_2)), (15, .v (.bool y))])) ((if i_2 < (code.length : Int) then
  some (decide (i_2 < 4000))
  else
  some false) : Option (Bool))).bind fun x_3 =>
  if x_3 = true then
  (ix code i_2).bind fun v_7 =>
  some (.inl (band .i64 (w64 ((w64 ((w64 (h_1 * 131)) + (w64 v_7))) + 7)) 1073741823, w64 (i_2 + 1)))
  else
  some (.inr h_1) : Int × Int -> Option ((Int × Int) ⊕ Int))) (by exact go)
instance i15 : Rn cx (f15 code) 15 [(ssl eU code)] (fun (r : L1Cur) => (.ptr true [(ssl eU r.b), (iT r.i), (iT r.h)])) (fun r => []) := Rn.o rfl (by unfold f15; exact go)
instance : Io0 cx 15 := ⟨rfl⟩
instance i37 {c : L1Cur} : Rn cx (f37 c) 37 [(.ptr true [(ssl eU c.b), (iT c.i), (iT c.h)])] (fun (r : Int × L1Cur) => (iT r.1)) (fun r => [(.ptr true [(ssl eU r.2.b), (iT r.2.i), (iT r.2.h)])]) := Rn.o (e := (
  (jn (QN (fun (y : Int × Int) => [(0, .v (.ptr true [(ssl eU c.b), (iT y.1), (iT (w64 ((w64 (c.h * 6364136223846793005)) + 1442695040888963407)))])), (3, .v (iT y.2))])) ((if c.i < (c.b.length : Int) then
  (ix c.b c.i).bind fun v_4 =>
  some (w64 (c.i + 1), band .i64 (w64 ((band .i64 (bxor .i64 (sshr .i64 (w64 ((w64 (c.h * 6364136223846793005)) + 1442695040888963407)) 33) (sshr .i64 (w64 ((w64 (c.h * 6364136223846793005)) + 1442695040888963407)) 45)) 255) + (w64 v_4))) 255)
  else
  some (c.i, band .i64 (bxor .i64 (sshr .i64 (w64 ((w64 (c.h * 6364136223846793005)) + 1442695040888963407)) 33) (sshr .i64 (w64 ((w64 (c.h * 6364136223846793005)) + 1442695040888963407)) 45)) 255)) : Option (Int × Int))).bind fun (c_6, x_7) =>
  some (x_7, ({ b := c.b, i := c_6, h := w64 ((w64 (c.h * 6364136223846793005)) + 1442695040888963407) } : L1Cur)) : Option (Int × L1Cur))) rfl (by exact go)
instance i19 {c : L1Cur} : Rn cx (f19 c n1) 19 [(.ptr true [(ssl eU c.b), (iT c.i), (iT c.h)]), (iT n1)] (fun (r : Int × L1Cur) => (iT r.1)) (fun r => [(.ptr true [(ssl eU r.2.b), (iT r.2.i), (iT r.2.h)])]) := Rn.o rfl (by unfold f19; exact go)
instance i18 {c : L1Cur} : Rn cx (f18 c n1) 18 [(.ptr true [(ssl eU c.b), (iT c.i), (iT c.h)]), (iT n1)] (fun (r : Bool × L1Cur) => (.bool r.1)) (fun r => [(.ptr true [(ssl eU r.2.b), (iT r.2.i), (iT r.2.h)])]) := Rn.o rfl (by unfold f18; exact go)
instance i35 {c : L1Cur} {list : (List Int)} : Rn cx (f35 c list) 35 [(.ptr true [(ssl eU c.b), (iT c.i), (iT c.h)]), (ssl eI list)] (fun (r : Int × L1Cur) => (iT r.1)) (fun r => [(.ptr true [(ssl eU r.2.b), (iT r.2.i), (iT r.2.h)])]) := Rn.o rfl (by unfold f35; exact go)
instance i16_1 {l_8 : (List (List Int))} {k_9 : Int} : Lp cx (lw (l_8, k_9) (f16_1 o1)) 64 L16_1 (fun (zs : (List Int) × Int × Int × (List Int) × Int) => [(0, .v (.ptr true [(ssl eU zs.1), (iT zs.2.1), (iT zs.2.2.1)])), (4, .v (iT (w64 (1 + o1.1)))), (5, .v (osl (eL eI) true l_8)), (6, .v (iT k_9)), (7, .v (osl eI true zs.2.2.2.1)), (8, .v (iT zs.2.2.2.2))]) (QX 2 (fun (y : (List Int) × Int × Int × (List Int)) => [(0, .v (.ptr true [(ssl eU y.1), (iT y.2.1), (iT y.2.2.1)])), (4, .v (iT (w64 (1 + o1.1)))), (5, .v (osl (eL eI) true l_8)), (6, .v (iT k_9)), (7, .v (osl eI true y.2.2.2))])) := Lp.of (f := (fun
 | (c_11, c_12, c_13, x_14, v_15) =>
  if v_15 <= (w64 (1 + o1.1)) then
  (f18 ({ b := c_11, i := c_12, h := c_13 } : L1Cur) 2).bind fun o17 =>
  (jn (QN (fun (y : Bool) => [(0, .v (.ptr true [(ssl eU o17.2.b), (iT o17.2.i), (iT o17.2.h)])), (4, .v (iT (w64 (1 + o1.1)))), (5, .v (osl (eL eI) true l_8)), (6, .v (iT k_9)), (7, .v (osl eI true x_14)), (8, .v (iT v_15)), (31, .v (.bool y))])) ((if o17.1 = true then
  some (decide ((x_14.length : Int) < 3))
  else
  some false) : Option (Bool))).bind fun x_19 =>
  (jn (QN (fun (y : (List Int) × Int × Int × (List Int)) => [(0, .v (.ptr true [(ssl eU y.1), (iT y.2.1), (iT y.2.2.1)])), (4, .v (iT (w64 (1 + o1.1)))), (5, .v (osl (eL eI) true l_8)), (6, .v (iT k_9)), (7, .v (osl eI true y.2.2.2)), (8, .v (iT v_15))])) ((if x_19 = true then
  (f19 o17.2 2).bind fun o25 =>
  (app 8 x_14 ([w64 (v_15 * (w64 (1 - (w64 (2 * o25.1)))))])).bind fun l_27 =>
  some (o25.2.b, o25.2.i, o25.2.h, l_27)
  else
  some (o17.2.b, o17.2.i, o17.2.h, x_14)) : Option ((List Int) × Int × Int × (List Int)))).bind fun (c_29, c_30, c_31, x_32) =>
  some (.inl (c_29, c_30, c_31, x_32, w64 (v_15 + 1)))
  else
  some (.inr (c_11, c_12, c_13, x_14)) : (List Int) × Int × Int × (List Int) × Int -> Option (((List Int) × Int × Int × (List Int) × Int) ⊕ ((List Int) × Int × Int × (List Int))))) (by exact go)
instance i16_0 : Lp cx (f16_0 o1) 64 L16_0 (fun (zs : (List Int) × Int × Int × (List (List Int)) × Int) => [(0, .v (.ptr true [(ssl eU zs.1), (iT zs.2.1), (iT zs.2.2.1)])), (4, .v (iT (w64 (1 + o1.1)))), (5, .v (osl (eL eI) true zs.2.2.2.1)), (6, .v (iT zs.2.2.2.2))]) (QX 0 (fun (y : (List Int) × Int × Int × (List (List Int))) => [(0, .v (.ptr true [(ssl eU y.1), (iT y.2.1), (iT y.2.2.1)])), (4, .v (iT (w64 (1 + o1.1)))), (5, .v (osl (eL eI) true y.2.2.2))])) := Lp.of (f := (fun
 | (c_5, c_6, c_7, l_8, k_9) =>
  if k_9 > 0 then
  sn 2 7 (osl eI true ([])) <| 
  (iter (lw (l_8, k_9)  (f16_1 o1)) (c_5, c_6, c_7, [], 1)).bind fun (c_35, c_36, c_37, x_38) =>
  (app 24 l_8 ([x_38])).bind fun l_39 =>
  some (.inl (c_35, c_36, c_37, l_39, w64 (k_9 - 1)))
  else
  some (.inr (c_5, c_6, c_7, l_8)) : (List Int) × Int × Int × (List (List Int)) × Int -> Option (((List Int) × Int × Int × (List (List Int)) × Int) ⊕ ((List Int) × Int × Int × (List (List Int)))))) (by exact go)
instance i16 {c : L1Cur} : Rn cx (f16 c) 16 [(.ptr true [(ssl eU c.b), (iT c.i), (iT c.h)])] (fun (r : Int × (List (List Int)) × L1Cur) => (.tup [(iT r.1), (osl (eL eI) true r.2.1)])) (fun r => [(.ptr true [(ssl eU r.2.2.b), (iT r.2.2.i), (iT r.2.2.h)])]) := Rn.o (e := (
  (f19 c 5).bind fun o1 =>
  sn 4 5 (osl (eL eI) true ([])) <| 
  (f19 o1.2 11).bind fun o3 =>
  (iter (f16_0 o1) (o3.2.b, o3.2.i, o3.2.h, [], o3.1)).bind fun (c_43, c_44, c_45, l_46) =>
  (jn (QN (fun (y : (List Int) × Int × Int × Bool) => [(0, .v (.ptr true [(ssl eU y.1), (iT y.2.1), (iT y.2.2.1)])), (4, .v (iT (w64 (1 + o1.1)))), (5, .v (osl (eL eI) true l_46)), (51, .v (.bool y.2.2.2))])) ((if (l_46.length : Int) > 0 then
  (f18 ({ b := c_43, i := c_44, h := c_45 } : L1Cur) 14).bind fun o53 =>
  some (o53.2.b, o53.2.i, o53.2.h, o53.1)
  else
  some (c_43, c_44, c_45, false)) : Option ((List Int) × Int × Int × Bool))).bind fun (c_47, c_48, c_49, x_50) =>
  (jn (QN (fun (y : (List Int) × Int × Int × (List (List Int))) => [(0, .v (.ptr true [(ssl eU y.1), (iT y.2.1), (iT y.2.2.1)])), (4, .v (iT (w64 (1 + o1.1)))), (5, .v (osl (eL eI) true y.2.2.2))])) ((if x_50 = true then
  (ix l_46 0).bind fun v_58 =>
  sn 6 57 (osl eI true ([0, 6, -7, 1, -9223372036854775808])) <| 
  sn 0 57 (ssl eI ([0, 6, -7, 1, -9223372036854775808])) <| 
  (f35 ({ b := c_47, i := c_48, h := c_49 } : L1Cur) ([0, 6, -7, 1, -9223372036854775808])).bind fun o60 =>
  (app 8 v_58 ([o60.1])).bind fun l_62 =>
  some (o60.2.b, o60.2.i, o60.2.h, (l_46.set (0 : Int).toNat l_62))
  else
  some (c_47, c_48, c_49, l_46)) : Option ((List Int) × Int × Int × (List (List Int))))).bind fun (c_65, c_66, c_67, l_68) =>
  some (w64 (1 + o1.1), l_68, ({ b := c_65, i := c_66, h := c_67 } : L1Cur)) : Option (Int × (List (List Int)) × L1Cur))) rfl (by exact go)
instance i46 : Rn cx (f46 x low high) 46 [(iT x), (iT low), (iT high)] (fun (r : Bool) => (.bool r)) (fun r => []) := Rn.o (e := (
  (jn (QN (fun (y : Bool) => [(6, .v (.bool y))])) ((if x >= low then
  some (decide (x <= high))
  else
  some false) : Option (Bool))).bind fun x_1 =>
  some x_1 : Option Bool)) rfl (by exact go)
instance : Io0 cx 46 := ⟨rfl⟩
instance i28_1 {i_1 : Int} : Lp cx (lw n0 (f28_1 c i_1)) 68 L28_1 (fun (zs : Int) => [(0, .v (iT n0)), (1, .v (ssl eI c)), (5, .v (iT i_1)), (7, .v (iT zs))]) (QO (QX 2 (fun (y : Unit) => [(0, .v (iT n0)), (1, .v (ssl eI c)), (5, .v (iT i_1))])) (QR (fun (y : Bool) => [(4, .v (.bool y))]))) := Lp.of (f := (fun
 | k_15 =>
  if k_15 < i_1 then
  (ix c k_15).bind fun v_17 =>
  (ix c i_1).bind fun v_19 =>
  (jn (QN (fun (y : Bool) => [(0, .v (iT n0)), (1, .v (ssl eI c)), (5, .v (iT i_1)), (7, .v (iT k_15)), (67, .v (.bool y))])) ((if v_17 = v_19 then
  some true
  else
  some (decide (v_17 = (w64 (-v_19))))) : Option (Bool))).bind fun x_21 =>
  if x_21 = true then
  some (.inr (.inr false))
  else
  some (.inl (w64 (k_15 + 1)))
  else
  some (.inr (.inl ())) : Int -> Option (Int ⊕ (Unit ⊕ Bool)))) (by exact go)
instance i28_0 : Lp cx (f28_0 n0 c) 68 L28_0 (fun (zs : Int) => [(0, .v (iT n0)), (1, .v (ssl eI c)), (5, .v (iT zs))]) (QO (QX 0 (fun (y : Unit) => [])) (QR (fun (y : Bool) => [(4, .v (.bool y))]))) := Lp.of (f := (fun
 | i_1 =>
  if i_1 < (c.length : Int) then
  (ix c i_1).bind fun v_3 =>
  (jn (QN (fun (y : Bool) => [(0, .v (iT n0)), (1, .v (ssl eI c)), (5, .v (iT i_1)), (6, .v (iT (if 0 > v_3 then 0 else v_3))), (32, .v (.bool y))])) ((if v_3 < 0 then
  some (decide (v_3 >= (w64 (-n0))))
  else
  some false) : Option (Bool))).bind fun x_5 =>
  (jn (QN (fun (y : Int) => [(0, .v (iT n0)), (1, .v (ssl eI c)), (5, .v (iT i_1)), (6, .v (iT y))])) ((if x_5 = true then
  some (w64 (-v_3))
  else
  some (if 0 > v_3 then 0 else v_3)) : Option Int)).bind fun v_11 =>
  (f46 v_11 1 n0).bind fun o12 =>
  if ¬ (o12 = true) then
  some (.inr (.inr false))
  else
  (iter (lw n0  (f28_1 c i_1)) 0).bind fun o => match o with
  | .inl _ =>
  some (.inl (w64 (i_1 + 1)))
  | .inr x_27 =>
  some (.inr (.inr x_27))
  else
  some (.inr (.inl ())) : Int -> Option (Int ⊕ (Unit ⊕ Bool)))) (by exact go)
instance i28 : Rn cx (f28 n0 c) 28 [(iT n0), (ssl eI c)] (fun (r : Bool) => (.bool r)) (fun r => []) := Rn.o rfl (by unfold f28; exact go)
instance : Io0 cx 28 := ⟨rfl⟩
instance i27_0 : Lp cx (f27_0 n0 l) 26 L27_0 (fun (zs : Int) => [(0, .v (iT n0)), (1, .v (ssl (eL eI) l)), (5, .v (iT zs))]) (QO (QX 0 (fun (y : Unit) => [(0, .v (iT n0)), (1, .v (ssl (eL eI) l))])) (QR (fun (y : Bool) => [(4, .v (.bool y))]))) := Lp.of (by unfold f27_0; exact go)
instance i27 : Rn cx (f27 n0 l) 27 [(iT n0), (ssl (eL eI) l)] (fun (r : Bool) => (.bool r)) (fun r => []) := Rn.o (e := (
  (iter (f27_0 n0 l) 0).bind fun o => match o with
  | .inl _ =>
  (f46 n0 0 14).bind fun o11 =>
  (jn (QN (fun (y : Bool) => [(4, .v (.bool y))])) ((if o11 = true then
  some (decide ((l.length : Int) <= 400))
  else
  some false) : Option (Bool))).bind fun x_13 =>
  some x_13
  | .inr x_10 =>
  some x_10 : Option Bool)) rfl (by exact go)
instance : Io0 cx 27 := ⟨rfl⟩
instance i56_0 {l : (List Int)} : Lp cx (f56_0 l x) 18 L56_0 (fun (zs : Int) => [(0, .v (ssl eI l)), (1, .v (iT x)), (5, .v (iT zs))]) (QO (QX 0 (fun (y : Unit) => [])) (QR (fun (y : Bool) => [(4, .v (.bool y))]))) := Lp.of (by unfold f56_0; exact go)
instance i56 {l : (List Int)} : Rn cx (f56 l x) 56 [(ssl eI l), (iT x)] (fun (r : Bool) => (.bool r)) (fun r => []) := Rn.o rfl (by unfold f56; exact go)
instance : Io0 cx 56 := ⟨rfl⟩
instance i47_0 : Lp cx (f47_0 c set1) 38 L47_0 (fun (zs : (List Int) × Int) => [(0, .v (ssl eI c)), (1, .v (ssl eI set1)), (6, .v (osl eI true zs.1)), (7, .v (iT zs.2))]) (QO (QX 0 (fun (y : (List Int)) => [(6, .v (osl eI true y))])) (QR (fun (y : (List Int) × Bool) => [(4, .v (osl eI true y.1)), (5, .v (.bool y.2))]))) := Lp.of (f := (fun
 | (out_1, i_2) =>
  if i_2 < (c.length : Int) then
  (ix c i_2).bind fun v_4 =>
  (f56 set1 v_4).bind fun o6 =>
  if o6 = true then
  some (.inr (.inr (out_1, true)))
  else
  (f56 set1 (w64 (-v_4))).bind fun o9 =>
  (jn (QN (fun (y : (List Int)) => [(0, .v (ssl eI c)), (1, .v (ssl eI set1)), (6, .v (osl eI true y)), (7, .v (iT i_2))])) ((if ¬ (o9 = true) then
  (app 8 out_1 ([v_4])).bind fun l_14 =>
  some l_14
  else
  some out_1) : Option (List Int))).bind fun out_16 =>
  some (.inl (out_16, w64 (i_2 + 1)))
  else
  some (.inr (.inl out_1)) : (List Int) × Int -> Option (((List Int) × Int) ⊕ ((List Int) ⊕ ((List Int) × Bool))))) (by exact go)
instance i47 : Rn cx (f47 c set1) 47 [(ssl eI c), (ssl eI set1)] (fun (r : (List Int) × Bool) => (.tup [(osl eI true r.1), (.bool r.2)])) (fun r => []) := Rn.o (e := (
  sn 4 6 (osl eI true ([])) <| 
  (iter (f47_0 c set1) ([], 0)).bind fun o => match o with
  | .inl out_19 =>
  some (out_19, false)
  | .inr (x_20, x_21) =>
  some (x_20, x_21) : Option ((List Int) × Bool))) rfl (by exact go)
instance : Io0 cx 47 := ⟨rfl⟩
instance i29_1 : Lp cx (f29_1 l) 49 L29_1 (fun (zs : (List Int) × Bool × Int) => [(0, .v (ssl (eL eI) l)), (6, .v (osl eI true zs.1)), (7, .v (.bool zs.2.1)), (8, .v (iT zs.2.2))]) (QO (QX 2 (fun (y : (List Int) × Bool) => [(0, .v (ssl (eL eI) l)), (6, .v (osl eI true y.1)), (7, .v (.bool y.2))])) (QR (fun (y : (List Int) × Bool) => [(4, .v (osl eI true y.1)), (5, .v (.bool y.2))]))) := Lp.of (f := (fun
 | (out_6, more_7, i_8) =>
  (jn (QN (fun (y : Bool) => [(0, .v (ssl (eL eI) l)), (6, .v (osl eI true out_6)), (7, .v (.bool more_7)), (8, .v (iT i_8)), (22, .v (.bool y))])) ((if i_8 < (l.length : Int) then
  some (decide (¬ (more_7 = true)))
  else
  some false) : Option (Bool))).bind fun x_9 =>
  if x_9 = true then
  (jb 3 (QO (QN (fun (y : (List Int) × Bool) => [(0, .v (ssl (eL eI) l)), (6, .v (osl eI true y.1)), (7, .v (.bool y.2)), (8, .v (iT i_8))])) (QR (fun (y : (List Int) × Bool) => [(4, .v (osl eI true y.1)), (5, .v (.bool y.2))]))) (((ix l i_8).bind fun v_15 =>
  (f47 v_15 out_6).bind fun o17 =>
  if o17.2 = true then
  some (.inl (out_6, more_7))
  else
  if (o17.1.length : Int) = 0 then
  some (.inr (out_6, true))
  else
  (jn (QN (fun (y : (List Int) × Bool) => [(0, .v (ssl (eL eI) l)), (6, .v (osl eI true y.1)), (7, .v (.bool y.2)), (8, .v (iT i_8))])) ((if (o17.1.length : Int) = 1 then
  (ix o17.1 0).bind fun v_24 =>
  (app 8 out_6 ([v_24])).bind fun l_26 =>
  some (l_26, true)
  else
  some (out_6, more_7)) : Option ((List Int) × Bool))).bind fun (out_28, more_29) =>
  some (.inl (out_28, more_29))) : Option (((List Int) × Bool) ⊕ ((List Int) × Bool)))).bind fun o => match o with
  | .inl (out_30, more_31) =>
  some (.inl (out_30, more_31, w64 (i_8 + 1)))
  | .inr (x_32, x_33) =>
  some (.inr (.inr (x_32, x_33)))
  else
  some (.inr (.inl (out_6, more_7))) : (List Int) × Bool × Int -> Option (((List Int) × Bool × Int) ⊕ (((List Int) × Bool) ⊕ ((List Int) × Bool))))) (by exact go)
instance i29_0 : Lp cx (f29_0 l) 49 L29_0 (fun (zs : (List Int) × Bool) => [(0, .v (ssl (eL eI) l)), (6, .v (osl eI true zs.1)), (7, .v (.bool zs.2))]) (QO (QX 0 (fun (y : (List Int)) => [(6, .v (osl eI true y))])) (QR (fun (y : (List Int) × Bool) => [(4, .v (osl eI true y.1)), (5, .v (.bool y.2))]))) := Lp.of (by unfold f29_0; exact go)
instance i29 : Rn cx (f29 l set1) 29 [(ssl (eL eI) l), (ssl eI set1)] (fun (r : (List Int) × Bool) => (.tup [(osl eI true r.1), (.bool r.2)])) (fun r => []) := Rn.o (e := (
  (app 8 ([]) set1).bind fun l_1 =>
  sn 6 6 (osl eI true l_1) <| 
  (iter (f29_0 l) (l_1, true)).bind fun o => match o with
  | .inl out_42 =>
  some (out_42, false)
  | .inr (x_43, x_44) =>
  some (x_43, x_44) : Option ((List Int) × Bool))) rfl (by exact go)
instance : Io0 cx 29 := ⟨rfl⟩
instance i30_0 {l : (List Int)} : Lp cx (f30_0 l) 21 L30_0 (fun (zs : (List Int) × Int) => [(0, .v (ssl eI l)), (3, .v (osl eI true zs.1)), (4, .v (iT zs.2))]) (QX 0 (fun (y : (List Int)) => [(3, .v (osl eI true y))])) := Lp.of (by unfold f30_0; exact go)
instance i30 {l : (List Int)} : Rn cx (f30 l) 30 [(ssl eI l)] (fun (r : (List Int)) => (osl eI true r)) (fun r => []) := Rn.o (e := (
  sn 3 3 (osl eI true ([])) <| 
  (iter (f30_0 l) ([], 0)).bind fun out_10 =>
  some out_10 : Option (List Int))) rfl (by exact go)
instance : Io0 cx 30 := ⟨rfl⟩
instance i55 {t : L22State} {signs : (List Int)} : Rn cx (f55 t signs) 55 [(.ptr true [(iT t.n), (osl (eL eI) false t.l), (osl (eL eI) false t.proof), (osl eB true t.model)]), (ssl eI signs)] (fun (r : L22State) => (.tup [])) (fun r => [(.ptr true [(iT r.n), (osl (eL eI) false r.l), (osl (eL eI) false r.proof), (osl eB true r.model)])]) := Rn.o (e := (
  (f30 signs).bind fun o1 =>
  sn 1 4 (ssl eI o1) <| 
  sn 7 13 (osl (eL eI) false ([o1])) <| 
  sn 0 13 (ssl (eL eI) ([o1])) <| 
  (app 24 t.l ([o1])).bind fun l_3 =>
  (app 24 t.proof ([o1])).bind fun l_5 =>
  some ({ n := t.n, l := l_3, proof := l_5, model := t.model } : L22State) : Option L22State)) rfl (by exact go)
instance i36_0 {t : L22State} {signs : (List Int)} {o1 : ((List Int) × Bool)} {rec : L22State -> (List Int) -> Option (Bool × L22State)} [hrec : ∀ t signs, Rn cx (rec t signs) 36 [(.ptr true [(iT t.n), (osl (eL eI) false t.l), (osl (eL eI) false t.proof), (osl eB true t.model)]), (ssl eI signs)] (fun o => (.bool o.1)) (fun o => [(.ptr true [(iT o.2.n), (osl (eL eI) false o.2.l), (osl (eL eI) false o.2.proof), (osl eB true o.2.model)])])] : Lp cx (f36_0 t signs rec o1) 81 L36_0 (fun (zs : Int) => [(0, .v (.ptr true [(iT t.n), (osl (eL eI) false t.l), (osl (eL eI) false t.proof), (osl eB true t.model)])), (1, .v (ssl eI signs)), (5, .v (osl eI true o1.1)), (7, .v (iT zs))]) (QO (QX 0 (fun (y : Unit) => [(0, .v (.ptr true [(iT t.n), (osl (eL eI) false t.l), (osl (eL eI) false t.proof), (osl eB true t.model)])), (5, .v (osl eI true o1.1))])) (QR (fun (y : Int × (List (List Int)) × (List (List Int)) × (List Bool) × Bool) => [(0, .v (.ptr true [(iT y.1), (osl (eL eI) false y.2.1), (osl (eL eI) false y.2.2.1), (osl eB true y.2.2.2.1)])), (4, .v (.bool y.2.2.2.2))]))) := Lp.of (f := (fun
 | v_6 =>
  if v_6 <= t.n then
  (f56 o1.1 v_6).bind fun o8 =>
  (jn (QN (fun (y : Bool) => [(0, .v (.ptr true [(iT t.n), (osl (eL eI) false t.l), (osl (eL eI) false t.proof), (osl eB true t.model)])), (1, .v (ssl eI signs)), (5, .v (osl eI true o1.1)), (7, .v (iT v_6)), (38, .v (.bool y))])) ((if o8 = true then
  some true
  else
  (f56 o1.1 (w64 (-v_6))).bind fun o13 =>
  some o13) : Option (Bool))).bind fun x_10 =>
  if x_10 = true then
  some (.inl (w64 (v_6 + 1)))
  else
  (app 8 ([]) signs).bind fun l_16 =>
  (app 8 l_16 ([v_6])).bind fun l_18 =>
  sn 7 45 (osl eI true l_18) <| 
  sn 0 45 (ssl eI l_18) <| 
  (rec t l_18).bind fun o20 =>
  (jn (QN (fun (y : Int × (List (List Int)) × (List (List Int)) × (List Bool) × Bool) => [(0, .v (.ptr true [(iT y.1), (osl (eL eI) false y.2.1), (osl (eL eI) false y.2.2.1), (osl eB true y.2.2.2.1)])), (1, .v (ssl eI signs)), (57, .v (.bool y.2.2.2.2))])) ((if o20.1 = true then
  some (o20.2.n, o20.2.l, o20.2.proof, o20.2.model, true)
  else
  (app 8 l_16 ([w64 (-v_6)])).bind fun l_29 =>
  sn 0 55 (osl eI true l_29) <| 
  sn 0 55 (ssl eI l_29) <| 
  (rec o20.2 l_29).bind fun o31 =>
  some (o31.2.n, o31.2.l, o31.2.proof, o31.2.model, o31.1)) : Option (Int × (List (List Int)) × (List (List Int)) × (List Bool) × Bool))).bind fun (t_22, t_23, t_24, t_25, x_26) =>
  if x_26 = true then
  some (.inr (.inr (t_22, t_23, t_24, t_25, true)))
  else
  (f55 ({ n := t_22, l := t_23, proof := t_24, model := t_25 } : L22State) signs).bind fun o34 =>
  some (.inr (.inr (o34.n, o34.l, o34.proof, o34.model, false)))
  else
  some (.inr (.inl ())) : Int -> Option (Int ⊕ (Unit ⊕ (Int × (List (List Int)) × (List (List Int)) × (List Bool) × Bool))))) (by exact go)
instance i36_1 {o1 : ((List Int) × Bool)} : Lp cx (f36_1 o1) 81 L36_1 (fun (zs : Int × (List (List Int)) × (List (List Int)) × (List Bool) × Int) => [(0, .v (.ptr true [(iT zs.1), (osl (eL eI) false zs.2.1), (osl (eL eI) false zs.2.2.1), (osl eB true zs.2.2.2.1)])), (5, .v (osl eI true o1.1)), (8, .v (iT zs.2.2.2.2))]) (QX 2 (fun (y : Int × (List (List Int)) × (List (List Int)) × (List Bool)) => [(0, .v (.ptr true [(iT y.1), (osl (eL eI) false y.2.1), (osl (eL eI) false y.2.2.1), (osl eB true y.2.2.2)]))])) := Lp.of (by unfold f36_1; exact go)
instance i36 : ∀ (n : Nat) t signs, Rn cx (f36 n t signs) 36 [(.ptr true [(iT t.n), (osl (eL eI) false t.l), (osl (eL eI) false t.proof), (osl eB true t.model)]), (ssl eI signs)] (fun (r : Bool × L22State) => (.bool r.1)) (fun r => [(.ptr true [(iT r.2.n), (osl (eL eI) false r.2.l), (osl (eL eI) false r.2.proof), (osl eB true r.2.model)])]) := by
 intro n
 induction n with
 | zero => intro t signs; exact ⟨fun r h => by simp [f36] at h⟩
 | succ n ih =>
  intro t signs
  refine Rn.of rfl rfl (by decide) rfl ?_
  simp only [f36]
  exact go
instance i17 : Rn cx (f17 n0 l) 17 [(iT n0), (ssl (eL eI) l)] (fun (r : (List Bool) × (List (List Int)) × Bool) => (.tup [(osl eB true r.1), (osl (eL eI) false r.2.1), (.bool r.2.2)])) (fun r => []) := Rn.o (e := (
  (f27 n0 l).bind fun o1 =>
  if ¬ (o1 = true) then
  sn 5 4 (osl eB true ([])) <| 
  sn 0 5 (osl (eL eI) true ([])) <| 
  some ([], [], false)
  else
  (app 24 ([]) l).bind fun l_4 =>
  sn 4 17 (osl (eL eI) false l_4) <| 
  sn 1 18 (.agg [(iT n0), (osl (eL eI) false l_4), (osl (eL eI) true ([])), (osl eB true ([]))]) <| 
  sn 2 7 (.ptr true [(iT n0), (osl (eL eI) false l_4), (osl (eL eI) false ([])), (osl eB true ([]))]) <| 
  sn 2 21 (osl eI true ([])) <| 
  sn 0 21 (ssl eI ([])) <| 
  (f36 64 ({ n := n0, l := l_4, proof := [], model := [] } : L22State) ([])).bind fun o6 =>
  if o6.1 = true then
  sn 8 5 (osl (eL eI) true ([])) <| 
  some (o6.2.model, [], true)
  else
  sn 8 4 (osl eB true ([])) <| 
  some ([], o6.2.proof, false) : Option ((List Bool) × (List (List Int)) × Bool))) rfl (by exact go)
instance : Io0 cx 17 := ⟨rfl⟩
instance i20_0 : Lp cx (f20_0 n1) 33 L20_0 (fun (zs : (List Int) × Int × Int × (List Int) × Int) => [(0, .v (.ptr true [(ssl eU zs.1), (iT zs.2.1), (iT zs.2.2.1)])), (1, .v (iT n1)), (5, .v (osl eI true zs.2.2.2.1)), (6, .v (iT zs.2.2.2.2))]) (QX 0 (fun (y : (List Int) × Int × Int × (List Int)) => [(0, .v (.ptr true [(ssl eU y.1), (iT y.2.1), (iT y.2.2.1)])), (5, .v (osl eI true y.2.2.2))])) := Lp.of (f := (fun
 | (c_1, c_2, c_3, s_4, v_5) =>
  if v_5 <= n1 then
  (f18 ({ b := c_1, i := c_2, h := c_3 } : L1Cur) 3).bind fun o7 =>
  (jn (QN (fun (y : (List Int) × Int × Int × (List Int)) => [(0, .v (.ptr true [(ssl eU y.1), (iT y.2.1), (iT y.2.2.1)])), (1, .v (iT n1)), (5, .v (osl eI true y.2.2.2)), (6, .v (iT v_5))])) ((if o7.1 = true then
  (f19 o7.2 2).bind fun o12 =>
  (app 8 s_4 ([w64 (v_5 * (w64 (1 - (w64 (2 * o12.1)))))])).bind fun l_14 =>
  some (o12.2.b, o12.2.i, o12.2.h, l_14)
  else
  some (o7.2.b, o7.2.i, o7.2.h, s_4)) : Option ((List Int) × Int × Int × (List Int)))).bind fun (c_16, c_17, c_18, s_19) =>
  some (.inl (c_16, c_17, c_18, s_19, w64 (v_5 + 1)))
  else
  some (.inr (c_1, c_2, c_3, s_4)) : (List Int) × Int × Int × (List Int) × Int -> Option (((List Int) × Int × Int × (List Int) × Int) ⊕ ((List Int) × Int × Int × (List Int))))) (by exact go)
instance i20 {c : L1Cur} : Rn cx (f20 c n1) 20 [(.ptr true [(ssl eU c.b), (iT c.i), (iT c.h)]), (iT n1)] (fun (r : (List Int) × L1Cur) => (osl eI true r.1)) (fun r => [(.ptr true [(ssl eU r.2.b), (iT r.2.i), (iT r.2.h)])]) := Rn.o (e := (
  sn 3 5 (osl eI true ([])) <| 
  (iter (f20_0 n1) (c.b, c.i, c.h, [], 1)).bind fun (c_22, c_23, c_24, s_25) =>
  (f18 ({ b := c_22, i := c_23, h := c_24 } : L1Cur) 14).bind fun o26 =>
  if o26.1 = true then
  sn 3 28 (osl eI true ([0, 7, -7])) <| 
  sn 0 28 (ssl eI ([0, 7, -7])) <| 
  (f35 o26.2 ([0, 7, -7])).bind fun o29 =>
  (app 8 s_25 ([o29.1])).bind fun l_31 =>
  some (l_31, o29.2)
  else
  some (s_25, o26.2) : Option ((List Int) × L1Cur))) rfl (by exact go)
instance i5 : Rn cx (f5 code) 5 [(ssl eU code)] (fun (r : Int × (List (List Int)) × (List (List Int))) => (.tup [(iT r.1), (ssl (eL eI) r.2.1), (ssl (eL eI) r.2.2)])) (fun r => []) := Rn.o (e := (
  (f15 code).bind fun o1 =>
  (f16 o1).bind fun o3 =>
  sn 5 7 (ssl (eL eI) o3.2.1) <| 
  (f17 o3.1 o3.2.1).bind fun o5 =>
  (jn (QN (fun (y : (List Int) × Int × Int × Bool) => [(5, .v (.ptr true [(ssl eU y.1), (iT y.2.1), (iT y.2.2.1)])), (6, .v (iT o3.1)), (7, .v (ssl (eL eI) o3.2.1)), (9, .v (osl (eL eI) false o5.2.1)), (32, .v (.bool y.2.2.2))])) ((if (o5.2.1.length : Int) > 0 then
  (f18 o3.2.2 3).bind fun o13 =>
  some (o13.2.b, o13.2.i, o13.2.h, o13.1)
  else
  some (o3.2.2.b, o3.2.2.i, o3.2.2.h, false)) : Option ((List Int) × Int × Int × Bool))).bind fun (c_7, c_8, c_9, x_10) =>
  (jn (QN (fun (y : (List (List Int))) => [(6, .v (iT o3.1)), (7, .v (ssl (eL eI) o3.2.1)), (9, .v (ssl (eL eI) y))])) ((if x_10 = true then
  (f19 ({ b := c_7, i := c_8, h := c_9 } : L1Cur) (o5.2.1.length : Int)).bind fun o18 =>
  (f18 o18.2 2).bind fun o20 =>
  (jn (QN (fun (y : (List (List Int))) => [(6, .v (iT o3.1)), (7, .v (ssl (eL eI) o3.2.1)), (9, .v (ssl (eL eI) y))])) ((if o20.1 = true then
  (f20 o20.2 o3.1).bind fun o25 =>
  sn 0 43 (ssl eI o25.1) <| 
  (ix o5.2.1 o18.1).bind fun v_27 =>
  some (o5.2.1.set o18.1.toNat o25.1)
  else
  (dlk 24 o5.2.1 o18.1).bind fun z_30 =>
  dl 2 <| 
  some (o5.2.1.eraseIdx o18.1.toNat)) : Option (List (List Int)))).bind fun p_32 =>
  some p_32
  else
  some o5.2.1) : Option (List (List Int)))).bind fun p_33 =>
  some (o3.1, o3.2.1, p_33) : Option (Int × (List (List Int)) × (List (List Int))))) rfl (by exact go)
instance : Io0 cx 5 := ⟨rfl⟩
instance i38 : Rn cx (f38 n0 low high) 38 [(iT n0), (iT low), (iT high)] (fun (r : Bool) => (.bool r)) (fun r => []) := Rn.o (e := (
  (jn (QN (fun (y : Bool) => [(6, .v (.bool y))])) ((if low <= n0 then
  some (decide (n0 <= high))
  else
  some false) : Option (Bool))).bind fun x_1 =>
  some x_1 : Option Bool)) rfl (by exact go)
instance : Io0 cx 38 := ⟨rfl⟩
instance i57_0 {s0 : (List (List Int))} {g_f : Nat} {cp_f : List T} {f : (List Int) -> Option Bool} [hp_f : ∀ x0, Rn cx (f x0) g_f ((ssl eI x0) :: cp_f) (fun o => (.bool o)) (fun _ => [])] [Io0 cx g_f] : Lp cx (f57_0 s0 f) 19 L57_0 (fun (zs : Int) => [(0, .v (ssl (eL eI) s0)), (1, .v (.fn g_f cp_f)), (7, .v (iT (s0.length : Int))), (8, .v (iT zs))]) (QO (QX 0 (fun (y : Unit) => [])) (QR (fun (y : Int) => [(4, .v (iT y))]))) := Lp.of (by unfold f57_0; exact go)
instance i57 {s0 : (List (List Int))} {g_f : Nat} {cp_f : List T} {f : (List Int) -> Option Bool} [hp_f : ∀ x0, Rn cx (f x0) g_f ((ssl eI x0) :: cp_f) (fun o => (.bool o)) (fun _ => [])] [Io0 cx g_f] : Rn cx (f57 s0 f) 57 [(ssl (eL eI) s0), (.fn g_f cp_f)] (fun (r : Int) => (iT r)) (fun r => []) := Rn.o rfl (by unfold f57; exact go)
instance : Io0 cx 57 := ⟨rfl⟩
instance i39 {s0 : (List (List Int))} {g_f : Nat} {cp_f : List T} {f : (List Int) -> Option Bool} [hp_f : ∀ x0, Rn cx (f x0) g_f ((ssl eI x0) :: cp_f) (fun o => (.bool o)) (fun _ => [])] [Io0 cx g_f] : Rn cx (f39 s0 f) 39 [(ssl (eL eI) s0), (.fn g_f cp_f)] (fun (r : Bool) => (.bool r)) (fun r => []) := Rn.o rfl (by unfold f39; exact go)
instance : Io0 cx 39 := ⟨rfl⟩
instance i59_0 : Lp cx (f59_0 s0 v) 19 L59_0 (fun (zs : Int) => [(0, .v (ssl eI s0)), (1, .v (iT v)), (7, .v (iT (s0.length : Int))), (8, .v (iT zs))]) (QO (QX 0 (fun (y : Unit) => [])) (QR (fun (y : Int) => [(4, .v (iT y))]))) := Lp.of (by unfold f59_0; exact go)
instance i59 : Rn cx (f59 s0 v) 59 [(ssl eI s0), (iT v)] (fun (r : Int) => (iT r)) (fun r => []) := Rn.o rfl (by unfold f59; exact go)
instance : Io0 cx 59 := ⟨rfl⟩
instance i44 : Rn cx (f44 s0 v) 44 [(ssl eI s0), (iT v)] (fun (r : Bool) => (.bool r)) (fun r => []) := Rn.o rfl (by unfold f44; exact go)
instance : Io0 cx 44 := ⟨rfl⟩
instance i41_0 : Lp cx (f41_0 n0 clause) 40 L41_0 (fun (zs : Int) => [(0, .v (iT n0)), (1, .v (ssl eI clause)), (7, .v (ssl eI clause)), (8, .v (iT (clause.length : Int))), (9, .v (iT zs))]) (QO (QX 0 (fun (y : Unit) => [])) (QR (fun (y : Bool) => [(4, .v (.bool y))]))) := Lp.of (f := (fun
 | x_1 =>
  if x_1 < (clause.length : Int) then
  (ix clause x_1).bind fun v_3 =>
  (jn (QN (fun (y : Bool) => [(0, .v (iT n0)), (1, .v (ssl eI clause)), (7, .v (ssl eI clause)), (8, .v (iT (clause.length : Int))), (9, .v (iT x_1)), (38, .v (.bool y))])) ((if v_3 = 0 then
  some true
  else
  (f38 v_3 (w64 (-n0)) n0).bind fun o8 =>
  (jn (QN (fun (y : Bool) => [(0, .v (iT n0)), (1, .v (ssl eI clause)), (7, .v (ssl eI clause)), (8, .v (iT (clause.length : Int))), (9, .v (iT x_1)), (38, .v (.bool y))])) ((if ¬ (o8 = true) then
  some true
  else
  (cutL clause 0 x_1).bind fun l_13 =>
  (f44 l_13 v_3).bind fun o15 =>
  (jn (QN (fun (y : Bool) => [(0, .v (iT n0)), (1, .v (ssl eI clause)), (7, .v (ssl eI clause)), (8, .v (iT (clause.length : Int))), (9, .v (iT x_1)), (38, .v (.bool y))])) ((if o15 = true then
  some true
  else
  (f44 l_13 (w64 (-v_3))).bind fun o20 =>
  some o20) : Option (Bool))).bind fun x_17 =>
  some x_17) : Option (Bool))).bind fun x_10 =>
  some x_10) : Option (Bool))).bind fun x_5 =>
  if x_5 = true then
  some (.inr (.inr false))
  else
  some (.inl (w64 (x_1 + 1)))
  else
  some (.inr (.inl ())) : Int -> Option (Int ⊕ (Unit ⊕ Bool)))) (by exact go)
instance i41 : Rn cx (f41 n0 clause) 41 [(iT n0), (ssl eI clause)] (fun (r : Bool) => (.bool r)) (fun r => []) := Rn.o rfl (by unfold f41; exact go)
instance : Io0 cx 41 := ⟨rfl⟩
instance i40 {c : Int} : Rn cx (f40 clause c) 40 [(ssl eI clause), (.ptr false [(iT c)])] (fun (r : Bool) => (.bool r)) (fun r => []) := Rn.o rfl (by unfold f40; exact go)
instance : Io0 cx 40 := ⟨rfl⟩
instance i22 : Rn cx (f22 n0 clauses) 22 [(iT n0), (ssl (eL eI) clauses)] (fun (r : Bool) => (.bool r)) (fun r => []) := Rn.o (e := (
  (f38 n0 0 14).bind fun o1 =>
  (jn (QN (fun (y : Bool) => [(4, .v (.bool y))])) ((if o1 = true then
  (f39 clauses (fun x0 => f40 x0 n0)).bind fun o6 =>
  some (decide (¬ (o6 = true)))
  else
  some false) : Option (Bool))).bind fun x_3 =>
  some x_3 : Option Bool)) rfl (by exact go)
instance : Io0 cx 22 := ⟨rfl⟩
instance i21 : Rn cx (f21 n0 clauses) 21 [(iT n0), (ssl (eL eI) clauses)] (fun (r : Bool) => (.bool r)) (fun r => []) := Rn.o (e := (
  (jn (QN (fun (y : Bool) => [(4, .v (.bool y))])) ((if (clauses.length : Int) <= 400 then
  (f22 n0 clauses).bind fun o4 =>
  some o4
  else
  some false) : Option (Bool))).bind fun x_1 =>
  some x_1 : Option Bool)) rfl (by exact go)
instance : Io0 cx 21 := ⟨rfl⟩
theorem r23 {s0 : (List (List Int))} {r : (List (List Int))} (h : f23 s0 = some r) : VJx cx (.ca 23 [(ssl (eL eI) s0)] (osl (eL eI) false r) []) := by
 unfold f23 at h
 refine ca_clone (X := noExt) (fun _ _ _ _ h => h) (fun _ _ _ _ h => h) rfl (by decide) rfl (cl_eq h) ?_
 refine Wc.start (V1 := [(0, .v (ssl (eL eI) s0))]) (by simp) ?_
 refine Wc.seq ?_
 obtain ⟨l_1, h2, h⟩ := bind_some h
 have gx2 := appT_arr (E := (eL eI)) (b := false) (y := false) h2 (by decide)
 simp [-aI_app1, -aI_app0, -aB_app0, -aS_app0, -aL_app0, -aLt_app1I, -aLf_app1I, -aLt_app10I, -aLf_app10I] at gx2
 refine Wc.evs (by conv => lhs; simp [-aI_app1, -aI_app0, -aB_app0, -aS_app0, -aL_app0, -aI_app10, -aB_app10, -aS_app10, -aLt_app10I, -aLf_app10I, -aLt_app1I, -aLf_app1I, gx2, h2]) ?_
 refine Wo.gh (vle_co (s := 2) (t1 := (osl (eL eI) false l_1)) rfl (by simp) (tle_own rfl) (by conv => lhs; simp)) ?_
 refine Wo.nil ?_
 refine Wc.ret (res_of (.inr rfl) ?_)
 cases h
 exact ⟨_, _, _, by conv => lhs; simp, by (conv => lhs; simp [cx, ioTab, List.range, List.range.loop]) <;> rfl, by first | rfl | simp [-aI_app1, -aI_app0, -aB_app0, -aS_app0, -aL_app0, -aI_app10, -aB_app10, -aS_app10, -aLt_app10I, -aLf_app10I, -aLt_app1I, -aLf_app1I, gx2, h2]⟩
instance i23 {s0 : (List (List Int))} : Rn cx (f23 s0) 23 [(ssl (eL eI) s0)] (fun (r : (List (List Int))) => (osl (eL eI) false r)) (fun r => []) := ⟨fun _ h => r23 h⟩
instance : Io0 cx 23 := ⟨rfl⟩
instance i25_0 : Lp cx (f25_0 literals) 20 L25_0 (fun (zs : (List Int) × Int) => [(3, .v (osl eI true zs.1)), (7, .v (ssl eI literals)), (8, .v (iT (literals.length : Int))), (9, .v (iT zs.2))]) (QX 0 (fun (y : (List Int)) => [(3, .v (osl eI true y))])) := Lp.of (by unfold f25_0; exact go)
instance i25 : Rn cx (f25 literals) 25 [(ssl eI literals)] (fun (r : (List Int)) => (osl eI true r)) (fun r => []) := Rn.o (e := (
  sn 3 3 (osl eI true ([])) <| 
  (iter (f25_0 literals) ([], 0)).bind fun out_10 =>
  some out_10 : Option (List Int))) rfl (by exact go)
instance : Io0 cx 25 := ⟨rfl⟩
instance i58_0 {s0 : (List Int)} {g_f : Nat} {cp_f : List T} {f : Int -> Option Bool} [hp_f : ∀ x0, Rn cx (f x0) g_f ((iT x0) :: cp_f) (fun o => (.bool o)) (fun _ => [])] [Io0 cx g_f] : Lp cx (f58_0 s0 f) 19 L58_0 (fun (zs : Int) => [(0, .v (ssl eI s0)), (1, .v (.fn g_f cp_f)), (7, .v (iT (s0.length : Int))), (8, .v (iT zs))]) (QO (QX 0 (fun (y : Unit) => [])) (QR (fun (y : Int) => [(4, .v (iT y))]))) := Lp.of (by unfold f58_0; exact go)
instance i58 {s0 : (List Int)} {g_f : Nat} {cp_f : List T} {f : Int -> Option Bool} [hp_f : ∀ x0, Rn cx (f x0) g_f ((iT x0) :: cp_f) (fun o => (.bool o)) (fun _ => [])] [Io0 cx g_f] : Rn cx (f58 s0 f) 58 [(ssl eI s0), (.fn g_f cp_f)] (fun (r : Int) => (iT r)) (fun r => []) := Rn.o rfl (by unfold f58; exact go)
instance : Io0 cx 58 := ⟨rfl⟩
instance i42 {s0 : (List Int)} {g_f : Nat} {cp_f : List T} {f : Int -> Option Bool} [hp_f : ∀ x0, Rn cx (f x0) g_f ((iT x0) :: cp_f) (fun o => (.bool o)) (fun _ => [])] [Io0 cx g_f] : Rn cx (f42 s0 f) 42 [(ssl eI s0), (.fn g_f cp_f)] (fun (r : Bool) => (.bool r)) (fun r => []) := Rn.o rfl (by unfold f42; exact go)
instance : Io0 cx 42 := ⟨rfl⟩
instance i43 : Rn cx (f43 x c) 43 [(iT x), (.ptr false [(.sl false false 1 0 (arr eI false c))])] (fun (r : Bool) => (.bool r)) (fun r => []) := Rn.o (e := (
  sn 3 4 (ssl eI c) <| 
  (f44 c x).bind fun o1 =>
  some o1 : Option Bool)) rfl (by exact go)
instance : Io0 cx 43 := ⟨rfl⟩
instance i45_0 : Lp cx (f45_0 a b) 25 L45_0 (fun (zs : (List Int) × Int) => [(1, .v (ssl eI b)), (5, .v (osl eI true zs.1)), (9, .v (ssl eI a)), (10, .v (iT (a.length : Int))), (11, .v (iT zs.2))]) (QX 0 (fun (y : (List Int)) => [(5, .v (osl eI true y))])) := Lp.of (f := (fun
 | (out_1, x_2) =>
  if x_2 < (a.length : Int) then
  (ix a x_2).bind fun v_4 =>
  (f44 b v_4).bind fun o6 =>
  (jn (QN (fun (y : (List Int)) => [(1, .v (ssl eI b)), (5, .v (osl eI true y)), (9, .v (ssl eI a)), (10, .v (iT (a.length : Int))), (11, .v (iT x_2))])) ((if ¬ (o6 = true) then
  (app 8 out_1 ([v_4])).bind fun l_11 =>
  some l_11
  else
  some out_1) : Option (List Int))).bind fun out_13 =>
  some (.inl (out_13, w64 (x_2 + 1)))
  else
  some (.inr out_1) : (List Int) × Int -> Option (((List Int) × Int) ⊕ (List Int)))) (by exact go)
instance i45 : Rn cx (f45 a b) 45 [(ssl eI a), (ssl eI b)] (fun (r : (List Int)) => (osl eI true r)) (fun r => []) := Rn.o (e := (
  sn 3 5 (osl eI true ([])) <| 
  (iter (f45_0 a b) ([], 0)).bind fun out_16 =>
  some out_16 : Option (List Int))) rfl (by exact go)
instance : Io0 cx 45 := ⟨rfl⟩
end
end Go.Proofs.YtbpdhmbdpjafeaaDoorH
