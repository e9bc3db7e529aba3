import Derived.Test.YtjfeimhiiomgoaaCx1
import Derived.Test.YtjfeimhiiomgoaaX3
import Derived.Test.YtjfeimhiiomgoaaTd1
set_option maxHeartbeats 2000000
set_option linter.unusedVariables false
set_option linter.unusedSimpArgs false
set_option linter.defProp false
set_option linter.unusedSectionVars false
set_option maxRecDepth 100000
namespace Go.Proofs.YtjfeimhiiomgoaaH
open Go
noncomputable section
variable {o1 : (Int × L1Cur)} {slices : (List (List (List Int)))} {clauses l proof : (List (List Int))} {m model : (List Bool)} {a b c clause code literals s0 set1 : (List Int)} {high i_1 low n0 n1 v x : Int}
abbrev iT (n : Int) : T := .int .i64 n
instance : Cl cx := ⟨fun j h => vsound (fun _ _ _ _ h => h) h, fun f ts t outs h => .ext h⟩
@[simp high] theorem ioz {f : Nat} [h : Io0 cx f] : ioTab f = [] := h.io
@[simp] theorem ioz27 : ioTab 27 = [0] := rfl
@[simp] theorem ioz28 : ioTab 28 = [0] := rfl
@[simp] theorem ioz48 : ioTab 48 = [0] := rfl
@[simp] theorem ioz51 : ioTab 51 = [0] := rfl
@[simp] theorem ioz54 : ioTab 54 = [0] := rfl
@[simp] theorem ioz64 : ioTab 64 = [0] := rfl
@[simp] theorem ioz65 : ioTab 65 = [0] := rfl
@[simp] theorem ioz66 : ioTab 66 = [0] := rfl
@[simp] theorem ioz69 : ioTab 69 = [0] := rfl
instance i5 : Rn cx (f5 code) 5 [(ssl eU code)] (fun (r : Bool) => (.bool r)) (fun r => []) := Rn.o rfl (by unfold f5; exact go)
instance : Io0 cx 5 := ⟨rfl⟩
instance i49_0 : Lp cx (f49_0 code) 32 L49_0 (fun (zs : Int × Int) => [(0, .v (ssl eU code)), (3, .v (iT zs.1)), (4, .v (iT zs.2))]) (QX 0 (fun (y : Int) => [(0, .v (ssl eU code)), (3, .v (iT y))])) := Lp.of (f := (fun
 | (h_1, i_2) =>
  (jn (QN (fun (y : Bool) => [(0, .v (ssl eU code)), (3, .v (iT h_1)), (4, .v (iT i_2)), (15, .v (.bool y))])) ((if i_2 < (code.length : Int) then
  some (decide (i_2 < 4000))
  else
  some false) : Option (Bool))).bind fun x_3 =>
  if x_3 = true then
  (ix code i_2).bind fun v_7 =>
  some (.inl (band .i64 (w64 ((w64 ((w64 (h_1 * 131)) + (w64 v_7))) + 7)) 1073741823, w64 (i_2 + 1)))
  else
  some (.inr h_1) : Int × Int -> Option ((Int × Int) ⊕ Int))) (by exact go)
instance i49 : Rn cx (f49 code) 49 [(ssl eU code)] (fun (r : L1Cur) => (.ptr true [(ssl eU r.b), (iT r.i), (iT r.h)])) (fun r => []) := Rn.o rfl (by unfold f49; exact go)
instance : Io0 cx 49 := ⟨rfl⟩
instance i69 {c : L1Cur} : Rn cx (f69 c) 69 [(.ptr true [(ssl eU c.b), (iT c.i), (iT c.h)])] (fun (r : Int × L1Cur) => (iT r.1)) (fun r => [(.ptr true [(ssl eU r.2.b), (iT r.2.i), (iT r.2.h)])]) := Rn.o (e := (
  (jn (QN (fun (y : Int × Int) => [(0, .v (.ptr true [(ssl eU c.b), (iT y.1), (iT (w64 ((w64 (c.h * 6364136223846793005)) + 1442695040888963407)))])), (3, .v (iT y.2))])) ((if c.i < (c.b.length : Int) then
  (ix c.b c.i).bind fun v_4 =>
  some (w64 (c.i + 1), band .i64 (w64 ((band .i64 (bxor .i64 (sshr .i64 (w64 ((w64 (c.h * 6364136223846793005)) + 1442695040888963407)) 33) (sshr .i64 (w64 ((w64 (c.h * 6364136223846793005)) + 1442695040888963407)) 45)) 255) + (w64 v_4))) 255)
  else
  some (c.i, band .i64 (bxor .i64 (sshr .i64 (w64 ((w64 (c.h * 6364136223846793005)) + 1442695040888963407)) 33) (sshr .i64 (w64 ((w64 (c.h * 6364136223846793005)) + 1442695040888963407)) 45)) 255)) : Option (Int × Int))).bind fun (c_6, x_7) =>
  some (x_7, ({ b := c.b, i := c_6, h := w64 ((w64 (c.h * 6364136223846793005)) + 1442695040888963407) } : L1Cur)) : Option (Int × L1Cur))) rfl (by exact go)
instance i64 {c : L1Cur} : Rn cx (f64 c n1) 64 [(.ptr true [(ssl eU c.b), (iT c.i), (iT c.h)]), (iT n1)] (fun (r : Int × L1Cur) => (iT r.1)) (fun r => [(.ptr true [(ssl eU r.2.b), (iT r.2.i), (iT r.2.h)])]) := Rn.o rfl (by unfold f64; exact go)
instance i65 {c : L1Cur} : Rn cx (f65 c n1) 65 [(.ptr true [(ssl eU c.b), (iT c.i), (iT c.h)]), (iT n1)] (fun (r : Bool × L1Cur) => (.bool r.1)) (fun r => [(.ptr true [(ssl eU r.2.b), (iT r.2.i), (iT r.2.h)])]) := Rn.o rfl (by unfold f65; exact go)
instance i66 {c : L1Cur} {list : (List Int)} : Rn cx (f66 c list) 66 [(.ptr true [(ssl eU c.b), (iT c.i), (iT c.h)]), (ssl eI list)] (fun (r : Int × L1Cur) => (iT r.1)) (fun r => [(.ptr true [(ssl eU r.2.b), (iT r.2.i), (iT r.2.h)])]) := Rn.o rfl (by unfold f66; exact go)
instance i48_1 {l_8 : (List (List Int))} {k_9 : Int} : Lp cx (lw (l_8, k_9) (f48_1 o1)) 64 L48_1 (fun (zs : (List Int) × Int × Int × (List Int) × Int) => [(0, .v (.ptr true [(ssl eU zs.1), (iT zs.2.1), (iT zs.2.2.1)])), (4, .v (iT (w64 (1 + o1.1)))), (5, .v (osl (eL eI) true l_8)), (6, .v (iT k_9)), (7, .v (osl eI true zs.2.2.2.1)), (8, .v (iT zs.2.2.2.2))]) (QX 2 (fun (y : (List Int) × Int × Int × (List Int)) => [(0, .v (.ptr true [(ssl eU y.1), (iT y.2.1), (iT y.2.2.1)])), (4, .v (iT (w64 (1 + o1.1)))), (5, .v (osl (eL eI) true l_8)), (6, .v (iT k_9)), (7, .v (osl eI true y.2.2.2))])) := Lp.of (f := (fun
 | (c_11, c_12, c_13, x_14, v_15) =>
  if v_15 <= (w64 (1 + o1.1)) then
  (f65 ({ b := c_11, i := c_12, h := c_13 } : L1Cur) 2).bind fun o17 =>
  (jn (QN (fun (y : Bool) => [(0, .v (.ptr true [(ssl eU o17.2.b), (iT o17.2.i), (iT o17.2.h)])), (4, .v (iT (w64 (1 + o1.1)))), (5, .v (osl (eL eI) true l_8)), (6, .v (iT k_9)), (7, .v (osl eI true x_14)), (8, .v (iT v_15)), (31, .v (.bool y))])) ((if o17.1 = true then
  some (decide ((x_14.length : Int) < 3))
  else
  some false) : Option (Bool))).bind fun x_19 =>
  (jn (QN (fun (y : (List Int) × Int × Int × (List Int)) => [(0, .v (.ptr true [(ssl eU y.1), (iT y.2.1), (iT y.2.2.1)])), (4, .v (iT (w64 (1 + o1.1)))), (5, .v (osl (eL eI) true l_8)), (6, .v (iT k_9)), (7, .v (osl eI true y.2.2.2)), (8, .v (iT v_15))])) ((if x_19 = true then
  (f64 o17.2 2).bind fun o25 =>
  (app 8 x_14 ([w64 (v_15 * (w64 (1 - (w64 (2 * o25.1)))))])).bind fun l_27 =>
  some (o25.2.b, o25.2.i, o25.2.h, l_27)
  else
  some (o17.2.b, o17.2.i, o17.2.h, x_14)) : Option ((List Int) × Int × Int × (List Int)))).bind fun (c_29, c_30, c_31, x_32) =>
  some (.inl (c_29, c_30, c_31, x_32, w64 (v_15 + 1)))
  else
  some (.inr (c_11, c_12, c_13, x_14)) : (List Int) × Int × Int × (List Int) × Int -> Option (((List Int) × Int × Int × (List Int) × Int) ⊕ ((List Int) × Int × Int × (List Int))))) (by exact go)
instance i48_0 : Lp cx (f48_0 o1) 64 L48_0 (fun (zs : (List Int) × Int × Int × (List (List Int)) × Int) => [(0, .v (.ptr true [(ssl eU zs.1), (iT zs.2.1), (iT zs.2.2.1)])), (4, .v (iT (w64 (1 + o1.1)))), (5, .v (osl (eL eI) true zs.2.2.2.1)), (6, .v (iT zs.2.2.2.2))]) (QX 0 (fun (y : (List Int) × Int × Int × (List (List Int))) => [(0, .v (.ptr true [(ssl eU y.1), (iT y.2.1), (iT y.2.2.1)])), (4, .v (iT (w64 (1 + o1.1)))), (5, .v (osl (eL eI) true y.2.2.2))])) := Lp.of (f := (fun
 | (c_5, c_6, c_7, l_8, k_9) =>
  if k_9 > 0 then
  sn 2 7 (osl eI true ([])) <| 
  (iter (lw (l_8, k_9)  (f48_1 o1)) (c_5, c_6, c_7, [], 1)).bind fun (c_35, c_36, c_37, x_38) =>
  (app 24 l_8 ([x_38])).bind fun l_39 =>
  some (.inl (c_35, c_36, c_37, l_39, w64 (k_9 - 1)))
  else
  some (.inr (c_5, c_6, c_7, l_8)) : (List Int) × Int × Int × (List (List Int)) × Int -> Option (((List Int) × Int × Int × (List (List Int)) × Int) ⊕ ((List Int) × Int × Int × (List (List Int)))))) (by exact go)
instance i48 {c : L1Cur} : Rn cx (f48 c) 48 [(.ptr true [(ssl eU c.b), (iT c.i), (iT c.h)])] (fun (r : Int × (List (List Int)) × L1Cur) => (.tup [(iT r.1), (osl (eL eI) true r.2.1)])) (fun r => [(.ptr true [(ssl eU r.2.2.b), (iT r.2.2.i), (iT r.2.2.h)])]) := Rn.o (e := (
  (f64 c 5).bind fun o1 =>
  sn 4 5 (osl (eL eI) true ([])) <| 
  (f64 o1.2 11).bind fun o3 =>
  (iter (f48_0 o1) (o3.2.b, o3.2.i, o3.2.h, [], o3.1)).bind fun (c_43, c_44, c_45, l_46) =>
  (jn (QN (fun (y : (List Int) × Int × Int × Bool) => [(0, .v (.ptr true [(ssl eU y.1), (iT y.2.1), (iT y.2.2.1)])), (4, .v (iT (w64 (1 + o1.1)))), (5, .v (osl (eL eI) true l_46)), (51, .v (.bool y.2.2.2))])) ((if (l_46.length : Int) > 0 then
  (f65 ({ b := c_43, i := c_44, h := c_45 } : L1Cur) 14).bind fun o53 =>
  some (o53.2.b, o53.2.i, o53.2.h, o53.1)
  else
  some (c_43, c_44, c_45, false)) : Option ((List Int) × Int × Int × Bool))).bind fun (c_47, c_48, c_49, x_50) =>
  (jn (QN (fun (y : (List Int) × Int × Int × (List (List Int))) => [(0, .v (.ptr true [(ssl eU y.1), (iT y.2.1), (iT y.2.2.1)])), (4, .v (iT (w64 (1 + o1.1)))), (5, .v (osl (eL eI) true y.2.2.2))])) ((if x_50 = true then
  (ix l_46 0).bind fun v_58 =>
  sn 6 57 (osl eI true ([0, 6, -7, 1, -9223372036854775808])) <| 
  sn 0 57 (ssl eI ([0, 6, -7, 1, -9223372036854775808])) <| 
  (f66 ({ b := c_47, i := c_48, h := c_49 } : L1Cur) ([0, 6, -7, 1, -9223372036854775808])).bind fun o60 =>
  (app 8 v_58 ([o60.1])).bind fun l_62 =>
  some (o60.2.b, o60.2.i, o60.2.h, (l_46.set (0 : Int).toNat l_62))
  else
  some (c_47, c_48, c_49, l_46)) : Option ((List Int) × Int × Int × (List (List Int))))).bind fun (c_65, c_66, c_67, l_68) =>
  some (w64 (1 + o1.1), l_68, ({ b := c_65, i := c_66, h := c_67 } : L1Cur)) : Option (Int × (List (List Int)) × L1Cur))) rfl (by exact go)
instance i25 : Rn cx (f25 code) 25 [(ssl eU code)] (fun (r : Int × (List (List Int))) => (.tup [(iT r.1), (osl (eL eI) true r.2)])) (fun r => []) := Rn.o rfl (by unfold f25; exact go)
instance : Io0 cx 25 := ⟨rfl⟩
instance i6 : Rn cx (f6 code) 6 [(ssl eU code)] (fun (r : Int × (List (List Int))) => (.tup [(iT r.1), (osl (eL eI) true r.2)])) (fun r => []) := Rn.o rfl (by unfold f6; exact go)
instance : Io0 cx 6 := ⟨rfl⟩
instance i58 : Rn cx (f58 n0 low high) 58 [(iT n0), (iT low), (iT high)] (fun (r : Bool) => (.bool r)) (fun r => []) := Rn.o (e := (
  (jn (QN (fun (y : Bool) => [(6, .v (.bool y))])) ((if low <= n0 then
  some (decide (n0 <= high))
  else
  some false) : Option (Bool))).bind fun x_1 =>
  some x_1 : Option Bool)) rfl (by exact go)
instance : Io0 cx 58 := ⟨rfl⟩
instance i56_0 {s0 : (List (List Int))} {g_f : Nat} {cp_f : List T} {f : (List Int) -> Option Bool} [hp_f : ∀ x0, Rn cx (f x0) g_f ((ssl eI x0) :: cp_f) (fun o => (.bool o)) (fun _ => [])] [Io0 cx g_f] : Lp cx (f56_0 s0 f) 19 L56_0 (fun (zs : Int) => [(0, .v (ssl (eL eI) s0)), (1, .v (.fn g_f cp_f)), (7, .v (iT (s0.length : Int))), (8, .v (iT zs))]) (QO (QX 0 (fun (y : Unit) => [])) (QR (fun (y : Int) => [(4, .v (iT y))]))) := Lp.of (by unfold f56_0; exact go)
instance i56 {s0 : (List (List Int))} {g_f : Nat} {cp_f : List T} {f : (List Int) -> Option Bool} [hp_f : ∀ x0, Rn cx (f x0) g_f ((ssl eI x0) :: cp_f) (fun o => (.bool o)) (fun _ => [])] [Io0 cx g_f] : Rn cx (f56 s0 f) 56 [(ssl (eL eI) s0), (.fn g_f cp_f)] (fun (r : Int) => (iT r)) (fun r => []) := Rn.o rfl (by unfold f56; exact go)
instance : Io0 cx 56 := ⟨rfl⟩
instance i32 {s0 : (List (List Int))} {g_f : Nat} {cp_f : List T} {f : (List Int) -> Option Bool} [hp_f : ∀ x0, Rn cx (f x0) g_f ((ssl eI x0) :: cp_f) (fun o => (.bool o)) (fun _ => [])] [Io0 cx g_f] : Rn cx (f32 s0 f) 32 [(ssl (eL eI) s0), (.fn g_f cp_f)] (fun (r : Bool) => (.bool r)) (fun r => []) := Rn.o rfl (by unfold f32; exact go)
instance : Io0 cx 32 := ⟨rfl⟩
instance i68_0 : Lp cx (f68_0 s0 v) 19 L68_0 (fun (zs : Int) => [(0, .v (ssl eI s0)), (1, .v (iT v)), (7, .v (iT (s0.length : Int))), (8, .v (iT zs))]) (QO (QX 0 (fun (y : Unit) => [])) (QR (fun (y : Int) => [(4, .v (iT y))]))) := Lp.of (by unfold f68_0; exact go)
instance i68 : Rn cx (f68 s0 v) 68 [(ssl eI s0), (iT v)] (fun (r : Int) => (iT r)) (fun r => []) := Rn.o rfl (by unfold f68; exact go)
instance : Io0 cx 68 := ⟨rfl⟩
instance i52 : Rn cx (f52 s0 v) 52 [(ssl eI s0), (iT v)] (fun (r : Bool) => (.bool r)) (fun r => []) := Rn.o rfl (by unfold f52; exact go)
instance : Io0 cx 52 := ⟨rfl⟩
instance i60_0 : Lp cx (f60_0 n0 clause) 40 L60_0 (fun (zs : Int) => [(0, .v (iT n0)), (1, .v (ssl eI clause)), (7, .v (ssl eI clause)), (8, .v (iT (clause.length : Int))), (9, .v (iT zs))]) (QO (QX 0 (fun (y : Unit) => [])) (QR (fun (y : Bool) => [(4, .v (.bool y))]))) := Lp.of (f := (fun
 | x_1 =>
  if x_1 < (clause.length : Int) then
  (ix clause x_1).bind fun v_3 =>
  (jn (QN (fun (y : Bool) => [(0, .v (iT n0)), (1, .v (ssl eI clause)), (7, .v (ssl eI clause)), (8, .v (iT (clause.length : Int))), (9, .v (iT x_1)), (38, .v (.bool y))])) ((if v_3 = 0 then
  some true
  else
  (f58 v_3 (w64 (-n0)) n0).bind fun o8 =>
  (jn (QN (fun (y : Bool) => [(0, .v (iT n0)), (1, .v (ssl eI clause)), (7, .v (ssl eI clause)), (8, .v (iT (clause.length : Int))), (9, .v (iT x_1)), (38, .v (.bool y))])) ((if ¬ (o8 = true) then
  some true
  else
  (cutL clause 0 x_1).bind fun l_13 =>
  (f52 l_13 v_3).bind fun o15 =>
  (jn (QN (fun (y : Bool) => [(0, .v (iT n0)), (1, .v (ssl eI clause)), (7, .v (ssl eI clause)), (8, .v (iT (clause.length : Int))), (9, .v (iT x_1)), (38, .v (.bool y))])) ((if o15 = true then
  some true
  else
  (f52 l_13 (w64 (-v_3))).bind fun o20 =>
  some o20) : Option (Bool))).bind fun x_17 =>
  some x_17) : Option (Bool))).bind fun x_10 =>
  some x_10) : Option (Bool))).bind fun x_5 =>
  if x_5 = true then
  some (.inr (.inr false))
  else
  some (.inl (w64 (x_1 + 1)))
  else
  some (.inr (.inl ())) : Int -> Option (Int ⊕ (Unit ⊕ Bool)))) (by exact go)
instance i60 : Rn cx (f60 n0 clause) 60 [(iT n0), (ssl eI clause)] (fun (r : Bool) => (.bool r)) (fun r => []) := Rn.o rfl (by unfold f60; exact go)
instance : Io0 cx 60 := ⟨rfl⟩
instance i59 {c : Int} : Rn cx (f59 clause c) 59 [(ssl eI clause), (.ptr false [(iT c)])] (fun (r : Bool) => (.bool r)) (fun r => []) := Rn.o rfl (by unfold f59; exact go)
instance : Io0 cx 59 := ⟨rfl⟩
instance i37 : Rn cx (f37 n0 clauses) 37 [(iT n0), (ssl (eL eI) clauses)] (fun (r : Bool) => (.bool r)) (fun r => []) := Rn.o (e := (
  (f58 n0 0 14).bind fun o1 =>
  (jn (QN (fun (y : Bool) => [(4, .v (.bool y))])) ((if o1 = true then
  (f32 clauses (fun x0 => f59 x0 n0)).bind fun o6 =>
  some (decide (¬ (o6 = true)))
  else
  some false) : Option (Bool))).bind fun x_3 =>
  some x_3 : Option Bool)) rfl (by exact go)
instance : Io0 cx 37 := ⟨rfl⟩
instance i26 : Rn cx (f26 n0 clauses) 26 [(iT n0), (ssl (eL eI) clauses)] (fun (r : Bool) => (.bool r)) (fun r => []) := Rn.o (e := (
  (jn (QN (fun (y : Bool) => [(4, .v (.bool y))])) ((if (clauses.length : Int) <= 400 then
  (f37 n0 clauses).bind fun o4 =>
  some o4
  else
  some false) : Option (Bool))).bind fun x_1 =>
  some x_1 : Option Bool)) rfl (by exact go)
instance : Io0 cx 26 := ⟨rfl⟩
theorem r67 {n : Int} {r : Nat} (h : f67 n = some r) : VJx cx (.ca 67 [.nils, .int .i64 n] (.sl true true 1 r []) []) := by
 exact ca_grow (zs := [.nils]) (zt := [.nils]) rfl rfl rfl rfl (by decide) (by decide) h
instance i67 {n : Int} : Rn cx (f67 n) 67 [.nils, .int .i64 n] (fun r => .sl true true 1 r []) (fun _ => []) := ⟨fun _ h => r67 h⟩
instance i50_0 : Lp cx (f50_0 slices) 36 L50_0 (fun (zs : Int × Int) => [(0, .v (ssl (eL (eL eI)) slices)), (3, .v (iT zs.1)), (9, .v (ssl (eL (eL eI)) slices)), (10, .v (iT (slices.length : Int))), (11, .v (iT zs.2))]) (QX 0 (fun (y : Int) => [(0, .v (ssl (eL (eL eI)) slices)), (3, .v (iT y))])) := Lp.of (f := (fun
 | (size_1, x_2) =>
  if x_2 < (slices.length : Int) then
  (ix slices x_2).bind fun v_4 =>
  (jn (QN (fun (y : Unit) => [(0, .v (ssl (eL (eL eI)) slices)), (3, .v (iT (w64 (size_1 + (v_4.length : Int))))), (9, .v (ssl (eL (eL eI)) slices)), (10, .v (iT (slices.length : Int))), (11, .v (iT x_2))])) ((if (w64 (size_1 + (v_4.length : Int))) < 0 then
  none
  else
  some ()) : Option Unit)).bind fun _ =>
  some (.inl (w64 (size_1 + (v_4.length : Int)), w64 (x_2 + 1)))
  else
  some (.inr size_1) : Int × Int -> Option ((Int × Int) ⊕ Int))) (by exact go)
instance i50_1 : Lp cx (f50_1 slices) 36 L50_1 (fun (zs : Nat × (List (List Int)) × Int) => [(6, .v (.sl true true 1 zs.1 (arr (eL eI) false zs.2.1))), (25, .v (ssl (eL (eL eI)) slices)), (26, .v (iT (slices.length : Int))), (27, .v (iT zs.2.2))]) (QX 2 (fun (y : Nat × (List (List Int))) => [(6, .v (.sl true true 1 y.1 (arr (eL eI) false y.2)))])) := Lp.of (by unfold f50_1; exact go)
instance i50 : Rn cx (f50 slices) 50 [(ssl (eL (eL eI)) slices)] (fun (r : (List (List Int))) => (osl (eL eI) false r)) (fun r => []) := Rn.o rfl (by unfold f50; exact go)
instance : Io0 cx 50 := ⟨rfl⟩
instance i57_0 {s0 : (List Int)} {g_f : Nat} {cp_f : List T} {f : Int -> Option Bool} [hp_f : ∀ x0, Rn cx (f x0) g_f ((iT x0) :: cp_f) (fun o => (.bool o)) (fun _ => [])] [Io0 cx g_f] : Lp cx (f57_0 s0 f) 19 L57_0 (fun (zs : Int) => [(0, .v (ssl eI s0)), (1, .v (.fn g_f cp_f)), (7, .v (iT (s0.length : Int))), (8, .v (iT zs))]) (QO (QX 0 (fun (y : Unit) => [])) (QR (fun (y : Int) => [(4, .v (iT y))]))) := Lp.of (by unfold f57_0; exact go)
instance i57 {s0 : (List Int)} {g_f : Nat} {cp_f : List T} {f : Int -> Option Bool} [hp_f : ∀ x0, Rn cx (f x0) g_f ((iT x0) :: cp_f) (fun o => (.bool o)) (fun _ => [])] [Io0 cx g_f] : Rn cx (f57 s0 f) 57 [(ssl eI s0), (.fn g_f cp_f)] (fun (r : Int) => (iT r)) (fun r => []) := Rn.o rfl (by unfold f57; exact go)
instance : Io0 cx 57 := ⟨rfl⟩
instance i34 {s0 : (List Int)} {g_f : Nat} {cp_f : List T} {f : Int -> Option Bool} [hp_f : ∀ x0, Rn cx (f x0) g_f ((iT x0) :: cp_f) (fun o => (.bool o)) (fun _ => [])] [Io0 cx g_f] : Rn cx (f34 s0 f) 34 [(ssl eI s0), (.fn g_f cp_f)] (fun (r : Bool) => (.bool r)) (fun r => []) := Rn.o rfl (by unfold f34; exact go)
instance : Io0 cx 34 := ⟨rfl⟩
instance i61 : Rn cx (f61 x c) 61 [(iT x), (.ptr false [(.sl false false 1 0 (arr eI false c))])] (fun (r : Bool) => (.bool r)) (fun r => []) := Rn.o (e := (
  sn 3 4 (ssl eI c) <| 
  (f52 c x).bind fun o1 =>
  some o1 : Option Bool)) rfl (by exact go)
instance : Io0 cx 61 := ⟨rfl⟩
instance i40_0 : Lp cx (f40_0 literals) 20 L40_0 (fun (zs : (List Int) × Int) => [(3, .v (osl eI true zs.1)), (7, .v (ssl eI literals)), (8, .v (iT (literals.length : Int))), (9, .v (iT zs.2))]) (QX 0 (fun (y : (List Int)) => [(3, .v (osl eI true y))])) := Lp.of (by unfold f40_0; exact go)
instance i40 : Rn cx (f40 literals) 40 [(ssl eI literals)] (fun (r : (List Int)) => (osl eI true r)) (fun r => []) := Rn.o (e := (
  sn 3 3 (osl eI true ([])) <| 
  (iter (f40_0 literals) ([], 0)).bind fun out_10 =>
  some out_10 : Option (List Int))) rfl (by exact go)
instance : Io0 cx 40 := ⟨rfl⟩
instance i62_0 : Lp cx (f62_0 a b) 25 L62_0 (fun (zs : (List Int) × Int) => [(1, .v (ssl eI b)), (5, .v (osl eI true zs.1)), (9, .v (ssl eI a)), (10, .v (iT (a.length : Int))), (11, .v (iT zs.2))]) (QX 0 (fun (y : (List Int)) => [(5, .v (osl eI true y))])) := Lp.of (f := (fun
 | (out_1, x_2) =>
  if x_2 < (a.length : Int) then
  (ix a x_2).bind fun v_4 =>
  (f52 b v_4).bind fun o6 =>
  (jn (QN (fun (y : (List Int)) => [(1, .v (ssl eI b)), (5, .v (osl eI true y)), (9, .v (ssl eI a)), (10, .v (iT (a.length : Int))), (11, .v (iT x_2))])) ((if ¬ (o6 = true) then
  (app 8 out_1 ([v_4])).bind fun l_11 =>
  some l_11
  else
  some out_1) : Option (List Int))).bind fun out_13 =>
  some (.inl (out_13, w64 (x_2 + 1)))
  else
  some (.inr out_1) : (List Int) × Int -> Option (((List Int) × Int) ⊕ (List Int)))) (by exact go)
instance i62 : Rn cx (f62 a b) 62 [(ssl eI a), (ssl eI b)] (fun (r : (List Int)) => (osl eI true r)) (fun r => []) := Rn.o (e := (
  sn 3 5 (osl eI true ([])) <| 
  (iter (f62_0 a b) ([], 0)).bind fun out_16 =>
  some out_16 : Option (List Int))) rfl (by exact go)
instance : Io0 cx 62 := ⟨rfl⟩
theorem r39_1 {out_3 : (List Int)} : ∀ zs zo, iter (f39_1 clauses out_3) zs = some zo -> Wc cx 44 (.loop L39_1) [(0, .v (ssl (eL eI) clauses)), (6, .v (.ptr true [(.sl true false 1 0 (arr eI true out_3))])), (7, .v (.bool false)), (14, .v (ssl (eL eI) clauses)), (15, .v (iT (clauses.length : Int))), (16, .v (iT zs))] ((QO (QX 2 (fun (y : (List Int) × Bool) => [(0, .v (ssl (eL eI) clauses)), (6, .v (.ptr true [(.sl true false 1 0 (arr eI true y.1))])), (7, .v (.bool y.2))])) (QR (fun (y : (List Int) × Bool) => [(4, .v (.sl true false 1 0 (arr eI true y.1))), (5, .v (.bool y.2)), (6, .v (.ptr true [.und]))]))) zo) := by
 intro zs0 zo0 zh0
 refine iter_run (f := (f39_1 clauses out_3)) (P := fun zs zo => Wc cx 44 (.loop L39_1) [(0, .v (ssl (eL eI) clauses)), (6, .v (.ptr true [(.sl true false 1 0 (arr eI true out_3))])), (7, .v (.bool false)), (14, .v (ssl (eL eI) clauses)), (15, .v (iT (clauses.length : Int))), (16, .v (iT zs))] ((QO (QX 2 (fun (y : (List Int) × Bool) => [(0, .v (ssl (eL eI) clauses)), (6, .v (.ptr true [(.sl true false 1 0 (arr eI true y.1))])), (7, .v (.bool y.2))])) (QR (fun (y : (List Int) × Bool) => [(4, .v (.sl true false 1 0 (arr eI true y.1))), (5, .v (.bool y.2)), (6, .v (.ptr true [.und]))]))) zo)) ?_ zh0
 rintro x_4 zo zr h hk hx
 try dsimp only at hk ⊢
 rw [f39_1] at h
 refine Wc.loop ?_
 refine Wc.seq ?_
 refine Wc.evs (by conv => lhs; simp [-aI_app1, -aI_app0, -aB_app0, -aS_app0, -aL_app0, -aI_app10, -aB_app10, -aS_app10, -aLt_app10I, -aLf_app10I, -aLt_app1I, -aLf_app1I]) ?_
 refine Wo.nil ?_
 refine Wc.seq ?_
 by_cases kc5 : x_4 < (clauses.length : Int)
 ·rw [if_pos kc5] at h
  refine Wc.condT' (t := _) (by conv => lhs; simp) (by simpa using kc5) ?_
  refine Wc.seq ?_
  refine Wc.kil (by conv => lhs; simp) ?_
  refine Wc.skip ?_
  refine Wc.seq ?_
  obtain ⟨w6, h7, h⟩ := bind_some h
  refine Wc.mono (Q := (QO (QN (fun (y : Unit) => [(0, .v (ssl (eL eI) clauses)), (6, .v (.ptr true [(.sl true false 1 0 (arr eI true out_3))])), (7, .v (.bool false)), (14, .v (ssl (eL eI) clauses)), (15, .v (iT (clauses.length : Int))), (16, .v (iT x_4))])) (QO (QX 2 (fun (y : (List Int) × Bool) => [(0, .v (ssl (eL eI) clauses)), (6, .v (.ptr true [(.sl true false 1 0 (arr eI true y.1))])), (7, .v (.bool y.2))])) (QR (fun (y : (List Int) × Bool) => [(4, .v (.sl true false 1 0 (arr eI true y.1))), (5, .v (.bool y.2)), (6, .v (.ptr true [.und]))])))) w6) ?_ ?_
  ·skip
   refine Wc.block ?_
   refine Wc.seq ?_
   obtain ⟨v_8, h9, h7⟩ := bind_some h7
   obtain ⟨ga9, gb9, gc9⟩ := ix_some h9
   have gn9 := ix_ne h9
   have gd9 := arr_at (E := (eL eI)) (b := false) gc9
   simp at gd9
   refine Wc.evs (by conv => lhs; simp [-aI_app1, -aI_app0, -aB_app0, -aS_app0, -aL_app0, -aI_app10, -aB_app10, -aS_app10, -aLt_app10I, -aLf_app10I, -aLt_app1I, -aLf_app1I, ga9, gb9, gn9, gd9]) ?_
   refine Wo.nil ?_
   refine Wc.seq ?_
   refine Wc.seq ?_
   refine Wc.evs (by conv => lhs; simp [-aI_app1, -aI_app0, -aB_app0, -aS_app0, -aL_app0, -aI_app10, -aB_app10, -aS_app10, -aLt_app10I, -aLf_app10I, -aLt_app1I, -aLf_app1I]) ?_
   obtain ⟨o10, h11, h7⟩ := bind_some h7
   refine Wo.call rfl rfl (by (conv => lhs; simp [-aI_app1, -aI_app0, -aB_app0, -aS_app0, -aL_app0, -aI_app10, -aB_app10, -aS_app10, -aLt_app10I, -aLf_app10I, -aLt_app1I, -aLf_app1I, cx, ioTab]) <;> rfl) (run_ h11) (by simp) (by simp) (by (conv => lhs; simp [-aI_app1, -aI_app0, -aB_app0, -aS_app0, -aL_app0, -aI_app10, -aB_app10, -aS_app10, -aLt_app10I, -aLf_app10I, -aLt_app1I, -aLf_app1I, cx, ioTab]) <;> rfl) (by (conv => lhs; simp [-aI_app1, -aI_app0, -aB_app0, -aS_app0, -aL_app0, -aI_app10, -aB_app10, -aS_app10, -aLt_app10I, -aLf_app10I, -aLt_app1I, -aLf_app1I]) <;> rfl) ?_
   refine Wo.nil ?_
   by_cases kc12 : o10 = true
   ·rw [if_pos kc12] at h7
    refine Wc.condT' (t := _) (by conv => lhs; simp) (by simpa using kc12) ?_
    refine Wc.seq ?_
    refine Wc.kil (by conv => lhs; simp) ?_
    refine Wc.exit ?_
    cases h7
    exact ⟨rfl, by first | rfl | simp [-aI_app1, -aI_app0, -aB_app0, -aS_app0, -aL_app0, -aI_app10, -aB_app10, -aS_app10, -aLt_app10I, -aLf_app10I, -aLt_app1I, -aLf_app1I]⟩
   ·rw [if_neg kc12] at h7
    refine Wc.condF' (t := _) (by conv => lhs; simp) (by simpa using kc12) ?_
    refine Wc.seq ?_
    refine Wc.kil (by conv => lhs; simp) ?_
    refine Wc.skip ?_
    refine Wc.seq ?_
    refine Wc.evs (by conv => lhs; simp [-aI_app1, -aI_app0, -aB_app0, -aS_app0, -aL_app0, -aI_app10, -aB_app10, -aS_app10, -aLt_app10I, -aLf_app10I, -aLt_app1I, -aLf_app1I, ga9, gb9, gn9, gd9]) ?_
    obtain ⟨o13, h14, h7⟩ := bind_some h7
    refine Wo.call rfl rfl (by (conv => lhs; simp [-aI_app1, -aI_app0, -aB_app0, -aS_app0, -aL_app0, -aI_app10, -aB_app10, -aS_app10, -aLt_app10I, -aLf_app10I, -aLt_app1I, -aLf_app1I, ga9, gb9, gn9, gd9, cx, ioTab]) <;> rfl) (VJx.res (run_ h14) (by exact tles_go) (TLe.refl _) (TLes.refl _)) (by simp) (by simp) (by (conv => lhs; simp [-aI_app1, -aI_app0, -aB_app0, -aS_app0, -aL_app0, -aI_app10, -aB_app10, -aS_app10, -aLt_app10I, -aLf_app10I, -aLt_app1I, -aLf_app1I, ga9, gb9, gn9, gd9, cx, ioTab]) <;> rfl) (by (conv => lhs; simp [-aI_app1, -aI_app0, -aB_app0, -aS_app0, -aL_app0, -aI_app10, -aB_app10, -aS_app10, -aLt_app10I, -aLf_app10I, -aLt_app1I, -aLf_app1I, ga9, gb9, gn9, gd9]) <;> rfl) ?_
    obtain ⟨o15, h16, h7⟩ := bind_some h7
    refine Wo.call rfl rfl (by (conv => lhs; simp [-aI_app1, -aI_app0, -aB_app0, -aS_app0, -aL_app0, -aI_app10, -aB_app10, -aS_app10, -aLt_app10I, -aLf_app10I, -aLt_app1I, -aLf_app1I, ga9, gb9, gn9, gd9, cx, ioTab]) <;> rfl) (run_ h16) (by simp) (by simp) (by (conv => lhs; simp [-aI_app1, -aI_app0, -aB_app0, -aS_app0, -aL_app0, -aI_app10, -aB_app10, -aS_app10, -aLt_app10I, -aLf_app10I, -aLt_app1I, -aLf_app1I, ga9, gb9, gn9, gd9, cx, ioTab]) <;> rfl) (by (conv => lhs; simp [-aI_app1, -aI_app0, -aB_app0, -aS_app0, -aL_app0, -aI_app10, -aB_app10, -aS_app10, -aLt_app10I, -aLf_app10I, -aLt_app1I, -aLf_app1I, ga9, gb9, gn9, gd9]) <;> rfl) ?_
    refine Wo.evs (by conv => lhs; simp [-aI_app1, -aI_app0, -aB_app0, -aS_app0, -aL_app0, -aI_app10, -aB_app10, -aS_app10, -aLt_app10I, -aLf_app10I, -aLt_app1I, -aLf_app1I, ga9, gb9, gn9, gd9]) ?_
    refine Wo.nil ?_
    refine Wc.seq ?_
    refine Wc.seq ?_
    refine Wc.evs (by conv => lhs; simp [-aI_app1, -aI_app0, -aB_app0, -aS_app0, -aL_app0, -aI_app10, -aB_app10, -aS_app10, -aLt_app10I, -aLf_app10I, -aLt_app1I, -aLf_app1I]) ?_
    refine Wo.nil ?_
    by_cases kc17 : (o15.length : Int) = 0
    ·rw [if_pos kc17] at h7
     refine Wc.condT' (t := _) (by conv => lhs; simp) (by simpa using kc17) ?_
     refine Wc.seq ?_
     refine Wc.kil (by conv => lhs; simp) ?_
     refine Wc.seq ?_
     refine Wc.evs (by conv => lhs; simp [-aI_app1, -aI_app0, -aB_app0, -aS_app0, -aL_app0, -aI_app10, -aB_app10, -aS_app10, -aLt_app10I, -aLf_app10I, -aLt_app1I, -aLf_app1I, ga9, gb9, gn9, gd9]) ?_
     refine Wo.nil ?_
     refine Wc.gh (vle_take (s := 4) (by simp) (by conv => lhs; simp [-aI_app1, -aI_app0, -aB_app0, -aS_app0, -aL_app0, -aI_app10, -aB_app10, -aS_app10, -aLt_app10I, -aLf_app10I, -aLt_app1I, -aLf_app1I, ga9, gb9, gn9, gd9]) (by conv => lhs; simp)) ?_
     refine Wc.ret ?_
     cases h7
     exact ⟨rfl, by first | rfl | simp [-aI_app1, -aI_app0, -aB_app0, -aS_app0, -aL_app0, -aI_app10, -aB_app10, -aS_app10, -aLt_app10I, -aLf_app10I, -aLt_app1I, -aLf_app1I, ga9, gb9, gn9, gd9]⟩
    ·rw [if_neg kc17] at h7
     refine Wc.condF' (t := _) (by conv => lhs; simp) (by simpa using kc17) ?_
     refine Wc.seq ?_
     refine Wc.kil (by conv => lhs; simp) ?_
     refine Wc.skip ?_
     refine Wc.seq ?_
     refine Wc.evs (by conv => lhs; simp [-aI_app1, -aI_app0, -aB_app0, -aS_app0, -aL_app0, -aI_app10, -aB_app10, -aS_app10, -aLt_app10I, -aLf_app10I, -aLt_app1I, -aLf_app1I]) ?_
     refine Wo.nil ?_
     by_cases kc18 : (o15.length : Int) = 1
     ·rw [if_pos kc18] at h7
      refine Wc.condT' (t := _) (by conv => lhs; simp) (by simpa using kc18) ?_
      refine Wc.seq ?_
      refine Wc.kil (by conv => lhs; simp) ?_
      refine Wc.seq ?_
      obtain ⟨v_19, h20, h7⟩ := bind_some h7
      obtain ⟨ga20, gb20, gc20⟩ := ix_some h20
      have gn20 := ix_ne h20
      have gf20 := arr_fit (E := eI) (b := true) (i := (0 : Int).toNat) (l := o15) (by omega)
      have gg20_0 := arr_get (E := eI) (b := true) (o := 0) gc20 (by decide)
      simp at gf20 gg20_0
      have gl20 : (0 : Int).toNat < o15.length := by omega
      have gk20 : 0 < o15.length := by omega
      obtain ⟨l_21, h22, h7⟩ := bind_some h7
      have gx22 := appT_arr (E := eI) (b := true) (y := false) h22 (by decide)
      simp [-aI_app1, -aI_app0, -aB_app0, -aS_app0, -aL_app0, -aLt_app1I, -aLf_app1I, -aLt_app10I, -aLf_app10I] at gx22
      refine Wc.evs (by conv => lhs; simp [-aI_app1, -aI_app0, -aB_app0, -aS_app0, -aL_app0, -aI_app10, -aB_app10, -aS_app10, -aLt_app10I, -aLf_app10I, -aLt_app1I, -aLf_app1I, -getElem?_pos, List.getElem?_cons_zero, List.getElem?_cons_succ, gb20, gn20, gf20, gg20_0, gl20, gk20, gx22, ga9, gb9, gn9, gd9]) ?_
      refine Wo.nil ?_
      refine Wc.exit ?_
      cases h7
      exact ⟨rfl, by first | rfl | simp [-aI_app1, -aI_app0, -aB_app0, -aS_app0, -aL_app0, -aI_app10, -aB_app10, -aS_app10, -aLt_app10I, -aLf_app10I, -aLt_app1I, -aLf_app1I, -getElem?_pos, List.getElem?_cons_zero, List.getElem?_cons_succ, gb20, gn20, gf20, gg20_0, gl20, gk20, gx22, ga9, gb9, gn9, gd9]⟩
     ·rw [if_neg kc18] at h7
      refine Wc.condF' (t := _) (by conv => lhs; simp) (by simpa using kc18) ?_
      refine Wc.seq ?_
      refine Wc.kil (by conv => lhs; simp) ?_
      refine Wc.skip ?_
      cases h7
      exact ⟨rfl, by first | rfl | simp [-aI_app1, -aI_app0, -aB_app0, -aS_app0, -aL_app0, -aI_app10, -aB_app10, -aS_app10, -aLt_app10I, -aLf_app10I, -aLt_app1I, -aLf_app1I, ga9, gb9, gn9, gd9]⟩
  ·skip
   rcases w6 with ⟨⟩ | ⟨out_23, found_24⟩ | ⟨x_25, x_26⟩
   ·rintro ex V ⟨rfl, rfl⟩
    try dsimp only at h
    refine Wc.evs (by conv => lhs; simp [-aI_app1, -aI_app0, -aB_app0, -aS_app0, -aL_app0, -aI_app10, -aB_app10, -aS_app10, -aLt_app10I, -aLf_app10I, -aLt_app1I, -aLf_app1I]) ?_
    refine Wo.nil ?_
    refine Wc.start (V1 := [(0, .v (ssl (eL eI) clauses)), (6, .v (.ptr true [(.sl true false 1 0 (arr eI true out_3))])), (7, .v (.bool false)), (14, .v (ssl (eL eI) clauses)), (15, .v (iT (clauses.length : Int))), (16, .v (iT (w64 (x_4 + 1))))]) ?_ (hk _ (Option.some.inj h).symm)
    first | rfl | simp [-aI_app1, -aI_app0, -aB_app0, -aS_app0, -aL_app0, -aI_app10, -aB_app10, -aS_app10, -aLt_app10I, -aLf_app10I, -aLt_app1I, -aLf_app1I]
   ·rintro ex V ⟨rfl, rfl⟩
    dsimp only at h ⊢
    have e0 := hx _ (Option.some.inj h).symm
    subst e0
    exact ⟨rfl, by first | rfl | simp [-aI_app1, -aI_app0, -aB_app0, -aS_app0, -aL_app0, -aI_app10, -aB_app10, -aS_app10, -aLt_app10I, -aLf_app10I, -aLt_app1I, -aLf_app1I]⟩
   ·rintro ex V ⟨rfl, rfl⟩
    dsimp only at h ⊢
    have e0 := hx _ (Option.some.inj h).symm
    subst e0
    exact ⟨rfl, by first | rfl | simp [-aI_app1, -aI_app0, -aB_app0, -aS_app0, -aL_app0, -aI_app10, -aB_app10, -aS_app10, -aLt_app10I, -aLf_app10I, -aLt_app1I, -aLf_app1I]⟩
 ·rw [if_neg kc5] at h
  refine Wc.condF' (t := _) (by conv => lhs; simp) (by simpa using kc5) ?_
  refine Wc.seq ?_
  refine Wc.kil (by conv => lhs; simp) ?_
  refine Wc.exit ?_
  have e0 := hx _ (Option.some.inj h).symm
  subst e0
  exact ⟨rfl, by first | rfl | simp [-aI_app1, -aI_app0, -aB_app0, -aS_app0, -aL_app0, -aI_app10, -aB_app10, -aS_app10, -aLt_app10I, -aLf_app10I, -aLt_app1I, -aLf_app1I]⟩
theorem r39_0 : ∀ zs zo, iter (f39_0 clauses) zs = some zo -> Wc cx 44 (.loop L39_0) [(0, .v (ssl (eL eI) clauses)), (6, .v (.ptr true [(.sl true false 1 0 (arr eI true zs))]))] ((QR (fun (y : (List Int) × Bool) => [(4, .v (.sl true false 1 0 (arr eI true y.1))), (5, .v (.bool y.2)), (6, .v (.ptr true [.und]))])) zo) := by
 intro zs0 zo0 zh0
 refine iter_run (f := (f39_0 clauses)) (P := fun zs zo => Wc cx 44 (.loop L39_0) [(0, .v (ssl (eL eI) clauses)), (6, .v (.ptr true [(.sl true false 1 0 (arr eI true zs))]))] ((QR (fun (y : (List Int) × Bool) => [(4, .v (.sl true false 1 0 (arr eI true y.1))), (5, .v (.bool y.2)), (6, .v (.ptr true [.und]))])) zo)) ?_ zh0
 rintro out_3 zo zr h hk hx
 try dsimp only at hk ⊢
 rw [f39_0] at h
 refine Wc.loop ?_
 refine Wc.block ?_
 refine Wc.seq ?_
 refine Wc.evs (by conv => lhs; simp [-aI_app1, -aI_app0, -aB_app0, -aS_app0, -aL_app0, -aI_app10, -aB_app10, -aS_app10, -aLt_app10I, -aLf_app10I, -aLt_app1I, -aLf_app1I]) ?_
 refine Wo.nil ?_
 refine Wc.seq ?_
 refine Wc.seq ?_
 refine Wc.evs (by conv => lhs; simp [-aI_app1, -aI_app0, -aB_app0, -aS_app0, -aL_app0, -aI_app10, -aB_app10, -aS_app10, -aLt_app10I, -aLf_app10I, -aLt_app1I, -aLf_app1I]) ?_
 refine Wo.nil ?_
 refine Wc.block ?_
 obtain ⟨w27, h28, h⟩ := bind_some h
 refine Wc.start (V1 := [(0, .v (ssl (eL eI) clauses)), (6, .v (.ptr true [(.sl true false 1 0 (arr eI true out_3))])), (7, .v (.bool false)), (14, .v (ssl (eL eI) clauses)), (15, .v (iT (clauses.length : Int))), (16, .v (iT 0))]) (by first | rfl | simp [-aI_app1, -aI_app0, -aB_app0, -aS_app0, -aL_app0, -aI_app10, -aB_app10, -aS_app10, -aLt_app10I, -aLf_app10I, -aLt_app1I, -aLf_app1I]) ?_
 refine Wc.mono (r39_1 _ _ h28) ?_
 rcases w27 with ⟨out_29, found_30⟩ | ⟨x_31, x_32⟩
 ·rintro ex V ⟨rfl, rfl⟩
  dsimp only at h ⊢
  refine Wc.seq ?_
  refine Wc.evs (by conv => lhs; simp [-aI_app1, -aI_app0, -aB_app0, -aS_app0, -aL_app0, -aI_app10, -aB_app10, -aS_app10, -aLt_app10I, -aLf_app10I, -aLt_app1I, -aLf_app1I]) ?_
  refine Wo.nil ?_
  by_cases kc33 : ¬ (found_30 = true)
  ·rw [if_pos kc33] at h
   refine Wc.condT' (t := _) (by conv => lhs; simp) (by simpa using kc33) ?_
   refine Wc.seq ?_
   refine Wc.kil (by conv => lhs; simp) ?_
   refine Wc.seq ?_
   refine Wc.evs (by conv => lhs; simp [-aI_app1, -aI_app0, -aB_app0, -aS_app0, -aL_app0, -aI_app10, -aB_app10, -aS_app10, -aLt_app10I, -aLf_app10I, -aLt_app1I, -aLf_app1I]) ?_
   refine Wo.nil ?_
   refine Wc.gh (vle_take (s := 4) (by simp) (by conv => lhs; simp [-aI_app1, -aI_app0, -aB_app0, -aS_app0, -aL_app0, -aI_app10, -aB_app10, -aS_app10, -aLt_app10I, -aLf_app10I, -aLt_app1I, -aLf_app1I]) (by conv => lhs; simp)) ?_
   refine Wc.ret ?_
   have e0 := hx _ (Option.some.inj h).symm
   subst e0
   exact ⟨rfl, by first | rfl | simp [-aI_app1, -aI_app0, -aB_app0, -aS_app0, -aL_app0, -aI_app10, -aB_app10, -aS_app10, -aLt_app10I, -aLf_app10I, -aLt_app1I, -aLf_app1I]⟩
  ·rw [if_neg kc33] at h
   refine Wc.condF' (t := _) (by conv => lhs; simp) (by simpa using kc33) ?_
   refine Wc.seq ?_
   refine Wc.kil (by conv => lhs; simp) ?_
   refine Wc.skip ?_
   refine Wc.start (V1 := [(0, .v (ssl (eL eI) clauses)), (6, .v (.ptr true [(.sl true false 1 0 (arr eI true out_29))]))]) ?_ (hk _ (Option.some.inj h).symm)
   first | rfl | simp [-aI_app1, -aI_app0, -aB_app0, -aS_app0, -aL_app0, -aI_app10, -aB_app10, -aS_app10, -aLt_app10I, -aLf_app10I, -aLt_app1I, -aLf_app1I]
 ·rintro ex V ⟨rfl, rfl⟩
  dsimp only at h ⊢
  have e0 := hx _ (Option.some.inj h).symm
  subst e0
  exact ⟨rfl, by first | rfl | simp [-aI_app1, -aI_app0, -aB_app0, -aS_app0, -aL_app0, -aI_app10, -aB_app10, -aS_app10, -aLt_app10I, -aLf_app10I, -aLt_app1I, -aLf_app1I]⟩
theorem r39 {clauses : (List (List Int))} {start : (List Int)} {r : (List Int) × Bool} (h : f39 clauses start = some r) : VJx cx (.ca 39 [(ssl (eL eI) clauses), (ssl eI start)] (.tup [(.sl true false 1 0 (arr eI true r.1)), (.bool r.2)]) []) := by
 unfold f39 at h
 refine ca_of rfl rfl (by decide) rfl ?_
 refine Wc.start (V1 := [(0, .v (ssl (eL eI) clauses)), (1, .v (ssl eI start))]) (by simp) ?_
 refine Wc.seq ?_
 refine Wc.evs (by conv => lhs; simp [-aI_app1, -aI_app0, -aB_app0, -aS_app0, -aL_app0, -aI_app10, -aB_app10, -aS_app10, -aLt_app10I, -aLf_app10I, -aLt_app1I, -aLf_app1I]) ?_
 refine Wo.nil ?_
 refine Wc.seq ?_
 obtain ⟨l_1, h2, h⟩ := bind_some h
 have gx2 := appT_arr2 (E := eI) (b := true) (b' := false) (y := false) h2 (by decide) (arr_sc rfl _)
 simp [-aI_app1, -aI_app0, -aB_app0, -aS_app0, -aL_app0, -aLt_app1I, -aLf_app1I, -aLt_app10I, -aLf_app10I] at gx2
 refine Wc.evs (by conv => lhs; simp [-aI_app1, -aI_app0, -aB_app0, -aS_app0, -aL_app0, -aI_app10, -aB_app10, -aS_app10, -aLt_app10I, -aLf_app10I, -aLt_app1I, -aLf_app1I, gx2]) ?_
 refine Wo.nil ?_
 refine Wc.block ?_
 obtain ⟨w34, h35, h⟩ := bind_some h
 refine Wc.start (V1 := [(0, .v (ssl (eL eI) clauses)), (6, .v (.ptr true [(.sl true false 1 0 (arr eI true l_1))]))]) (by first | rfl | simp [-aI_app1, -aI_app0, -aB_app0, -aS_app0, -aL_app0, -aI_app10, -aB_app10, -aS_app10, -aLt_app10I, -aLf_app10I, -aLt_app1I, -aLf_app1I, gx2]) ?_
 refine Wc.mono (r39_0 _ _ h35) ?_
 obtain ⟨x_36, x_37⟩ := w34
 rintro ex V ⟨rfl, rfl⟩
 dsimp only at h ⊢
 refine res_of (.inr rfl) ?_
 cases h
 exact ⟨_, _, _, by conv => lhs; simp, by (conv => lhs; simp [cx, ioTab, List.range, List.range.loop]) <;> rfl, by first | rfl | simp [-aI_app1, -aI_app0, -aB_app0, -aS_app0, -aL_app0, -aI_app10, -aB_app10, -aS_app10, -aLt_app10I, -aLf_app10I, -aLt_app1I, -aLf_app1I, gx2]⟩
instance i39 {start : (List Int)} : Rn cx (f39 clauses start) 39 [(ssl (eL eI) clauses), (ssl eI start)] (fun (r : (List Int) × Bool) => (.tup [(.sl true false 1 0 (arr eI true r.1)), (.bool r.2)])) (fun r => []) := ⟨fun _ h => r39 h⟩
instance : Io0 cx 39 := ⟨rfl⟩
instance i51 {s0 : Solver} {assumed : (List Int)} : Rn cx (f51 s0 assumed) 51 [(.ptr true [(iT s0.n), (ssl (eL eI) s0.clauses), (osl (eL eI) true s0.learned)]), (ssl eI assumed)] (fun (r : Unit × Solver) => .nils) (fun r => [(.ptr true [(iT r.2.n), (ssl (eL eI) r.2.clauses), (osl (eL eI) true r.2.learned)])]) := Rn.o rfl (by unfold f51; exact go)
theorem r53 {s0 : (List Int)} {r : (List Int)} (h : f53 s0 = some r) : VJx cx (.ca 53 [(ssl eI s0)] (osl eI true r) []) := by
 unfold f53 at h
 refine ca_clone (X := noExt) (fun _ _ _ _ h => h) (fun _ _ _ _ h => h) rfl (by decide) rfl (cl_eq h) ?_
 refine Wc.start (V1 := [(0, .v (ssl eI s0))]) (by simp) ?_
 refine Wc.seq ?_
 obtain ⟨l_1, h2, h⟩ := bind_some h
 have gx2 := appT_arr2 (E := eI) (b := true) (b' := false) (y := false) h2 (by decide) (arr_sc rfl _)
 simp [-aI_app1, -aI_app0, -aB_app0, -aS_app0, -aL_app0, -aLt_app1I, -aLf_app1I, -aLt_app10I, -aLf_app10I] at gx2
 refine Wc.evs (by conv => lhs; simp [-aI_app1, -aI_app0, -aB_app0, -aS_app0, -aL_app0, -aI_app10, -aB_app10, -aS_app10, -aLt_app10I, -aLf_app10I, -aLt_app1I, -aLf_app1I, gx2]) ?_
 refine Wo.gh (vle_co (s := 2) (t1 := (osl eI true l_1)) rfl (by simp) (tle_own rfl) (by conv => lhs; simp)) ?_
 refine Wo.nil ?_
 refine Wc.ret (res_of (.inr rfl) ?_)
 cases h
 exact ⟨_, _, _, by conv => lhs; simp, by (conv => lhs; simp [cx, ioTab, List.range, List.range.loop]) <;> rfl, by first | rfl | simp [-aI_app1, -aI_app0, -aB_app0, -aS_app0, -aL_app0, -aI_app10, -aB_app10, -aS_app10, -aLt_app10I, -aLf_app10I, -aLt_app1I, -aLf_app1I, gx2]⟩
instance i53 : Rn cx (f53 s0) 53 [(ssl eI s0)] (fun (r : (List Int)) => (osl eI true r)) (fun r => []) := ⟨fun _ h => r53 h⟩
instance : Io0 cx 53 := ⟨rfl⟩
instance i27_1 {assumed : (List Int)} {two : (List Int)} {rec : Solver -> (List Int) -> Option (Option (List Int) × Solver)} [hrec : ∀ s0 assumed, Rn cx (rec s0 assumed) 27 [(.ptr true [(iT s0.n), (ssl (eL eI) s0.clauses), (osl (eL eI) true s0.learned)]), (ssl eI assumed)] (fun o => optT o.1) (fun o => [(.ptr true [(iT o.2.n), (ssl (eL eI) o.2.clauses), (osl (eL eI) true o.2.learned)])])] : Lp cx (f27_1 assumed rec two) 71 L27_1 (fun (zs : Solver × Int) => [(0, .v (.ptr true [(iT zs.1.n), (ssl (eL eI) zs.1.clauses), (osl (eL eI) true zs.1.learned)])), (1, .v (ssl eI assumed)), (50, .v (osl eI true two)), (51, .v (iT (two.length : Int))), (52, .v (iT zs.2))]) (QO (QX 2 (fun (y : Solver) => [(0, .v (.ptr true [(iT y.n), (ssl (eL eI) y.clauses), (osl (eL eI) true y.learned)])), (1, .v (ssl eI assumed))])) (QR (fun (y : (List Int) × Solver) => [(0, .v (.ptr true [(iT y.2.n), (ssl (eL eI) y.2.clauses), (osl (eL eI) true y.2.learned)])), (4, .v (.sl true false 1 0 (arr eI true y.1)))]))) := Lp.of (f := (fun
 | (s1, x) =>
  if x < (two.length : Int) then
  (ix two x).bind fun v_9 =>
  (f53 assumed).bind fun o58 =>
  (app 8 o58 ([v_9])).bind fun l_61 =>
  sn 3 61 (osl eI true l_61) <|
  sn 0 61 (ssl eI l_61) <|
  (rec s1 l_61).bind fun o62 =>
  om o62.1 fun m => match m with
  | none =>
  some (.inl (o62.2, w64 (x + 1)))
  | some r =>
  some (.inr (.inr (r, o62.2)))
  else
  some (.inr (.inl s1)) : Solver × Int -> Option ((Solver × Int) ⊕ (Solver ⊕ ((List Int) × Solver))))) (by exact go)
instance i27_0 {s0 : Solver} {assumed : (List Int)} {o23 : (List Int) × Bool} {rec : Solver -> (List Int) -> Option (Option (List Int) × Solver)} [hrec : ∀ s0 assumed, Rn cx (rec s0 assumed) 27 [(.ptr true [(iT s0.n), (ssl (eL eI) s0.clauses), (osl (eL eI) true s0.learned)]), (ssl eI assumed)] (fun o => optT o.1) (fun o => [(.ptr true [(iT o.2.n), (ssl (eL eI) o.2.clauses), (osl (eL eI) true o.2.learned)])])] : Lp cx (f27_0 s0 assumed rec o23) 71 L27_0 (fun (zs : Int) => [(0, .v (.ptr true [(iT s0.n), (ssl (eL eI) s0.clauses), (osl (eL eI) true s0.learned)])), (1, .v (ssl eI assumed)), (5, .v (.sl true false 1 0 (arr eI true o23.1))), (7, .v (iT zs))]) (QO (QX 0 (fun (y : Unit) => [(0, .v (.ptr true [(iT s0.n), (ssl (eL eI) s0.clauses), (osl (eL eI) true s0.learned)])), (5, .v (.sl true false 1 0 (arr eI true o23.1)))])) (QR (fun (y : Option (List Int) × Solver) => [(0, .v (.ptr true [(iT y.2.n), (ssl (eL eI) y.2.clauses), (osl (eL eI) true y.2.learned)])), (4, .v (optT y.1))]))) := Lp.of (f := (fun
 | v_7 =>
  if v_7 <= s0.n then
  (f52 o23.1 v_7).bind fun o40 =>
  (jn (QN (fun (y : Bool) => [(0, .v (.ptr true [(iT s0.n), (ssl (eL eI) s0.clauses), (osl (eL eI) true s0.learned)])), (1, .v (ssl eI assumed)), (5, .v (.sl true false 1 0 (arr eI true o23.1))), (7, .v (iT v_7)), (46, .v (.bool y))])) (((if o40 = true then
  some true
  else
  (f52 o23.1 (w64 (-v_7))).bind fun o45 =>
  some o45) : Option (Bool)))).bind fun x_46 =>
  if x_46 = true then
  some (.inl (w64 (v_7 + 1)))
  else
  (iter (f27_1 assumed rec ([v_7, w64 (-v_7)])) (s0, 0)).bind fun o => match o with
  | .inl s1 =>
  (f51 s1 assumed).bind fun o69 =>
  some (.inr (.inr (none, o69.2)))
  | .inr (r, s1) =>
  some (.inr (.inr (some r, s1)))
  else
  some (.inr (.inl ())) : Int -> Option (Int ⊕ (Unit ⊕ (Option (List Int) × Solver))))) (by exact go)
instance i27 : ∀ (n : Nat) s0 assumed, Rn cx (f27 n s0 assumed) 27 [(.ptr true [(iT s0.n), (ssl (eL eI) s0.clauses), (osl (eL eI) true s0.learned)]), (ssl eI assumed)] (fun (r : Option (List Int) × Solver) => optT r.1) (fun r => [(.ptr true [(iT r.2.n), (ssl (eL eI) r.2.clauses), (osl (eL eI) true r.2.learned)])]) := by
 intro n
 induction n with
 | zero => intro s0 assumed; exact ⟨fun r h => by simp [f27] at h⟩
 | succ n ih =>
  intro s0 assumed
  refine Rn.of (e := (
  (lb 1 12 0 [] (fun (w : (List Int) × Bool) => [(0, .v (.ptr true [(iT s0.n), (ssl (eL eI) s0.clauses), (osl (eL eI) true s0.learned)])), (1, .v (ssl eI assumed)), (23, .v (.tup [(.sl true false 1 0 (arr eI true w.1)), .bool w.2]))]) ((sn 9 20 (osl (eL (eL eI)) false ([s0.clauses, s0.learned])) <|
  sn 0 20 (ssl (eL (eL eI)) ([s0.clauses, s0.learned])) <|
  (f50 ([s0.clauses, s0.learned])).bind fun o21 =>
  (f39 o21 assumed).bind fun o23 =>
  some o23) : Option ((List Int) × Bool))).bind fun o23 =>
  if o23.2 = true then
  (f51 s0 assumed).bind fun o29 =>
  some (none, o29.2)
  else
  (iter (f27_0 s0 assumed (f27 n) o23) 1).bind fun o => match o with
  | .inl _ =>
  some (some o23.1, s0)
  | .inr (r, s1) =>
  om r fun r => match r with
  | none =>
  some (none, s1)
  | some l =>
  some (some l, s1) : Option (Option (List Int) × Solver))) rfl rfl (by decide) rfl ?_
  exact go
instance i7_0 {res : (List Int)} : Lp cx (f7_0 res) 44 L7_0 (fun (zs : (List Bool) × Int) => [(9, .v (osl eB true zs.1)), (30, .v (.sl true false 1 0 (arr eI true res))), (31, .v (iT (res.length : Int))), (32, .v (iT zs.2))]) (QX 0 (fun (y : (List Bool)) => [(9, .v (osl eB true y))])) := Lp.of (f := (fun
 | (model, x) =>
  if x < (res.length : Int) then
  (ix res x).bind fun v_35 =>
  (jn (QN (fun (y : (List Bool)) => [(9, .v (osl eB true y)), (30, .v (.sl true false 1 0 (arr eI true res))), (31, .v (iT (res.length : Int))), (32, .v (iT x))])) (((if v_35 > 0 then
  (ix model (w64 (v_35 - 1))).bind fun _ =>
  some (model.set (w64 (v_35 - 1)).toNat true)
  else
  some model) : Option (List Bool)))).bind fun m =>
  some (.inl (m, w64 (x + 1)))
  else
  some (.inr model) : (List Bool) × Int -> Option (((List Bool) × Int) ⊕ (List Bool)))) (by exact go)
instance i7 : Rn cx (f7 n0 l) 7 [(iT n0), (ssl (eL eI) l)] (fun (r : (List Bool) × (List (List Int)) × Bool) => (.tup [(osl eB true r.1), (osl (eL eI) true r.2.1), (.bool r.2.2)])) (fun r => []) := Rn.o (e := (
 (f26 n0 l).bind fun o14 =>
 if ¬ (o14 = true) then
 sn 5 4 (osl eB true ([])) <|
 sn 0 5 (osl (eL eI) true ([])) <|
 some ([], [], false)
 else
 (f27 64 ({ n := n0, clauses := l, learned := [] } : Solver) ([])).bind fun o21 =>
 om o21.1 fun m => match m with
 | none =>
 some ([], o21.2.learned, false)
 | some res =>
 (mkl 1 n0 false).bind fun l_29 =>
 (iter (f7_0 res) (l_29, 0)).bind fun m =>
 some (m, [], true) : Option ((List Bool) × (List (List Int)) × Bool))) rfl (by exact go)
instance : Io0 cx 7 := ⟨rfl⟩
instance i31 : Rn cx (f31 x low high) 31 [(iT x), (iT low), (iT high)] (fun (r : Bool) => (.bool r)) (fun r => []) := Rn.o (e := (
  (jn (QN (fun (y : Bool) => [(6, .v (.bool y))])) ((if x >= low then
  some (decide (x <= high))
  else
  some false) : Option (Bool))).bind fun x_1 =>
  some x_1 : Option Bool)) rfl (by exact go)
instance : Io0 cx 31 := ⟨rfl⟩
end
end Go.Proofs.YtjfeimhiiomgoaaH
