import Derived.Test.YtbpdhmbdpjafeaaDoorX3
set_option linter.unusedVariables false
set_option linter.unusedSimpArgs false
set_option linter.defProp false
set_option linter.unusedSectionVars false
set_option maxRecDepth 100000
namespace Go.Proofs.YtbpdhmbdpjafeaaDoorH
open Go
noncomputable section
structure L1Cur where
 b : (List Int)
 i : Int
 h : Int
 deriving DecidableEq, Inhabited
def eL1Cur : En L1Cur := ⟨3, fun b a => if b then [(osl eU true a.b), (.int .i64 a.i), (.int .i64 a.h)] else [(ssl eU a.b), (.int .i64 a.i), (.int .i64 a.h)], fun b a => by cases b <;> rfl, by decide, fun b a => by cases b <;> simp [T.frz], fun a => by simp, fun a => by simp, fun b a => by cases b <;> simp⟩
@[simp] theorem eL1Cur_w : eL1Cur.w = 3 := rfl
@[simp] theorem eL1Cur_ct {a : L1Cur} : eL1Cur.c true a = [(osl eU true a.b), (.int .i64 a.i), (.int .i64 a.h)] := rfl
@[simp] theorem eL1Cur_cf {a : L1Cur} : eL1Cur.c false a = [(ssl eU a.b), (.int .i64 a.i), (.int .i64 a.h)] := rfl
@[simp] theorem eL1Cur_e (a : L1Cur) : L1Cur.mk a.b a.i a.h = a := rfl
structure L22State where
 n : Int
 l : (List (List Int))
 proof : (List (List Int))
 model : (List Bool)
 deriving DecidableEq, Inhabited
def eL22State : En L22State := ⟨4, fun b a => if b then [(.int .i64 a.n), (osl (eL eI) true a.l), (osl (eL eI) true a.proof), (osl eB true a.model)] else [(.int .i64 a.n), (ssl (eL eI) a.l), (ssl (eL eI) a.proof), (ssl eB a.model)], fun b a => by cases b <;> rfl, by decide, fun b a => by cases b <;> simp [T.frz], fun a => by simp, fun a => by simp, fun b a => by cases b <;> simp⟩
@[simp] theorem eL22State_w : eL22State.w = 4 := rfl
@[simp] theorem eL22State_ct {a : L22State} : eL22State.c true a = [(.int .i64 a.n), (osl (eL eI) true a.l), (osl (eL eI) true a.proof), (osl eB true a.model)] := rfl
@[simp] theorem eL22State_cf {a : L22State} : eL22State.c false a = [(.int .i64 a.n), (ssl (eL eI) a.l), (ssl (eL eI) a.proof), (ssl eB a.model)] := rfl
@[simp] theorem eL22State_e (a : L22State) : L22State.mk a.n a.l a.proof a.model = a := rfl
def f4 (code : (List Int)) : Option Bool :=
 some (decide ((code.length : Int) > 1048576))
def f15_0 (code : (List Int)) : Int × Int -> Option ((Int × Int) ⊕ Int)
 | (h_1, i_2) =>
  (((if i_2 < (code.length : Int) then
  some (decide (i_2 < 4000))
  else
  some false) : Option (Bool))).bind fun x_3 =>
  if x_3 = true then
  (ix code i_2).bind fun v_7 =>
  some (.inl (band .i64 (w64 ((w64 ((w64 (h_1 * 131)) + (w64 v_7))) + 7)) 1073741823, w64 (i_2 + 1)))
  else
  some (.inr h_1)
def f15 (code : (List Int)) : Option L1Cur :=
 (iter (f15_0 code) (w64 (10101 + (code.length : Int)), 0)).bind fun h_11 =>
 some ({ b := code, i := 0, h := h_11 } : L1Cur)
def f37 (c : L1Cur) : Option (Int × L1Cur) :=
 (((if c.i < (c.b.length : Int) then
 (ix c.b c.i).bind fun v_4 =>
 some (w64 (c.i + 1), band .i64 (w64 ((band .i64 (bxor .i64 (sshr .i64 (w64 ((w64 (c.h * 6364136223846793005)) + 1442695040888963407)) 33) (sshr .i64 (w64 ((w64 (c.h * 6364136223846793005)) + 1442695040888963407)) 45)) 255) + (w64 v_4))) 255)
 else
 some (c.i, band .i64 (bxor .i64 (sshr .i64 (w64 ((w64 (c.h * 6364136223846793005)) + 1442695040888963407)) 33) (sshr .i64 (w64 ((w64 (c.h * 6364136223846793005)) + 1442695040888963407)) 45)) 255)) : Option (Int × Int))).bind fun (c_6, x_7) =>
 some (x_7, ({ b := c.b, i := c_6, h := w64 ((w64 (c.h * 6364136223846793005)) + 1442695040888963407) } : L1Cur))
def f19 (c : L1Cur) (n1 : Int) : Option (Int × L1Cur) :=
 if n1 <= 0 then
 some (0, c)
 else
 if n1 <= 256 then
 (f37 c).bind fun o3 =>
 (nz n1).bind fun z_5 =>
 some (o3.1.tmod n1, o3.2)
 else
 (f37 c).bind fun o7 =>
 (f37 o7.2).bind fun o9 =>
 (f37 o9.2).bind fun o11 =>
 (f37 o11.2).bind fun o13 =>
 (nz n1).bind fun z_15 =>
 some ((w64 ((w64 ((w64 ((w64 (o7.1 * 16777216)) + (w64 (o9.1 * 65536)))) + (w64 (o11.1 * 256)))) + o13.1)).tmod n1, o13.2)
def f18 (c : L1Cur) (n1 : Int) : Option (Bool × L1Cur) :=
 (f19 c n1).bind fun o1 =>
 some ((decide (o1.1 = 0)), o1.2)
def f35 (c : L1Cur) (list : (List Int)) : Option (Int × L1Cur) :=
 (f19 c (list.length : Int)).bind fun o1 =>
 (ix list o1.1).bind fun v_3 =>
 some (v_3, o1.2)
def f16_1 (o1 : (Int × L1Cur)) : (List Int) × Int × Int × (List Int) × Int -> Option (((List Int) × Int × Int × (List Int) × Int) ⊕ ((List Int) × Int × Int × (List Int)))
 | (c_11, c_12, c_13, x_14, v_15) =>
  if v_15 <= (w64 (1 + o1.1)) then
  (f18 ({ b := c_11, i := c_12, h := c_13 } : L1Cur) 2).bind fun o17 =>
  (((if o17.1 = true then
  some (decide ((x_14.length : Int) < 3))
  else
  some false) : Option (Bool))).bind fun x_19 =>
  (((if x_19 = true then
  (f19 o17.2 2).bind fun o25 =>
  (app 8 x_14 ([w64 (v_15 * (w64 (1 - (w64 (2 * o25.1)))))])).bind fun l_27 =>
  some (o25.2.b, o25.2.i, o25.2.h, l_27)
  else
  some (o17.2.b, o17.2.i, o17.2.h, x_14)) : Option ((List Int) × Int × Int × (List Int)))).bind fun (c_29, c_30, c_31, x_32) =>
  some (.inl (c_29, c_30, c_31, x_32, w64 (v_15 + 1)))
  else
  some (.inr (c_11, c_12, c_13, x_14))
def f16_0 (o1 : (Int × L1Cur)) : (List Int) × Int × Int × (List (List Int)) × Int -> Option (((List Int) × Int × Int × (List (List Int)) × Int) ⊕ ((List Int) × Int × Int × (List (List Int))))
 | (c_5, c_6, c_7, l_8, k_9) =>
  if k_9 > 0 then
  (iter ((f16_1 o1)) (c_5, c_6, c_7, [], 1)).bind fun (c_35, c_36, c_37, x_38) =>
  (app 24 l_8 ([x_38])).bind fun l_39 =>
  some (.inl (c_35, c_36, c_37, l_39, w64 (k_9 - 1)))
  else
  some (.inr (c_5, c_6, c_7, l_8))
def f16 (c : L1Cur) : Option (Int × (List (List Int)) × L1Cur) :=
 (f19 c 5).bind fun o1 =>
 (f19 o1.2 11).bind fun o3 =>
 (iter (f16_0 o1) (o3.2.b, o3.2.i, o3.2.h, [], o3.1)).bind fun (c_43, c_44, c_45, l_46) =>
 (((if (l_46.length : Int) > 0 then
 (f18 ({ b := c_43, i := c_44, h := c_45 } : L1Cur) 14).bind fun o53 =>
 some (o53.2.b, o53.2.i, o53.2.h, o53.1)
 else
 some (c_43, c_44, c_45, false)) : Option ((List Int) × Int × Int × Bool))).bind fun (c_47, c_48, c_49, x_50) =>
 (((if x_50 = true then
 (ix l_46 0).bind fun v_58 =>
 (f35 ({ b := c_47, i := c_48, h := c_49 } : L1Cur) ([0, 6, -7, 1, -9223372036854775808])).bind fun o60 =>
 (app 8 v_58 ([o60.1])).bind fun l_62 =>
 some (o60.2.b, o60.2.i, o60.2.h, (l_46.set (0 : Int).toNat l_62))
 else
 some (c_47, c_48, c_49, l_46)) : Option ((List Int) × Int × Int × (List (List Int))))).bind fun (c_65, c_66, c_67, l_68) =>
 some (w64 (1 + o1.1), l_68, ({ b := c_65, i := c_66, h := c_67 } : L1Cur))
def f46 (x : Int) (low : Int) (high : Int) : Option Bool :=
 (((if x >= low then
 some (decide (x <= high))
 else
 some false) : Option (Bool))).bind fun x_1 =>
 some x_1
def f28_1 (c : (List Int)) (i_1 : Int) : Int -> Option (Int ⊕ (Unit ⊕ Bool))
 | k_15 =>
  if k_15 < i_1 then
  (ix c k_15).bind fun v_17 =>
  (ix c i_1).bind fun v_19 =>
  (((if v_17 = v_19 then
  some true
  else
  some (decide (v_17 = (w64 (-v_19))))) : Option (Bool))).bind fun x_21 =>
  if x_21 = true then
  some (.inr (.inr false))
  else
  some (.inl (w64 (k_15 + 1)))
  else
  some (.inr (.inl ()))
def f28_0 (n0 : Int) (c : (List Int)) : Int -> Option (Int ⊕ (Unit ⊕ Bool))
 | i_1 =>
  if i_1 < (c.length : Int) then
  (ix c i_1).bind fun v_3 =>
  (((if v_3 < 0 then
  some (decide (v_3 >= (w64 (-n0))))
  else
  some false) : Option (Bool))).bind fun x_5 =>
  (((if x_5 = true then
  some (w64 (-v_3))
  else
  some (if 0 > v_3 then 0 else v_3)) : Option Int)).bind fun v_11 =>
  (f46 v_11 1 n0).bind fun o12 =>
  if ¬ (o12 = true) then
  some (.inr (.inr false))
  else
  (iter ((f28_1 c i_1)) 0).bind fun o => match o with
  | .inl _ =>
  some (.inl (w64 (i_1 + 1)))
  | .inr x_27 =>
  some (.inr (.inr x_27))
  else
  some (.inr (.inl ()))
def f28 (n0 : Int) (c : (List Int)) : Option Bool :=
 (iter (f28_0 n0 c) 0).bind fun o => match o with
 | .inl _ =>
 some true
 | .inr x_30 =>
 some x_30
def f27_0 (n0 : Int) (l : (List (List Int))) : Int -> Option (Int ⊕ (Unit ⊕ Bool))
 | i_1 =>
  if i_1 < (l.length : Int) then
  (ix l i_1).bind fun v_3 =>
  (f28 n0 v_3).bind fun o5 =>
  if ¬ (o5 = true) then
  some (.inr (.inr false))
  else
  some (.inl (w64 (i_1 + 1)))
  else
  some (.inr (.inl ()))
def f27 (n0 : Int) (l : (List (List Int))) : Option Bool :=
 (iter (f27_0 n0 l) 0).bind fun o => match o with
 | .inl _ =>
 (f46 n0 0 14).bind fun o11 =>
 (((if o11 = true then
 some (decide ((l.length : Int) <= 400))
 else
 some false) : Option (Bool))).bind fun x_13 =>
 some x_13
 | .inr x_10 =>
 some x_10
def f56_0 (l : (List Int)) (x : Int) : Int -> Option (Int ⊕ (Unit ⊕ Bool))
 | i_1 =>
  if i_1 < (l.length : Int) then
  (ix l i_1).bind fun v_3 =>
  if v_3 = x then
  some (.inr (.inr true))
  else
  some (.inl (w64 (i_1 + 1)))
  else
  some (.inr (.inl ()))
def f56 (l : (List Int)) (x : Int) : Option Bool :=
 (iter (f56_0 l x) 0).bind fun o => match o with
 | .inl _ =>
 some false
 | .inr x_8 =>
 some x_8
def f47_0 (c : (List Int)) (set1 : (List Int)) : (List Int) × Int -> Option (((List Int) × Int) ⊕ ((List Int) ⊕ ((List Int) × Bool)))
 | (out_1, i_2) =>
  if i_2 < (c.length : Int) then
  (ix c i_2).bind fun v_4 =>
  (f56 set1 v_4).bind fun o6 =>
  if o6 = true then
  some (.inr (.inr (out_1, true)))
  else
  (f56 set1 (w64 (-v_4))).bind fun o9 =>
  (((if ¬ (o9 = true) then
  (app 8 out_1 ([v_4])).bind fun l_14 =>
  some l_14
  else
  some out_1) : Option (List Int))).bind fun out_16 =>
  some (.inl (out_16, w64 (i_2 + 1)))
  else
  some (.inr (.inl out_1))
def f47 (c : (List Int)) (set1 : (List Int)) : Option ((List Int) × Bool) :=
 (iter (f47_0 c set1) ([], 0)).bind fun o => match o with
 | .inl out_19 =>
 some (out_19, false)
 | .inr (x_20, x_21) =>
 some (x_20, x_21)
def f29_1 (l : (List (List Int))) : (List Int) × Bool × Int -> Option (((List Int) × Bool × Int) ⊕ (((List Int) × Bool) ⊕ ((List Int) × Bool)))
 | (out_6, more_7, i_8) =>
  (((if i_8 < (l.length : Int) then
  some (decide (¬ (more_7 = true)))
  else
  some false) : Option (Bool))).bind fun x_9 =>
  if x_9 = true then
  ((((ix l i_8).bind fun v_15 =>
  (f47 v_15 out_6).bind fun o17 =>
  if o17.2 = true then
  some (.inl (out_6, more_7))
  else
  if (o17.1.length : Int) = 0 then
  some (.inr (out_6, true))
  else
  (((if (o17.1.length : Int) = 1 then
  (ix o17.1 0).bind fun v_24 =>
  (app 8 out_6 ([v_24])).bind fun l_26 =>
  some (l_26, true)
  else
  some (out_6, more_7)) : Option ((List Int) × Bool))).bind fun (out_28, more_29) =>
  some (.inl (out_28, more_29))) : Option (((List Int) × Bool) ⊕ ((List Int) × Bool)))).bind fun o => match o with
  | .inl (out_30, more_31) =>
  some (.inl (out_30, more_31, w64 (i_8 + 1)))
  | .inr (x_32, x_33) =>
  some (.inr (.inr (x_32, x_33)))
  else
  some (.inr (.inl (out_6, more_7)))
def f29_0 (l : (List (List Int))) : (List Int) × Bool -> Option (((List Int) × Bool) ⊕ ((List Int) ⊕ ((List Int) × Bool)))
 | (out_3, more_4) =>
  if more_4 = true then
  (iter (f29_1 l) (out_3, false, 0)).bind fun o => match o with
  | .inl (out_36, more_37) =>
  some (.inl (out_36, more_37))
  | .inr (x_38, x_39) =>
  some (.inr (.inr (x_38, x_39)))
  else
  some (.inr (.inl out_3))
def f29 (l : (List (List Int))) (set1 : (List Int)) : Option ((List Int) × Bool) :=
 (app 8 ([]) set1).bind fun l_1 =>
 (iter (f29_0 l) (l_1, true)).bind fun o => match o with
 | .inl out_42 =>
 some (out_42, false)
 | .inr (x_43, x_44) =>
 some (x_43, x_44)
def f30_0 (l : (List Int)) : (List Int) × Int -> Option (((List Int) × Int) ⊕ (List Int))
 | (out_1, i_2) =>
  if i_2 < (l.length : Int) then
  (ix l i_2).bind fun v_4 =>
  (app 8 out_1 ([w64 (-v_4)])).bind fun l_6 =>
  some (.inl (l_6, w64 (i_2 + 1)))
  else
  some (.inr out_1)
def f30 (l : (List Int)) : Option (List Int) :=
 (iter (f30_0 l) ([], 0)).bind fun out_10 =>
 some out_10
def f55 (t : L22State) (signs : (List Int)) : Option L22State :=
 (f30 signs).bind fun o1 =>
 (app 24 t.l ([o1])).bind fun l_3 =>
 (app 24 t.proof ([o1])).bind fun l_5 =>
 some ({ n := t.n, l := l_3, proof := l_5, model := t.model } : L22State)
def f36_0 (t : L22State) (signs : (List Int)) (rec : L22State -> (List Int) -> Option (Bool × L22State)) (o1 : ((List Int) × Bool)) : Int -> Option (Int ⊕ (Unit ⊕ (Int × (List (List Int)) × (List (List Int)) × (List Bool) × Bool)))
 | v_6 =>
  if v_6 <= t.n then
  (f56 o1.1 v_6).bind fun o8 =>
  (((if o8 = true then
  some true
  else
  (f56 o1.1 (w64 (-v_6))).bind fun o13 =>
  some o13) : Option (Bool))).bind fun x_10 =>
  if x_10 = true then
  some (.inl (w64 (v_6 + 1)))
  else
  (app 8 ([]) signs).bind fun l_16 =>
  (app 8 l_16 ([v_6])).bind fun l_18 =>
  (rec t l_18).bind fun o20 =>
  (((if o20.1 = true then
  some (o20.2.n, o20.2.l, o20.2.proof, o20.2.model, true)
  else
  (app 8 l_16 ([w64 (-v_6)])).bind fun l_29 =>
  (rec o20.2 l_29).bind fun o31 =>
  some (o31.2.n, o31.2.l, o31.2.proof, o31.2.model, o31.1)) : Option (Int × (List (List Int)) × (List (List Int)) × (List Bool) × Bool))).bind fun (t_22, t_23, t_24, t_25, x_26) =>
  if x_26 = true then
  some (.inr (.inr (t_22, t_23, t_24, t_25, true)))
  else
  (f55 ({ n := t_22, l := t_23, proof := t_24, model := t_25 } : L22State) signs).bind fun o34 =>
  some (.inr (.inr (o34.n, o34.l, o34.proof, o34.model, false)))
  else
  some (.inr (.inl ()))
def f36_1 (o1 : ((List Int) × Bool)) : Int × (List (List Int)) × (List (List Int)) × (List Bool) × Int -> Option ((Int × (List (List Int)) × (List (List Int)) × (List Bool) × Int) ⊕ (Int × (List (List Int)) × (List (List Int)) × (List Bool)))
 | (t_43, t_44, t_45, t_46, v_47) =>
  if v_47 <= t_43 then
  (f56 o1.1 v_47).bind fun o49 =>
  (app 1 t_46 ([o49])).bind fun l_51 =>
  some (.inl (t_43, t_44, t_45, l_51, w64 (v_47 + 1)))
  else
  some (.inr (t_43, t_44, t_45, t_46))
def f36 : Nat -> L22State -> (List Int) -> Option (Bool × L22State)
 | 0 => fun _ _ => none
 | n + 1 => fun t signs =>
  (f29 t.l signs).bind fun o1 =>
  if o1.2 = true then
  (f55 t signs).bind fun o4 =>
  some (false, o4)
  else
  (iter (f36_0 t signs (f36 n) o1) 1).bind fun o => match o with
  | .inl _ =>
  (iter (f36_1 o1) (t.n, t.l, t.proof, t.model, 1)).bind fun (t_55, t_56, t_57, t_58) =>
  some (true, ({ n := t_55, l := t_56, proof := t_57, model := t_58 } : L22State))
  | .inr (t_38, t_39, t_40, t_41, x_42) =>
  some (x_42, ({ n := t_38, l := t_39, proof := t_40, model := t_41 } : L22State))
def f17 (n0 : Int) (l : (List (List Int))) : Option ((List Bool) × (List (List Int)) × Bool) :=
 (f27 n0 l).bind fun o1 =>
 if ¬ (o1 = true) then
 some ([], [], false)
 else
 (app 24 ([]) l).bind fun l_4 =>
 (f36 64 ({ n := n0, l := l_4, proof := [], model := [] } : L22State) ([])).bind fun o6 =>
 if o6.1 = true then
 some (o6.2.model, [], true)
 else
 some ([], o6.2.proof, false)
def f20_0 (n1 : Int) : (List Int) × Int × Int × (List Int) × Int -> Option (((List Int) × Int × Int × (List Int) × Int) ⊕ ((List Int) × Int × Int × (List Int)))
 | (c_1, c_2, c_3, s_4, v_5) =>
  if v_5 <= n1 then
  (f18 ({ b := c_1, i := c_2, h := c_3 } : L1Cur) 3).bind fun o7 =>
  (((if o7.1 = true then
  (f19 o7.2 2).bind fun o12 =>
  (app 8 s_4 ([w64 (v_5 * (w64 (1 - (w64 (2 * o12.1)))))])).bind fun l_14 =>
  some (o12.2.b, o12.2.i, o12.2.h, l_14)
  else
  some (o7.2.b, o7.2.i, o7.2.h, s_4)) : Option ((List Int) × Int × Int × (List Int)))).bind fun (c_16, c_17, c_18, s_19) =>
  some (.inl (c_16, c_17, c_18, s_19, w64 (v_5 + 1)))
  else
  some (.inr (c_1, c_2, c_3, s_4))
def f20 (c : L1Cur) (n1 : Int) : Option ((List Int) × L1Cur) :=
 (iter (f20_0 n1) (c.b, c.i, c.h, [], 1)).bind fun (c_22, c_23, c_24, s_25) =>
 (f18 ({ b := c_22, i := c_23, h := c_24 } : L1Cur) 14).bind fun o26 =>
 if o26.1 = true then
 (f35 o26.2 ([0, 7, -7])).bind fun o29 =>
 (app 8 s_25 ([o29.1])).bind fun l_31 =>
 some (l_31, o29.2)
 else
 some (s_25, o26.2)
def f5 (code : (List Int)) : Option (Int × (List (List Int)) × (List (List Int))) :=
 (f15 code).bind fun o1 =>
 (f16 o1).bind fun o3 =>
 (f17 o3.1 o3.2.1).bind fun o5 =>
 (((if (o5.2.1.length : Int) > 0 then
 (f18 o3.2.2 3).bind fun o13 =>
 some (o13.2.b, o13.2.i, o13.2.h, o13.1)
 else
 some (o3.2.2.b, o3.2.2.i, o3.2.2.h, false)) : Option ((List Int) × Int × Int × Bool))).bind fun (c_7, c_8, c_9, x_10) =>
 (((if x_10 = true then
 (f19 ({ b := c_7, i := c_8, h := c_9 } : L1Cur) (o5.2.1.length : Int)).bind fun o18 =>
 (f18 o18.2 2).bind fun o20 =>
 (((if o20.1 = true then
 (f20 o20.2 o3.1).bind fun o25 =>
 (ix o5.2.1 o18.1).bind fun v_27 =>
 some (o5.2.1.set o18.1.toNat o25.1)
 else
 (dlk 24 o5.2.1 o18.1).bind fun z_30 =>
 some (o5.2.1.eraseIdx o18.1.toNat)) : Option (List (List Int)))).bind fun p_32 =>
 some p_32
 else
 some o5.2.1) : Option (List (List Int)))).bind fun p_33 =>
 some (o3.1, o3.2.1, p_33)
def f38 (n0 : Int) (low : Int) (high : Int) : Option Bool :=
 (((if low <= n0 then
 some (decide (n0 <= high))
 else
 some false) : Option (Bool))).bind fun x_1 =>
 some x_1
def f57_0 (s0 : (List (List Int))) (f : (List Int) -> Option Bool) : Int -> Option (Int ⊕ (Unit ⊕ Int))
 | x_1 =>
  if x_1 < (s0.length : Int) then
  (ix s0 x_1).bind fun v_3 =>
  (f v_3).bind fun o5 =>
  if o5 = true then
  some (.inr (.inr x_1))
  else
  some (.inl (w64 (x_1 + 1)))
  else
  some (.inr (.inl ()))
def f57 (s0 : (List (List Int))) (f : (List Int) -> Option Bool) : Option Int :=
 (iter (f57_0 s0 f) 0).bind fun o => match o with
 | .inl _ =>
 some (-1)
 | .inr x_10 =>
 some x_10
def f39 (s0 : (List (List Int))) (f : (List Int) -> Option Bool) : Option Bool :=
 (f57 s0 f).bind fun o1 =>
 some (decide (o1 >= 0))
def f59_0 (s0 : (List Int)) (v : Int) : Int -> Option (Int ⊕ (Unit ⊕ Int))
 | x_1 =>
  if x_1 < (s0.length : Int) then
  (ix s0 x_1).bind fun v_3 =>
  if v = v_3 then
  some (.inr (.inr x_1))
  else
  some (.inl (w64 (x_1 + 1)))
  else
  some (.inr (.inl ()))
def f59 (s0 : (List Int)) (v : Int) : Option Int :=
 (iter (f59_0 s0 v) 0).bind fun o => match o with
 | .inl _ =>
 some (-1)
 | .inr x_8 =>
 some x_8
def f44 (s0 : (List Int)) (v : Int) : Option Bool :=
 (f59 s0 v).bind fun o1 =>
 some (decide (o1 >= 0))
def f41_0 (n0 : Int) (clause : (List Int)) : Int -> Option (Int ⊕ (Unit ⊕ Bool))
 | x_1 =>
  if x_1 < (clause.length : Int) then
  (ix clause x_1).bind fun v_3 =>
  (((if v_3 = 0 then
  some true
  else
  (f38 v_3 (w64 (-n0)) n0).bind fun o8 =>
  (((if ¬ (o8 = true) then
  some true
  else
  (cutL clause 0 x_1).bind fun l_13 =>
  (f44 l_13 v_3).bind fun o15 =>
  (((if o15 = true then
  some true
  else
  (f44 l_13 (w64 (-v_3))).bind fun o20 =>
  some o20) : Option (Bool))).bind fun x_17 =>
  some x_17) : Option (Bool))).bind fun x_10 =>
  some x_10) : Option (Bool))).bind fun x_5 =>
  if x_5 = true then
  some (.inr (.inr false))
  else
  some (.inl (w64 (x_1 + 1)))
  else
  some (.inr (.inl ()))
def f41 (n0 : Int) (clause : (List Int)) : Option Bool :=
 (iter (f41_0 n0 clause) 0).bind fun o => match o with
 | .inl _ =>
 some true
 | .inr x_25 =>
 some x_25
def f40 (clause : (List Int)) (c : Int) : Option Bool :=
 (f41 c clause).bind fun o1 =>
 some (decide (¬ (o1 = true)))
def f22 (n0 : Int) (clauses : (List (List Int))) : Option Bool :=
 (f38 n0 0 14).bind fun o1 =>
 (((if o1 = true then
 (f39 clauses (fun x0 => f40 x0 n0)).bind fun o6 =>
 some (decide (¬ (o6 = true)))
 else
 some false) : Option (Bool))).bind fun x_3 =>
 some x_3
def f21 (n0 : Int) (clauses : (List (List Int))) : Option Bool :=
 (((if (clauses.length : Int) <= 400 then
 (f22 n0 clauses).bind fun o4 =>
 some o4
 else
 some false) : Option (Bool))).bind fun x_1 =>
 some x_1
def f23 (s0 : (List (List Int))) : Option (List (List Int)) :=
 (app 24 ([]) s0).bind fun l_1 =>
 some l_1
def f25_0 (literals : (List Int)) : (List Int) × Int -> Option (((List Int) × Int) ⊕ (List Int))
 | (out_1, x_2) =>
  if x_2 < (literals.length : Int) then
  (ix literals x_2).bind fun v_4 =>
  (app 8 out_1 ([w64 (-v_4)])).bind fun l_6 =>
  some (.inl (l_6, w64 (x_2 + 1)))
  else
  some (.inr out_1)
def f25 (literals : (List Int)) : Option (List Int) :=
 (iter (f25_0 literals) ([], 0)).bind fun out_10 =>
 some out_10
def f58_0 (s0 : (List Int)) (f : Int -> Option Bool) : Int -> Option (Int ⊕ (Unit ⊕ Int))
 | x_1 =>
  if x_1 < (s0.length : Int) then
  (ix s0 x_1).bind fun v_3 =>
  (f v_3).bind fun o5 =>
  if o5 = true then
  some (.inr (.inr x_1))
  else
  some (.inl (w64 (x_1 + 1)))
  else
  some (.inr (.inl ()))
def f58 (s0 : (List Int)) (f : Int -> Option Bool) : Option Int :=
 (iter (f58_0 s0 f) 0).bind fun o => match o with
 | .inl _ =>
 some (-1)
 | .inr x_10 =>
 some x_10
def f42 (s0 : (List Int)) (f : Int -> Option Bool) : Option Bool :=
 (f58 s0 f).bind fun o1 =>
 some (decide (o1 >= 0))
def f43 (x : Int) (c : (List Int)) : Option Bool :=
 (f44 c x).bind fun o1 =>
 some o1
def f45_0 (a : (List Int)) (b : (List Int)) : (List Int) × Int -> Option (((List Int) × Int) ⊕ (List Int))
 | (out_1, x_2) =>
  if x_2 < (a.length : Int) then
  (ix a x_2).bind fun v_4 =>
  (f44 b v_4).bind fun o6 =>
  (((if ¬ (o6 = true) then
  (app 8 out_1 ([v_4])).bind fun l_11 =>
  some l_11
  else
  some out_1) : Option (List Int))).bind fun out_13 =>
  some (.inl (out_13, w64 (x_2 + 1)))
  else
  some (.inr out_1)
def f45 (a : (List Int)) (b : (List Int)) : Option (List Int) :=
 (iter (f45_0 a b) ([], 0)).bind fun out_16 =>
 some out_16
def f24_1 (clauses : (List (List Int))) (out_3 : (List Int)) : Int -> Option (Int ⊕ (((List Int) × Bool) ⊕ ((List Int) × Bool)))
 | x_4 =>
  if x_4 < (clauses.length : Int) then
  ((((ix clauses x_4).bind fun v_8 =>
  (f42 v_8 (fun x0 => f43 x0 out_3)).bind fun o10 =>
  if o10 = true then
  some (.inl ())
  else
  (f25 out_3).bind fun o13 =>
  (f45 v_8 o13).bind fun o15 =>
  if (o15.length : Int) = 0 then
  some (.inr (.inr (out_3, true)))
  else
  if (o15.length : Int) = 1 then
  (ix o15 0).bind fun v_19 =>
  (app 8 out_3 ([v_19])).bind fun l_21 =>
  some (.inr (.inl (l_21, true)))
  else
  some (.inl ())) : Option (Unit ⊕ (((List Int) × Bool) ⊕ ((List Int) × Bool))))).bind fun o => match o with
  | .inl _ =>
  some (.inl (w64 (x_4 + 1)))
  | .inr (.inl (out_23, found_24)) =>
  some (.inr (.inl (out_23, found_24)))
  | .inr (.inr (x_25, x_26)) =>
  some (.inr (.inr (x_25, x_26)))
  else
  some (.inr (.inl (out_3, false)))
def f24_0 (clauses : (List (List Int))) : (List Int) -> Option ((List Int) ⊕ ((List Int) × Bool))
 | out_3 =>
  (iter (f24_1 clauses out_3) 0).bind fun o => match o with
  | .inl (out_29, found_30) =>
  if ¬ (found_30 = true) then
  some (.inr (out_29, false))
  else
  some (.inl out_29)
  | .inr (x_31, x_32) =>
  some (.inr (x_31, x_32))
def f24 (clauses : (List (List Int))) (start : (List Int)) : Option ((List Int) × Bool) :=
 (app 8 ([]) start).bind fun l_1 =>
 (iter (f24_0 clauses) l_1).bind fun (x_36, x_37) =>
 some (x_36, x_37)
def f6_0 (proof : (List (List Int))) : (List (List Int)) × Int -> Option (((List (List Int)) × Int) ⊕ (Unit ⊕ Bool))
 | (known_14, x_15) =>
  if x_15 < (proof.length : Int) then
  (ix proof x_15).bind fun v_17 =>
  (f25 v_17).bind fun o19 =>
  (f24 known_14 o19).bind fun o21 =>
  if ¬ (o21.2 = true) then
  some (.inr (.inr false))
  else
  (app 24 known_14 ([v_17])).bind fun l_24 =>
  some (.inl (l_24, w64 (x_15 + 1)))
  else
  some (.inr (.inl ()))
def f6 (n0 : Int) (clauses : (List (List Int))) (proof : (List (List Int))) : Option Bool :=
 (f21 n0 clauses).bind fun o1 =>
 (((if ¬ (o1 = true) then
 some true
 else
 (((if (proof.length : Int) = 0 then
 some true
 else
 (f22 n0 proof).bind fun o9 =>
 some (decide (¬ (o9 = true)))) : Option (Bool))).bind fun x_6 =>
 some x_6) : Option (Bool))).bind fun x_3 =>
 if x_3 = true then
 some false
 else
 (f23 clauses).bind fun o12 =>
 (iter (f6_0 proof) (o12, 0)).bind fun o => match o with
 | .inl _ =>
 (ix proof (w64 ((proof.length : Int) - 1))).bind fun v_29 =>
 some (decide ((v_29.length : Int) = 0))
 | .inr x_28 =>
 some x_28
def f26 (code : (List Int)) : Option (Int × (List (List Int))) :=
 (f15 code).bind fun o1 =>
 (f16 o1).bind fun o3 =>
 some (o3.1, o3.2.1)
def f7 (code : (List Int)) : Option (Int × (List (List Int))) :=
 (f26 code).bind fun o1 =>
 some (o1.1, o1.2)
def f8_0 (n0 : Int) (proof : (List (List Int))) : (List (List Int)) × Int -> Option (((List (List Int)) × Int) ⊕ (Unit ⊕ Bool))
 | (x_14, i_15) =>
  if i_15 < (proof.length : Int) then
  (ix proof i_15).bind fun v_17 =>
  (f28 n0 v_17).bind fun o19 =>
  if ¬ (o19 = true) then
  some (.inr (.inr false))
  else
  (f30 v_17).bind fun o22 =>
  (f29 x_14 o22).bind fun o24 =>
  if ¬ (o24.2 = true) then
  some (.inr (.inr false))
  else
  (app 24 x_14 ([v_17])).bind fun l_27 =>
  some (.inl (l_27, w64 (i_15 + 1)))
  else
  some (.inr (.inl ()))
def f8 (n0 : Int) (l : (List (List Int))) (proof : (List (List Int))) : Option Bool :=
 (f27 n0 l).bind fun o1 =>
 (((if ¬ (o1 = true) then
 some true
 else
 (((if (proof.length : Int) = 0 then
 some true
 else
 (ix proof (w64 ((proof.length : Int) - 1))).bind fun v_9 =>
 some (decide ((v_9.length : Int) > 0))) : Option (Bool))).bind fun x_6 =>
 some x_6) : Option (Bool))).bind fun x_3 =>
 if x_3 = true then
 some false
 else
 (app 24 ([]) l).bind fun l_12 =>
 (iter (f8_0 n0 proof) (l_12, 0)).bind fun o => match o with
 | .inl _ =>
 some true
 | .inr x_31 =>
 some x_31
def f51 (n : Int) : Option (List UInt8) := itoaN n
def f32 (n0 : Int) : Option (List UInt8) :=
 (f51 n0).bind fun o1 =>
 some o1
def f34 (xs : List (List UInt8)) (sep : List UInt8) : Option (List UInt8) := joinN xs sep
def f12_0 (clause : (List Int)) : (List (List UInt8)) × Int -> Option (((List (List UInt8)) × Int) ⊕ (List (List UInt8)))
 | (out_1, x_2) =>
  if x_2 < (clause.length : Int) then
  (ix clause x_2).bind fun v_4 =>
  (f32 v_4).bind fun o6 =>
  (app 16 out_1 ([o6])).bind fun l_8 =>
  some (.inl (l_8, w64 (x_2 + 1)))
  else
  some (.inr out_1)
def f12 (clause : (List Int)) : Option (List UInt8) :=
 (iter (f12_0 clause) ([], 0)).bind fun out_12 =>
 (f34 out_12 ([32])).bind fun o13 =>
 (cat ([40]) o13).bind fun s_15 =>
 (cat s_15 ([41])).bind fun s_17 =>
 some s_17
def f10_0 (clauses : (List (List Int))) : (List UInt8) × Int -> Option (((List UInt8) × Int) ⊕ (List UInt8))
 | (out_8, x_9) =>
  if x_9 < (clauses.length : Int) then
  (ix clauses x_9).bind fun v_11 =>
  (f12 v_11).bind fun o13 =>
  (cat out_8 o13).bind fun s_15 =>
  some (.inl (s_15, w64 (x_9 + 1)))
  else
  some (.inr out_8)
def f10 (n0 : Int) (clauses : (List (List Int))) : Option (List UInt8) :=
 (f21 n0 clauses).bind fun o1 =>
 if ¬ (o1 = true) then
 some ([])
 else
 (f32 n0).bind fun o4 =>
 (cat o4 ([58])).bind fun s_6 =>
 (iter (f10_0 clauses) (s_6, 0)).bind fun out_19 =>
 some out_19
def f33_0 : Int × (List UInt8) -> Option ((Int × (List UInt8)) ⊕ (List UInt8))
 | (n_2, out_3) =>
  if n_2 ≠ 0 then
  (((if (n_2.tmod 10) < 0 then
  some (w64 (-(n_2.tmod 10)))
  else
  some (n_2.tmod 10)) : Option Int)).bind fun d_8 =>
  (cat ([UInt8.ofNat (w8 (w64 (48 + d_8))).toNat]) out_3).bind fun s_9 =>
  some (.inl (w64 (n_2.tdiv 10), s_9))
  else
  some (.inr out_3)
def f33 (n0 : Int) : Option (List UInt8) :=
 if n0 = 0 then
 some ([48])
 else
 (iter (f33_0) (n0, [])).bind fun out_13 =>
 if n0 < 0 then
 (cat ([45]) out_13).bind fun s_15 =>
 some s_15
 else
 some out_13
def f14_0 (c : (List Int)) : (List UInt8) × Int -> Option (((List UInt8) × Int) ⊕ (List UInt8))
 | (s_1, i_2) =>
  if i_2 < (c.length : Int) then
  (((if i_2 > 0 then
  (cat s_1 ([32])).bind fun s_7 =>
  some s_7
  else
  some s_1) : Option (List UInt8))).bind fun s_9 =>
  (ix c i_2).bind fun v_10 =>
  (f33 v_10).bind fun o12 =>
  (cat s_9 o12).bind fun s_14 =>
  some (.inl (s_14, w64 (i_2 + 1)))
  else
  some (.inr s_1)
def f14 (c : (List Int)) : Option (List UInt8) :=
 (iter (f14_0 c) ([40], 0)).bind fun s_18 =>
 (cat s_18 ([41])).bind fun s_19 =>
 some s_19
def f11_0 (l : (List (List Int))) : (List UInt8) × Int -> Option (((List UInt8) × Int) ⊕ (List UInt8))
 | (s_8, i_9) =>
  if i_9 < (l.length : Int) then
  (ix l i_9).bind fun v_11 =>
  (f14 v_11).bind fun o13 =>
  (cat s_8 o13).bind fun s_15 =>
  some (.inl (s_15, w64 (i_9 + 1)))
  else
  some (.inr s_8)
def f11 (n0 : Int) (l : (List (List Int))) : Option (List UInt8) :=
 (f27 n0 l).bind fun o1 =>
 if ¬ (o1 = true) then
 some ([])
 else
 (f33 n0).bind fun o4 =>
 (cat o4 ([58])).bind fun s_6 =>
 (iter (f11_0 l) (s_6, 0)).bind fun s_19 =>
 some s_19
def f13 (code : (List Int)) : Option (List Int) :=
 (f15 code).bind fun o1 =>
 (f16 o1).bind fun o3 =>
 if (o3.2.1.length : Int) = 0 then
 some ([])
 else
 (ix o3.2.1 0).bind fun v_6 =>
 some v_6
def f50 (model : (List Bool)) (x : Int) : Option Bool :=
 if x > 0 then
 (((if x <= (model.length : Int) then
 (ix model (w64 (x - 1))).bind fun v_5 =>
 some v_5
 else
 some false) : Option (Bool))).bind fun x_2 =>
 some x_2
 else
 (((if x < 0 then
 (((if x >= (w64 (-(model.length : Int))) then
 (ix model (w64 ((w64 (-x)) - 1))).bind fun v_13 =>
 some (decide (¬ (v_13 = true)))
 else
 some false) : Option (Bool))).bind fun x_10 =>
 some x_10
 else
 some false) : Option (Bool))).bind fun x_7 =>
 some x_7
def f49 (x : Int) (c : (List Bool)) : Option Bool :=
 (f50 c x).bind fun o1 =>
 some o1
def f48 (clause : (List Int)) (c : (List Bool)) : Option Bool :=
 (f42 clause (fun x0 => f49 x0 c)).bind fun o1 =>
 some (decide (¬ (o1 = true)))
def f31 (clauses : (List (List Int))) (model : (List Bool)) : Option Bool :=
 (f39 clauses (fun x0 => f48 x0 model)).bind fun o1 =>
 some (decide (¬ (o1 = true)))
def f9_1 (model_9 : (List Bool)) (x_10 : Int) : (List Bool) × Int -> Option (((List Bool) × Int) ⊕ (List Bool))
 | (model_12, x_13) =>
  if x_13 < (model_9.length : Int) then
  (nn x_13).bind fun z_15 =>
  (ix model_12 x_13).bind fun v_17 =>
  some (.inl ((model_12.set x_13.toNat (decide ((band .i64 (sshr .i64 x_10 x_13) 1) = 1))), w64 (x_13 + 1)))
  else
  some (.inr model_12)
def f9_0 (n0 : Int) (clauses : (List (List Int))) : Int × (List Bool) × Int -> Option ((Int × (List Bool) × Int) ⊕ Int)
 | (count_8, model_9, x_10) =>
  if x_10 < (sshl .i64 1 n0) then
  (iter ((f9_1 model_9 x_10)) (model_9, 0)).bind fun model_22 =>
  (f31 clauses model_22).bind fun o23 =>
  (((if o23 = true then
  some (w64 (count_8 + 1))
  else
  some count_8) : Option Int)).bind fun count_28 =>
  some (.inl (count_28, model_22, w64 (x_10 + 1)))
  else
  some (.inr count_8)
def f9 (n0 : Int) (clauses : (List (List Int))) : Option Int :=
 (f21 n0 clauses).bind fun o1 =>
 if ¬ (o1 = true) then
 some 0
 else
 (mkl 1 n0 false).bind fun l_4 =>
 (nn n0).bind fun z_6 =>
 (iter (f9_0 n0 clauses) (0, l_4, 0)).bind fun count_31 =>
 some count_31
def f3 (code : (List Int)) : Option Bool :=
 (f4 code).bind fun o1 =>
 if o1 = true then
 some true
 else
 (f5 code).bind fun o4 =>
 (f6 o4.1 o4.2.1 o4.2.2).bind fun o6 =>
 (f7 code).bind fun o8 =>
 (f8 o4.1 o4.2.1 o4.2.2).bind fun o10 =>
 (((if (o6 == o10) = true then
 (((if ¬ (o6 = true) then
 (f10 o8.1 o8.2).bind fun o18 =>
 (f11 o8.1 o8.2).bind fun o20 =>
 (((if o18 = o20 then
 (f13 code).bind fun o25 =>
 (f12 o25).bind fun o27 =>
 (f13 code).bind fun o29 =>
 (f14 o29).bind fun o31 =>
 some (decide (o27 = o31))
 else
 some false) : Option (Bool))).bind fun x_22 =>
 some x_22
 else
 (f9 o4.1 o4.2.1).bind fun o33 =>
 (((if o33 = 0 then
 (f10 o8.1 o8.2).bind fun o38 =>
 (f11 o8.1 o8.2).bind fun o40 =>
 (((if o38 = o40 then
 (f13 code).bind fun o45 =>
 (f12 o45).bind fun o47 =>
 (f13 code).bind fun o49 =>
 (f14 o49).bind fun o51 =>
 some (decide (o47 = o51))
 else
 some false) : Option (Bool))).bind fun x_42 =>
 some x_42
 else
 some false) : Option (Bool))).bind fun x_35 =>
 some x_35) : Option (Bool))).bind fun x_15 =>
 some x_15
 else
 some false) : Option (Bool))).bind fun x_12 =>
 some x_12
end
end Go.Proofs.YtbpdhmbdpjafeaaDoorH
