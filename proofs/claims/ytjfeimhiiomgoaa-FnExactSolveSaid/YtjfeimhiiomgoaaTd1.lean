import Derived.Test.YtjfeimhiiomgoaaX3
set_option linter.unusedVariables false
set_option linter.unusedSimpArgs false
set_option linter.defProp false
set_option linter.unusedSectionVars false
set_option maxRecDepth 100000
namespace Go.Proofs.YtjfeimhiiomgoaaH
open Go
noncomputable section
structure L22State where
 n : Int
 l : (List (List Int))
 proof : (List (List Int))
 model : (List Bool)
 deriving DecidableEq, Inhabited
def eL22State : En L22State := ⟨4, fun b a => if b then [(.int .i64 a.n), (osl (eL eI) true a.l), (osl (eL eI) true a.proof), (osl eB true a.model)] else [(.int .i64 a.n), (ssl (eL eI) a.l), (ssl (eL eI) a.proof), (ssl eB a.model)], fun b a => by cases b <;> rfl, by decide, fun b a => by cases b <;> simp [T.frz], fun a => by simp, fun a => by simp, fun b a => by cases b <;> simp⟩
@[simp] theorem eL22State_w : eL22State.w = 4 := rfl
@[simp] theorem eL22State_ct {a : L22State} : eL22State.c true a = [(.int .i64 a.n), (osl (eL eI) true a.l), (osl (eL eI) true a.proof), (osl eB true a.model)] := rfl
@[simp] theorem eL22State_cf {a : L22State} : eL22State.c false a = [(.int .i64 a.n), (ssl (eL eI) a.l), (ssl (eL eI) a.proof), (ssl eB a.model)] := rfl
@[simp] theorem eL22State_e (a : L22State) : L22State.mk a.n a.l a.proof a.model = a := rfl
structure Solver where
 n : Int
 clauses : (List (List Int))
 learned : (List (List Int))
 deriving DecidableEq, Inhabited
def eSolver : En Solver := ⟨3, fun b a => if b then [(.int .i64 a.n), (osl (eL eI) true a.clauses), (osl (eL eI) true a.learned)] else [(.int .i64 a.n), (ssl (eL eI) a.clauses), (ssl (eL eI) a.learned)], fun b a => by cases b <;> rfl, by decide, fun b a => by cases b <;> simp [T.frz], fun a => by simp, fun a => by simp, fun b a => by cases b <;> simp⟩
@[simp] theorem eSolver_w : eSolver.w = 3 := rfl
@[simp] theorem eSolver_ct {a : Solver} : eSolver.c true a = [(.int .i64 a.n), (osl (eL eI) true a.clauses), (osl (eL eI) true a.learned)] := rfl
@[simp] theorem eSolver_cf {a : Solver} : eSolver.c false a = [(.int .i64 a.n), (ssl (eL eI) a.clauses), (ssl (eL eI) a.learned)] := rfl
@[simp] theorem eSolver_e (a : Solver) : Solver.mk a.n a.clauses a.learned = a := rfl
def f43 (a : (List Int)) (left : Int) : Option Int :=
 if (w64 (left - (a.length : Int))) < 0 then
 some (-1)
 else
 some (w64 (left - (a.length : Int)))
def f17_0 (a : (List (List Int))) : Int × Int -> Option ((Int × Int) ⊕ (Int ⊕ Int))
 | (left_2, i_3) =>
  if i_3 < (a.length : Int) then
  (ix a i_3).bind fun v_5 =>
  (f43 v_5 left_2).bind fun o7 =>
  if o7 < 0 then
  some (.inr (.inr (-1)))
  else
  some (.inl (o7, w64 (i_3 + 1)))
  else
  some (.inr (.inl left_2))
def f17 (a : (List (List Int))) (left : Int) : Option Int :=
 if (w64 (left - (a.length : Int))) < 0 then
 some (-1)
 else
 (iter (f17_0 a) (w64 (left - (a.length : Int)), 0)).bind fun o => match o with
 | .inl left_12 =>
 some left_12
 | .inr x_13 =>
 some x_13
def f44_0 (a : (List Int)) : (List Int) × Int -> Option (((List Int) × Int) ⊕ (List Int))
 | (out_3, i_4) =>
  if i_4 < (a.length : Int) then
  (ix a i_4).bind fun v_6 =>
  (ix out_3 i_4).bind fun v_8 =>
  some (.inl ((out_3.set i_4.toNat v_6), w64 (i_4 + 1)))
  else
  some (.inr out_3)
def f44 (a : (List Int)) : Option (List Int) :=
 (mkl 8 (a.length : Int) 0).bind fun l_1 =>
 (iter (f44_0 a) (l_1, 0)).bind fun out_13 =>
 some out_13
def f18_0 (a : (List (List Int))) : (List (List Int)) × Int -> Option (((List (List Int)) × Int) ⊕ (List (List Int)))
 | (out_3, i_4) =>
  if i_4 < (a.length : Int) then
  (ix a i_4).bind fun v_6 =>
  (f44 v_6).bind fun o8 =>
  (ix out_3 i_4).bind fun v_10 =>
  some (.inl ((out_3.set i_4.toNat o8), w64 (i_4 + 1)))
  else
  some (.inr out_3)
def f18 (a : (List (List Int))) : Option (List (List Int)) :=
 (mkl 24 (a.length : Int) ([] : (List Int))).bind fun l_1 =>
 (iter (f18_0 a) (l_1, 0)).bind fun out_15 =>
 some out_15
def f31 (x : Int) (low : Int) (high : Int) : Option Bool :=
 (((if x >= low then
 some (decide (x <= high))
 else
 some false) : Option (Bool))).bind fun x_1 =>
 some x_1
def f30_1 (c : (List Int)) (i_1 : Int) : Int -> Option (Int ⊕ (Unit ⊕ Bool))
 | k_15 =>
  if k_15 < i_1 then
  (ix c k_15).bind fun v_17 =>
  (ix c i_1).bind fun v_19 =>
  (((if v_17 = v_19 then
  some true
  else
  some (decide (v_17 = (w64 (-v_19))))) : Option (Bool))).bind fun x_21 =>
  if x_21 = true then
  some (.inr (.inr false))
  else
  some (.inl (w64 (k_15 + 1)))
  else
  some (.inr (.inl ()))
def f30_0 (n0 : Int) (c : (List Int)) : Int -> Option (Int ⊕ (Unit ⊕ Bool))
 | i_1 =>
  if i_1 < (c.length : Int) then
  (ix c i_1).bind fun v_3 =>
  (((if v_3 < 0 then
  some (decide (v_3 >= (w64 (-n0))))
  else
  some false) : Option (Bool))).bind fun x_5 =>
  (((if x_5 = true then
  some (w64 (-v_3))
  else
  some (if 0 > v_3 then 0 else v_3)) : Option Int)).bind fun v_11 =>
  (f31 v_11 1 n0).bind fun o12 =>
  if ¬ (o12 = true) then
  some (.inr (.inr false))
  else
  (iter ((f30_1 c i_1)) 0).bind fun o => match o with
  | .inl _ =>
  some (.inl (w64 (i_1 + 1)))
  | .inr x_27 =>
  some (.inr (.inr x_27))
  else
  some (.inr (.inl ()))
def f30 (n0 : Int) (c : (List Int)) : Option Bool :=
 (iter (f30_0 n0 c) 0).bind fun o => match o with
 | .inl _ =>
 some true
 | .inr x_30 =>
 some x_30
def f12_0 (n0 : Int) (l : (List (List Int))) : Int -> Option (Int ⊕ (Unit ⊕ Bool))
 | i_1 =>
  if i_1 < (l.length : Int) then
  (ix l i_1).bind fun v_3 =>
  (f30 n0 v_3).bind fun o5 =>
  if ¬ (o5 = true) then
  some (.inr (.inr false))
  else
  some (.inl (w64 (i_1 + 1)))
  else
  some (.inr (.inl ()))
def f12 (n0 : Int) (l : (List (List Int))) : Option Bool :=
 (iter (f12_0 n0 l) 0).bind fun o => match o with
 | .inl _ =>
 (f31 n0 0 14).bind fun o11 =>
 (((if o11 = true then
 some (decide ((l.length : Int) <= 400))
 else
 some false) : Option (Bool))).bind fun x_13 =>
 some x_13
 | .inr x_10 =>
 some x_10
def f55_0 (l : (List Int)) (x : Int) : Int -> Option (Int ⊕ (Unit ⊕ Bool))
 | i_1 =>
  if i_1 < (l.length : Int) then
  (ix l i_1).bind fun v_3 =>
  if v_3 = x then
  some (.inr (.inr true))
  else
  some (.inl (w64 (i_1 + 1)))
  else
  some (.inr (.inl ()))
def f55 (l : (List Int)) (x : Int) : Option Bool :=
 (iter (f55_0 l x) 0).bind fun o => match o with
 | .inl _ =>
 some false
 | .inr x_8 =>
 some x_8
def f63_0 (c : (List Int)) (set1 : (List Int)) : (List Int) × Int -> Option (((List Int) × Int) ⊕ ((List Int) ⊕ ((List Int) × Bool)))
 | (out_1, i_2) =>
  if i_2 < (c.length : Int) then
  (ix c i_2).bind fun v_4 =>
  (f55 set1 v_4).bind fun o6 =>
  if o6 = true then
  some (.inr (.inr (out_1, true)))
  else
  (f55 set1 (w64 (-v_4))).bind fun o9 =>
  (((if ¬ (o9 = true) then
  (app 8 out_1 ([v_4])).bind fun l_14 =>
  some l_14
  else
  some out_1) : Option (List Int))).bind fun out_16 =>
  some (.inl (out_16, w64 (i_2 + 1)))
  else
  some (.inr (.inl out_1))
def f63 (c : (List Int)) (set1 : (List Int)) : Option ((List Int) × Bool) :=
 (iter (f63_0 c set1) ([], 0)).bind fun o => match o with
 | .inl out_19 =>
 some (out_19, false)
 | .inr (x_20, x_21) =>
 some (x_20, x_21)
def f41_1 (l : (List (List Int))) : (List Int) × Bool × Int -> Option (((List Int) × Bool × Int) ⊕ (((List Int) × Bool) ⊕ ((List Int) × Bool)))
 | (out_6, more_7, i_8) =>
  (((if i_8 < (l.length : Int) then
  some (decide (¬ (more_7 = true)))
  else
  some false) : Option (Bool))).bind fun x_9 =>
  if x_9 = true then
  ((((ix l i_8).bind fun v_15 =>
  (f63 v_15 out_6).bind fun o17 =>
  if o17.2 = true then
  some (.inl (out_6, more_7))
  else
  if (o17.1.length : Int) = 0 then
  some (.inr (out_6, true))
  else
  (((if (o17.1.length : Int) = 1 then
  (ix o17.1 0).bind fun v_24 =>
  (app 8 out_6 ([v_24])).bind fun l_26 =>
  some (l_26, true)
  else
  some (out_6, more_7)) : Option ((List Int) × Bool))).bind fun (out_28, more_29) =>
  some (.inl (out_28, more_29))) : Option (((List Int) × Bool) ⊕ ((List Int) × Bool)))).bind fun o => match o with
  | .inl (out_30, more_31) =>
  some (.inl (out_30, more_31, w64 (i_8 + 1)))
  | .inr (x_32, x_33) =>
  some (.inr (.inr (x_32, x_33)))
  else
  some (.inr (.inl (out_6, more_7)))
def f41_0 (l : (List (List Int))) : (List Int) × Bool -> Option (((List Int) × Bool) ⊕ ((List Int) ⊕ ((List Int) × Bool)))
 | (out_3, more_4) =>
  if more_4 = true then
  (iter (f41_1 l) (out_3, false, 0)).bind fun o => match o with
  | .inl (out_36, more_37) =>
  some (.inl (out_36, more_37))
  | .inr (x_38, x_39) =>
  some (.inr (.inr (x_38, x_39)))
  else
  some (.inr (.inl out_3))
def f41 (l : (List (List Int))) (set1 : (List Int)) : Option ((List Int) × Bool) :=
 (app 8 ([]) set1).bind fun l_1 =>
 (iter (f41_0 l) (l_1, true)).bind fun o => match o with
 | .inl out_42 =>
 some (out_42, false)
 | .inr (x_43, x_44) =>
 some (x_43, x_44)
def f42_0 (l : (List Int)) : (List Int) × Int -> Option (((List Int) × Int) ⊕ (List Int))
 | (out_1, i_2) =>
  if i_2 < (l.length : Int) then
  (ix l i_2).bind fun v_4 =>
  (app 8 out_1 ([w64 (-v_4)])).bind fun l_6 =>
  some (.inl (l_6, w64 (i_2 + 1)))
  else
  some (.inr out_1)
def f42 (l : (List Int)) : Option (List Int) :=
 (iter (f42_0 l) ([], 0)).bind fun out_10 =>
 some out_10
def f54 (t : L22State) (signs : (List Int)) : Option L22State :=
 (f42 signs).bind fun o1 =>
 (app 24 t.l ([o1])).bind fun l_3 =>
 (app 24 t.proof ([o1])).bind fun l_5 =>
 some ({ n := t.n, l := l_3, proof := l_5, model := t.model } : L22State)
def f28_0 (t : L22State) (signs : (List Int)) (rec : L22State -> (List Int) -> Option (Bool × L22State)) (o1 : ((List Int) × Bool)) : Int -> Option (Int ⊕ (Unit ⊕ (Int × (List (List Int)) × (List (List Int)) × (List Bool) × Bool)))
 | v_6 =>
  if v_6 <= t.n then
  (f55 o1.1 v_6).bind fun o8 =>
  (((if o8 = true then
  some true
  else
  (f55 o1.1 (w64 (-v_6))).bind fun o13 =>
  some o13) : Option (Bool))).bind fun x_10 =>
  if x_10 = true then
  some (.inl (w64 (v_6 + 1)))
  else
  (app 8 ([]) signs).bind fun l_16 =>
  (app 8 l_16 ([v_6])).bind fun l_18 =>
  (rec t l_18).bind fun o20 =>
  (((if o20.1 = true then
  some (o20.2.n, o20.2.l, o20.2.proof, o20.2.model, true)
  else
  (app 8 l_16 ([w64 (-v_6)])).bind fun l_29 =>
  (rec o20.2 l_29).bind fun o31 =>
  some (o31.2.n, o31.2.l, o31.2.proof, o31.2.model, o31.1)) : Option (Int × (List (List Int)) × (List (List Int)) × (List Bool) × Bool))).bind fun (t_22, t_23, t_24, t_25, x_26) =>
  if x_26 = true then
  some (.inr (.inr (t_22, t_23, t_24, t_25, true)))
  else
  (f54 ({ n := t_22, l := t_23, proof := t_24, model := t_25 } : L22State) signs).bind fun o34 =>
  some (.inr (.inr (o34.n, o34.l, o34.proof, o34.model, false)))
  else
  some (.inr (.inl ()))
def f28_1 (o1 : ((List Int) × Bool)) : Int × (List (List Int)) × (List (List Int)) × (List Bool) × Int -> Option ((Int × (List (List Int)) × (List (List Int)) × (List Bool) × Int) ⊕ (Int × (List (List Int)) × (List (List Int)) × (List Bool)))
 | (t_43, t_44, t_45, t_46, v_47) =>
  if v_47 <= t_43 then
  (f55 o1.1 v_47).bind fun o49 =>
  (app 1 t_46 ([o49])).bind fun l_51 =>
  some (.inl (t_43, t_44, t_45, l_51, w64 (v_47 + 1)))
  else
  some (.inr (t_43, t_44, t_45, t_46))
def f28 : Nat -> L22State -> (List Int) -> Option (Bool × L22State)
 | 0 => fun _ _ => none
 | n + 1 => fun t signs =>
  (f41 t.l signs).bind fun o1 =>
  if o1.2 = true then
  (f54 t signs).bind fun o4 =>
  some (false, o4)
  else
  (iter (f28_0 t signs (f28 n) o1) 1).bind fun o => match o with
  | .inl _ =>
  (iter (f28_1 o1) (t.n, t.l, t.proof, t.model, 1)).bind fun (t_55, t_56, t_57, t_58) =>
  some (true, ({ n := t_55, l := t_56, proof := t_57, model := t_58 } : L22State))
  | .inr (t_38, t_39, t_40, t_41, x_42) =>
  some (x_42, ({ n := t_38, l := t_39, proof := t_40, model := t_41 } : L22State))
def f8 (n0 : Int) (l : (List (List Int))) : Option ((List Bool) × (List (List Int)) × Bool) :=
 (f12 n0 l).bind fun o1 =>
 if ¬ (o1 = true) then
 some ([], [], false)
 else
 (app 24 ([]) l).bind fun l_4 =>
 (f28 64 ({ n := n0, l := l_4, proof := [], model := [] } : L22State) ([])).bind fun o6 =>
 if o6.1 = true then
 some (o6.2.model, [], true)
 else
 some ([], o6.2.proof, false)
def f58 (n0 : Int) (low : Int) (high : Int) : Option Bool :=
 (((if low <= n0 then
 some (decide (n0 <= high))
 else
 some false) : Option (Bool))).bind fun x_1 =>
 some x_1
def f56_0 (s0 : (List (List Int))) (f : (List Int) -> Option Bool) : Int -> Option (Int ⊕ (Unit ⊕ Int))
 | x_1 =>
  if x_1 < (s0.length : Int) then
  (ix s0 x_1).bind fun v_3 =>
  (f v_3).bind fun o5 =>
  if o5 = true then
  some (.inr (.inr x_1))
  else
  some (.inl (w64 (x_1 + 1)))
  else
  some (.inr (.inl ()))
def f56 (s0 : (List (List Int))) (f : (List Int) -> Option Bool) : Option Int :=
 (iter (f56_0 s0 f) 0).bind fun o => match o with
 | .inl _ =>
 some (-1)
 | .inr x_10 =>
 some x_10
def f32 (s0 : (List (List Int))) (f : (List Int) -> Option Bool) : Option Bool :=
 (f56 s0 f).bind fun o1 =>
 some (decide (o1 >= 0))
def f68_0 (s0 : (List Int)) (v : Int) : Int -> Option (Int ⊕ (Unit ⊕ Int))
 | x_1 =>
  if x_1 < (s0.length : Int) then
  (ix s0 x_1).bind fun v_3 =>
  if v = v_3 then
  some (.inr (.inr x_1))
  else
  some (.inl (w64 (x_1 + 1)))
  else
  some (.inr (.inl ()))
def f68 (s0 : (List Int)) (v : Int) : Option Int :=
 (iter (f68_0 s0 v) 0).bind fun o => match o with
 | .inl _ =>
 some (-1)
 | .inr x_8 =>
 some x_8
def f52 (s0 : (List Int)) (v : Int) : Option Bool :=
 (f68 s0 v).bind fun o1 =>
 some (decide (o1 >= 0))
def f60_0 (n0 : Int) (clause : (List Int)) : Int -> Option (Int ⊕ (Unit ⊕ Bool))
 | x_1 =>
  if x_1 < (clause.length : Int) then
  (ix clause x_1).bind fun v_3 =>
  (((if v_3 = 0 then
  some true
  else
  (f58 v_3 (w64 (-n0)) n0).bind fun o8 =>
  (((if ¬ (o8 = true) then
  some true
  else
  (cutL clause 0 x_1).bind fun l_13 =>
  (f52 l_13 v_3).bind fun o15 =>
  (((if o15 = true then
  some true
  else
  (f52 l_13 (w64 (-v_3))).bind fun o20 =>
  some o20) : Option (Bool))).bind fun x_17 =>
  some x_17) : Option (Bool))).bind fun x_10 =>
  some x_10) : Option (Bool))).bind fun x_5 =>
  if x_5 = true then
  some (.inr (.inr false))
  else
  some (.inl (w64 (x_1 + 1)))
  else
  some (.inr (.inl ()))
def f60 (n0 : Int) (clause : (List Int)) : Option Bool :=
 (iter (f60_0 n0 clause) 0).bind fun o => match o with
 | .inl _ =>
 some true
 | .inr x_25 =>
 some x_25
def f59 (clause : (List Int)) (c : Int) : Option Bool :=
 (f60 c clause).bind fun o1 =>
 some (decide (¬ (o1 = true)))
def f37 (n0 : Int) (clauses : (List (List Int))) : Option Bool :=
 (f58 n0 0 14).bind fun o1 =>
 (((if o1 = true then
 (f32 clauses (fun x0 => f59 x0 n0)).bind fun o6 =>
 some (decide (¬ (o6 = true)))
 else
 some false) : Option (Bool))).bind fun x_3 =>
 some x_3
def f26 (n0 : Int) (clauses : (List (List Int))) : Option Bool :=
 (((if (clauses.length : Int) <= 400 then
 (f37 n0 clauses).bind fun o4 =>
 some o4
 else
 some false) : Option (Bool))).bind fun x_1 =>
 some x_1
def f67 (n : Int) : Option Nat := growN 24 n
def f50_0 (slices : (List (List (List Int)))) : Int × Int -> Option ((Int × Int) ⊕ Int)
 | (size_1, x_2) =>
  if x_2 < (slices.length : Int) then
  (ix slices x_2).bind fun v_4 =>
  (((if (w64 (size_1 + (v_4.length : Int))) < 0 then
  none
  else
  some ()) : Option Unit)).bind fun _ =>
  some (.inl (w64 (size_1 + (v_4.length : Int)), w64 (x_2 + 1)))
  else
  some (.inr size_1)
def f50_1 (slices : (List (List (List Int)))) : Nat × (List (List Int)) × Int -> Option ((Nat × (List (List Int)) × Int) ⊕ (Nat × (List (List Int))))
 | (newslice_14, newslice_15, x_16) =>
  if x_16 < (slices.length : Int) then
  (ix slices x_16).bind fun v_18 =>
  (apps 24 newslice_15 newslice_14 v_18).bind fun l_20 =>
  some (.inl (l_20.2, l_20.1, w64 (x_16 + 1)))
  else
  some (.inr (newslice_14, newslice_15))
def f50 (slices : (List (List (List Int)))) : Option (List (List Int)) :=
 (iter (f50_0 slices) (0, 0)).bind fun size_11 =>
 (f67 size_11).bind fun o12 =>
 (iter (f50_1 slices) (o12, [], 0)).bind fun (newslice_24, newslice_25) =>
 (nsk newslice_24).bind fun _ =>
 some newslice_25
def f57_0 (s0 : (List Int)) (f : Int -> Option Bool) : Int -> Option (Int ⊕ (Unit ⊕ Int))
 | x_1 =>
  if x_1 < (s0.length : Int) then
  (ix s0 x_1).bind fun v_3 =>
  (f v_3).bind fun o5 =>
  if o5 = true then
  some (.inr (.inr x_1))
  else
  some (.inl (w64 (x_1 + 1)))
  else
  some (.inr (.inl ()))
def f57 (s0 : (List Int)) (f : Int -> Option Bool) : Option Int :=
 (iter (f57_0 s0 f) 0).bind fun o => match o with
 | .inl _ =>
 some (-1)
 | .inr x_10 =>
 some x_10
def f34 (s0 : (List Int)) (f : Int -> Option Bool) : Option Bool :=
 (f57 s0 f).bind fun o1 =>
 some (decide (o1 >= 0))
def f61 (x : Int) (c : (List Int)) : Option Bool :=
 (f52 c x).bind fun o1 =>
 some o1
def f40_0 (literals : (List Int)) : (List Int) × Int -> Option (((List Int) × Int) ⊕ (List Int))
 | (out_1, x_2) =>
  if x_2 < (literals.length : Int) then
  (ix literals x_2).bind fun v_4 =>
  (app 8 out_1 ([w64 (-v_4)])).bind fun l_6 =>
  some (.inl (l_6, w64 (x_2 + 1)))
  else
  some (.inr out_1)
def f40 (literals : (List Int)) : Option (List Int) :=
 (iter (f40_0 literals) ([], 0)).bind fun out_10 =>
 some out_10
def f62_0 (a : (List Int)) (b : (List Int)) : (List Int) × Int -> Option (((List Int) × Int) ⊕ (List Int))
 | (out_1, x_2) =>
  if x_2 < (a.length : Int) then
  (ix a x_2).bind fun v_4 =>
  (f52 b v_4).bind fun o6 =>
  (((if ¬ (o6 = true) then
  (app 8 out_1 ([v_4])).bind fun l_11 =>
  some l_11
  else
  some out_1) : Option (List Int))).bind fun out_13 =>
  some (.inl (out_13, w64 (x_2 + 1)))
  else
  some (.inr out_1)
def f62 (a : (List Int)) (b : (List Int)) : Option (List Int) :=
 (iter (f62_0 a b) ([], 0)).bind fun out_16 =>
 some out_16
def f39_1 (clauses : (List (List Int))) (out_3 : (List Int)) : Int -> Option (Int ⊕ (((List Int) × Bool) ⊕ ((List Int) × Bool)))
 | x_4 =>
  if x_4 < (clauses.length : Int) then
  ((((ix clauses x_4).bind fun v_8 =>
  (f34 v_8 (fun x0 => f61 x0 out_3)).bind fun o10 =>
  if o10 = true then
  some (.inl ())
  else
  (f40 out_3).bind fun o13 =>
  (f62 v_8 o13).bind fun o15 =>
  if (o15.length : Int) = 0 then
  some (.inr (.inr (out_3, true)))
  else
  if (o15.length : Int) = 1 then
  (ix o15 0).bind fun v_19 =>
  (app 8 out_3 ([v_19])).bind fun l_21 =>
  some (.inr (.inl (l_21, true)))
  else
  some (.inl ())) : Option (Unit ⊕ (((List Int) × Bool) ⊕ ((List Int) × Bool))))).bind fun o => match o with
  | .inl _ =>
  some (.inl (w64 (x_4 + 1)))
  | .inr (.inl (out_23, found_24)) =>
  some (.inr (.inl (out_23, found_24)))
  | .inr (.inr (x_25, x_26)) =>
  some (.inr (.inr (x_25, x_26)))
  else
  some (.inr (.inl (out_3, false)))
def f39_0 (clauses : (List (List Int))) : (List Int) -> Option ((List Int) ⊕ ((List Int) × Bool))
 | out_3 =>
  (iter (f39_1 clauses out_3) 0).bind fun o => match o with
  | .inl (out_29, found_30) =>
  if ¬ (found_30 = true) then
  some (.inr (out_29, false))
  else
  some (.inl out_29)
  | .inr (x_31, x_32) =>
  some (.inr (x_31, x_32))
def f39 (clauses : (List (List Int))) (start : (List Int)) : Option ((List Int) × Bool) :=
 (app 8 ([]) start).bind fun l_1 =>
 (iter (f39_0 clauses) l_1).bind fun (x_36, x_37) =>
 some (x_36, x_37)
def f51 (s0 : Solver) (assumed : (List Int)) : Option (Unit × Solver) :=
 (f40 assumed).bind fun o1 =>
 (app 24 s0.learned ([o1])).bind fun l_3 =>
 some ((), ({ n := s0.n, clauses := s0.clauses, learned := l_3 } : Solver))
def f53 (s0 : (List Int)) : Option (List Int) :=
 (app 8 ([]) s0).bind fun l_1 =>
 some l_1
def f27_1 (assumed : (List Int)) (rec : Solver -> (List Int) -> Option (Option (List Int) × Solver)) (two : (List Int)) : Solver × Int -> Option ((Solver × Int) ⊕ (Solver ⊕ ((List Int) × Solver)))
 | (s1, x) =>
  if x < (two.length : Int) then
  (ix two x).bind fun v_9 =>
  (f53 assumed).bind fun o58 =>
  (app 8 o58 ([v_9])).bind fun l_61 =>
  (rec s1 l_61).bind fun o62 =>
  om o62.1 fun m => match m with
  | none =>
  some (.inl (o62.2, w64 (x + 1)))
  | some r =>
  some (.inr (.inr (r, o62.2)))
  else
  some (.inr (.inl s1))
def f27_0 (s0 : Solver) (assumed : (List Int)) (rec : Solver -> (List Int) -> Option (Option (List Int) × Solver)) (o23 : (List Int) × Bool) : Int -> Option (Int ⊕ (Unit ⊕ (Option (List Int) × Solver)))
 | v_7 =>
  if v_7 <= s0.n then
  (f52 o23.1 v_7).bind fun o40 =>
  (((if o40 = true then
  some true
  else
  (f52 o23.1 (w64 (-v_7))).bind fun o45 =>
  some o45) : Option (Bool))).bind fun x_46 =>
  if x_46 = true then
  some (.inl (w64 (v_7 + 1)))
  else
  (iter (f27_1 assumed rec ([v_7, w64 (-v_7)])) (s0, 0)).bind fun o => match o with
  | .inl s1 =>
  (f51 s1 assumed).bind fun o69 =>
  some (.inr (.inr (none, o69.2)))
  | .inr (r, s1) =>
  some (.inr (.inr (some r, s1)))
  else
  some (.inr (.inl ()))
def f27 : Nat -> Solver -> (List Int) -> Option (Option (List Int) × Solver)
 | 0 => fun _ _ => none
 | n + 1 => fun s0 assumed =>
  (((f50 ([s0.clauses, s0.learned])).bind fun o21 =>
  (f39 o21 assumed).bind fun o23 =>
  some o23) : Option ((List Int) × Bool)).bind fun o23 =>
  if o23.2 = true then
  (f51 s0 assumed).bind fun o29 =>
  some (none, o29.2)
  else
  (iter (f27_0 s0 assumed (f27 n) o23) 1).bind fun o => match o with
  | .inl _ =>
  some (some o23.1, s0)
  | .inr (r, s1) =>
  om r fun r => match r with
  | none =>
  some (none, s1)
  | some l =>
  some (some l, s1)
def f7_0 (res : (List Int)) : (List Bool) × Int -> Option (((List Bool) × Int) ⊕ (List Bool))
 | (model, x) =>
  if x < (res.length : Int) then
  (ix res x).bind fun v_35 =>
  (((if v_35 > 0 then
  (ix model (w64 (v_35 - 1))).bind fun _ =>
  some (model.set (w64 (v_35 - 1)).toNat true)
  else
  some model) : Option (List Bool))).bind fun m =>
  some (.inl (m, w64 (x + 1)))
  else
  some (.inr model)
def f7 (n0 : Int) (l : (List (List Int))) : Option ((List Bool) × (List (List Int)) × Bool) :=
 (f26 n0 l).bind fun o14 =>
 if ¬ (o14 = true) then
 some ([], [], false)
 else
 (f27 64 ({ n := n0, clauses := l, learned := [] } : Solver) ([])).bind fun o21 =>
 om o21.1 fun m => match m with
 | none =>
 some ([], o21.2.learned, false)
 | some res =>
 (mkl 1 n0 false).bind fun l_29 =>
 (iter (f7_0 res) (l_29, 0)).bind fun m =>
 some (m, [], true)
def f19_0 (a : (List Bool)) (b : (List Bool)) : Int -> Option (Int ⊕ (Unit ⊕ Bool))
 | i_2 =>
  if i_2 < (a.length : Int) then
  (ix a i_2).bind fun v_4 =>
  (ix b i_2).bind fun v_6 =>
  if (v_4 != v_6) = true then
  some (.inr (.inr false))
  else
  some (.inl (w64 (i_2 + 1)))
  else
  some (.inr (.inl ()))
def f19 (a : (List Bool)) (b : (List Bool)) : Option Bool :=
 if (a.length : Int) ≠ (b.length : Int) then
 some false
 else
 (iter (f19_0 a b) 0).bind fun o => match o with
 | .inl _ =>
 some true
 | .inr x_11 =>
 some x_11
def f45_0 (a : (List Int)) (b : (List Int)) : Int -> Option (Int ⊕ (Unit ⊕ Bool))
 | i_2 =>
  if i_2 < (a.length : Int) then
  (ix a i_2).bind fun v_4 =>
  (ix b i_2).bind fun v_6 =>
  if v_4 ≠ v_6 then
  some (.inr (.inr false))
  else
  some (.inl (w64 (i_2 + 1)))
  else
  some (.inr (.inl ()))
def f45 (a : (List Int)) (b : (List Int)) : Option Bool :=
 if (a.length : Int) ≠ (b.length : Int) then
 some false
 else
 (iter (f45_0 a b) 0).bind fun o => match o with
 | .inl _ =>
 some true
 | .inr x_11 =>
 some x_11
def f20_0 (a : (List (List Int))) (b : (List (List Int))) : Int -> Option (Int ⊕ (Unit ⊕ Bool))
 | i_2 =>
  if i_2 < (a.length : Int) then
  (ix a i_2).bind fun v_4 =>
  (ix b i_2).bind fun v_6 =>
  (f45 v_4 v_6).bind fun o8 =>
  if ¬ (o8 = true) then
  some (.inr (.inr false))
  else
  some (.inl (w64 (i_2 + 1)))
  else
  some (.inr (.inl ()))
def f20 (a : (List (List Int))) (b : (List (List Int))) : Option Bool :=
 if (a.length : Int) ≠ (b.length : Int) then
 some false
 else
 (iter (f20_0 a b) 0).bind fun o => match o with
 | .inl _ =>
 some true
 | .inr x_13 =>
 some x_13
def f46_0 : (List Int) × Int × Int -> Option (((List Int) × Int × Int) ⊕ ((List Int) × Int))
 | (a_1, k_2, i_3) =>
  if i_3 < (a_1.length : Int) then
  (ix a_1 i_3).bind fun v_5 =>
  some (.inl ((a_1.set i_3.toNat k_2), w64 (k_2 + 1), w64 (i_3 + 1)))
  else
  some (.inr (a_1, k_2))
def f46 (a : (List Int)) (k : Int) : Option (Int × (List Int)) :=
 (iter f46_0 (a, k, 0)).bind fun (a_10, k_11) =>
 some (k_11, a_10)
def f21_0 : (List (List Int)) × Int × Int -> Option (((List (List Int)) × Int × Int) ⊕ ((List (List Int)) × Int))
 | (a_1, k_2, i_3) =>
  if i_3 < (a_1.length : Int) then
  (ix a_1 i_3).bind fun v_5 =>
  (f46 v_5 k_2).bind fun o7 =>
  some (.inl ((a_1.set i_3.toNat o7.2), o7.1, w64 (i_3 + 1)))
  else
  some (.inr (a_1, k_2))
def f21 (a : (List (List Int))) (k : Int) : Option (Int × (List (List Int))) :=
 (iter f21_0 (a, k, 0)).bind fun (a_12, k_13) =>
 some (k_13, a_12)
def f22_0 : (List Bool) × Int × Int -> Option (((List Bool) × Int × Int) ⊕ ((List Bool) × Int))
 | (a_1, k_2, i_3) =>
  if i_3 < (a_1.length : Int) then
  (ix a_1 i_3).bind fun v_5 =>
  some (.inl ((a_1.set i_3.toNat (decide ((k_2.tmod 3) = 0))), w64 (k_2 + 1), w64 (i_3 + 1)))
  else
  some (.inr (a_1, k_2))
def f22 (a : (List Bool)) (k : Int) : Option (Int × (List Bool)) :=
 (iter f22_0 (a, k, 0)).bind fun (a_10, k_11) =>
 some (k_11, a_10)
def f23_0 (a : (List Bool)) : Int × Int -> Option ((Int × Int) ⊕ (Int ⊕ Int))
 | (k_1, i_2) =>
  if i_2 < (a.length : Int) then
  (ix a i_2).bind fun v_4 =>
  if (v_4 != (decide ((k_1.tmod 3) = 0))) = true then
  some (.inr (.inr (-1)))
  else
  some (.inl (w64 (k_1 + 1), w64 (i_2 + 1)))
  else
  some (.inr (.inl k_1))
def f23 (a : (List Bool)) (k : Int) : Option Int :=
 (iter (f23_0 a) (k, 0)).bind fun o => match o with
 | .inl k_9 =>
 some k_9
 | .inr x_10 =>
 some x_10
def f47_0 (a : (List Int)) : Int × Int -> Option ((Int × Int) ⊕ (Int ⊕ Int))
 | (k_1, i_2) =>
  if i_2 < (a.length : Int) then
  (ix a i_2).bind fun v_4 =>
  if v_4 ≠ k_1 then
  some (.inr (.inr (-1)))
  else
  some (.inl (w64 (k_1 + 1), w64 (i_2 + 1)))
  else
  some (.inr (.inl k_1))
def f47 (a : (List Int)) (k : Int) : Option Int :=
 (iter (f47_0 a) (k, 0)).bind fun o => match o with
 | .inl k_9 =>
 some k_9
 | .inr x_10 =>
 some x_10
def f24_0 (a : (List (List Int))) : Int × Int -> Option ((Int × Int) ⊕ (Int ⊕ Int))
 | (k_1, i_2) =>
  if i_2 < (a.length : Int) then
  (ix a i_2).bind fun v_4 =>
  (f47 v_4 k_1).bind fun o6 =>
  if o6 < 0 then
  some (.inr (.inr (-1)))
  else
  some (.inl (o6, w64 (i_2 + 1)))
  else
  some (.inr (.inl k_1))
def f24 (a : (List (List Int))) (k : Int) : Option Int :=
 (iter (f24_0 a) (k, 0)).bind fun o => match o with
 | .inl k_11 =>
 some k_11
 | .inr x_12 =>
 some x_12
def f4 (aN : Int) (aClauses : (List (List Int))) : Option Bool :=
 (f17 aClauses 1048576).bind fun o1 =>
 if o1 < 0 then
 some true
 else
 (f18 aClauses).bind fun o4 =>
 (f8 aN o4).bind fun o6 =>
 (f18 aClauses).bind fun o8 =>
 (f7 aN o8).bind fun o10 =>
 (f19 o10.1 o6.1).bind fun o12 =>
 (((if ¬ (o12 = true) then
 some true
 else
 (f20 o10.2.1 o6.2.1).bind fun o17 =>
 (((if ¬ (o17 = true) then
 some true
 else
 some (o10.2.2 != o6.2.2)) : Option (Bool))).bind fun x_19 =>
 some x_19) : Option (Bool))).bind fun x_14 =>
 if x_14 = true then
 some false
 else
 (f18 aClauses).bind fun o23 =>
 (f20 o8 o23).bind fun o25 =>
 if ¬ (o25 = true) then
 some false
 else
 (f21 o8 1).bind fun o28 =>
 (((if o28.1 < 0 then
 some true
 else
 (f19 o10.1 o6.1).bind fun o33 =>
 (((if ¬ (o33 = true) then
 some true
 else
 (f20 o10.2.1 o6.2.1).bind fun o38 =>
 (((if ¬ (o38 = true) then
 some true
 else
 some (o10.2.2 != o6.2.2)) : Option (Bool))).bind fun x_40 =>
 some x_40) : Option (Bool))).bind fun x_35 =>
 some x_35) : Option (Bool))).bind fun x_30 =>
 if x_30 = true then
 some false
 else
 (f22 o10.1 1).bind fun o44 =>
 (f21 o10.2.1 o44.1).bind fun o46 =>
 (f23 o44.2 1).bind fun o48 =>
 if o48 < 0 then
 some false
 else
 (f24 o46.2 o48).bind fun o51 =>
 if o51 < 0 then
 some false
 else
 if o51 ≠ o46.1 then
 some false
 else
 (f18 aClauses).bind fun o55 =>
 (f7 aN o55).bind fun o57 =>
 (f19 o57.1 o6.1).bind fun o59 =>
 (((if ¬ (o59 = true) then
 some true
 else
 (f20 o57.2.1 o6.2.1).bind fun o64 =>
 (((if ¬ (o64 = true) then
 some true
 else
 some (o57.2.2 != o6.2.2)) : Option (Bool))).bind fun x_66 =>
 some x_66) : Option (Bool))).bind fun x_61 =>
 if x_61 = true then
 some false
 else
 (f23 o44.2 1).bind fun o70 =>
 if o70 < 0 then
 some false
 else
 (f24 o46.2 o70).bind fun o73 =>
 if o73 < 0 then
 some false
 else
 if o73 ≠ o46.1 then
 some false
 else
 some true
end
end Go.Proofs.YtjfeimhiiomgoaaH
