/- The program's functions on numbers and lists: printed by tg.py. -/
import Derived.Test.YthfbkecnnllpkaaHn1
set_option linter.unusedVariables false
set_option linter.unusedSimpArgs false
set_option maxRecDepth 100000
namespace Go.Proofs.YthfbkecnnllpkaaH
open Go
noncomputable section
/- laws.szIntS -/
def f51 (a : (List Int)) (left : Int) : Option Int :=
  if (w64 (left - (a.length : Int))) < 0 then
  some (-1)
  else
  some (w64 (left - (a.length : Int)))
/- laws.szIntSS -/
def f26_0 (a : (List (List Int))) : Int × Int → Option ((Int × Int) ⊕ (Int ⊕ Int))
  | (left_2, i_3) =>
    if i_3 < (a.length : Int) then
    (ix a i_3).bind fun v_5 =>
    (f51 v_5 left_2).bind fun o7 =>
    if o7 < 0 then
    some (.inr (.inr (-1)))
    else
    some (.inl (o7, w64 (i_3 + 1)))
    else
    some (.inr (.inl left_2))
def f26 (a : (List (List Int))) (left : Int) : Option Int :=
  if (w64 (left - (a.length : Int))) < 0 then
  some (-1)
  else
  (iter (f26_0 a) (w64 (left - (a.length : Int)), 0)).bind fun o => match o with
  | .inl left_12 =>
  some left_12
  | .inr x_13 =>
  some x_13
/- laws.toIntS -/
def f16_0 (a : (List Int)) : (List Int) × Int → Option (((List Int) × Int) ⊕ (List Int))
  | (out_3, i_4) =>
    if i_4 < (a.length : Int) then
    (ix a i_4).bind fun v_6 =>
    (ix out_3 i_4).bind fun v_8 =>
    some (.inl ((out_3.set i_4.toNat v_6), w64 (i_4 + 1)))
    else
    some (.inr out_3)
def f16 (a : (List Int)) : Option (List Int) :=
  (mkl 8 (a.length : Int) 0).bind fun l_1 =>
  (iter (f16_0 a) (l_1, 0)).bind fun out_13 =>
  some out_13
/- laws.toIntSS -/
def f28_0 (a : (List (List Int))) : (List (List Int)) × Int → Option (((List (List Int)) × Int) ⊕ (List (List Int)))
  | (out_3, i_4) =>
    if i_4 < (a.length : Int) then
    (ix a i_4).bind fun v_6 =>
    (f16 v_6).bind fun o8 =>
    (ix out_3 i_4).bind fun v_10 =>
    some (.inl ((out_3.set i_4.toNat o8), w64 (i_4 + 1)))
    else
    some (.inr out_3)
def f28 (a : (List (List Int))) : Option (List (List Int)) :=
  (mkl 24 (a.length : Int) ([] : (List Int))).bind fun l_1 =>
  (iter (f28_0 a) (l_1, 0)).bind fun out_15 =>
  some out_15
/- spec.l1In -/
def f61 (x : Int) (low : Int) (high : Int) : Option Bool :=
  ((if x ≥ low then
  some (decide (x ≤ high))
  else
  some false) : Option (Bool)).bind fun x_1 =>
  some x_1
/- spec.l20Clause -/
def f60_1 (c : (List Int)) (i_1 : Int) : Int → Option (Int ⊕ (Unit ⊕ Bool))
  | k_15 =>
    if k_15 < i_1 then
    (ix c k_15).bind fun v_17 =>
    (ix c i_1).bind fun v_19 =>
    ((if v_17 = v_19 then
    some true
    else
    some (decide (v_17 = (w64 (-v_19))))) : Option (Bool)).bind fun x_21 =>
    if x_21 = true then
    some (.inr (.inr false))
    else
    some (.inl (w64 (k_15 + 1)))
    else
    some (.inr (.inl ()))
def f60_0 (n0 : Int) (c : (List Int)) : Int → Option (Int ⊕ (Unit ⊕ Bool))
  | i_1 =>
    if i_1 < (c.length : Int) then
    (ix c i_1).bind fun v_3 =>
    ((if v_3 < 0 then
    some (decide (v_3 ≥ (w64 (-n0))))
    else
    some false) : Option (Bool)).bind fun x_5 =>
    ((if x_5 = true then
    some (w64 (-v_3))
    else
    some (if 0 > v_3 then 0 else v_3)) : Option Int).bind fun v_11 =>
    (f61 v_11 1 n0).bind fun o12 =>
    if ¬ (o12 = true) then
    some (.inr (.inr false))
    else
    (iter (f60_1 c i_1) 0).bind fun o => match o with
    | .inl _ =>
    some (.inl (w64 (i_1 + 1)))
    | .inr x_27 =>
    some (.inr (.inr x_27))
    else
    some (.inr (.inl ()))
def f60 (n0 : Int) (c : (List Int)) : Option Bool :=
  (iter (f60_0 n0 c) 0).bind fun o => match o with
  | .inl _ =>
  some true
  | .inr x_30 =>
  some x_30
/- spec.AreValidClauses -/
def f33_0 (n0 : Int) (l : (List (List Int))) : Int → Option (Int ⊕ (Unit ⊕ Bool))
  | i_1 =>
    if i_1 < (l.length : Int) then
    (ix l i_1).bind fun v_3 =>
    (f60 n0 v_3).bind fun o5 =>
    if ¬ (o5 = true) then
    some (.inr (.inr false))
    else
    some (.inl (w64 (i_1 + 1)))
    else
    some (.inr (.inl ()))
def f33 (n0 : Int) (l : (List (List Int))) : Option Bool :=
  (iter (f33_0 n0 l) 0).bind fun o => match o with
  | .inl _ =>
  (f61 n0 0 14).bind fun o11 =>
  ((if o11 = true then
  some (decide ((l.length : Int) ≤ 400))
  else
  some false) : Option (Bool)).bind fun x_13 =>
  some x_13
  | .inr x_10 =>
  some x_10
/- spec.SatisfiesClauses -/
def f31_1 (l : (List (List Int))) (m : (List Bool)) (i_1 : Int) : Bool × Int → Option ((Bool × Int) ⊕ Bool)
  | (is_3, k_4) =>
    (ix l i_1).bind fun v_5 =>
    if k_4 < (v_5.length : Int) then
    (ix v_5 k_4).bind fun v_8 =>
    ((if is_3 = true then
    some true
    else
    ((if v_8 > 0 then
    ((if v_8 ≤ (m.length : Int) then
    (ix m (w64 (v_8 - 1))).bind fun v_19 =>
    ((if v_19 = true then
    some true
    else
    ((if v_8 < 0 then
    ((if v_8 ≥ (w64 (-(m.length : Int))) then
    (ix m (w64 ((w64 (-v_8)) - 1))).bind fun v_30 =>
    some (decide (¬ (v_30 = true)))
    else
    some false) : Option (Bool)).bind fun is_27 =>
    some is_27
    else
    some false) : Option (Bool)).bind fun is_24 =>
    some is_24) : Option (Bool)).bind fun is_21 =>
    some is_21
    else
    ((if v_8 < 0 then
    ((if v_8 ≥ (w64 (-(m.length : Int))) then
    (ix m (w64 ((w64 (-v_8)) - 1))).bind fun v_38 =>
    some (decide (¬ (v_38 = true)))
    else
    some false) : Option (Bool)).bind fun is_35 =>
    some is_35
    else
    some false) : Option (Bool)).bind fun is_32 =>
    some is_32) : Option (Bool)).bind fun is_16 =>
    some is_16
    else
    ((if v_8 < 0 then
    ((if v_8 ≥ (w64 (-(m.length : Int))) then
    (ix m (w64 ((w64 (-v_8)) - 1))).bind fun v_46 =>
    some (decide (¬ (v_46 = true)))
    else
    some false) : Option (Bool)).bind fun is_43 =>
    some is_43
    else
    some false) : Option (Bool)).bind fun is_40 =>
    some is_40) : Option (Bool)).bind fun is_13 =>
    some is_13) : Option (Bool)).bind fun is_10 =>
    some (.inl (is_10, w64 (k_4 + 1)))
    else
    some (.inr is_3)
def f31_0 (l : (List (List Int))) (m : (List Bool)) : Int → Option (Int ⊕ (Unit ⊕ Bool))
  | i_1 =>
    if i_1 < (l.length : Int) then
    (iter (f31_1 l m i_1) (false, 0)).bind fun is_50 =>
    if ¬ (is_50 = true) then
    some (.inr (.inr false))
    else
    some (.inl (w64 (i_1 + 1)))
    else
    some (.inr (.inl ()))
def f31 (l : (List (List Int))) (m : (List Bool)) : Option Bool :=
  (iter (f31_0 l m) 0).bind fun o => match o with
  | .inl _ =>
  some true
  | .inr x_54 =>
  some x_54
/- spec.CountModels -/
def f39_1 (n0 : Int) (k_5 : Int) : (List Bool) × Int → Option (((List Bool) × Int) ⊕ (List Bool))
  | (m_9, v_10) =>
    if v_10 < n0 then
    (nn v_10).bind fun z_12 =>
    (app 1 m_9 ([(decide ((band .i64 (sshr .i64 k_5 v_10) 1) = 1))])).bind fun l_14 =>
    some (.inl (l_14, w64 (v_10 + 1)))
    else
    some (.inr m_9)
def f39_0 (n0 : Int) (l : (List (List Int))) : Int × Int → Option ((Int × Int) ⊕ Int)
  | (out_4, k_5) =>
    (nn n0).bind fun z_6 =>
    if k_5 < (sshl .i64 1 n0) then
    (iter (f39_1 n0 k_5) ([], 0)).bind fun m_18 =>
    (f31 l m_18).bind fun o19 =>
    ((if o19 = true then
    some (w64 (out_4 + 1))
    else
    some out_4) : Option Int).bind fun out_24 =>
    some (.inl (out_24, w64 (k_5 + 1)))
    else
    some (.inr out_4)
def f39 (n0 : Int) (l : (List (List Int))) : Option Int :=
  (f33 n0 l).bind fun o1 =>
  if ¬ (o1 = true) then
  some 0
  else
  (iter (f39_0 n0 l) (0, 0)).bind fun out_27 =>
  some out_27
/- impl.within -/
def f75 (n0 : Int) (low : Int) (high : Int) : Option Bool :=
  ((if low ≤ n0 then
  some (decide (n0 ≤ high))
  else
  some false) : Option (Bool)).bind fun x_1 =>
  some x_1
/- slices.IndexFunc[[][]int,[]int] -/
def f71_0 (s0 : (List (List Int))) (f : (List Int) → Option Bool) : Int → Option (Int ⊕ (Unit ⊕ Int))
  | x_1 =>
    if x_1 < (s0.length : Int) then
    (ix s0 x_1).bind fun v_3 =>
    (f v_3).bind fun o5 =>
    if o5 = true then
    some (.inr (.inr x_1))
    else
    some (.inl (w64 (x_1 + 1)))
    else
    some (.inr (.inl ()))
def f71 (s0 : (List (List Int))) (f : (List Int) → Option Bool) : Option Int :=
  (iter (f71_0 s0 f) 0).bind fun o => match o with
  | .inl _ =>
  some (-1)
  | .inr x_10 =>
  some x_10
/- slices.ContainsFunc[[][]int,[]int] -/
def f53 (s0 : (List (List Int))) (f : (List Int) → Option Bool) : Option Bool :=
  (f71 s0 f).bind fun o1 =>
  some (decide (o1 ≥ 0))
/- slices.Index[[]int,int] -/
def f83_0 (s0 : (List Int)) (v : Int) : Int → Option (Int ⊕ (Unit ⊕ Int))
  | x_1 =>
    if x_1 < (s0.length : Int) then
    (ix s0 x_1).bind fun v_3 =>
    if v = v_3 then
    some (.inr (.inr x_1))
    else
    some (.inl (w64 (x_1 + 1)))
    else
    some (.inr (.inl ()))
def f83 (s0 : (List Int)) (v : Int) : Option Int :=
  (iter (f83_0 s0 v) 0).bind fun o => match o with
  | .inl _ =>
  some (-1)
  | .inr x_8 =>
  some x_8
/- slices.Contains[[]int,int] -/
def f73 (s0 : (List Int)) (v : Int) : Option Bool :=
  (f83 s0 v).bind fun o1 =>
  some (decide (o1 ≥ 0))
/- impl.isClause -/
def f63_0 (n0 : Int) (clause : (List Int)) : Int → Option (Int ⊕ (Unit ⊕ Bool))
  | x_1 =>
    if x_1 < (clause.length : Int) then
    (ix clause x_1).bind fun v_3 =>
    ((if v_3 = 0 then
    some true
    else
    (f75 v_3 (w64 (-n0)) n0).bind fun o8 =>
    ((if ¬ (o8 = true) then
    some true
    else
    (cutL clause 0 x_1).bind fun l_13 =>
    (f73 l_13 v_3).bind fun o15 =>
    ((if o15 = true then
    some true
    else
    (f73 l_13 (w64 (-v_3))).bind fun o20 =>
    some o20) : Option (Bool)).bind fun x_17 =>
    some x_17) : Option (Bool)).bind fun x_10 =>
    some x_10) : Option (Bool)).bind fun x_5 =>
    if x_5 = true then
    some (.inr (.inr false))
    else
    some (.inl (w64 (x_1 + 1)))
    else
    some (.inr (.inl ()))
def f63 (n0 : Int) (clause : (List Int)) : Option Bool :=
  (iter (f63_0 n0 clause) 0).bind fun o => match o with
  | .inl _ =>
  some true
  | .inr x_25 =>
  some x_25
/- impl.areClauses$1 -/
def f76 (clause : (List Int)) (c : Int) : Option Bool :=
  (f63 c clause).bind fun o1 =>
  some (decide (¬ (o1 = true)))
/- impl.areClauses -/
def f62 (n0 : Int) (clauses : (List (List Int))) : Option Bool :=
  (f75 n0 0 14).bind fun o1 =>
  ((if o1 = true then
  (f53 clauses (fun x0 => f76 x0 n0)).bind fun o6 =>
  some (decide (¬ (o6 = true)))
  else
  some false) : Option (Bool)).bind fun x_3 =>
  some x_3
/- impl.AreValidClauses -/
def f34 (n0 : Int) (clauses : (List (List Int))) : Option Bool :=
  ((if (clauses.length : Int) ≤ 400 then
  (f62 n0 clauses).bind fun o4 =>
  some o4
  else
  some false) : Option (Bool)).bind fun x_1 =>
  some x_1
/- slices.IndexFunc[[]int,int] -/
def f74_0 (s0 : (List Int)) (f : Int → Option Bool) : Int → Option (Int ⊕ (Unit ⊕ Int))
  | x_1 =>
    if x_1 < (s0.length : Int) then
    (ix s0 x_1).bind fun v_3 =>
    (f v_3).bind fun o5 =>
    if o5 = true then
    some (.inr (.inr x_1))
    else
    some (.inl (w64 (x_1 + 1)))
    else
    some (.inr (.inl ()))
def f74 (s0 : (List Int)) (f : Int → Option Bool) : Option Int :=
  (iter (f74_0 s0 f) 0).bind fun o => match o with
  | .inl _ =>
  some (-1)
  | .inr x_10 =>
  some x_10
/- slices.ContainsFunc[[]int,int] -/
def f57 (s0 : (List Int)) (f : Int → Option Bool) : Option Bool :=
  (f74 s0 f).bind fun o1 =>
  some (decide (o1 ≥ 0))
/- impl.isTrue -/
def f59 (model : (List Bool)) (x : Int) : Option Bool :=
  if x > 0 then
  ((if x ≤ (model.length : Int) then
  (ix model (w64 (x - 1))).bind fun v_5 =>
  some v_5
  else
  some false) : Option (Bool)).bind fun x_2 =>
  some x_2
  else
  ((if x < 0 then
  ((if x ≥ (w64 (-(model.length : Int))) then
  (ix model (w64 ((w64 (-x)) - 1))).bind fun v_13 =>
  some (decide (¬ (v_13 = true)))
  else
  some false) : Option (Bool)).bind fun x_10 =>
  some x_10
  else
  some false) : Option (Bool)).bind fun x_7 =>
  some x_7
/- impl.SatisfiesClauses$1$1 -/
def f58 (x : Int) (c : (List Bool)) : Option Bool :=
  (f59 c x).bind fun o1 =>
  some o1
/- impl.SatisfiesClauses$1 -/
def f56 (clause : (List Int)) (c : (List Bool)) : Option Bool :=
  (f57 clause (fun x0 => f58 x0 c)).bind fun o1 =>
  some (decide (¬ (o1 = true)))
/- impl.SatisfiesClauses -/
def f32 (clauses : (List (List Int))) (model : (List Bool)) : Option Bool :=
  (f53 clauses (fun x0 => f56 x0 model)).bind fun o1 =>
  some (decide (¬ (o1 = true)))
/- impl.CountModels -/
def f40_1 (model_9 : (List Bool)) (x_10 : Int) : (List Bool) × Int → Option (((List Bool) × Int) ⊕ (List Bool))
  | (model_12, x_13) =>
    if x_13 < (model_9.length : Int) then
    (nn x_13).bind fun z_15 =>
    (ix model_12 x_13).bind fun v_17 =>
    some (.inl ((model_12.set x_13.toNat (decide ((band .i64 (sshr .i64 x_10 x_13) 1) = 1))), w64 (x_13 + 1)))
    else
    some (.inr model_12)
def f40_0 (n0 : Int) (clauses : (List (List Int))) : Int × (List Bool) × Int → Option ((Int × (List Bool) × Int) ⊕ Int)
  | (count_8, model_9, x_10) =>
    if x_10 < (sshl .i64 1 n0) then
    (iter (f40_1 model_9 x_10) (model_9, 0)).bind fun model_22 =>
    (f32 clauses model_22).bind fun o23 =>
    ((if o23 = true then
    some (w64 (count_8 + 1))
    else
    some count_8) : Option Int).bind fun count_28 =>
    some (.inl (count_28, model_22, w64 (x_10 + 1)))
    else
    some (.inr count_8)
def f40 (n0 : Int) (clauses : (List (List Int))) : Option Int :=
  (f34 n0 clauses).bind fun o1 =>
  if ¬ (o1 = true) then
  some 0
  else
  (mkl 1 n0 false).bind fun l_4 =>
  (nn n0).bind fun z_6 =>
  (iter (f40_0 n0 clauses) (0, l_4, 0)).bind fun count_31 =>
  some count_31
/- laws.eqIntS -/
def f18_0 (a : (List Int)) (b : (List Int)) : Int → Option (Int ⊕ (Unit ⊕ Bool))
  | i_2 =>
    if i_2 < (a.length : Int) then
    (ix a i_2).bind fun v_4 =>
    (ix b i_2).bind fun v_6 =>
    if v_4 ≠ v_6 then
    some (.inr (.inr false))
    else
    some (.inl (w64 (i_2 + 1)))
    else
    some (.inr (.inl ()))
def f18 (a : (List Int)) (b : (List Int)) : Option Bool :=
  if (a.length : Int) ≠ (b.length : Int) then
  some false
  else
  (iter (f18_0 a b) 0).bind fun o => match o with
  | .inl _ =>
  some true
  | .inr x_11 =>
  some x_11
/- laws.eqIntSS -/
def f30_0 (a : (List (List Int))) (b : (List (List Int))) : Int → Option (Int ⊕ (Unit ⊕ Bool))
  | i_2 =>
    if i_2 < (a.length : Int) then
    (ix a i_2).bind fun v_4 =>
    (ix b i_2).bind fun v_6 =>
    (f18 v_4 v_6).bind fun o8 =>
    if ¬ (o8 = true) then
    some (.inr (.inr false))
    else
    some (.inl (w64 (i_2 + 1)))
    else
    some (.inr (.inl ()))
def f30 (a : (List (List Int))) (b : (List (List Int))) : Option Bool :=
  if (a.length : Int) ≠ (b.length : Int) then
  some false
  else
  (iter (f30_0 a b) 0).bind fun o => match o with
  | .inl _ =>
  some true
  | .inr x_13 =>
  some x_13
/- laws.FnExactCountModels -/
def f9 (aN : Int) (aClauses : (List (List Int))) : Option Bool :=
  (f26 aClauses 1048576).bind fun o1 =>
  if o1 < 0 then
  some true
  else
  (f28 aClauses).bind fun o4 =>
  (f39 aN o4).bind fun o6 =>
  (f28 aClauses).bind fun o8 =>
  (f40 aN o8).bind fun o10 =>
  if o10 ≠ o6 then
  some false
  else
  (f28 aClauses).bind fun o13 =>
  (f30 o8 o13).bind fun o15 =>
  if ¬ (o15 = true) then
  some false
  else
  some true
end
end Go.Proofs.YthfbkecnnllpkaaH
