/- The program's functions on numbers and lists: printed by tg.py. -/
import Derived.Test.YthfbkecnnllpkaaHn1
set_option linter.unusedVariables false
set_option linter.unusedSimpArgs false
set_option maxRecDepth 100000
namespace Go.Proofs.YthfbkecnnllpkaaH
open Go
noncomputable section
/- laws.szIntS -/
def f51 (a : (List Int)) (left : Int) : Option Int :=
  if (w64 (left - (a.length : Int))) < 0 then
  some (-1)
  else
  some (w64 (left - (a.length : Int)))
/- laws.szIntSS -/
def f26_0 (a : (List (List Int))) : Int × Int → Option ((Int × Int) ⊕ (Int ⊕ Int))
  | (left_2, i_3) =>
    if i_3 < (a.length : Int) then
    (ix a i_3).bind fun v_5 =>
    (f51 v_5 left_2).bind fun o7 =>
    if o7 < 0 then
    some (.inr (.inr (-1)))
    else
    some (.inl (o7, w64 (i_3 + 1)))
    else
    some (.inr (.inl left_2))
def f26 (a : (List (List Int))) (left : Int) : Option Int :=
  if (w64 (left - (a.length : Int))) < 0 then
  some (-1)
  else
  (iter (f26_0 a) (w64 (left - (a.length : Int)), 0)).bind fun o => match o with
  | .inl left_12 =>
  some left_12
  | .inr x_13 =>
  some x_13
/- laws.toIntS -/
def f16_0 (a : (List Int)) : (List Int) × Int → Option (((List Int) × Int) ⊕ (List Int))
  | (out_3, i_4) =>
    if i_4 < (a.length : Int) then
    (ix a i_4).bind fun v_6 =>
    (ix out_3 i_4).bind fun v_8 =>
    some (.inl ((out_3.set i_4.toNat v_6), w64 (i_4 + 1)))
    else
    some (.inr out_3)
def f16 (a : (List Int)) : Option (List Int) :=
  (mkl 8 (a.length : Int) 0).bind fun l_1 =>
  (iter (f16_0 a) (l_1, 0)).bind fun out_13 =>
  some out_13
/- laws.toIntSS -/
def f28_0 (a : (List (List Int))) : (List (List Int)) × Int → Option (((List (List Int)) × Int) ⊕ (List (List Int)))
  | (out_3, i_4) =>
    if i_4 < (a.length : Int) then
    (ix a i_4).bind fun v_6 =>
    (f16 v_6).bind fun o8 =>
    (ix out_3 i_4).bind fun v_10 =>
    some (.inl ((out_3.set i_4.toNat o8), w64 (i_4 + 1)))
    else
    some (.inr out_3)
def f28 (a : (List (List Int))) : Option (List (List Int)) :=
  (mkl 24 (a.length : Int) ([] : (List Int))).bind fun l_1 =>
  (iter (f28_0 a) (l_1, 0)).bind fun out_15 =>
  some out_15
/- laws.toBoolS -/
def f22_0 (a : (List Bool)) : (List Bool) × Int → Option (((List Bool) × Int) ⊕ (List Bool))
  | (out_3, i_4) =>
    if i_4 < (a.length : Int) then
    (ix a i_4).bind fun v_6 =>
    (ix out_3 i_4).bind fun v_8 =>
    some (.inl ((out_3.set i_4.toNat v_6), w64 (i_4 + 1)))
    else
    some (.inr out_3)
def f22 (a : (List Bool)) : Option (List Bool) :=
  (mkl 1 (a.length : Int) false).bind fun l_1 =>
  (iter (f22_0 a) (l_1, 0)).bind fun out_13 =>
  some out_13
/- spec.SatisfiesClauses -/
def f31_1 (l : (List (List Int))) (m : (List Bool)) (i_1 : Int) : Bool × Int → Option ((Bool × Int) ⊕ Bool)
  | (is_3, k_4) =>
    (ix l i_1).bind fun v_5 =>
    if k_4 < (v_5.length : Int) then
    (ix v_5 k_4).bind fun v_8 =>
    ((if is_3 = true then
    some true
    else
    ((if v_8 > 0 then
    ((if v_8 ≤ (m.length : Int) then
    (ix m (w64 (v_8 - 1))).bind fun v_19 =>
    ((if v_19 = true then
    some true
    else
    ((if v_8 < 0 then
    ((if v_8 ≥ (w64 (-(m.length : Int))) then
    (ix m (w64 ((w64 (-v_8)) - 1))).bind fun v_30 =>
    some (decide (¬ (v_30 = true)))
    else
    some false) : Option (Bool)).bind fun is_27 =>
    some is_27
    else
    some false) : Option (Bool)).bind fun is_24 =>
    some is_24) : Option (Bool)).bind fun is_21 =>
    some is_21
    else
    ((if v_8 < 0 then
    ((if v_8 ≥ (w64 (-(m.length : Int))) then
    (ix m (w64 ((w64 (-v_8)) - 1))).bind fun v_38 =>
    some (decide (¬ (v_38 = true)))
    else
    some false) : Option (Bool)).bind fun is_35 =>
    some is_35
    else
    some false) : Option (Bool)).bind fun is_32 =>
    some is_32) : Option (Bool)).bind fun is_16 =>
    some is_16
    else
    ((if v_8 < 0 then
    ((if v_8 ≥ (w64 (-(m.length : Int))) then
    (ix m (w64 ((w64 (-v_8)) - 1))).bind fun v_46 =>
    some (decide (¬ (v_46 = true)))
    else
    some false) : Option (Bool)).bind fun is_43 =>
    some is_43
    else
    some false) : Option (Bool)).bind fun is_40 =>
    some is_40) : Option (Bool)).bind fun is_13 =>
    some is_13) : Option (Bool)).bind fun is_10 =>
    some (.inl (is_10, w64 (k_4 + 1)))
    else
    some (.inr is_3)
def f31_0 (l : (List (List Int))) (m : (List Bool)) : Int → Option (Int ⊕ (Unit ⊕ Bool))
  | i_1 =>
    if i_1 < (l.length : Int) then
    (iter (f31_1 l m i_1) (false, 0)).bind fun is_50 =>
    if ¬ (is_50 = true) then
    some (.inr (.inr false))
    else
    some (.inl (w64 (i_1 + 1)))
    else
    some (.inr (.inl ()))
def f31 (l : (List (List Int))) (m : (List Bool)) : Option Bool :=
  (iter (f31_0 l m) 0).bind fun o => match o with
  | .inl _ =>
  some true
  | .inr x_54 =>
  some x_54
/- slices.IndexFunc[[][]int,[]int] -/
def f71_0 (s0 : (List (List Int))) (f : (List Int) → Option Bool) : Int → Option (Int ⊕ (Unit ⊕ Int))
  | x_1 =>
    if x_1 < (s0.length : Int) then
    (ix s0 x_1).bind fun v_3 =>
    (f v_3).bind fun o5 =>
    if o5 = true then
    some (.inr (.inr x_1))
    else
    some (.inl (w64 (x_1 + 1)))
    else
    some (.inr (.inl ()))
def f71 (s0 : (List (List Int))) (f : (List Int) → Option Bool) : Option Int :=
  (iter (f71_0 s0 f) 0).bind fun o => match o with
  | .inl _ =>
  some (-1)
  | .inr x_10 =>
  some x_10
/- slices.ContainsFunc[[][]int,[]int] -/
def f53 (s0 : (List (List Int))) (f : (List Int) → Option Bool) : Option Bool :=
  (f71 s0 f).bind fun o1 =>
  some (decide (o1 ≥ 0))
/- slices.IndexFunc[[]int,int] -/
def f74_0 (s0 : (List Int)) (f : Int → Option Bool) : Int → Option (Int ⊕ (Unit ⊕ Int))
  | x_1 =>
    if x_1 < (s0.length : Int) then
    (ix s0 x_1).bind fun v_3 =>
    (f v_3).bind fun o5 =>
    if o5 = true then
    some (.inr (.inr x_1))
    else
    some (.inl (w64 (x_1 + 1)))
    else
    some (.inr (.inl ()))
def f74 (s0 : (List Int)) (f : Int → Option Bool) : Option Int :=
  (iter (f74_0 s0 f) 0).bind fun o => match o with
  | .inl _ =>
  some (-1)
  | .inr x_10 =>
  some x_10
/- slices.ContainsFunc[[]int,int] -/
def f57 (s0 : (List Int)) (f : Int → Option Bool) : Option Bool :=
  (f74 s0 f).bind fun o1 =>
  some (decide (o1 ≥ 0))
/- impl.isTrue -/
def f59 (model : (List Bool)) (x : Int) : Option Bool :=
  if x > 0 then
  ((if x ≤ (model.length : Int) then
  (ix model (w64 (x - 1))).bind fun v_5 =>
  some v_5
  else
  some false) : Option (Bool)).bind fun x_2 =>
  some x_2
  else
  ((if x < 0 then
  ((if x ≥ (w64 (-(model.length : Int))) then
  (ix model (w64 ((w64 (-x)) - 1))).bind fun v_13 =>
  some (decide (¬ (v_13 = true)))
  else
  some false) : Option (Bool)).bind fun x_10 =>
  some x_10
  else
  some false) : Option (Bool)).bind fun x_7 =>
  some x_7
/- impl.SatisfiesClauses$1$1 -/
def f58 (x : Int) (c : (List Bool)) : Option Bool :=
  (f59 c x).bind fun o1 =>
  some o1
/- impl.SatisfiesClauses$1 -/
def f56 (clause : (List Int)) (c : (List Bool)) : Option Bool :=
  (f57 clause (fun x0 => f58 x0 c)).bind fun o1 =>
  some (decide (¬ (o1 = true)))
/- impl.SatisfiesClauses -/
def f32 (clauses : (List (List Int))) (model : (List Bool)) : Option Bool :=
  (f53 clauses (fun x0 => f56 x0 model)).bind fun o1 =>
  some (decide (¬ (o1 = true)))
/- laws.eqIntS -/
def f18_0 (a : (List Int)) (b : (List Int)) : Int → Option (Int ⊕ (Unit ⊕ Bool))
  | i_2 =>
    if i_2 < (a.length : Int) then
    (ix a i_2).bind fun v_4 =>
    (ix b i_2).bind fun v_6 =>
    if v_4 ≠ v_6 then
    some (.inr (.inr false))
    else
    some (.inl (w64 (i_2 + 1)))
    else
    some (.inr (.inl ()))
def f18 (a : (List Int)) (b : (List Int)) : Option Bool :=
  if (a.length : Int) ≠ (b.length : Int) then
  some false
  else
  (iter (f18_0 a b) 0).bind fun o => match o with
  | .inl _ =>
  some true
  | .inr x_11 =>
  some x_11
/- laws.eqIntSS -/
def f30_0 (a : (List (List Int))) (b : (List (List Int))) : Int → Option (Int ⊕ (Unit ⊕ Bool))
  | i_2 =>
    if i_2 < (a.length : Int) then
    (ix a i_2).bind fun v_4 =>
    (ix b i_2).bind fun v_6 =>
    (f18 v_4 v_6).bind fun o8 =>
    if ¬ (o8 = true) then
    some (.inr (.inr false))
    else
    some (.inl (w64 (i_2 + 1)))
    else
    some (.inr (.inl ()))
def f30 (a : (List (List Int))) (b : (List (List Int))) : Option Bool :=
  if (a.length : Int) ≠ (b.length : Int) then
  some false
  else
  (iter (f30_0 a b) 0).bind fun o => match o with
  | .inl _ =>
  some true
  | .inr x_13 =>
  some x_13
/- laws.eqBoolS -/
def f24_0 (a : (List Bool)) (b : (List Bool)) : Int → Option (Int ⊕ (Unit ⊕ Bool))
  | i_2 =>
    if i_2 < (a.length : Int) then
    (ix a i_2).bind fun v_4 =>
    (ix b i_2).bind fun v_6 =>
    if (v_4 != v_6) = true then
    some (.inr (.inr false))
    else
    some (.inl (w64 (i_2 + 1)))
    else
    some (.inr (.inl ()))
def f24 (a : (List Bool)) (b : (List Bool)) : Option Bool :=
  if (a.length : Int) ≠ (b.length : Int) then
  some false
  else
  (iter (f24_0 a b) 0).bind fun o => match o with
  | .inl _ =>
  some true
  | .inr x_11 =>
  some x_11
/- laws.FnExactSatisfiesClauses -/
def f6 (aClauses : (List (List Int))) (aModel : (List Bool)) : Option Bool :=
  if (aModel.length : Int) > 1048576 then
  some true
  else
  (f26 aClauses 1048576).bind fun o2 =>
  if o2 < 0 then
  some true
  else
  (f28 aClauses).bind fun o5 =>
  (f22 aModel).bind fun o7 =>
  (f31 o5 o7).bind fun o9 =>
  (f28 aClauses).bind fun o11 =>
  (f22 aModel).bind fun o13 =>
  (f32 o11 o13).bind fun o15 =>
  if (o15 != o9) = true then
  some false
  else
  (f28 aClauses).bind fun o18 =>
  (f30 o11 o18).bind fun o20 =>
  if ¬ (o20 = true) then
  some false
  else
  (f22 aModel).bind fun o23 =>
  (f24 o13 o23).bind fun o25 =>
  if ¬ (o25 = true) then
  some false
  else
  some true
end
end Go.Proofs.YthfbkecnnllpkaaH
