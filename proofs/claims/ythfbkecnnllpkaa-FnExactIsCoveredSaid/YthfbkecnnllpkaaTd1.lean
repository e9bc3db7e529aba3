/- The program's functions on numbers and lists: printed by tg.py. -/
import Derived.Test.YthfbkecnnllpkaaHn1
set_option linter.unusedVariables false
set_option linter.unusedSimpArgs false
set_option maxRecDepth 100000
namespace Go.Proofs.YthfbkecnnllpkaaH
open Go
noncomputable section
/- laws.szIntS -/
def f51 (a : (List Int)) (left : Int) : Option Int :=
  if (w64 (left - (a.length : Int))) < 0 then
  some (-1)
  else
  some (w64 (left - (a.length : Int)))
/- laws.szIntSS -/
def f26_0 (a : (List (List Int))) : Int × Int → Option ((Int × Int) ⊕ (Int ⊕ Int))
  | (left_2, i_3) =>
    if i_3 < (a.length : Int) then
    (ix a i_3).bind fun v_5 =>
    (f51 v_5 left_2).bind fun o7 =>
    if o7 < 0 then
    some (.inr (.inr (-1)))
    else
    some (.inl (o7, w64 (i_3 + 1)))
    else
    some (.inr (.inl left_2))
def f26 (a : (List (List Int))) (left : Int) : Option Int :=
  if (w64 (left - (a.length : Int))) < 0 then
  some (-1)
  else
  (iter (f26_0 a) (w64 (left - (a.length : Int)), 0)).bind fun o => match o with
  | .inl left_12 =>
  some left_12
  | .inr x_13 =>
  some x_13
/- laws.toIntS -/
def f16_0 (a : (List Int)) : (List Int) × Int → Option (((List Int) × Int) ⊕ (List Int))
  | (out_3, i_4) =>
    if i_4 < (a.length : Int) then
    (ix a i_4).bind fun v_6 =>
    (ix out_3 i_4).bind fun v_8 =>
    some (.inl ((out_3.set i_4.toNat v_6), w64 (i_4 + 1)))
    else
    some (.inr out_3)
def f16 (a : (List Int)) : Option (List Int) :=
  (mkl 8 (a.length : Int) 0).bind fun l_1 =>
  (iter (f16_0 a) (l_1, 0)).bind fun out_13 =>
  some out_13
/- laws.toIntSS -/
def f28_0 (a : (List (List Int))) : (List (List Int)) × Int → Option (((List (List Int)) × Int) ⊕ (List (List Int)))
  | (out_3, i_4) =>
    if i_4 < (a.length : Int) then
    (ix a i_4).bind fun v_6 =>
    (f16 v_6).bind fun o8 =>
    (ix out_3 i_4).bind fun v_10 =>
    some (.inl ((out_3.set i_4.toNat o8), w64 (i_4 + 1)))
    else
    some (.inr out_3)
def f28 (a : (List (List Int))) : Option (List (List Int)) :=
  (mkl 24 (a.length : Int) ([] : (List Int))).bind fun l_1 =>
  (iter (f28_0 a) (l_1, 0)).bind fun out_15 =>
  some out_15
/- spec.l7Has -/
def f70_0 (l : (List Int)) (x : Int) : Int → Option (Int ⊕ (Unit ⊕ Bool))
  | i_1 =>
    if i_1 < (l.length : Int) then
    (ix l i_1).bind fun v_3 =>
    if v_3 = x then
    some (.inr (.inr true))
    else
    some (.inl (w64 (i_1 + 1)))
    else
    some (.inr (.inl ()))
def f70 (l : (List Int)) (x : Int) : Option Bool :=
  (iter (f70_0 l x) 0).bind fun o => match o with
  | .inl _ =>
  some false
  | .inr x_8 =>
  some x_8
/- spec.l13Met -/
def f52_1 (l : (List (List Int))) (s1 : (List Int)) (i_1 : Int) : Bool × Int → Option ((Bool × Int) ⊕ Bool)
  | (all_3, k_4) =>
    (ix l i_1).bind fun v_5 =>
    if k_4 < (v_5.length : Int) then
    ((if all_3 = true then
    (ix v_5 k_4).bind fun v_11 =>
    (f70 s1 v_11).bind fun o13 =>
    some o13
    else
    some false) : Option (Bool)).bind fun all_8 =>
    some (.inl (all_8, w64 (k_4 + 1)))
    else
    some (.inr all_3)
def f52_0 (l : (List (List Int))) (s1 : (List Int)) : Int → Option (Int ⊕ (Unit ⊕ Bool))
  | i_1 =>
    if i_1 < (l.length : Int) then
    (iter (f52_1 l s1 i_1) (true, 0)).bind fun all_17 =>
    if all_17 = true then
    some (.inr (.inr true))
    else
    some (.inl (w64 (i_1 + 1)))
    else
    some (.inr (.inl ()))
def f52 (l : (List (List Int))) (s1 : (List Int)) : Option Bool :=
  (iter (f52_0 l s1) 0).bind fun o => match o with
  | .inl _ =>
  some false
  | .inr x_21 =>
  some x_21
/- spec.IsCovered -/
def f27 (l : (List (List Int))) (s1 : (List Int)) : Option Bool :=
  (f52 l s1).bind fun o1 =>
  some o1
/- slices.IndexFunc[[][]int,[]int] -/
def f71_0 (s0 : (List (List Int))) (f : (List Int) → Option Bool) : Int → Option (Int ⊕ (Unit ⊕ Int))
  | x_1 =>
    if x_1 < (s0.length : Int) then
    (ix s0 x_1).bind fun v_3 =>
    (f v_3).bind fun o5 =>
    if o5 = true then
    some (.inr (.inr x_1))
    else
    some (.inl (w64 (x_1 + 1)))
    else
    some (.inr (.inl ()))
def f71 (s0 : (List (List Int))) (f : (List Int) → Option Bool) : Option Int :=
  (iter (f71_0 s0 f) 0).bind fun o => match o with
  | .inl _ =>
  some (-1)
  | .inr x_10 =>
  some x_10
/- slices.ContainsFunc[[][]int,[]int] -/
def f53 (s0 : (List (List Int))) (f : (List Int) → Option Bool) : Option Bool :=
  (f71 s0 f).bind fun o1 =>
  some (decide (o1 ≥ 0))
/- slices.IndexFunc[[]int,int] -/
def f74_0 (s0 : (List Int)) (f : Int → Option Bool) : Int → Option (Int ⊕ (Unit ⊕ Int))
  | x_1 =>
    if x_1 < (s0.length : Int) then
    (ix s0 x_1).bind fun v_3 =>
    (f v_3).bind fun o5 =>
    if o5 = true then
    some (.inr (.inr x_1))
    else
    some (.inl (w64 (x_1 + 1)))
    else
    some (.inr (.inl ()))
def f74 (s0 : (List Int)) (f : Int → Option Bool) : Option Int :=
  (iter (f74_0 s0 f) 0).bind fun o => match o with
  | .inl _ =>
  some (-1)
  | .inr x_10 =>
  some x_10
/- slices.ContainsFunc[[]int,int] -/
def f57 (s0 : (List Int)) (f : Int → Option Bool) : Option Bool :=
  (f74 s0 f).bind fun o1 =>
  some (decide (o1 ≥ 0))
/- slices.Index[[]int,int] -/
def f83_0 (s0 : (List Int)) (v : Int) : Int → Option (Int ⊕ (Unit ⊕ Int))
  | x_1 =>
    if x_1 < (s0.length : Int) then
    (ix s0 x_1).bind fun v_3 =>
    if v = v_3 then
    some (.inr (.inr x_1))
    else
    some (.inl (w64 (x_1 + 1)))
    else
    some (.inr (.inl ()))
def f83 (s0 : (List Int)) (v : Int) : Option Int :=
  (iter (f83_0 s0 v) 0).bind fun o => match o with
  | .inl _ =>
  some (-1)
  | .inr x_8 =>
  some x_8
/- slices.Contains[[]int,int] -/
def f73 (s0 : (List Int)) (v : Int) : Option Bool :=
  (f83 s0 v).bind fun o1 =>
  some (decide (o1 ≥ 0))
/- impl.isSubset$1 -/
def f72 (n0 : Int) (c : (List Int)) : Option Bool :=
  (f73 c n0).bind fun o1 =>
  some (decide (¬ (o1 = true)))
/- impl.isSubset -/
def f55 (a : (List Int)) (b : (List Int)) : Option Bool :=
  (f57 a (fun x0 => f72 x0 b)).bind fun o1 =>
  some (decide (¬ (o1 = true)))
/- impl.IsCovered$1 -/
def f54 (own : (List Int)) (c : (List Int)) : Option Bool :=
  (f55 own c).bind fun o1 =>
  some o1
/- impl.IsCovered -/
def f29 (sets : (List (List Int))) (set1 : (List Int)) : Option Bool :=
  (f53 sets (fun x0 => f54 x0 set1)).bind fun o1 =>
  some o1
/- laws.eqIntS -/
def f18_0 (a : (List Int)) (b : (List Int)) : Int → Option (Int ⊕ (Unit ⊕ Bool))
  | i_2 =>
    if i_2 < (a.length : Int) then
    (ix a i_2).bind fun v_4 =>
    (ix b i_2).bind fun v_6 =>
    if v_4 ≠ v_6 then
    some (.inr (.inr false))
    else
    some (.inl (w64 (i_2 + 1)))
    else
    some (.inr (.inl ()))
def f18 (a : (List Int)) (b : (List Int)) : Option Bool :=
  if (a.length : Int) ≠ (b.length : Int) then
  some false
  else
  (iter (f18_0 a b) 0).bind fun o => match o with
  | .inl _ =>
  some true
  | .inr x_11 =>
  some x_11
/- laws.eqIntSS -/
def f30_0 (a : (List (List Int))) (b : (List (List Int))) : Int → Option (Int ⊕ (Unit ⊕ Bool))
  | i_2 =>
    if i_2 < (a.length : Int) then
    (ix a i_2).bind fun v_4 =>
    (ix b i_2).bind fun v_6 =>
    (f18 v_4 v_6).bind fun o8 =>
    if ¬ (o8 = true) then
    some (.inr (.inr false))
    else
    some (.inl (w64 (i_2 + 1)))
    else
    some (.inr (.inl ()))
def f30 (a : (List (List Int))) (b : (List (List Int))) : Option Bool :=
  if (a.length : Int) ≠ (b.length : Int) then
  some false
  else
  (iter (f30_0 a b) 0).bind fun o => match o with
  | .inl _ =>
  some true
  | .inr x_13 =>
  some x_13
/- laws.FnExactIsCovered -/
def f5 (aSets : (List (List Int))) (aSet : (List Int)) : Option Bool :=
  if (aSet.length : Int) > 1048576 then
  some true
  else
  (f26 aSets 1048576).bind fun o2 =>
  if o2 < 0 then
  some true
  else
  (f28 aSets).bind fun o5 =>
  (f16 aSet).bind fun o7 =>
  (f27 o5 o7).bind fun o9 =>
  (f28 aSets).bind fun o11 =>
  (f16 aSet).bind fun o13 =>
  (f29 o11 o13).bind fun o15 =>
  if (o15 != o9) = true then
  some false
  else
  (f28 aSets).bind fun o18 =>
  (f30 o11 o18).bind fun o20 =>
  if ¬ (o20 = true) then
  some false
  else
  (f16 aSet).bind fun o23 =>
  (f18 o13 o23).bind fun o25 =>
  if ¬ (o25 = true) then
  some false
  else
  some true
end
end Go.Proofs.YthfbkecnnllpkaaH
