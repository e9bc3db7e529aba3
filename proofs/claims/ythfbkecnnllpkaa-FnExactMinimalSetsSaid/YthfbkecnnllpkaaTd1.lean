/- The program's functions on numbers and lists: printed by tg.py. -/
import Derived.Test.YthfbkecnnllpkaaHn1
set_option linter.unusedVariables false
set_option linter.unusedSimpArgs false
set_option maxRecDepth 100000
namespace Go.Proofs.YthfbkecnnllpkaaH
open Go
noncomputable section
/- laws.szIntS -/
def f51 (a : (List Int)) (left : Int) : Option Int :=
  if (w64 (left - (a.length : Int))) < 0 then
  some (-1)
  else
  some (w64 (left - (a.length : Int)))
/- laws.szIntSS -/
def f26_0 (a : (List (List Int))) : Int × Int → Option ((Int × Int) ⊕ (Int ⊕ Int))
  | (left_2, i_3) =>
    if i_3 < (a.length : Int) then
    (ix a i_3).bind fun v_5 =>
    (f51 v_5 left_2).bind fun o7 =>
    if o7 < 0 then
    some (.inr (.inr (-1)))
    else
    some (.inl (o7, w64 (i_3 + 1)))
    else
    some (.inr (.inl left_2))
def f26 (a : (List (List Int))) (left : Int) : Option Int :=
  if (w64 (left - (a.length : Int))) < 0 then
  some (-1)
  else
  (iter (f26_0 a) (w64 (left - (a.length : Int)), 0)).bind fun o => match o with
  | .inl left_12 =>
  some left_12
  | .inr x_13 =>
  some x_13
/- laws.toIntS -/
def f16_0 (a : (List Int)) : (List Int) × Int → Option (((List Int) × Int) ⊕ (List Int))
  | (out_3, i_4) =>
    if i_4 < (a.length : Int) then
    (ix a i_4).bind fun v_6 =>
    (ix out_3 i_4).bind fun v_8 =>
    some (.inl ((out_3.set i_4.toNat v_6), w64 (i_4 + 1)))
    else
    some (.inr out_3)
def f16 (a : (List Int)) : Option (List Int) :=
  (mkl 8 (a.length : Int) 0).bind fun l_1 =>
  (iter (f16_0 a) (l_1, 0)).bind fun out_13 =>
  some out_13
/- laws.toIntSS -/
def f28_0 (a : (List (List Int))) : (List (List Int)) × Int → Option (((List (List Int)) × Int) ⊕ (List (List Int)))
  | (out_3, i_4) =>
    if i_4 < (a.length : Int) then
    (ix a i_4).bind fun v_6 =>
    (f16 v_6).bind fun o8 =>
    (ix out_3 i_4).bind fun v_10 =>
    some (.inl ((out_3.set i_4.toNat o8), w64 (i_4 + 1)))
    else
    some (.inr out_3)
def f28 (a : (List (List Int))) : Option (List (List Int)) :=
  (mkl 24 (a.length : Int) ([] : (List Int))).bind fun l_1 =>
  (iter (f28_0 a) (l_1, 0)).bind fun out_15 =>
  some out_15
/- spec.l7Has -/
def f70_0 (l : (List Int)) (x : Int) : Int → Option (Int ⊕ (Unit ⊕ Bool))
  | i_1 =>
    if i_1 < (l.length : Int) then
    (ix l i_1).bind fun v_3 =>
    if v_3 = x then
    some (.inr (.inr true))
    else
    some (.inl (w64 (i_1 + 1)))
    else
    some (.inr (.inl ()))
def f70 (l : (List Int)) (x : Int) : Option Bool :=
  (iter (f70_0 l x) 0).bind fun o => match o with
  | .inl _ =>
  some false
  | .inr x_8 =>
  some x_8
/- spec.l13Met -/
def f52_1 (l : (List (List Int))) (s1 : (List Int)) (i_1 : Int) : Bool × Int → Option ((Bool × Int) ⊕ Bool)
  | (all_3, k_4) =>
    (ix l i_1).bind fun v_5 =>
    if k_4 < (v_5.length : Int) then
    ((if all_3 = true then
    (ix v_5 k_4).bind fun v_11 =>
    (f70 s1 v_11).bind fun o13 =>
    some o13
    else
    some false) : Option (Bool)).bind fun all_8 =>
    some (.inl (all_8, w64 (k_4 + 1)))
    else
    some (.inr all_3)
def f52_0 (l : (List (List Int))) (s1 : (List Int)) : Int → Option (Int ⊕ (Unit ⊕ Bool))
  | i_1 =>
    if i_1 < (l.length : Int) then
    (iter (f52_1 l s1 i_1) (true, 0)).bind fun all_17 =>
    if all_17 = true then
    some (.inr (.inr true))
    else
    some (.inl (w64 (i_1 + 1)))
    else
    some (.inr (.inl ()))
def f52 (l : (List (List Int))) (s1 : (List Int)) : Option Bool :=
  (iter (f52_0 l s1) 0).bind fun o => match o with
  | .inl _ =>
  some false
  | .inr x_21 =>
  some x_21
/- spec.IsCovered -/
def f27 (l : (List (List Int))) (s1 : (List Int)) : Option Bool :=
  (f52 l s1).bind fun o1 =>
  some o1
/- spec.MinimalSets -/
def f35_1 (l : (List (List Int))) (i_2 : Int) : Bool × Int → Option ((Bool × Int) ⊕ Bool)
  | (least_4, k_5) =>
    if k_5 < (l.length : Int) then
    (ix l k_5).bind fun v_7 =>
    (ix l i_2).bind fun v_9 =>
    ((if (v_7.length : Int) < (v_9.length : Int) then
    some true
    else
    ((if k_5 < i_2 then
    some (decide ((v_7.length : Int) = (v_9.length : Int)))
    else
    some false) : Option (Bool)).bind fun smaller_14 =>
    some smaller_14) : Option (Bool)).bind fun smaller_11 =>
    ((if least_4 = true then
    ((if smaller_11 = true then
    (f27 ([v_7]) v_9).bind fun o23 =>
    some (decide (¬ (o23 = true)))
    else
    some (decide (¬ (false = true)))) : Option (Bool)).bind fun least_20 =>
    some least_20
    else
    some false) : Option (Bool)).bind fun least_17 =>
    some (.inl (least_17, w64 (k_5 + 1)))
    else
    some (.inr least_4)
def f35_0 (l : (List (List Int))) : (List (List Int)) × Int → Option (((List (List Int)) × Int) ⊕ (List (List Int)))
  | (out_1, i_2) =>
    if i_2 < (l.length : Int) then
    (iter (f35_1 l i_2) (true, 0)).bind fun least_27 =>
    ((if least_27 = true then
    (ix l i_2).bind fun v_31 =>
    (app 8 ([]) v_31).bind fun l_33 =>
    (app 24 out_1 ([l_33])).bind fun l_35 =>
    some l_35
    else
    some out_1) : Option (List (List Int))).bind fun out_37 =>
    some (.inl (out_37, w64 (i_2 + 1)))
    else
    some (.inr out_1)
def f35 (l : (List (List Int))) : Option (List (List Int)) :=
  (iter (f35_0 l) ([], 0)).bind fun out_40 =>
  some out_40
/- slices.IndexFunc[[]int,int] -/
def f74_0 (s0 : (List Int)) (f : Int → Option Bool) : Int → Option (Int ⊕ (Unit ⊕ Int))
  | x_1 =>
    if x_1 < (s0.length : Int) then
    (ix s0 x_1).bind fun v_3 =>
    (f v_3).bind fun o5 =>
    if o5 = true then
    some (.inr (.inr x_1))
    else
    some (.inl (w64 (x_1 + 1)))
    else
    some (.inr (.inl ()))
def f74 (s0 : (List Int)) (f : Int → Option Bool) : Option Int :=
  (iter (f74_0 s0 f) 0).bind fun o => match o with
  | .inl _ =>
  some (-1)
  | .inr x_10 =>
  some x_10
/- slices.ContainsFunc[[]int,int] -/
def f57 (s0 : (List Int)) (f : Int → Option Bool) : Option Bool :=
  (f74 s0 f).bind fun o1 =>
  some (decide (o1 ≥ 0))
/- slices.Index[[]int,int] -/
def f83_0 (s0 : (List Int)) (v : Int) : Int → Option (Int ⊕ (Unit ⊕ Int))
  | x_1 =>
    if x_1 < (s0.length : Int) then
    (ix s0 x_1).bind fun v_3 =>
    if v = v_3 then
    some (.inr (.inr x_1))
    else
    some (.inl (w64 (x_1 + 1)))
    else
    some (.inr (.inl ()))
def f83 (s0 : (List Int)) (v : Int) : Option Int :=
  (iter (f83_0 s0 v) 0).bind fun o => match o with
  | .inl _ =>
  some (-1)
  | .inr x_8 =>
  some x_8
/- slices.Contains[[]int,int] -/
def f73 (s0 : (List Int)) (v : Int) : Option Bool :=
  (f83 s0 v).bind fun o1 =>
  some (decide (o1 ≥ 0))
/- impl.isSubset$1 -/
def f72 (n0 : Int) (c : (List Int)) : Option Bool :=
  (f73 c n0).bind fun o1 =>
  some (decide (¬ (o1 = true)))
/- impl.isSubset -/
def f55 (a : (List Int)) (b : (List Int)) : Option Bool :=
  (f57 a (fun x0 => f72 x0 b)).bind fun o1 =>
  some (decide (¬ (o1 = true)))
/- impl.MinimalSets -/
def f36_1 (sets : (List (List Int))) (x_2 : Int) (v_4 : (List Int)) : Bool × Int → Option ((Bool × Int) ⊕ Bool)
  | (minimal_6, x_7) =>
    if x_7 < (sets.length : Int) then
    (ix sets x_7).bind fun v_9 =>
    ((if (v_9.length : Int) < (v_4.length : Int) then
    (f55 v_9 v_4).bind fun o14 =>
    some o14
    else
    ((if (v_9.length : Int) = (v_4.length : Int) then
    ((if x_7 < x_2 then
    (f55 v_9 v_4).bind fun o22 =>
    some o22
    else
    some false) : Option (Bool)).bind fun x_19 =>
    some x_19
    else
    some false) : Option (Bool)).bind fun x_16 =>
    some x_16) : Option (Bool)).bind fun x_11 =>
    ((if x_11 = true then
    some false
    else
    some minimal_6) : Option Bool).bind fun minimal_27 =>
    some (.inl (minimal_27, w64 (x_7 + 1)))
    else
    some (.inr minimal_6)
def f36_0 (sets : (List (List Int))) : (List (List Int)) × Int → Option (((List (List Int)) × Int) ⊕ (List (List Int)))
  | (out_1, x_2) =>
    if x_2 < (sets.length : Int) then
    (ix sets x_2).bind fun v_4 =>
    (iter (f36_1 sets x_2 v_4) (true, 0)).bind fun minimal_30 =>
    ((if minimal_30 = true then
    (app 8 ([]) v_4).bind fun l_34 =>
    (app 24 out_1 ([l_34])).bind fun l_36 =>
    some l_36
    else
    some out_1) : Option (List (List Int))).bind fun out_38 =>
    some (.inl (out_38, w64 (x_2 + 1)))
    else
    some (.inr out_1)
def f36 (sets : (List (List Int))) : Option (List (List Int)) :=
  (iter (f36_0 sets) ([], 0)).bind fun out_41 =>
  some out_41
/- laws.eqIntS -/
def f18_0 (a : (List Int)) (b : (List Int)) : Int → Option (Int ⊕ (Unit ⊕ Bool))
  | i_2 =>
    if i_2 < (a.length : Int) then
    (ix a i_2).bind fun v_4 =>
    (ix b i_2).bind fun v_6 =>
    if v_4 ≠ v_6 then
    some (.inr (.inr false))
    else
    some (.inl (w64 (i_2 + 1)))
    else
    some (.inr (.inl ()))
def f18 (a : (List Int)) (b : (List Int)) : Option Bool :=
  if (a.length : Int) ≠ (b.length : Int) then
  some false
  else
  (iter (f18_0 a b) 0).bind fun o => match o with
  | .inl _ =>
  some true
  | .inr x_11 =>
  some x_11
/- laws.eqIntSS -/
def f30_0 (a : (List (List Int))) (b : (List (List Int))) : Int → Option (Int ⊕ (Unit ⊕ Bool))
  | i_2 =>
    if i_2 < (a.length : Int) then
    (ix a i_2).bind fun v_4 =>
    (ix b i_2).bind fun v_6 =>
    (f18 v_4 v_6).bind fun o8 =>
    if ¬ (o8 = true) then
    some (.inr (.inr false))
    else
    some (.inl (w64 (i_2 + 1)))
    else
    some (.inr (.inl ()))
def f30 (a : (List (List Int))) (b : (List (List Int))) : Option Bool :=
  if (a.length : Int) ≠ (b.length : Int) then
  some false
  else
  (iter (f30_0 a b) 0).bind fun o => match o with
  | .inl _ =>
  some true
  | .inr x_13 =>
  some x_13
/- laws.markIntS -/
def f19_0 : (List Int) × Int × Int → Option (((List Int) × Int × Int) ⊕ ((List Int) × Int))
  | (a_1, k_2, i_3) =>
    if i_3 < (a_1.length : Int) then
    (ix a_1 i_3).bind fun v_5 =>
    some (.inl ((a_1.set i_3.toNat k_2), w64 (k_2 + 1), w64 (i_3 + 1)))
    else
    some (.inr (a_1, k_2))
def f19 (a : (List Int)) (k : Int) : Option (Int × (List Int)) :=
  (iter f19_0 (a, k, 0)).bind fun (a_10, k_11) =>
  some (k_11, a_10)
/- laws.markIntSS -/
def f37_0 : (List (List Int)) × Int × Int → Option (((List (List Int)) × Int × Int) ⊕ ((List (List Int)) × Int))
  | (a_1, k_2, i_3) =>
    if i_3 < (a_1.length : Int) then
    (ix a_1 i_3).bind fun v_5 =>
    (f19 v_5 k_2).bind fun o7 =>
    some (.inl ((a_1.set i_3.toNat o7.2), o7.1, w64 (i_3 + 1)))
    else
    some (.inr (a_1, k_2))
def f37 (a : (List (List Int))) (k : Int) : Option (Int × (List (List Int))) :=
  (iter f37_0 (a, k, 0)).bind fun (a_12, k_13) =>
  some (k_13, a_12)
/- laws.heldIntS -/
def f20_0 (a : (List Int)) : Int × Int → Option ((Int × Int) ⊕ (Int ⊕ Int))
  | (k_1, i_2) =>
    if i_2 < (a.length : Int) then
    (ix a i_2).bind fun v_4 =>
    if v_4 ≠ k_1 then
    some (.inr (.inr (-1)))
    else
    some (.inl (w64 (k_1 + 1), w64 (i_2 + 1)))
    else
    some (.inr (.inl k_1))
def f20 (a : (List Int)) (k : Int) : Option Int :=
  (iter (f20_0 a) (k, 0)).bind fun o => match o with
  | .inl k_9 =>
  some k_9
  | .inr x_10 =>
  some x_10
/- laws.heldIntSS -/
def f38_0 (a : (List (List Int))) : Int × Int → Option ((Int × Int) ⊕ (Int ⊕ Int))
  | (k_1, i_2) =>
    if i_2 < (a.length : Int) then
    (ix a i_2).bind fun v_4 =>
    (f20 v_4 k_1).bind fun o6 =>
    if o6 < 0 then
    some (.inr (.inr (-1)))
    else
    some (.inl (o6, w64 (i_2 + 1)))
    else
    some (.inr (.inl k_1))
def f38 (a : (List (List Int))) (k : Int) : Option Int :=
  (iter (f38_0 a) (k, 0)).bind fun o => match o with
  | .inl k_11 =>
  some k_11
  | .inr x_12 =>
  some x_12
/- laws.FnExactMinimalSets -/
def f8 (aSets : (List (List Int))) : Option Bool :=
  (f26 aSets 1048576).bind fun o1 =>
  if o1 < 0 then
  some true
  else
  (f28 aSets).bind fun o4 =>
  (f35 o4).bind fun o6 =>
  (f28 aSets).bind fun o8 =>
  (f36 o8).bind fun o10 =>
  (f30 o10 o6).bind fun o12 =>
  if ¬ (o12 = true) then
  some false
  else
  (f28 aSets).bind fun o15 =>
  (f30 o8 o15).bind fun o17 =>
  if ¬ (o17 = true) then
  some false
  else
  (f37 o8 1).bind fun o20 =>
  ((if o20.1 < 0 then
  some true
  else
  (f30 o10 o6).bind fun o25 =>
  some (decide (¬ (o25 = true)))) : Option (Bool)).bind fun x_22 =>
  if x_22 = true then
  some false
  else
  (f37 o10 1).bind fun o28 =>
  (f38 o28.2 1).bind fun o30 =>
  if o30 < 0 then
  some false
  else
  if o30 ≠ o28.1 then
  some false
  else
  (f28 aSets).bind fun o34 =>
  (f36 o34).bind fun o36 =>
  (f30 o36 o6).bind fun o38 =>
  if ¬ (o38 = true) then
  some false
  else
  (f38 o28.2 1).bind fun o41 =>
  if o41 < 0 then
  some false
  else
  if o41 ≠ o28.1 then
  some false
  else
  some true
end
end Go.Proofs.YthfbkecnnllpkaaH
