/- The program's functions on numbers and lists: printed by tg.py. -/
import Derived.Test.YthfbkecnnllpkaaHn1
set_option linter.unusedVariables false
set_option linter.unusedSimpArgs false
set_option maxRecDepth 100000
namespace Go.Proofs.YthfbkecnnllpkaaH
open Go
noncomputable section
/- laws.szIntS -/
def f51 (a : (List Int)) (left : Int) : Option Int :=
  if (w64 (left - (a.length : Int))) < 0 then
  some (-1)
  else
  some (w64 (left - (a.length : Int)))
/- laws.szIntSS -/
def f26_0 (a : (List (List Int))) : Int × Int → Option ((Int × Int) ⊕ (Int ⊕ Int))
  | (left_2, i_3) =>
    if i_3 < (a.length : Int) then
    (ix a i_3).bind fun v_5 =>
    (f51 v_5 left_2).bind fun o7 =>
    if o7 < 0 then
    some (.inr (.inr (-1)))
    else
    some (.inl (o7, w64 (i_3 + 1)))
    else
    some (.inr (.inl left_2))
def f26 (a : (List (List Int))) (left : Int) : Option Int :=
  if (w64 (left - (a.length : Int))) < 0 then
  some (-1)
  else
  (iter (f26_0 a) (w64 (left - (a.length : Int)), 0)).bind fun o => match o with
  | .inl left_12 =>
  some left_12
  | .inr x_13 =>
  some x_13
/- laws.toIntS -/
def f16_0 (a : (List Int)) : (List Int) × Int → Option (((List Int) × Int) ⊕ (List Int))
  | (out_3, i_4) =>
    if i_4 < (a.length : Int) then
    (ix a i_4).bind fun v_6 =>
    (ix out_3 i_4).bind fun v_8 =>
    some (.inl ((out_3.set i_4.toNat v_6), w64 (i_4 + 1)))
    else
    some (.inr out_3)
def f16 (a : (List Int)) : Option (List Int) :=
  (mkl 8 (a.length : Int) 0).bind fun l_1 =>
  (iter (f16_0 a) (l_1, 0)).bind fun out_13 =>
  some out_13
/- laws.toIntSS -/
def f28_0 (a : (List (List Int))) : (List (List Int)) × Int → Option (((List (List Int)) × Int) ⊕ (List (List Int)))
  | (out_3, i_4) =>
    if i_4 < (a.length : Int) then
    (ix a i_4).bind fun v_6 =>
    (f16 v_6).bind fun o8 =>
    (ix out_3 i_4).bind fun v_10 =>
    some (.inl ((out_3.set i_4.toNat o8), w64 (i_4 + 1)))
    else
    some (.inr out_3)
def f28 (a : (List (List Int))) : Option (List (List Int)) :=
  (mkl 24 (a.length : Int) ([] : (List Int))).bind fun l_1 =>
  (iter (f28_0 a) (l_1, 0)).bind fun out_15 =>
  some out_15
/- spec.l1In -/
def f61 (x : Int) (low : Int) (high : Int) : Option Bool :=
  ((if x ≥ low then
  some (decide (x ≤ high))
  else
  some false) : Option (Bool)).bind fun x_1 =>
  some x_1
/- spec.l20Clause -/
def f60_1 (c : (List Int)) (i_1 : Int) : Int → Option (Int ⊕ (Unit ⊕ Bool))
  | k_15 =>
    if k_15 < i_1 then
    (ix c k_15).bind fun v_17 =>
    (ix c i_1).bind fun v_19 =>
    ((if v_17 = v_19 then
    some true
    else
    some (decide (v_17 = (w64 (-v_19))))) : Option (Bool)).bind fun x_21 =>
    if x_21 = true then
    some (.inr (.inr false))
    else
    some (.inl (w64 (k_15 + 1)))
    else
    some (.inr (.inl ()))
def f60_0 (n0 : Int) (c : (List Int)) : Int → Option (Int ⊕ (Unit ⊕ Bool))
  | i_1 =>
    if i_1 < (c.length : Int) then
    (ix c i_1).bind fun v_3 =>
    ((if v_3 < 0 then
    some (decide (v_3 ≥ (w64 (-n0))))
    else
    some false) : Option (Bool)).bind fun x_5 =>
    ((if x_5 = true then
    some (w64 (-v_3))
    else
    some (if 0 > v_3 then 0 else v_3)) : Option Int).bind fun v_11 =>
    (f61 v_11 1 n0).bind fun o12 =>
    if ¬ (o12 = true) then
    some (.inr (.inr false))
    else
    (iter (f60_1 c i_1) 0).bind fun o => match o with
    | .inl _ =>
    some (.inl (w64 (i_1 + 1)))
    | .inr x_27 =>
    some (.inr (.inr x_27))
    else
    some (.inr (.inl ()))
def f60 (n0 : Int) (c : (List Int)) : Option Bool :=
  (iter (f60_0 n0 c) 0).bind fun o => match o with
  | .inl _ =>
  some true
  | .inr x_30 =>
  some x_30
/- spec.AreValidClauses -/
def f33_0 (n0 : Int) (l : (List (List Int))) : Int → Option (Int ⊕ (Unit ⊕ Bool))
  | i_1 =>
    if i_1 < (l.length : Int) then
    (ix l i_1).bind fun v_3 =>
    (f60 n0 v_3).bind fun o5 =>
    if ¬ (o5 = true) then
    some (.inr (.inr false))
    else
    some (.inl (w64 (i_1 + 1)))
    else
    some (.inr (.inl ()))
def f33 (n0 : Int) (l : (List (List Int))) : Option Bool :=
  (iter (f33_0 n0 l) 0).bind fun o => match o with
  | .inl _ =>
  (f61 n0 0 14).bind fun o11 =>
  ((if o11 = true then
  some (decide ((l.length : Int) ≤ 400))
  else
  some false) : Option (Bool)).bind fun x_13 =>
  some x_13
  | .inr x_10 =>
  some x_10
/- spec.NegateLiterals -/
def f15_0 (l : (List Int)) : (List Int) × Int → Option (((List Int) × Int) ⊕ (List Int))
  | (out_1, i_2) =>
    if i_2 < (l.length : Int) then
    (ix l i_2).bind fun v_4 =>
    (app 8 out_1 ([w64 (-v_4)])).bind fun l_6 =>
    some (.inl (l_6, w64 (i_2 + 1)))
    else
    some (.inr out_1)
def f15 (l : (List Int)) : Option (List Int) :=
  (iter (f15_0 l) ([], 0)).bind fun out_10 =>
  some out_10
/- spec.l7Has -/
def f70_0 (l : (List Int)) (x : Int) : Int → Option (Int ⊕ (Unit ⊕ Bool))
  | i_1 =>
    if i_1 < (l.length : Int) then
    (ix l i_1).bind fun v_3 =>
    if v_3 = x then
    some (.inr (.inr true))
    else
    some (.inl (w64 (i_1 + 1)))
    else
    some (.inr (.inl ()))
def f70 (l : (List Int)) (x : Int) : Option Bool :=
  (iter (f70_0 l x) 0).bind fun o => match o with
  | .inl _ =>
  some false
  | .inr x_8 =>
  some x_8
/- spec.l21Left -/
def f79_0 (c : (List Int)) (set1 : (List Int)) : (List Int) × Int → Option (((List Int) × Int) ⊕ ((List Int) ⊕ ((List Int) × Bool)))
  | (out_1, i_2) =>
    if i_2 < (c.length : Int) then
    (ix c i_2).bind fun v_4 =>
    (f70 set1 v_4).bind fun o6 =>
    if o6 = true then
    some (.inr (.inr (out_1, true)))
    else
    (f70 set1 (w64 (-v_4))).bind fun o9 =>
    ((if ¬ (o9 = true) then
    (app 8 out_1 ([v_4])).bind fun l_14 =>
    some l_14
    else
    some out_1) : Option (List Int)).bind fun out_16 =>
    some (.inl (out_16, w64 (i_2 + 1)))
    else
    some (.inr (.inl out_1))
def f79 (c : (List Int)) (set1 : (List Int)) : Option ((List Int) × Bool) :=
  (iter (f79_0 c set1) ([], 0)).bind fun o => match o with
  | .inl out_19 =>
  some (out_19, false)
  | .inr (x_20, x_21) =>
  some (x_20, x_21)
/- spec.l21Units -/
def f65_1 (l : (List (List Int))) : (List Int) × Bool × Int → Option (((List Int) × Bool × Int) ⊕ (((List Int) × Bool) ⊕ ((List Int) × Bool)))
  | (out_6, more_7, i_8) =>
    ((if i_8 < (l.length : Int) then
    some (decide (¬ (more_7 = true)))
    else
    some false) : Option (Bool)).bind fun x_9 =>
    if x_9 = true then
    (((ix l i_8).bind fun v_15 =>
    (f79 v_15 out_6).bind fun o17 =>
    if o17.2 = true then
    some (.inl (out_6, more_7))
    else
    if (o17.1.length : Int) = 0 then
    some (.inr (out_6, true))
    else
    ((if (o17.1.length : Int) = 1 then
    (ix o17.1 0).bind fun v_24 =>
    (app 8 out_6 ([v_24])).bind fun l_26 =>
    some (l_26, true)
    else
    some (out_6, more_7)) : Option ((List Int) × Bool)).bind fun (out_28, more_29) =>
    some (.inl (out_28, more_29))) : Option (((List Int) × Bool) ⊕ ((List Int) × Bool))).bind fun o => match o with
    | .inl (out_30, more_31) =>
    some (.inl (out_30, more_31, w64 (i_8 + 1)))
    | .inr (x_32, x_33) =>
    some (.inr (.inr (x_32, x_33)))
    else
    some (.inr (.inl (out_6, more_7)))
def f65_0 (l : (List (List Int))) : (List Int) × Bool → Option (((List Int) × Bool) ⊕ ((List Int) ⊕ ((List Int) × Bool)))
  | (out_3, more_4) =>
    if more_4 = true then
    (iter (f65_1 l) (out_3, false, 0)).bind fun o => match o with
    | .inl (out_36, more_37) =>
    some (.inl (out_36, more_37))
    | .inr (x_38, x_39) =>
    some (.inr (.inr (x_38, x_39)))
    else
    some (.inr (.inl out_3))
def f65 (l : (List (List Int))) (set1 : (List Int)) : Option ((List Int) × Bool) :=
  (app 8 ([]) set1).bind fun l_1 =>
  (iter (f65_0 l) (l_1, true)).bind fun o => match o with
  | .inl out_42 =>
  some (out_42, false)
  | .inr (x_43, x_44) =>
  some (x_43, x_44)
/- spec.IsValidProof -/
def f45_0 (n0 : Int) (proof : (List (List Int))) : (List (List Int)) × Int → Option (((List (List Int)) × Int) ⊕ (Unit ⊕ Bool))
  | (x_14, i_15) =>
    if i_15 < (proof.length : Int) then
    (ix proof i_15).bind fun v_17 =>
    (f60 n0 v_17).bind fun o19 =>
    if ¬ (o19 = true) then
    some (.inr (.inr false))
    else
    (f15 v_17).bind fun o22 =>
    (f65 x_14 o22).bind fun o24 =>
    if ¬ (o24.2 = true) then
    some (.inr (.inr false))
    else
    (app 24 x_14 ([v_17])).bind fun l_27 =>
    some (.inl (l_27, w64 (i_15 + 1)))
    else
    some (.inr (.inl ()))
def f45 (n0 : Int) (l : (List (List Int))) (proof : (List (List Int))) : Option Bool :=
  (f33 n0 l).bind fun o1 =>
  ((if ¬ (o1 = true) then
  some true
  else
  ((if (proof.length : Int) = 0 then
  some true
  else
  (ix proof (w64 ((proof.length : Int) - 1))).bind fun v_9 =>
  some (decide ((v_9.length : Int) > 0))) : Option (Bool)).bind fun x_6 =>
  some x_6) : Option (Bool)).bind fun x_3 =>
  if x_3 = true then
  some false
  else
  (app 24 ([]) l).bind fun l_12 =>
  (iter (f45_0 n0 proof) (l_12, 0)).bind fun o => match o with
  | .inl _ =>
  some true
  | .inr x_31 =>
  some x_31
/- impl.within -/
def f75 (n0 : Int) (low : Int) (high : Int) : Option Bool :=
  ((if low ≤ n0 then
  some (decide (n0 ≤ high))
  else
  some false) : Option (Bool)).bind fun x_1 =>
  some x_1
/- slices.IndexFunc[[][]int,[]int] -/
def f71_0 (s0 : (List (List Int))) (f : (List Int) → Option Bool) : Int → Option (Int ⊕ (Unit ⊕ Int))
  | x_1 =>
    if x_1 < (s0.length : Int) then
    (ix s0 x_1).bind fun v_3 =>
    (f v_3).bind fun o5 =>
    if o5 = true then
    some (.inr (.inr x_1))
    else
    some (.inl (w64 (x_1 + 1)))
    else
    some (.inr (.inl ()))
def f71 (s0 : (List (List Int))) (f : (List Int) → Option Bool) : Option Int :=
  (iter (f71_0 s0 f) 0).bind fun o => match o with
  | .inl _ =>
  some (-1)
  | .inr x_10 =>
  some x_10
/- slices.ContainsFunc[[][]int,[]int] -/
def f53 (s0 : (List (List Int))) (f : (List Int) → Option Bool) : Option Bool :=
  (f71 s0 f).bind fun o1 =>
  some (decide (o1 ≥ 0))
/- slices.Index[[]int,int] -/
def f83_0 (s0 : (List Int)) (v : Int) : Int → Option (Int ⊕ (Unit ⊕ Int))
  | x_1 =>
    if x_1 < (s0.length : Int) then
    (ix s0 x_1).bind fun v_3 =>
    if v = v_3 then
    some (.inr (.inr x_1))
    else
    some (.inl (w64 (x_1 + 1)))
    else
    some (.inr (.inl ()))
def f83 (s0 : (List Int)) (v : Int) : Option Int :=
  (iter (f83_0 s0 v) 0).bind fun o => match o with
  | .inl _ =>
  some (-1)
  | .inr x_8 =>
  some x_8
/- slices.Contains[[]int,int] -/
def f73 (s0 : (List Int)) (v : Int) : Option Bool :=
  (f83 s0 v).bind fun o1 =>
  some (decide (o1 ≥ 0))
/- impl.isClause -/
def f63_0 (n0 : Int) (clause : (List Int)) : Int → Option (Int ⊕ (Unit ⊕ Bool))
  | x_1 =>
    if x_1 < (clause.length : Int) then
    (ix clause x_1).bind fun v_3 =>
    ((if v_3 = 0 then
    some true
    else
    (f75 v_3 (w64 (-n0)) n0).bind fun o8 =>
    ((if ¬ (o8 = true) then
    some true
    else
    (cutL clause 0 x_1).bind fun l_13 =>
    (f73 l_13 v_3).bind fun o15 =>
    ((if o15 = true then
    some true
    else
    (f73 l_13 (w64 (-v_3))).bind fun o20 =>
    some o20) : Option (Bool)).bind fun x_17 =>
    some x_17) : Option (Bool)).bind fun x_10 =>
    some x_10) : Option (Bool)).bind fun x_5 =>
    if x_5 = true then
    some (.inr (.inr false))
    else
    some (.inl (w64 (x_1 + 1)))
    else
    some (.inr (.inl ()))
def f63 (n0 : Int) (clause : (List Int)) : Option Bool :=
  (iter (f63_0 n0 clause) 0).bind fun o => match o with
  | .inl _ =>
  some true
  | .inr x_25 =>
  some x_25
/- impl.areClauses$1 -/
def f76 (clause : (List Int)) (c : Int) : Option Bool :=
  (f63 c clause).bind fun o1 =>
  some (decide (¬ (o1 = true)))
/- impl.areClauses -/
def f62 (n0 : Int) (clauses : (List (List Int))) : Option Bool :=
  (f75 n0 0 14).bind fun o1 =>
  ((if o1 = true then
  (f53 clauses (fun x0 => f76 x0 n0)).bind fun o6 =>
  some (decide (¬ (o6 = true)))
  else
  some false) : Option (Bool)).bind fun x_3 =>
  some x_3
/- impl.AreValidClauses -/
def f34 (n0 : Int) (clauses : (List (List Int))) : Option Bool :=
  ((if (clauses.length : Int) ≤ 400 then
  (f62 n0 clauses).bind fun o4 =>
  some o4
  else
  some false) : Option (Bool)).bind fun x_1 =>
  some x_1
/- slices.Clone[[][]int,[]int] -/
def f66 (s0 : (List (List Int))) : Option (List (List Int)) :=
  (app 24 ([]) s0).bind fun l_1 =>
  some l_1
/- impl.NegateLiterals -/
def f17_0 (literals : (List Int)) : (List Int) × Int → Option (((List Int) × Int) ⊕ (List Int))
  | (out_1, x_2) =>
    if x_2 < (literals.length : Int) then
    (ix literals x_2).bind fun v_4 =>
    (app 8 out_1 ([w64 (-v_4)])).bind fun l_6 =>
    some (.inl (l_6, w64 (x_2 + 1)))
    else
    some (.inr out_1)
def f17 (literals : (List Int)) : Option (List Int) :=
  (iter (f17_0 literals) ([], 0)).bind fun out_10 =>
  some out_10
/- slices.IndexFunc[[]int,int] -/
def f74_0 (s0 : (List Int)) (f : Int → Option Bool) : Int → Option (Int ⊕ (Unit ⊕ Int))
  | x_1 =>
    if x_1 < (s0.length : Int) then
    (ix s0 x_1).bind fun v_3 =>
    (f v_3).bind fun o5 =>
    if o5 = true then
    some (.inr (.inr x_1))
    else
    some (.inl (w64 (x_1 + 1)))
    else
    some (.inr (.inl ()))
def f74 (s0 : (List Int)) (f : Int → Option Bool) : Option Int :=
  (iter (f74_0 s0 f) 0).bind fun o => match o with
  | .inl _ =>
  some (-1)
  | .inr x_10 =>
  some x_10
/- slices.ContainsFunc[[]int,int] -/
def f57 (s0 : (List Int)) (f : Int → Option Bool) : Option Bool :=
  (f74 s0 f).bind fun o1 =>
  some (decide (o1 ≥ 0))
/- impl.propagate$1 -/
def f77 (x : Int) (c : (List Int)) : Option Bool :=
  (f73 c x).bind fun o1 =>
  some o1
/- impl.without -/
def f78_0 (a : (List Int)) (b : (List Int)) : (List Int) × Int → Option (((List Int) × Int) ⊕ (List Int))
  | (out_1, x_2) =>
    if x_2 < (a.length : Int) then
    (ix a x_2).bind fun v_4 =>
    (f73 b v_4).bind fun o6 =>
    ((if ¬ (o6 = true) then
    (app 8 out_1 ([v_4])).bind fun l_11 =>
    some l_11
    else
    some out_1) : Option (List Int)).bind fun out_13 =>
    some (.inl (out_13, w64 (x_2 + 1)))
    else
    some (.inr out_1)
def f78 (a : (List Int)) (b : (List Int)) : Option (List Int) :=
  (iter (f78_0 a b) ([], 0)).bind fun out_16 =>
  some out_16
/- impl.propagate -/
def f64_1 (clauses : (List (List Int))) (out_3 : (List Int)) : Int → Option (Int ⊕ (((List Int) × Bool) ⊕ ((List Int) × Bool)))
  | x_4 =>
    if x_4 < (clauses.length : Int) then
    (((ix clauses x_4).bind fun v_8 =>
    (f57 v_8 (fun x0 => f77 x0 out_3)).bind fun o10 =>
    if o10 = true then
    some (.inl ())
    else
    (f17 out_3).bind fun o13 =>
    (f78 v_8 o13).bind fun o15 =>
    if (o15.length : Int) = 0 then
    some (.inr (.inr (out_3, true)))
    else
    if (o15.length : Int) = 1 then
    (ix o15 0).bind fun v_19 =>
    (app 8 out_3 ([v_19])).bind fun l_21 =>
    some (.inr (.inl (l_21, true)))
    else
    some (.inl ())) : Option (Unit ⊕ (((List Int) × Bool) ⊕ ((List Int) × Bool)))).bind fun o => match o with
    | .inl _ =>
    some (.inl (w64 (x_4 + 1)))
    | .inr (.inl (out_23, found_24)) =>
    some (.inr (.inl (out_23, found_24)))
    | .inr (.inr (x_25, x_26)) =>
    some (.inr (.inr (x_25, x_26)))
    else
    some (.inr (.inl (out_3, false)))
def f64_0 (clauses : (List (List Int))) : (List Int) → Option ((List Int) ⊕ ((List Int) × Bool))
  | out_3 =>
    (iter (f64_1 clauses out_3) 0).bind fun o => match o with
    | .inl (out_29, found_30) =>
    if ¬ (found_30 = true) then
    some (.inr (out_29, false))
    else
    some (.inl out_29)
    | .inr (x_31, x_32) =>
    some (.inr (x_31, x_32))
def f64 (clauses : (List (List Int))) (start : (List Int)) : Option ((List Int) × Bool) :=
  (app 8 ([]) start).bind fun l_1 =>
  (iter (f64_0 clauses) l_1).bind fun (x_36, x_37) =>
  some (x_36, x_37)
/- impl.IsValidProof -/
def f46_0 (proof : (List (List Int))) : (List (List Int)) × Int → Option (((List (List Int)) × Int) ⊕ (Unit ⊕ Bool))
  | (known_14, x_15) =>
    if x_15 < (proof.length : Int) then
    (ix proof x_15).bind fun v_17 =>
    (f17 v_17).bind fun o19 =>
    (f64 known_14 o19).bind fun o21 =>
    if ¬ (o21.2 = true) then
    some (.inr (.inr false))
    else
    (app 24 known_14 ([v_17])).bind fun l_24 =>
    some (.inl (l_24, w64 (x_15 + 1)))
    else
    some (.inr (.inl ()))
def f46 (n0 : Int) (clauses : (List (List Int))) (proof : (List (List Int))) : Option Bool :=
  (f34 n0 clauses).bind fun o1 =>
  ((if ¬ (o1 = true) then
  some true
  else
  ((if (proof.length : Int) = 0 then
  some true
  else
  (f62 n0 proof).bind fun o9 =>
  some (decide (¬ (o9 = true)))) : Option (Bool)).bind fun x_6 =>
  some x_6) : Option (Bool)).bind fun x_3 =>
  if x_3 = true then
  some false
  else
  (f66 clauses).bind fun o12 =>
  (iter (f46_0 proof) (o12, 0)).bind fun o => match o with
  | .inl _ =>
  (ix proof (w64 ((proof.length : Int) - 1))).bind fun v_29 =>
  some (decide ((v_29.length : Int) = 0))
  | .inr x_28 =>
  some x_28
/- laws.eqIntS -/
def f18_0 (a : (List Int)) (b : (List Int)) : Int → Option (Int ⊕ (Unit ⊕ Bool))
  | i_2 =>
    if i_2 < (a.length : Int) then
    (ix a i_2).bind fun v_4 =>
    (ix b i_2).bind fun v_6 =>
    if v_4 ≠ v_6 then
    some (.inr (.inr false))
    else
    some (.inl (w64 (i_2 + 1)))
    else
    some (.inr (.inl ()))
def f18 (a : (List Int)) (b : (List Int)) : Option Bool :=
  if (a.length : Int) ≠ (b.length : Int) then
  some false
  else
  (iter (f18_0 a b) 0).bind fun o => match o with
  | .inl _ =>
  some true
  | .inr x_11 =>
  some x_11
/- laws.eqIntSS -/
def f30_0 (a : (List (List Int))) (b : (List (List Int))) : Int → Option (Int ⊕ (Unit ⊕ Bool))
  | i_2 =>
    if i_2 < (a.length : Int) then
    (ix a i_2).bind fun v_4 =>
    (ix b i_2).bind fun v_6 =>
    (f18 v_4 v_6).bind fun o8 =>
    if ¬ (o8 = true) then
    some (.inr (.inr false))
    else
    some (.inl (w64 (i_2 + 1)))
    else
    some (.inr (.inl ()))
def f30 (a : (List (List Int))) (b : (List (List Int))) : Option Bool :=
  if (a.length : Int) ≠ (b.length : Int) then
  some false
  else
  (iter (f30_0 a b) 0).bind fun o => match o with
  | .inl _ =>
  some true
  | .inr x_13 =>
  some x_13
/- laws.FnExactIsValidProof -/
def f12 (aN : Int) (aClauses : (List (List Int))) (aProof : (List (List Int))) : Option Bool :=
  (f26 aClauses 1048576).bind fun o1 =>
  if o1 < 0 then
  some true
  else
  (f26 aProof o1).bind fun o4 =>
  if o4 < 0 then
  some true
  else
  (f28 aClauses).bind fun o7 =>
  (f28 aProof).bind fun o9 =>
  (f45 aN o7 o9).bind fun o11 =>
  (f28 aClauses).bind fun o13 =>
  (f28 aProof).bind fun o15 =>
  (f46 aN o13 o15).bind fun o17 =>
  if (o17 != o11) = true then
  some false
  else
  (f28 aClauses).bind fun o20 =>
  (f30 o13 o20).bind fun o22 =>
  if ¬ (o22 = true) then
  some false
  else
  (f28 aProof).bind fun o25 =>
  (f30 o15 o25).bind fun o27 =>
  if ¬ (o27 = true) then
  some false
  else
  some true
end
end Go.Proofs.YthfbkecnnllpkaaH
