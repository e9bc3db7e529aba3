/- The program's functions on numbers and lists: printed by tg.py. -/
import Derived.Test.YthfbkecnnllpkaaHn1
set_option linter.unusedVariables false
set_option linter.unusedSimpArgs false
set_option maxRecDepth 100000
namespace Go.Proofs.YthfbkecnnllpkaaH
open Go
noncomputable section
structure L1Cur where
  b : (List Int)
  i : Int
  h : Int
  deriving DecidableEq, Inhabited
def eL1Cur : En L1Cur := ⟨3, fun b a => if b then [(osl eU true a.b), (.int .i64 a.i), (.int .i64 a.h)] else [(ssl eU a.b), (.int .i64 a.i), (.int .i64 a.h)], fun b a => by cases b <;> rfl, by decide, fun b a => by cases b <;> simp [T.frz], fun a => by simp, fun a => by simp, fun b a => by cases b <;> simp⟩
@[simp] theorem eL1Cur_w : eL1Cur.w = 3 := rfl
@[simp] theorem eL1Cur_ct {a : L1Cur} : eL1Cur.c true a = [(osl eU true a.b), (.int .i64 a.i), (.int .i64 a.h)] := rfl
@[simp] theorem eL1Cur_cf {a : L1Cur} : eL1Cur.c false a = [(ssl eU a.b), (.int .i64 a.i), (.int .i64 a.h)] := rfl
@[simp] theorem arrL1Cur_len {b : Bool} {l : List L1Cur} : (arr eL1Cur b l).length = l.length * 3 := by rw [arr_len]; rfl
/- laws.big -/
def f47 (code : (List Int)) : Option Bool :=
  some (decide ((code.length : Int) > 1048576))
/- spec.l1New -/
def f67_0 (code : (List Int)) : Int × Int → Option ((Int × Int) ⊕ Int)
  | (h_1, i_2) =>
    ((if i_2 < (code.length : Int) then
    some (decide (i_2 < 4000))
    else
    some false) : Option (Bool)).bind fun x_3 =>
    if x_3 = true then
    (ix code i_2).bind fun v_7 =>
    some (.inl (band .i64 (w64 ((w64 ((w64 (h_1 * 131)) + (w64 v_7))) + 7)) 1073741823, w64 (i_2 + 1)))
    else
    some (.inr h_1)
def f67 (code : (List Int)) : Option L1Cur :=
  (iter (f67_0 code) (w64 (10101 + (code.length : Int)), 0)).bind fun h_11 =>
  some ({ b := code, i := 0, h := h_11 } : L1Cur)
/- spec.l1Byte -/
def f84 (c : L1Cur) : Option (Int × L1Cur) :=
  ((if c.i < (c.b.length : Int) then
  (ix c.b c.i).bind fun v_4 =>
  some (w64 (c.i + 1), band .i64 (w64 ((band .i64 (bxor .i64 (sshr .i64 (w64 ((w64 (c.h * 6364136223846793005)) + 1442695040888963407)) 33) (sshr .i64 (w64 ((w64 (c.h * 6364136223846793005)) + 1442695040888963407)) 45)) 255) + (w64 v_4))) 255)
  else
  some (c.i, band .i64 (bxor .i64 (sshr .i64 (w64 ((w64 (c.h * 6364136223846793005)) + 1442695040888963407)) 33) (sshr .i64 (w64 ((w64 (c.h * 6364136223846793005)) + 1442695040888963407)) 45)) 255)) : Option (Int × Int)).bind fun (c_6, x_7) =>
  some (x_7, ({ b := c.b, i := c_6, h := w64 ((w64 (c.h * 6364136223846793005)) + 1442695040888963407) } : L1Cur))
/- spec.l1Below -/
def f80 (c : L1Cur) (n1 : Int) : Option (Int × L1Cur) :=
  if n1 ≤ 0 then
  some (0, c)
  else
  if n1 ≤ 256 then
  (f84 c).bind fun o3 =>
  (nz n1).bind fun z_5 =>
  some (o3.1.tmod n1, o3.2)
  else
  (f84 c).bind fun o7 =>
  (f84 o7.2).bind fun o9 =>
  (f84 o9.2).bind fun o11 =>
  (f84 o11.2).bind fun o13 =>
  (nz n1).bind fun z_15 =>
  some ((w64 ((w64 ((w64 ((w64 (o7.1 * 16777216)) + (w64 (o9.1 * 65536)))) + (w64 (o11.1 * 256)))) + o13.1)).tmod n1, o13.2)
/- spec.l1Once -/
def f81 (c : L1Cur) (n1 : Int) : Option (Bool × L1Cur) :=
  (f80 c n1).bind fun o1 =>
  some ((decide (o1.1 = 0)), o1.2)
/- spec.l1PickInt -/
def f82 (c : L1Cur) (list : (List Int)) : Option (Int × L1Cur) :=
  (f80 c (list.length : Int)).bind fun o1 =>
  (ix list o1.1).bind fun v_3 =>
  some (v_3, o1.2)
/- spec.l20Cnf -/
def f68_1 (o1 : (Int × L1Cur)) : (List Int) × Int × Int × (List Int) × Int → Option (((List Int) × Int × Int × (List Int) × Int) ⊕ ((List Int) × Int × Int × (List Int)))
  | (c_11, c_12, c_13, x_14, v_15) =>
    if v_15 ≤ (w64 (1 + o1.1)) then
    (f81 ({ b := c_11, i := c_12, h := c_13 } : L1Cur) 2).bind fun o17 =>
    ((if o17.1 = true then
    some (decide ((x_14.length : Int) < 3))
    else
    some false) : Option (Bool)).bind fun x_19 =>
    ((if x_19 = true then
    (f80 o17.2 2).bind fun o25 =>
    (app 8 x_14 ([w64 (v_15 * (w64 (1 - (w64 (2 * o25.1)))))])).bind fun l_27 =>
    some (o25.2.b, o25.2.i, o25.2.h, l_27)
    else
    some (o17.2.b, o17.2.i, o17.2.h, x_14)) : Option ((List Int) × Int × Int × (List Int))).bind fun (c_29, c_30, c_31, x_32) =>
    some (.inl (c_29, c_30, c_31, x_32, w64 (v_15 + 1)))
    else
    some (.inr (c_11, c_12, c_13, x_14))
def f68_0 (o1 : (Int × L1Cur)) : (List Int) × Int × Int × (List (List Int)) × Int → Option (((List Int) × Int × Int × (List (List Int)) × Int) ⊕ ((List Int) × Int × Int × (List (List Int))))
  | (c_5, c_6, c_7, l_8, k_9) =>
    if k_9 > 0 then
    (iter (f68_1 o1) (c_5, c_6, c_7, [], 1)).bind fun (c_35, c_36, c_37, x_38) =>
    (app 24 l_8 ([x_38])).bind fun l_39 =>
    some (.inl (c_35, c_36, c_37, l_39, w64 (k_9 - 1)))
    else
    some (.inr (c_5, c_6, c_7, l_8))
def f68 (c : L1Cur) : Option (Int × (List (List Int)) × L1Cur) :=
  (f80 c 5).bind fun o1 =>
  (f80 o1.2 11).bind fun o3 =>
  (iter (f68_0 o1) (o3.2.b, o3.2.i, o3.2.h, [], o3.1)).bind fun (c_43, c_44, c_45, l_46) =>
  ((if (l_46.length : Int) > 0 then
  (f81 ({ b := c_43, i := c_44, h := c_45 } : L1Cur) 14).bind fun o53 =>
  some (o53.2.b, o53.2.i, o53.2.h, o53.1)
  else
  some (c_43, c_44, c_45, false)) : Option ((List Int) × Int × Int × Bool)).bind fun (c_47, c_48, c_49, x_50) =>
  ((if x_50 = true then
  (ix l_46 0).bind fun v_58 =>
  (f82 ({ b := c_47, i := c_48, h := c_49 } : L1Cur) ([0, 6, -7, 1, -9223372036854775808])).bind fun o60 =>
  (app 8 v_58 ([o60.1])).bind fun l_62 =>
  some (o60.2.b, o60.2.i, o60.2.h, (l_46.set (0 : Int).toNat l_62))
  else
  some (c_47, c_48, c_49, l_46)) : Option ((List Int) × Int × Int × (List (List Int)))).bind fun (c_65, c_66, c_67, l_68) =>
  some (w64 (1 + o1.1), l_68, ({ b := c_65, i := c_66, h := c_67 } : L1Cur))
/- spec.l21Set -/
def f69_0 (n1 : Int) : (List Int) × Int × Int × (List Int) × Int → Option (((List Int) × Int × Int × (List Int) × Int) ⊕ ((List Int) × Int × Int × (List Int)))
  | (c_1, c_2, c_3, s_4, v_5) =>
    if v_5 ≤ n1 then
    (f81 ({ b := c_1, i := c_2, h := c_3 } : L1Cur) 3).bind fun o7 =>
    ((if o7.1 = true then
    (f80 o7.2 2).bind fun o12 =>
    (app 8 s_4 ([w64 (v_5 * (w64 (1 - (w64 (2 * o12.1)))))])).bind fun l_14 =>
    some (o12.2.b, o12.2.i, o12.2.h, l_14)
    else
    some (o7.2.b, o7.2.i, o7.2.h, s_4)) : Option ((List Int) × Int × Int × (List Int))).bind fun (c_16, c_17, c_18, s_19) =>
    some (.inl (c_16, c_17, c_18, s_19, w64 (v_5 + 1)))
    else
    some (.inr (c_1, c_2, c_3, s_4))
def f69 (c : L1Cur) (n1 : Int) : Option ((List Int) × L1Cur) :=
  (iter (f69_0 n1) (c.b, c.i, c.h, [], 1)).bind fun (c_22, c_23, c_24, s_25) =>
  (f81 ({ b := c_22, i := c_23, h := c_24 } : L1Cur) 14).bind fun o26 =>
  if o26.1 = true then
  (f82 o26.2 ([0, 7, -7])).bind fun o29 =>
  (app 8 s_25 ([o29.1])).bind fun l_31 =>
  some (l_31, o29.2)
  else
  some (s_25, o26.2)
/- spec.DrawUnitPropagation -/
def f48 (code : (List Int)) : Option (Int × (List (List Int)) × (List Int)) :=
  (f67 code).bind fun o1 =>
  (f68 o1).bind fun o3 =>
  (f69 o3.2.2 o3.1).bind fun o5 =>
  some (o3.1, o3.2.1, o5.1)
/- spec.DrawIsRUPClause -/
def f50 (code : (List Int)) : Option (Int × (List (List Int)) × (List Int)) :=
  (f48 code).bind fun o1 =>
  some (o1.1, o1.2.1, o1.2.2)
/- impl.within -/
def f75 (n0 : Int) (low : Int) (high : Int) : Option Bool :=
  ((if low ≤ n0 then
  some (decide (n0 ≤ high))
  else
  some false) : Option (Bool)).bind fun x_1 =>
  some x_1
/- slices.IndexFunc[[][]int,[]int] -/
def f71_0 (s0 : (List (List Int))) (f : (List Int) → Option Bool) : Int → Option (Int ⊕ (Unit ⊕ Int))
  | x_1 =>
    if x_1 < (s0.length : Int) then
    (ix s0 x_1).bind fun v_3 =>
    (f v_3).bind fun o5 =>
    if o5 = true then
    some (.inr (.inr x_1))
    else
    some (.inl (w64 (x_1 + 1)))
    else
    some (.inr (.inl ()))
def f71 (s0 : (List (List Int))) (f : (List Int) → Option Bool) : Option Int :=
  (iter (f71_0 s0 f) 0).bind fun o => match o with
  | .inl _ =>
  some (-1)
  | .inr x_10 =>
  some x_10
/- slices.ContainsFunc[[][]int,[]int] -/
def f53 (s0 : (List (List Int))) (f : (List Int) → Option Bool) : Option Bool :=
  (f71 s0 f).bind fun o1 =>
  some (decide (o1 ≥ 0))
/- slices.Index[[]int,int] -/
def f83_0 (s0 : (List Int)) (v : Int) : Int → Option (Int ⊕ (Unit ⊕ Int))
  | x_1 =>
    if x_1 < (s0.length : Int) then
    (ix s0 x_1).bind fun v_3 =>
    if v = v_3 then
    some (.inr (.inr x_1))
    else
    some (.inl (w64 (x_1 + 1)))
    else
    some (.inr (.inl ()))
def f83 (s0 : (List Int)) (v : Int) : Option Int :=
  (iter (f83_0 s0 v) 0).bind fun o => match o with
  | .inl _ =>
  some (-1)
  | .inr x_8 =>
  some x_8
/- slices.Contains[[]int,int] -/
def f73 (s0 : (List Int)) (v : Int) : Option Bool :=
  (f83 s0 v).bind fun o1 =>
  some (decide (o1 ≥ 0))
/- impl.isClause -/
def f63_0 (n0 : Int) (clause : (List Int)) : Int → Option (Int ⊕ (Unit ⊕ Bool))
  | x_1 =>
    if x_1 < (clause.length : Int) then
    (ix clause x_1).bind fun v_3 =>
    ((if v_3 = 0 then
    some true
    else
    (f75 v_3 (w64 (-n0)) n0).bind fun o8 =>
    ((if ¬ (o8 = true) then
    some true
    else
    (cutL clause 0 x_1).bind fun l_13 =>
    (f73 l_13 v_3).bind fun o15 =>
    ((if o15 = true then
    some true
    else
    (f73 l_13 (w64 (-v_3))).bind fun o20 =>
    some o20) : Option (Bool)).bind fun x_17 =>
    some x_17) : Option (Bool)).bind fun x_10 =>
    some x_10) : Option (Bool)).bind fun x_5 =>
    if x_5 = true then
    some (.inr (.inr false))
    else
    some (.inl (w64 (x_1 + 1)))
    else
    some (.inr (.inl ()))
def f63 (n0 : Int) (clause : (List Int)) : Option Bool :=
  (iter (f63_0 n0 clause) 0).bind fun o => match o with
  | .inl _ =>
  some true
  | .inr x_25 =>
  some x_25
/- impl.areClauses$1 -/
def f76 (clause : (List Int)) (c : Int) : Option Bool :=
  (f63 c clause).bind fun o1 =>
  some (decide (¬ (o1 = true)))
/- impl.areClauses -/
def f62 (n0 : Int) (clauses : (List (List Int))) : Option Bool :=
  (f75 n0 0 14).bind fun o1 =>
  ((if o1 = true then
  (f53 clauses (fun x0 => f76 x0 n0)).bind fun o6 =>
  some (decide (¬ (o6 = true)))
  else
  some false) : Option (Bool)).bind fun x_3 =>
  some x_3
/- impl.AreValidClauses -/
def f34 (n0 : Int) (clauses : (List (List Int))) : Option Bool :=
  ((if (clauses.length : Int) ≤ 400 then
  (f62 n0 clauses).bind fun o4 =>
  some o4
  else
  some false) : Option (Bool)).bind fun x_1 =>
  some x_1
/- impl.NegateLiterals -/
def f17_0 (literals : (List Int)) : (List Int) × Int → Option (((List Int) × Int) ⊕ (List Int))
  | (out_1, x_2) =>
    if x_2 < (literals.length : Int) then
    (ix literals x_2).bind fun v_4 =>
    (app 8 out_1 ([w64 (-v_4)])).bind fun l_6 =>
    some (.inl (l_6, w64 (x_2 + 1)))
    else
    some (.inr out_1)
def f17 (literals : (List Int)) : Option (List Int) :=
  (iter (f17_0 literals) ([], 0)).bind fun out_10 =>
  some out_10
/- slices.IndexFunc[[]int,int] -/
def f74_0 (s0 : (List Int)) (f : Int → Option Bool) : Int → Option (Int ⊕ (Unit ⊕ Int))
  | x_1 =>
    if x_1 < (s0.length : Int) then
    (ix s0 x_1).bind fun v_3 =>
    (f v_3).bind fun o5 =>
    if o5 = true then
    some (.inr (.inr x_1))
    else
    some (.inl (w64 (x_1 + 1)))
    else
    some (.inr (.inl ()))
def f74 (s0 : (List Int)) (f : Int → Option Bool) : Option Int :=
  (iter (f74_0 s0 f) 0).bind fun o => match o with
  | .inl _ =>
  some (-1)
  | .inr x_10 =>
  some x_10
/- slices.ContainsFunc[[]int,int] -/
def f57 (s0 : (List Int)) (f : Int → Option Bool) : Option Bool :=
  (f74 s0 f).bind fun o1 =>
  some (decide (o1 ≥ 0))
/- impl.propagate$1 -/
def f77 (x : Int) (c : (List Int)) : Option Bool :=
  (f73 c x).bind fun o1 =>
  some o1
/- impl.without -/
def f78_0 (a : (List Int)) (b : (List Int)) : (List Int) × Int → Option (((List Int) × Int) ⊕ (List Int))
  | (out_1, x_2) =>
    if x_2 < (a.length : Int) then
    (ix a x_2).bind fun v_4 =>
    (f73 b v_4).bind fun o6 =>
    ((if ¬ (o6 = true) then
    (app 8 out_1 ([v_4])).bind fun l_11 =>
    some l_11
    else
    some out_1) : Option (List Int)).bind fun out_13 =>
    some (.inl (out_13, w64 (x_2 + 1)))
    else
    some (.inr out_1)
def f78 (a : (List Int)) (b : (List Int)) : Option (List Int) :=
  (iter (f78_0 a b) ([], 0)).bind fun out_16 =>
  some out_16
/- impl.propagate -/
def f64_1 (clauses : (List (List Int))) (out_3 : (List Int)) : Int → Option (Int ⊕ (((List Int) × Bool) ⊕ ((List Int) × Bool)))
  | x_4 =>
    if x_4 < (clauses.length : Int) then
    (((ix clauses x_4).bind fun v_8 =>
    (f57 v_8 (fun x0 => f77 x0 out_3)).bind fun o10 =>
    if o10 = true then
    some (.inl ())
    else
    (f17 out_3).bind fun o13 =>
    (f78 v_8 o13).bind fun o15 =>
    if (o15.length : Int) = 0 then
    some (.inr (.inr (out_3, true)))
    else
    if (o15.length : Int) = 1 then
    (ix o15 0).bind fun v_19 =>
    (app 8 out_3 ([v_19])).bind fun l_21 =>
    some (.inr (.inl (l_21, true)))
    else
    some (.inl ())) : Option (Unit ⊕ (((List Int) × Bool) ⊕ ((List Int) × Bool)))).bind fun o => match o with
    | .inl _ =>
    some (.inl (w64 (x_4 + 1)))
    | .inr (.inl (out_23, found_24)) =>
    some (.inr (.inl (out_23, found_24)))
    | .inr (.inr (x_25, x_26)) =>
    some (.inr (.inr (x_25, x_26)))
    else
    some (.inr (.inl (out_3, false)))
def f64_0 (clauses : (List (List Int))) : (List Int) → Option ((List Int) ⊕ ((List Int) × Bool))
  | out_3 =>
    (iter (f64_1 clauses out_3) 0).bind fun o => match o with
    | .inl (out_29, found_30) =>
    if ¬ (found_30 = true) then
    some (.inr (out_29, false))
    else
    some (.inl out_29)
    | .inr (x_31, x_32) =>
    some (.inr (x_31, x_32))
def f64 (clauses : (List (List Int))) (start : (List Int)) : Option ((List Int) × Bool) :=
  (app 8 ([]) start).bind fun l_1 =>
  (iter (f64_0 clauses) l_1).bind fun (x_36, x_37) =>
  some (x_36, x_37)
/- impl.IsRUPClause -/
def f42 (n0 : Int) (clauses : (List (List Int))) (clause : (List Int)) : Option Bool :=
  (f34 n0 clauses).bind fun o1 =>
  ((if ¬ (o1 = true) then
  some true
  else
  (f63 n0 clause).bind fun o6 =>
  some (decide (¬ (o6 = true)))) : Option (Bool)).bind fun x_3 =>
  if x_3 = true then
  some false
  else
  (f17 clause).bind fun o9 =>
  (f64 clauses o9).bind fun o11 =>
  some o11.2
/- spec.l1In -/
def f61 (x : Int) (low : Int) (high : Int) : Option Bool :=
  ((if x ≥ low then
  some (decide (x ≤ high))
  else
  some false) : Option (Bool)).bind fun x_1 =>
  some x_1
/- spec.l20Clause -/
def f60_1 (c : (List Int)) (i_1 : Int) : Int → Option (Int ⊕ (Unit ⊕ Bool))
  | k_15 =>
    if k_15 < i_1 then
    (ix c k_15).bind fun v_17 =>
    (ix c i_1).bind fun v_19 =>
    ((if v_17 = v_19 then
    some true
    else
    some (decide (v_17 = (w64 (-v_19))))) : Option (Bool)).bind fun x_21 =>
    if x_21 = true then
    some (.inr (.inr false))
    else
    some (.inl (w64 (k_15 + 1)))
    else
    some (.inr (.inl ()))
def f60_0 (n0 : Int) (c : (List Int)) : Int → Option (Int ⊕ (Unit ⊕ Bool))
  | i_1 =>
    if i_1 < (c.length : Int) then
    (ix c i_1).bind fun v_3 =>
    ((if v_3 < 0 then
    some (decide (v_3 ≥ (w64 (-n0))))
    else
    some false) : Option (Bool)).bind fun x_5 =>
    ((if x_5 = true then
    some (w64 (-v_3))
    else
    some (if 0 > v_3 then 0 else v_3)) : Option Int).bind fun v_11 =>
    (f61 v_11 1 n0).bind fun o12 =>
    if ¬ (o12 = true) then
    some (.inr (.inr false))
    else
    (iter (f60_1 c i_1) 0).bind fun o => match o with
    | .inl _ =>
    some (.inl (w64 (i_1 + 1)))
    | .inr x_27 =>
    some (.inr (.inr x_27))
    else
    some (.inr (.inl ()))
def f60 (n0 : Int) (c : (List Int)) : Option Bool :=
  (iter (f60_0 n0 c) 0).bind fun o => match o with
  | .inl _ =>
  some true
  | .inr x_30 =>
  some x_30
/- spec.AreValidClauses -/
def f33_0 (n0 : Int) (l : (List (List Int))) : Int → Option (Int ⊕ (Unit ⊕ Bool))
  | i_1 =>
    if i_1 < (l.length : Int) then
    (ix l i_1).bind fun v_3 =>
    (f60 n0 v_3).bind fun o5 =>
    if ¬ (o5 = true) then
    some (.inr (.inr false))
    else
    some (.inl (w64 (i_1 + 1)))
    else
    some (.inr (.inl ()))
def f33 (n0 : Int) (l : (List (List Int))) : Option Bool :=
  (iter (f33_0 n0 l) 0).bind fun o => match o with
  | .inl _ =>
  (f61 n0 0 14).bind fun o11 =>
  ((if o11 = true then
  some (decide ((l.length : Int) ≤ 400))
  else
  some false) : Option (Bool)).bind fun x_13 =>
  some x_13
  | .inr x_10 =>
  some x_10
/- spec.NegateLiterals -/
def f15_0 (l : (List Int)) : (List Int) × Int → Option (((List Int) × Int) ⊕ (List Int))
  | (out_1, i_2) =>
    if i_2 < (l.length : Int) then
    (ix l i_2).bind fun v_4 =>
    (app 8 out_1 ([w64 (-v_4)])).bind fun l_6 =>
    some (.inl (l_6, w64 (i_2 + 1)))
    else
    some (.inr out_1)
def f15 (l : (List Int)) : Option (List Int) :=
  (iter (f15_0 l) ([], 0)).bind fun out_10 =>
  some out_10
/- spec.l7Has -/
def f70_0 (l : (List Int)) (x : Int) : Int → Option (Int ⊕ (Unit ⊕ Bool))
  | i_1 =>
    if i_1 < (l.length : Int) then
    (ix l i_1).bind fun v_3 =>
    if v_3 = x then
    some (.inr (.inr true))
    else
    some (.inl (w64 (i_1 + 1)))
    else
    some (.inr (.inl ()))
def f70 (l : (List Int)) (x : Int) : Option Bool :=
  (iter (f70_0 l x) 0).bind fun o => match o with
  | .inl _ =>
  some false
  | .inr x_8 =>
  some x_8
/- spec.l21Left -/
def f79_0 (c : (List Int)) (set1 : (List Int)) : (List Int) × Int → Option (((List Int) × Int) ⊕ ((List Int) ⊕ ((List Int) × Bool)))
  | (out_1, i_2) =>
    if i_2 < (c.length : Int) then
    (ix c i_2).bind fun v_4 =>
    (f70 set1 v_4).bind fun o6 =>
    if o6 = true then
    some (.inr (.inr (out_1, true)))
    else
    (f70 set1 (w64 (-v_4))).bind fun o9 =>
    ((if ¬ (o9 = true) then
    (app 8 out_1 ([v_4])).bind fun l_14 =>
    some l_14
    else
    some out_1) : Option (List Int)).bind fun out_16 =>
    some (.inl (out_16, w64 (i_2 + 1)))
    else
    some (.inr (.inl out_1))
def f79 (c : (List Int)) (set1 : (List Int)) : Option ((List Int) × Bool) :=
  (iter (f79_0 c set1) ([], 0)).bind fun o => match o with
  | .inl out_19 =>
  some (out_19, false)
  | .inr (x_20, x_21) =>
  some (x_20, x_21)
/- spec.l21Units -/
def f65_1 (l : (List (List Int))) : (List Int) × Bool × Int → Option (((List Int) × Bool × Int) ⊕ (((List Int) × Bool) ⊕ ((List Int) × Bool)))
  | (out_6, more_7, i_8) =>
    ((if i_8 < (l.length : Int) then
    some (decide (¬ (more_7 = true)))
    else
    some false) : Option (Bool)).bind fun x_9 =>
    if x_9 = true then
    (((ix l i_8).bind fun v_15 =>
    (f79 v_15 out_6).bind fun o17 =>
    if o17.2 = true then
    some (.inl (out_6, more_7))
    else
    if (o17.1.length : Int) = 0 then
    some (.inr (out_6, true))
    else
    ((if (o17.1.length : Int) = 1 then
    (ix o17.1 0).bind fun v_24 =>
    (app 8 out_6 ([v_24])).bind fun l_26 =>
    some (l_26, true)
    else
    some (out_6, more_7)) : Option ((List Int) × Bool)).bind fun (out_28, more_29) =>
    some (.inl (out_28, more_29))) : Option (((List Int) × Bool) ⊕ ((List Int) × Bool))).bind fun o => match o with
    | .inl (out_30, more_31) =>
    some (.inl (out_30, more_31, w64 (i_8 + 1)))
    | .inr (x_32, x_33) =>
    some (.inr (.inr (x_32, x_33)))
    else
    some (.inr (.inl (out_6, more_7)))
def f65_0 (l : (List (List Int))) : (List Int) × Bool → Option (((List Int) × Bool) ⊕ ((List Int) ⊕ ((List Int) × Bool)))
  | (out_3, more_4) =>
    if more_4 = true then
    (iter (f65_1 l) (out_3, false, 0)).bind fun o => match o with
    | .inl (out_36, more_37) =>
    some (.inl (out_36, more_37))
    | .inr (x_38, x_39) =>
    some (.inr (.inr (x_38, x_39)))
    else
    some (.inr (.inl out_3))
def f65 (l : (List (List Int))) (set1 : (List Int)) : Option ((List Int) × Bool) :=
  (app 8 ([]) set1).bind fun l_1 =>
  (iter (f65_0 l) (l_1, true)).bind fun o => match o with
  | .inl out_42 =>
  some (out_42, false)
  | .inr (x_43, x_44) =>
  some (x_43, x_44)
/- spec.UnitPropagation -/
def f43 (n0 : Int) (l : (List (List Int))) (set2 : (List Int)) : Option ((List Int) × Bool) :=
  (f33 n0 l).bind fun o1 =>
  ((if ¬ (o1 = true) then
  some true
  else
  (f60 n0 set2).bind fun o6 =>
  some (decide (¬ (o6 = true)))) : Option (Bool)).bind fun x_3 =>
  if x_3 = true then
  (app 8 ([]) set2).bind fun l_9 =>
  some (l_9, false)
  else
  (f65 l set2).bind fun o11 =>
  some (o11.1, o11.2)
/- spec.IsRUPClause -/
def f41 (n0 : Int) (l : (List (List Int))) (c : (List Int)) : Option Bool :=
  (f33 n0 l).bind fun o1 =>
  ((if ¬ (o1 = true) then
  some true
  else
  (f60 n0 c).bind fun o6 =>
  some (decide (¬ (o6 = true)))) : Option (Bool)).bind fun x_3 =>
  if x_3 = true then
  some false
  else
  (f15 c).bind fun o9 =>
  (f43 n0 l o9).bind fun o11 =>
  some o11.2
/- spec.SatisfiesClauses -/
def f31_1 (l : (List (List Int))) (m : (List Bool)) (i_1 : Int) : Bool × Int → Option ((Bool × Int) ⊕ Bool)
  | (is_3, k_4) =>
    (ix l i_1).bind fun v_5 =>
    if k_4 < (v_5.length : Int) then
    (ix v_5 k_4).bind fun v_8 =>
    ((if is_3 = true then
    some true
    else
    ((if v_8 > 0 then
    ((if v_8 ≤ (m.length : Int) then
    (ix m (w64 (v_8 - 1))).bind fun v_19 =>
    ((if v_19 = true then
    some true
    else
    ((if v_8 < 0 then
    ((if v_8 ≥ (w64 (-(m.length : Int))) then
    (ix m (w64 ((w64 (-v_8)) - 1))).bind fun v_30 =>
    some (decide (¬ (v_30 = true)))
    else
    some false) : Option (Bool)).bind fun is_27 =>
    some is_27
    else
    some false) : Option (Bool)).bind fun is_24 =>
    some is_24) : Option (Bool)).bind fun is_21 =>
    some is_21
    else
    ((if v_8 < 0 then
    ((if v_8 ≥ (w64 (-(m.length : Int))) then
    (ix m (w64 ((w64 (-v_8)) - 1))).bind fun v_38 =>
    some (decide (¬ (v_38 = true)))
    else
    some false) : Option (Bool)).bind fun is_35 =>
    some is_35
    else
    some false) : Option (Bool)).bind fun is_32 =>
    some is_32) : Option (Bool)).bind fun is_16 =>
    some is_16
    else
    ((if v_8 < 0 then
    ((if v_8 ≥ (w64 (-(m.length : Int))) then
    (ix m (w64 ((w64 (-v_8)) - 1))).bind fun v_46 =>
    some (decide (¬ (v_46 = true)))
    else
    some false) : Option (Bool)).bind fun is_43 =>
    some is_43
    else
    some false) : Option (Bool)).bind fun is_40 =>
    some is_40) : Option (Bool)).bind fun is_13 =>
    some is_13) : Option (Bool)).bind fun is_10 =>
    some (.inl (is_10, w64 (k_4 + 1)))
    else
    some (.inr is_3)
def f31_0 (l : (List (List Int))) (m : (List Bool)) : Int → Option (Int ⊕ (Unit ⊕ Bool))
  | i_1 =>
    if i_1 < (l.length : Int) then
    (iter (f31_1 l m i_1) (false, 0)).bind fun is_50 =>
    if ¬ (is_50 = true) then
    some (.inr (.inr false))
    else
    some (.inl (w64 (i_1 + 1)))
    else
    some (.inr (.inl ()))
def f31 (l : (List (List Int))) (m : (List Bool)) : Option Bool :=
  (iter (f31_0 l m) 0).bind fun o => match o with
  | .inl _ =>
  some true
  | .inr x_54 =>
  some x_54
/- laws.FnRUP -/
def f14_1 (o4 : (Int × (List (List Int)) × (List Int))) (k_16 : Int) : (List Bool) × Int → Option (((List Bool) × Int) ⊕ (List Bool))
  | (m_22, v_23) =>
    if v_23 < o4.1 then
    (nn v_23).bind fun z_25 =>
    (ix m_22 v_23).bind fun v_27 =>
    some (.inl ((m_22.set v_23.toNat (decide ((band .i64 (sshr .i64 k_16 v_23) 1) = 1))), w64 (v_23 + 1)))
    else
    some (.inr m_22)
def f14_0 (o4 : (Int × (List (List Int)) × (List Int))) : Int → Option (Int ⊕ (Unit ⊕ Bool))
  | k_16 =>
    (nn o4.1).bind fun z_17 =>
    if k_16 < (sshl .i64 1 o4.1) then
    (mkl 1 o4.1 false).bind fun l_20 =>
    (iter (f14_1 o4 k_16) (l_20, 0)).bind fun m_32 =>
    (f31 o4.2.1 m_32).bind fun o33 =>
    ((if o33 = true then
    (f31 ([o4.2.2]) m_32).bind fun o38 =>
    some (decide (¬ (o38 = true)))
    else
    some false) : Option (Bool)).bind fun x_35 =>
    if x_35 = true then
    some (.inr (.inr false))
    else
    some (.inl (w64 (k_16 + 1)))
    else
    some (.inr (.inl ()))
def f14 (code : (List Int)) : Option Bool :=
  (f47 code).bind fun o1 =>
  if o1 = true then
  some true
  else
  (f50 code).bind fun o4 =>
  (f42 o4.1 o4.2.1 o4.2.2).bind fun o6 =>
  (f41 o4.1 o4.2.1 o4.2.2).bind fun o8 =>
  ((if (o6 != o8) = true then
  some true
  else
  some (decide (¬ (o6 = true)))) : Option (Bool)).bind fun x_10 =>
  if x_10 = true then
  (f41 o4.1 o4.2.1 o4.2.2).bind fun o14 =>
  some (o6 == o14)
  else
  (iter (f14_0 o4) 0).bind fun o => match o with
  | .inl _ =>
  some true
  | .inr x_43 =>
  some x_43
end
end Go.Proofs.YthfbkecnnllpkaaH
