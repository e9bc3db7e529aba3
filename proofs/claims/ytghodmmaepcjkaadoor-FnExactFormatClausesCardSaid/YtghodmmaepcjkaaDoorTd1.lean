import Derived.Test.YtghodmmaepcjkaaDoorX3
set_option linter.unusedVariables false
set_option linter.unusedSimpArgs false
set_option linter.defProp false
set_option linter.unusedSectionVars false
set_option maxRecDepth 100000
namespace Go.Proofs.YtghodmmaepcjkaaDoorH
open Go
noncomputable section
def f25 (a : (List Int)) (left : Int) : Option Int :=
 if (w64 (left - (a.length : Int))) < 0 then
 some (-1)
 else
 some (w64 (left - (a.length : Int)))
def f10_0 (a : (List (List Int))) : Int × Int → Option ((Int × Int) ⊕ (Int ⊕ Int))
 | (left_2, i_3) =>
  if i_3 < (a.length : Int) then
  (ix a i_3).bind fun v_5 =>
  (f25 v_5 left_2).bind fun o7 =>
  if o7 < 0 then
  some (.inr (.inr (-1)))
  else
  some (.inl (o7, w64 (i_3 + 1)))
  else
  some (.inr (.inl left_2))
def f10 (a : (List (List Int))) (left : Int) : Option Int :=
 if (w64 (left - (a.length : Int))) < 0 then
 some (-1)
 else
 (iter (f10_0 a) (w64 (left - (a.length : Int)), 0)).bind fun o => match o with
 | .inl left_12 =>
 some left_12
 | .inr x_13 =>
 some x_13
def f7_0 (a : (List Int)) : (List Int) × Int → Option (((List Int) × Int) ⊕ (List Int))
 | (out_3, i_4) =>
  if i_4 < (a.length : Int) then
  (ix a i_4).bind fun v_6 =>
  (ix out_3 i_4).bind fun v_8 =>
  some (.inl ((out_3.set i_4.toNat v_6), w64 (i_4 + 1)))
  else
  some (.inr out_3)
def f7 (a : (List Int)) : Option (List Int) :=
 (mkl 8 (a.length : Int) 0).bind fun l_1 =>
 (iter (f7_0 a) (l_1, 0)).bind fun out_13 =>
 some out_13
def f12_0 (a : (List (List Int))) : (List (List Int)) × Int → Option (((List (List Int)) × Int) ⊕ (List (List Int)))
 | (out_3, i_4) =>
  if i_4 < (a.length : Int) then
  (ix a i_4).bind fun v_6 =>
  (f7 v_6).bind fun o8 =>
  (ix out_3 i_4).bind fun v_10 =>
  some (.inl ((out_3.set i_4.toNat o8), w64 (i_4 + 1)))
  else
  some (.inr out_3)
def f12 (a : (List (List Int))) : Option (List (List Int)) :=
 (mkl 24 (a.length : Int) ([] : (List Int))).bind fun l_1 =>
 (iter (f12_0 a) (l_1, 0)).bind fun out_15 =>
 some out_15
def f47 (x : Int) (low : Int) (high : Int) : Option Bool :=
 (((if x ≥ low then
 some (decide (x ≤ high))
 else
 some false) : Option (Bool))).bind fun x_1 =>
 some x_1
def f39_1 (c : (List Int)) (i_1 : Int) : Int → Option (Int ⊕ (Unit ⊕ Bool))
 | k_15 =>
  if k_15 < i_1 then
  (ix c k_15).bind fun v_17 =>
  (ix c i_1).bind fun v_19 =>
  (((if v_17 = v_19 then
  some true
  else
  some (decide (v_17 = (w64 (-v_19))))) : Option (Bool))).bind fun x_21 =>
  if x_21 = true then
  some (.inr (.inr false))
  else
  some (.inl (w64 (k_15 + 1)))
  else
  some (.inr (.inl ()))
def f39_0 (n0 : Int) (c : (List Int)) : Int → Option (Int ⊕ (Unit ⊕ Bool))
 | i_1 =>
  if i_1 < (c.length : Int) then
  (ix c i_1).bind fun v_3 =>
  (((if v_3 < 0 then
  some (decide (v_3 ≥ (w64 (-n0))))
  else
  some false) : Option (Bool))).bind fun x_5 =>
  (((if x_5 = true then
  some (w64 (-v_3))
  else
  some (if 0 > v_3 then 0 else v_3)) : Option Int)).bind fun v_11 =>
  (f47 v_11 1 n0).bind fun o12 =>
  if ¬ (o12 = true) then
  some (.inr (.inr false))
  else
  (iter ((f39_1 c i_1)) 0).bind fun o => match o with
  | .inl _ =>
  some (.inl (w64 (i_1 + 1)))
  | .inr x_27 =>
  some (.inr (.inr x_27))
  else
  some (.inr (.inl ()))
def f39 (n0 : Int) (c : (List Int)) : Option Bool :=
 (iter (f39_0 n0 c) 0).bind fun o => match o with
 | .inl _ =>
 some true
 | .inr x_30 =>
 some x_30
def f26_0 (n0 : Int) (l : (List (List Int))) : Int → Option (Int ⊕ (Unit ⊕ Bool))
 | i_1 =>
  if i_1 < (l.length : Int) then
  (ix l i_1).bind fun v_3 =>
  (f39 n0 v_3).bind fun o5 =>
  if ¬ (o5 = true) then
  some (.inr (.inr false))
  else
  some (.inl (w64 (i_1 + 1)))
  else
  some (.inr (.inl ()))
def f26 (n0 : Int) (l : (List (List Int))) : Option Bool :=
 (iter (f26_0 n0 l) 0).bind fun o => match o with
 | .inl _ =>
 (f47 n0 0 14).bind fun o11 =>
 (((if o11 = true then
 some (decide ((l.length : Int) ≤ 400))
 else
 some false) : Option (Bool))).bind fun x_13 =>
 some x_13
 | .inr x_10 =>
 some x_10
def f22_0 : Int × (List UInt8) → Option ((Int × (List UInt8)) ⊕ (List UInt8))
 | (n_2, out_3) =>
  if n_2 ≠ 0 then
  (((if (n_2.tmod 10) < 0 then
  some (w64 (-(n_2.tmod 10)))
  else
  some (n_2.tmod 10)) : Option Int)).bind fun d_8 =>
  (cat ([UInt8.ofNat (w8 (w64 (48 + d_8))).toNat]) out_3).bind fun s_9 =>
  some (.inl (w64 (n_2.tdiv 10), s_9))
  else
  some (.inr out_3)
def f22 (n0 : Int) : Option (List UInt8) :=
 if n0 = 0 then
 some ([48])
 else
 (iter (f22_0) (n0, [])).bind fun out_13 =>
 if n0 < 0 then
 (cat ([45]) out_13).bind fun s_15 =>
 some s_15
 else
 some out_13
def f6_0 (c : (List Int)) : (List UInt8) × Int → Option (((List UInt8) × Int) ⊕ (List UInt8))
 | (s_1, i_2) =>
  if i_2 < (c.length : Int) then
  (((if i_2 > 0 then
  (cat s_1 ([32])).bind fun s_7 =>
  some s_7
  else
  some s_1) : Option (List UInt8))).bind fun s_9 =>
  (ix c i_2).bind fun v_10 =>
  (f22 v_10).bind fun o12 =>
  (cat s_9 o12).bind fun s_14 =>
  some (.inl (s_14, w64 (i_2 + 1)))
  else
  some (.inr s_1)
def f6 (c : (List Int)) : Option (List UInt8) :=
 (iter (f6_0 c) ([40], 0)).bind fun s_18 =>
 (cat s_18 ([41])).bind fun s_19 =>
 some s_19
def f11_0 (l : (List (List Int))) : (List UInt8) × Int → Option (((List UInt8) × Int) ⊕ (List UInt8))
 | (s_8, i_9) =>
  if i_9 < (l.length : Int) then
  (ix l i_9).bind fun v_11 =>
  (f6 v_11).bind fun o13 =>
  (cat s_8 o13).bind fun s_15 =>
  some (.inl (s_15, w64 (i_9 + 1)))
  else
  some (.inr s_8)
def f11 (n0 : Int) (l : (List (List Int))) : Option (List UInt8) :=
 (f26 n0 l).bind fun o1 =>
 if ¬ (o1 = true) then
 some ([])
 else
 (f22 n0).bind fun o4 =>
 (cat o4 ([58])).bind fun s_6 =>
 (iter (f11_0 l) (s_6, 0)).bind fun s_19 =>
 some s_19
def f51 (n0 : Int) (low : Int) (high : Int) : Option Bool :=
 (((if low ≤ n0 then
 some (decide (n0 ≤ high))
 else
 some false) : Option (Bool))).bind fun x_1 =>
 some x_1
def f68_0 (s0 : (List (List Int))) (f : (List Int) → Option Bool) : Int → Option (Int ⊕ (Unit ⊕ Int))
 | x_1 =>
  if x_1 < (s0.length : Int) then
  (ix s0 x_1).bind fun v_3 =>
  (f v_3).bind fun o5 =>
  if o5 = true then
  some (.inr (.inr x_1))
  else
  some (.inl (w64 (x_1 + 1)))
  else
  some (.inr (.inl ()))
def f68 (s0 : (List (List Int))) (f : (List Int) → Option Bool) : Option Int :=
 (iter (f68_0 s0 f) 0).bind fun o => match o with
 | .inl _ =>
 some (-1)
 | .inr x_10 =>
 some x_10
def f52 (s0 : (List (List Int))) (f : (List Int) → Option Bool) : Option Bool :=
 (f68 s0 f).bind fun o1 =>
 some (decide (o1 ≥ 0))
def f70_0 (s0 : (List Int)) (v : Int) : Int → Option (Int ⊕ (Unit ⊕ Int))
 | x_1 =>
  if x_1 < (s0.length : Int) then
  (ix s0 x_1).bind fun v_3 =>
  if v = v_3 then
  some (.inr (.inr x_1))
  else
  some (.inl (w64 (x_1 + 1)))
  else
  some (.inr (.inl ()))
def f70 (s0 : (List Int)) (v : Int) : Option Int :=
 (iter (f70_0 s0 v) 0).bind fun o => match o with
 | .inl _ =>
 some (-1)
 | .inr x_8 =>
 some x_8
def f57 (s0 : (List Int)) (v : Int) : Option Bool :=
 (f70 s0 v).bind fun o1 =>
 some (decide (o1 ≥ 0))
def f54_0 (n0 : Int) (clause : (List Int)) : Int → Option (Int ⊕ (Unit ⊕ Bool))
 | x_1 =>
  if x_1 < (clause.length : Int) then
  (ix clause x_1).bind fun v_3 =>
  (((if v_3 = 0 then
  some true
  else
  (f51 v_3 (w64 (-n0)) n0).bind fun o8 =>
  (((if ¬ (o8 = true) then
  some true
  else
  (cutL clause 0 x_1).bind fun l_13 =>
  (f57 l_13 v_3).bind fun o15 =>
  (((if o15 = true then
  some true
  else
  (f57 l_13 (w64 (-v_3))).bind fun o20 =>
  some o20) : Option (Bool))).bind fun x_17 =>
  some x_17) : Option (Bool))).bind fun x_10 =>
  some x_10) : Option (Bool))).bind fun x_5 =>
  if x_5 = true then
  some (.inr (.inr false))
  else
  some (.inl (w64 (x_1 + 1)))
  else
  some (.inr (.inl ()))
def f54 (n0 : Int) (clause : (List Int)) : Option Bool :=
 (iter (f54_0 n0 clause) 0).bind fun o => match o with
 | .inl _ =>
 some true
 | .inr x_25 =>
 some x_25
def f53 (clause : (List Int)) (c : Int) : Option Bool :=
 (f54 c clause).bind fun o1 =>
 some (decide (¬ (o1 = true)))
def f34 (n0 : Int) (clauses : (List (List Int))) : Option Bool :=
 (f51 n0 0 14).bind fun o1 =>
 (((if o1 = true then
 (f52 clauses (fun x0 => f53 x0 n0)).bind fun o6 =>
 some (decide (¬ (o6 = true)))
 else
 some false) : Option (Bool))).bind fun x_3 =>
 some x_3
def f27 (n0 : Int) (clauses : (List (List Int))) : Option Bool :=
 (((if (clauses.length : Int) ≤ 400 then
 (f34 n0 clauses).bind fun o4 =>
 some o4
 else
 some false) : Option (Bool))).bind fun x_1 =>
 some x_1
def f43 (n : Int) : Option (List UInt8) := itoaN n
def f23 (n0 : Int) : Option (List UInt8) :=
 (f43 n0).bind fun o1 =>
 some o1
def f24 (xs : List (List UInt8)) (sep : List UInt8) : Option (List UInt8) := joinN xs sep
def f8_0 (clause : (List Int)) : (List (List UInt8)) × Int → Option (((List (List UInt8)) × Int) ⊕ (List (List UInt8)))
 | (out_1, x_2) =>
  if x_2 < (clause.length : Int) then
  (ix clause x_2).bind fun v_4 =>
  (f23 v_4).bind fun o6 =>
  (app 16 out_1 ([o6])).bind fun l_8 =>
  some (.inl (l_8, w64 (x_2 + 1)))
  else
  some (.inr out_1)
def f8 (clause : (List Int)) : Option (List UInt8) :=
 (iter (f8_0 clause) ([], 0)).bind fun out_12 =>
 (f24 out_12 ([32])).bind fun o13 =>
 (cat ([40]) o13).bind fun s_15 =>
 (cat s_15 ([41])).bind fun s_17 =>
 some s_17
def f13_0 (clauses : (List (List Int))) : (List UInt8) × Int → Option (((List UInt8) × Int) ⊕ (List UInt8))
 | (out_8, x_9) =>
  if x_9 < (clauses.length : Int) then
  (ix clauses x_9).bind fun v_11 =>
  (f8 v_11).bind fun o13 =>
  (cat out_8 o13).bind fun s_15 =>
  some (.inl (s_15, w64 (x_9 + 1)))
  else
  some (.inr out_8)
def f13 (n0 : Int) (clauses : (List (List Int))) : Option (List UInt8) :=
 (f27 n0 clauses).bind fun o1 =>
 if ¬ (o1 = true) then
 some ([])
 else
 (f23 n0).bind fun o4 =>
 (cat o4 ([58])).bind fun s_6 =>
 (iter (f13_0 clauses) (s_6, 0)).bind fun out_19 =>
 some out_19
def f9_0 (a : (List Int)) (b : (List Int)) : Int → Option (Int ⊕ (Unit ⊕ Bool))
 | i_2 =>
  if i_2 < (a.length : Int) then
  (ix a i_2).bind fun v_4 =>
  (ix b i_2).bind fun v_6 =>
  if v_4 ≠ v_6 then
  some (.inr (.inr false))
  else
  some (.inl (w64 (i_2 + 1)))
  else
  some (.inr (.inl ()))
def f9 (a : (List Int)) (b : (List Int)) : Option Bool :=
 if (a.length : Int) ≠ (b.length : Int) then
 some false
 else
 (iter (f9_0 a b) 0).bind fun o => match o with
 | .inl _ =>
 some true
 | .inr x_11 =>
 some x_11
def f14_0 (a : (List (List Int))) (b : (List (List Int))) : Int → Option (Int ⊕ (Unit ⊕ Bool))
 | i_2 =>
  if i_2 < (a.length : Int) then
  (ix a i_2).bind fun v_4 =>
  (ix b i_2).bind fun v_6 =>
  (f9 v_4 v_6).bind fun o8 =>
  if ¬ (o8 = true) then
  some (.inr (.inr false))
  else
  some (.inl (w64 (i_2 + 1)))
  else
  some (.inr (.inl ()))
def f14 (a : (List (List Int))) (b : (List (List Int))) : Option Bool :=
 if (a.length : Int) ≠ (b.length : Int) then
 some false
 else
 (iter (f14_0 a b) 0).bind fun o => match o with
 | .inl _ =>
 some true
 | .inr x_13 =>
 some x_13
def f4 (aN : Int) (aClauses : (List (List Int))) : Option Bool :=
 (f10 aClauses 1048576).bind fun o1 =>
 if o1 < 0 then
 some true
 else
 (f12 aClauses).bind fun o4 =>
 (f11 aN o4).bind fun o6 =>
 (f12 aClauses).bind fun o8 =>
 (f13 aN o8).bind fun o10 =>
 if o10 ≠ o6 then
 some false
 else
 (f12 aClauses).bind fun o13 =>
 (f14 o8 o13).bind fun o15 =>
 if ¬ (o15 = true) then
 some false
 else
 some true
end
end Go.Proofs.YtghodmmaepcjkaaDoorH
