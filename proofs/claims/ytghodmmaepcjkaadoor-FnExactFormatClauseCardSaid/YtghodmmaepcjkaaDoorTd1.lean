import Derived.Test.YtghodmmaepcjkaaDoorX3
set_option linter.unusedVariables false
set_option linter.unusedSimpArgs false
set_option linter.defProp false
set_option linter.unusedSectionVars false
set_option maxRecDepth 100000
namespace Go.Proofs.YtghodmmaepcjkaaDoorH
open Go
noncomputable section
def f7_0 (a : (List Int)) : (List Int) × Int → Option (((List Int) × Int) ⊕ (List Int))
 | (out_3, i_4) =>
  if i_4 < (a.length : Int) then
  (ix a i_4).bind fun v_6 =>
  (ix out_3 i_4).bind fun v_8 =>
  some (.inl ((out_3.set i_4.toNat v_6), w64 (i_4 + 1)))
  else
  some (.inr out_3)
def f7 (a : (List Int)) : Option (List Int) :=
 (mkl 8 (a.length : Int) 0).bind fun l_1 =>
 (iter (f7_0 a) (l_1, 0)).bind fun out_13 =>
 some out_13
def f22_0 : Int × (List UInt8) → Option ((Int × (List UInt8)) ⊕ (List UInt8))
 | (n_2, out_3) =>
  if n_2 ≠ 0 then
  (((if (n_2.tmod 10) < 0 then
  some (w64 (-(n_2.tmod 10)))
  else
  some (n_2.tmod 10)) : Option Int)).bind fun d_8 =>
  (cat ([UInt8.ofNat (w8 (w64 (48 + d_8))).toNat]) out_3).bind fun s_9 =>
  some (.inl (w64 (n_2.tdiv 10), s_9))
  else
  some (.inr out_3)
def f22 (n0 : Int) : Option (List UInt8) :=
 if n0 = 0 then
 some ([48])
 else
 (iter (f22_0) (n0, [])).bind fun out_13 =>
 if n0 < 0 then
 (cat ([45]) out_13).bind fun s_15 =>
 some s_15
 else
 some out_13
def f6_0 (c : (List Int)) : (List UInt8) × Int → Option (((List UInt8) × Int) ⊕ (List UInt8))
 | (s_1, i_2) =>
  if i_2 < (c.length : Int) then
  (((if i_2 > 0 then
  (cat s_1 ([32])).bind fun s_7 =>
  some s_7
  else
  some s_1) : Option (List UInt8))).bind fun s_9 =>
  (ix c i_2).bind fun v_10 =>
  (f22 v_10).bind fun o12 =>
  (cat s_9 o12).bind fun s_14 =>
  some (.inl (s_14, w64 (i_2 + 1)))
  else
  some (.inr s_1)
def f6 (c : (List Int)) : Option (List UInt8) :=
 (iter (f6_0 c) ([40], 0)).bind fun s_18 =>
 (cat s_18 ([41])).bind fun s_19 =>
 some s_19
def f43 (n : Int) : Option (List UInt8) := itoaN n
def f23 (n0 : Int) : Option (List UInt8) :=
 (f43 n0).bind fun o1 =>
 some o1
def f24 (xs : List (List UInt8)) (sep : List UInt8) : Option (List UInt8) := joinN xs sep
def f8_0 (clause : (List Int)) : (List (List UInt8)) × Int → Option (((List (List UInt8)) × Int) ⊕ (List (List UInt8)))
 | (out_1, x_2) =>
  if x_2 < (clause.length : Int) then
  (ix clause x_2).bind fun v_4 =>
  (f23 v_4).bind fun o6 =>
  (app 16 out_1 ([o6])).bind fun l_8 =>
  some (.inl (l_8, w64 (x_2 + 1)))
  else
  some (.inr out_1)
def f8 (clause : (List Int)) : Option (List UInt8) :=
 (iter (f8_0 clause) ([], 0)).bind fun out_12 =>
 (f24 out_12 ([32])).bind fun o13 =>
 (cat ([40]) o13).bind fun s_15 =>
 (cat s_15 ([41])).bind fun s_17 =>
 some s_17
def f9_0 (a : (List Int)) (b : (List Int)) : Int → Option (Int ⊕ (Unit ⊕ Bool))
 | i_2 =>
  if i_2 < (a.length : Int) then
  (ix a i_2).bind fun v_4 =>
  (ix b i_2).bind fun v_6 =>
  if v_4 ≠ v_6 then
  some (.inr (.inr false))
  else
  some (.inl (w64 (i_2 + 1)))
  else
  some (.inr (.inl ()))
def f9 (a : (List Int)) (b : (List Int)) : Option Bool :=
 if (a.length : Int) ≠ (b.length : Int) then
 some false
 else
 (iter (f9_0 a b) 0).bind fun o => match o with
 | .inl _ =>
 some true
 | .inr x_11 =>
 some x_11
def f3 (aClause : (List Int)) : Option Bool :=
 if (aClause.length : Int) > 1048576 then
 some true
 else
 (f7 aClause).bind fun o2 =>
 (f6 o2).bind fun o4 =>
 (f7 aClause).bind fun o6 =>
 (f8 o6).bind fun o8 =>
 if o8 ≠ o4 then
 some false
 else
 (f7 aClause).bind fun o11 =>
 (f9 o6 o11).bind fun o13 =>
 if ¬ (o13 = true) then
 some false
 else
 some true
end
end Go.Proofs.YtghodmmaepcjkaaDoorH
