/- The program's functions on numbers and lists: printed by tg.py. -/
import Derived.Test.YtabmomjfdondnaaHn7
set_option linter.unusedVariables false
set_option linter.unusedSimpArgs false
set_option maxRecDepth 100000
namespace Go.Proofs.YtabmomjfdondnaaH
open Go
noncomputable section
structure Relation where
  Name : (List UInt8)
  Arity : Int
  KeyLength : Int
  deriving DecidableEq, Inhabited
def eRelation : En Relation := ⟨3, fun b a => if b then [(.str a.Name), (.int .i64 a.Arity), (.int .i64 a.KeyLength)] else [(.str a.Name), (.int .i64 a.Arity), (.int .i64 a.KeyLength)], fun b a => by cases b <;> rfl, by decide, fun b a => by cases b <;> simp [T.frz], fun a => by simp, fun a => by simp, fun b a => by cases b <;> simp⟩
@[simp] theorem eRelation_w : eRelation.w = 3 := rfl
@[simp] theorem eRelation_ct {a : Relation} : eRelation.c true a = [(.str a.Name), (.int .i64 a.Arity), (.int .i64 a.KeyLength)] := rfl
@[simp] theorem eRelation_cf {a : Relation} : eRelation.c false a = [(.str a.Name), (.int .i64 a.Arity), (.int .i64 a.KeyLength)] := rfl
@[simp] theorem arrRelation_len {b : Bool} {l : List Relation} : (arr eRelation b l).length = l.length * 3 := by rw [arr_len]; rfl
structure Fact where
  Relation : Int
  Values : (List Int)
  deriving DecidableEq, Inhabited
def eFact : En Fact := ⟨2, fun b a => if b then [(.int .i64 a.Relation), (osl eI true a.Values)] else [(.int .i64 a.Relation), (ssl eI a.Values)], fun b a => by cases b <;> rfl, by decide, fun b a => by cases b <;> simp [T.frz], fun a => by simp, fun a => by simp, fun b a => by cases b <;> simp⟩
@[simp] theorem eFact_w : eFact.w = 2 := rfl
@[simp] theorem eFact_ct {a : Fact} : eFact.c true a = [(.int .i64 a.Relation), (osl eI true a.Values)] := rfl
@[simp] theorem eFact_cf {a : Fact} : eFact.c false a = [(.int .i64 a.Relation), (ssl eI a.Values)] := rfl
@[simp] theorem arrFact_len {b : Bool} {l : List Fact} : (arr eFact b l).length = l.length * 2 := by rw [arr_len]; rfl
structure Database where
  Relations : (List Relation)
  Facts : (List Fact)
  deriving DecidableEq, Inhabited
def eDatabase : En Database := ⟨2, fun b a => if b then [(osl eRelation true a.Relations), (osl eFact true a.Facts)] else [(ssl eRelation a.Relations), (ssl eFact a.Facts)], fun b a => by cases b <;> rfl, by decide, fun b a => by cases b <;> simp [T.frz], fun a => by simp, fun a => by simp, fun b a => by cases b <;> simp⟩
@[simp] theorem eDatabase_w : eDatabase.w = 2 := rfl
@[simp] theorem eDatabase_ct {a : Database} : eDatabase.c true a = [(osl eRelation true a.Relations), (osl eFact true a.Facts)] := rfl
@[simp] theorem eDatabase_cf {a : Database} : eDatabase.c false a = [(ssl eRelation a.Relations), (ssl eFact a.Facts)] := rfl
@[simp] theorem arrDatabase_len {b : Bool} {l : List Database} : (arr eDatabase b l).length = l.length * 2 := by rw [arr_len]; rfl
/- laws.szRelation -/
def f109 (a : Relation) (left : Int) : Option Int :=
  if (w64 (left - (a.Name.length : Int))) < 0 then
  some (-1)
  else
  some (w64 (left - (a.Name.length : Int)))
/- laws.szRelationS -/
def f47_0 (a : (List Relation)) : Int × Int → Option ((Int × Int) ⊕ (Int ⊕ Int))
  | (left_2, i_3) =>
    if i_3 < (a.length : Int) then
    (ix a i_3).bind fun v_5 =>
    (f109 v_5 left_2).bind fun o7 =>
    if o7 < 0 then
    some (.inr (.inr (-1)))
    else
    some (.inl (o7, w64 (i_3 + 1)))
    else
    some (.inr (.inl left_2))
def f47 (a : (List Relation)) (left : Int) : Option Int :=
  if (w64 (left - (a.length : Int))) < 0 then
  some (-1)
  else
  (iter (f47_0 a) (w64 (left - (a.length : Int)), 0)).bind fun o => match o with
  | .inl left_12 =>
  some left_12
  | .inr x_13 =>
  some x_13
/- laws.szIntS -/
def f64 (a : (List Int)) (left : Int) : Option Int :=
  if (w64 (left - (a.length : Int))) < 0 then
  some (-1)
  else
  some (w64 (left - (a.length : Int)))
/- laws.szFact -/
def f155 (a : Fact) (left : Int) : Option Int :=
  (f64 a.Values left).bind fun o1 =>
  if o1 < 0 then
  some (-1)
  else
  some o1
/- laws.szFactS -/
def f95_0 (a : (List Fact)) : Int × Int → Option ((Int × Int) ⊕ (Int ⊕ Int))
  | (left_2, i_3) =>
    if i_3 < (a.length : Int) then
    (ix a i_3).bind fun v_5 =>
    (f155 v_5 left_2).bind fun o7 =>
    if o7 < 0 then
    some (.inr (.inr (-1)))
    else
    some (.inl (o7, w64 (i_3 + 1)))
    else
    some (.inr (.inl left_2))
def f95 (a : (List Fact)) (left : Int) : Option Int :=
  if (w64 (left - (a.length : Int))) < 0 then
  some (-1)
  else
  (iter (f95_0 a) (w64 (left - (a.length : Int)), 0)).bind fun o => match o with
  | .inl left_12 =>
  some left_12
  | .inr x_13 =>
  some x_13
/- laws.szDatabase -/
def f37 (a : Database) (left : Int) : Option Int :=
  (f47 a.Relations left).bind fun o1 =>
  if o1 < 0 then
  some (-1)
  else
  (f95 a.Facts o1).bind fun o4 =>
  if o4 < 0 then
  some (-1)
  else
  some o4
/- laws.toRelation -/
def f114 (a : Relation) : Option Relation :=
  some a
/- laws.toRelationS -/
def f50_0 (a : (List Relation)) : (List Relation) × Int → Option (((List Relation) × Int) ⊕ (List Relation))
  | (out_3, i_4) =>
    if i_4 < (a.length : Int) then
    (ix a i_4).bind fun v_6 =>
    (f114 v_6).bind fun o8 =>
    (ix out_3 i_4).bind fun v_10 =>
    some (.inl ((out_3.set i_4.toNat o8), w64 (i_4 + 1)))
    else
    some (.inr out_3)
def f50 (a : (List Relation)) : Option (List Relation) :=
  (mkl 32 (a.length : Int) ({ Name := [], Arity := 0, KeyLength := 0 } : Relation)).bind fun l_1 =>
  (iter (f50_0 a) (l_1, 0)).bind fun out_15 =>
  some out_15
/- laws.toIntS -/
def f40_0 (a : (List Int)) : (List Int) × Int → Option (((List Int) × Int) ⊕ (List Int))
  | (out_3, i_4) =>
    if i_4 < (a.length : Int) then
    (ix a i_4).bind fun v_6 =>
    (ix out_3 i_4).bind fun v_8 =>
    some (.inl ((out_3.set i_4.toNat v_6), w64 (i_4 + 1)))
    else
    some (.inr out_3)
def f40 (a : (List Int)) : Option (List Int) :=
  (mkl 8 (a.length : Int) 0).bind fun l_1 =>
  (iter (f40_0 a) (l_1, 0)).bind fun out_13 =>
  some out_13
/- laws.toFact -/
def f157 (a : Fact) : Option Fact :=
  (f40 a.Values).bind fun o1 =>
  some ({ Relation := a.Relation, Values := o1 } : Fact)
/- laws.toFactS -/
def f100_0 (a : (List Fact)) : (List Fact) × Int → Option (((List Fact) × Int) ⊕ (List Fact))
  | (out_3, i_4) =>
    if i_4 < (a.length : Int) then
    (ix a i_4).bind fun v_6 =>
    (f157 v_6).bind fun o8 =>
    (ix out_3 i_4).bind fun v_10 =>
    some (.inl ((out_3.set i_4.toNat o8), w64 (i_4 + 1)))
    else
    some (.inr out_3)
def f100 (a : (List Fact)) : Option (List Fact) :=
  (mkl 32 (a.length : Int) (({ Relation := 0, Values := [] } : Fact) : Fact)).bind fun l_1 =>
  (iter (f100_0 a) (l_1, 0)).bind fun out_15 =>
  some out_15
/- laws.toDatabase -/
def f39 (a : Database) : Option Database :=
  (f50 a.Relations).bind fun o1 =>
  (f100 a.Facts).bind fun o3 =>
  some ({ Relations := o1, Facts := o3 } : Database)
/- spec.l1In -/
def f71 (x : Int) (low : Int) (high : Int) : Option Bool :=
  ((if x ≥ low then
  some (decide (x ≤ high))
  else
  some false) : Option (Bool)).bind fun x_1 =>
  some x_1
/- spec.IsValidRelation -/
def f154 (s0 : Relation) : Option Bool :=
  ((if (s0.Name.length : Int) = 1 then
  (ix s0.Name 0).bind fun c_4 =>
  ((if (c_4.toNat : Int) ≥ 97 then
  ((if (c_4.toNat : Int) ≤ 122 then
  (f71 s0.Arity 1 3).bind fun o12 =>
  ((if o12 = true then
  (f71 s0.KeyLength 0 s0.Arity).bind fun o17 =>
  some o17
  else
  some false) : Option (Bool)).bind fun x_14 =>
  some x_14
  else
  some false) : Option (Bool)).bind fun x_9 =>
  some x_9
  else
  some false) : Option (Bool)).bind fun x_6 =>
  some x_6
  else
  some false) : Option (Bool)).bind fun x_1 =>
  some x_1
/- spec.AreValidRelations -/
def f94_0 (l : (List Relation)) : Int → Option (Int ⊕ (Unit ⊕ Bool))
  | i_1 =>
    if i_1 < (l.length : Int) then
    (ix l i_1).bind fun v_3 =>
    (f154 v_3).bind fun o5 =>
    ((if ¬ (o5 = true) then
    some true
    else
    ((if i_1 > 0 then
    (ix l (w64 (i_1 - 1))).bind fun v_13 =>
    some (!(Op.bytesLess v_13.Name v_3.Name))
    else
    some false) : Option (Bool)).bind fun x_10 =>
    some x_10) : Option (Bool)).bind fun x_7 =>
    if x_7 = true then
    some (.inr (.inr false))
    else
    some (.inl (w64 (i_1 + 1)))
    else
    some (.inr (.inl ()))
def f94 (l : (List Relation)) : Option Bool :=
  (iter (f94_0 l) 0).bind fun o => match o with
  | .inl _ =>
  some (decide ((l.length : Int) ≤ 4))
  | .inr x_18 =>
  some x_18
/- spec.IsValidFact -/
def f92_0 (f : Fact) : Int → Option (Int ⊕ (Unit ⊕ Bool))
  | i_14 =>
    if i_14 < (f.Values.length : Int) then
    (ix f.Values i_14).bind fun v_16 =>
    (f71 v_16 0 9).bind fun o18 =>
    if ¬ (o18 = true) then
    some (.inr (.inr false))
    else
    some (.inl (w64 (i_14 + 1)))
    else
    some (.inr (.inl ()))
def f92 (l : (List Relation)) (f : Fact) : Option Bool :=
  (f94 l).bind fun o1 =>
  ((if ¬ (o1 = true) then
  some true
  else
  (f71 f.Relation 0 (w64 ((l.length : Int) - 1))).bind fun o6 =>
  ((if ¬ (o6 = true) then
  some true
  else
  (ix l f.Relation).bind fun v_11 =>
  some (decide ((f.Values.length : Int) ≠ v_11.Arity))) : Option (Bool)).bind fun x_8 =>
  some x_8) : Option (Bool)).bind fun x_3 =>
  if x_3 = true then
  some false
  else
  (iter (f92_0 f) 0).bind fun o => match o with
  | .inl _ =>
  some true
  | .inr x_23 =>
  some x_23
/- spec.l3Ints -/
def f153_0 (a : (List Int)) (b : (List Int)) : Int → Option (Int ⊕ (Unit ⊕ Int))
  | i_1 =>
    ((if i_1 < (a.length : Int) then
    some (decide (i_1 < (b.length : Int)))
    else
    some false) : Option (Bool)).bind fun x_2 =>
    if x_2 = true then
    (ix a i_1).bind fun v_6 =>
    (ix b i_1).bind fun v_8 =>
    if v_6 < v_8 then
    some (.inr (.inr (-1)))
    else
    if v_6 > v_8 then
    some (.inr (.inr 1))
    else
    some (.inl (w64 (i_1 + 1)))
    else
    some (.inr (.inl ()))
def f153 (a : (List Int)) (b : (List Int)) : Option Int :=
  (iter (f153_0 a b) 0).bind fun o => match o with
  | .inl _ =>
  if (a.length : Int) < (b.length : Int) then
  some (-1)
  else
  if (a.length : Int) > (b.length : Int) then
  some 1
  else
  some 0
  | .inr x_14 =>
  some x_14
/- spec.CompareFacts -/
def f93 (a : Fact) (b : Fact) : Option Int :=
  if a.Relation < b.Relation then
  some (-1)
  else
  if a.Relation > b.Relation then
  some 1
  else
  (f153 a.Values b.Values).bind fun o3 =>
  some o3
/- spec.IsValidDatabase -/
def f36_0 (d : Database) : Int → Option (Int ⊕ (Unit ⊕ Bool))
  | i_1 =>
    if i_1 < (d.Facts.length : Int) then
    (ix d.Facts i_1).bind fun v_3 =>
    (f92 d.Relations v_3).bind fun o5 =>
    ((if ¬ (o5 = true) then
    some true
    else
    ((if i_1 > 0 then
    (ix d.Facts (w64 (i_1 - 1))).bind fun v_13 =>
    (f93 v_13 v_3).bind fun o15 =>
    some (decide (o15 ≥ 0))
    else
    some false) : Option (Bool)).bind fun x_10 =>
    some x_10) : Option (Bool)).bind fun x_7 =>
    if x_7 = true then
    some (.inr (.inr false))
    else
    some (.inl (w64 (i_1 + 1)))
    else
    some (.inr (.inl ()))
def f36 (d : Database) : Option Bool :=
  (iter (f36_0 d) 0).bind fun o => match o with
  | .inl _ =>
  (f94 d.Relations).bind fun o21 =>
  ((if o21 = true then
  some (decide ((d.Facts.length : Int) ≤ 14))
  else
  some false) : Option (Bool)).bind fun x_23 =>
  some x_23
  | .inr x_20 =>
  some x_20
/- spec.l4Set -/
def f96_0 (d : Database) (l : (List Int)) : Int → Option (Int ⊕ (Unit ⊕ Bool))
  | i_1 =>
    if i_1 < (l.length : Int) then
    (ix l i_1).bind fun v_3 =>
    (f71 v_3 0 (w64 ((d.Facts.length : Int) - 1))).bind fun o5 =>
    ((if ¬ (o5 = true) then
    some true
    else
    ((if i_1 > 0 then
    (ix l (w64 (i_1 - 1))).bind fun v_13 =>
    some (decide (v_3 ≤ v_13))
    else
    some false) : Option (Bool)).bind fun x_10 =>
    some x_10) : Option (Bool)).bind fun x_7 =>
    if x_7 = true then
    some (.inr (.inr false))
    else
    some (.inl (w64 (i_1 + 1)))
    else
    some (.inr (.inl ()))
def f96 (d : Database) (l : (List Int)) : Option Bool :=
  (iter (f96_0 d l) 0).bind fun o => match o with
  | .inl _ =>
  some true
  | .inr x_18 =>
  some x_18
/- spec.KeyOf -/
def f197 (l : (List Relation)) (f : Fact) : Option (List Int) :=
  (f92 l f).bind fun o1 =>
  if ¬ (o1 = true) then
  some ([])
  else
  (ix l f.Relation).bind fun v_4 =>
  (cutL f.Values 0 v_4.KeyLength).bind fun l_6 =>
  (app 8 ([]) l_6).bind fun l_8 =>
  some l_8
/- spec.HaveSameKey -/
def f183 (l : (List Relation)) (a : Fact) (b : Fact) : Option Bool :=
  (f92 l a).bind fun o1 =>
  ((if o1 = true then
  (f92 l b).bind fun o6 =>
  ((if o6 = true then
  ((if a.Relation = b.Relation then
  (f197 l a).bind fun o14 =>
  (f197 l b).bind fun o16 =>
  (f153 o14 o16).bind fun o18 =>
  some (decide (o18 = 0))
  else
  some false) : Option (Bool)).bind fun x_11 =>
  some x_11
  else
  some false) : Option (Bool)).bind fun x_8 =>
  some x_8
  else
  some false) : Option (Bool)).bind fun x_3 =>
  some x_3
/- spec.BlockOf -/
def f156_0 (d : Database) (i : Int) : (List Int) × Int → Option (((List Int) × Int) ⊕ (List Int))
  | (out_1, k_2) =>
    ((if k_2 < (d.Facts.length : Int) then
    (f36 d).bind fun o6 =>
    ((if o6 = true then
    (f71 i 0 (w64 ((d.Facts.length : Int) - 1))).bind fun o11 =>
    some o11
    else
    some false) : Option (Bool)).bind fun x_8 =>
    some x_8
    else
    some false) : Option (Bool)).bind fun x_3 =>
    if x_3 = true then
    (ix d.Facts i).bind fun v_14 =>
    (ix d.Facts k_2).bind fun v_16 =>
    (f183 d.Relations v_14 v_16).bind fun o18 =>
    ((if o18 = true then
    (app 8 out_1 ([k_2])).bind fun l_23 =>
    some l_23
    else
    some out_1) : Option (List Int)).bind fun out_25 =>
    some (.inl (out_25, w64 (k_2 + 1)))
    else
    some (.inr out_1)
def f156 (d : Database) (i : Int) : Option (List Int) :=
  (iter (f156_0 d i) ([], 0)).bind fun out_28 =>
  some out_28
/- spec.Blocks -/
def f97_0 (d : Database) : (List (List Int)) × Int → Option (((List (List Int)) × Int) ⊕ (List (List Int)))
  | (out_1, i_2) =>
    ((if i_2 < (d.Facts.length : Int) then
    (f36 d).bind fun o6 =>
    some o6
    else
    some false) : Option (Bool)).bind fun x_3 =>
    if x_3 = true then
    (f156 d i_2).bind fun o9 =>
    (ix o9 0).bind fun v_11 =>
    ((if v_11 = i_2 then
    (app 24 out_1 ([o9])).bind fun l_16 =>
    some l_16
    else
    some out_1) : Option (List (List Int))).bind fun out_18 =>
    some (.inl (out_18, w64 (i_2 + 1)))
    else
    some (.inr out_1)
def f97 (d : Database) : Option (List (List Int)) :=
  (iter (f97_0 d) ([], 0)).bind fun out_21 =>
  some out_21
/- spec.l7Has -/
def f98_0 (l : (List Int)) (x : Int) : Int → Option (Int ⊕ (Unit ⊕ Bool))
  | i_1 =>
    if i_1 < (l.length : Int) then
    (ix l i_1).bind fun v_3 =>
    if v_3 = x then
    some (.inr (.inr true))
    else
    some (.inl (w64 (i_1 + 1)))
    else
    some (.inr (.inl ()))
def f98 (l : (List Int)) (x : Int) : Option Bool :=
  (iter (f98_0 l x) 0).bind fun o => match o with
  | .inl _ =>
  some false
  | .inr x_8 =>
  some x_8
/- spec.l7Sorted -/
def f99_1 (l : (List Int)) (out_1 : (List Int)) (i_2 : Int) : Int → Option (Int ⊕ Int)
  | k_4 =>
    ((if k_4 > 0 then
    (ix out_1 (w64 (k_4 - 1))).bind fun v_8 =>
    (ix l i_2).bind fun v_10 =>
    some (decide (v_8 > v_10))
    else
    some false) : Option (Bool)).bind fun x_5 =>
    if x_5 = true then
    some (.inl (w64 (k_4 - 1)))
    else
    some (.inr k_4)
def f99_0 (l : (List Int)) : (List Int) × Int → Option (((List Int) × Int) ⊕ (List Int))
  | (out_1, i_2) =>
    if i_2 < (l.length : Int) then
    (iter (f99_1 l out_1 i_2) (out_1.length : Int)).bind fun k_15 =>
    (cutL out_1 0 k_15).bind fun l_16 =>
    (ix l i_2).bind fun v_18 =>
    (cutL out_1 k_15 out_1.length).bind fun l_20 =>
    (app 8 ([]) l_16).bind fun l_22 =>
    (app 8 l_22 ([v_18])).bind fun l_24 =>
    (app 8 l_24 l_20).bind fun l_26 =>
    some (.inl (l_26, w64 (i_2 + 1)))
    else
    some (.inr out_1)
def f99 (l : (List Int)) : Option (List Int) :=
  (iter (f99_0 l) ([], 0)).bind fun out_30 =>
  some out_30
/- spec.RepairFromFacts -/
def f38_1 (s1 : (List Int)) (o9 : (List (List Int))) (i_12 : Int) : (List Int) × Bool × Int → Option (((List Int) × Bool × Int) ⊕ ((List Int) × Bool))
  | (out_14, met_15, k_16) =>
    (ix o9 i_12).bind fun v_17 =>
    ((if k_16 < (v_17.length : Int) then
    some (decide (¬ (met_15 = true)))
    else
    some false) : Option (Bool)).bind fun x_19 =>
    if x_19 = true then
    (ix v_17 k_16).bind fun v_23 =>
    (f98 s1 v_23).bind fun o25 =>
    ((if o25 = true then
    (app 8 out_14 ([v_23])).bind fun l_30 =>
    some (l_30, true)
    else
    some (out_14, met_15)) : Option ((List Int) × Bool)).bind fun (out_32, met_33) =>
    some (.inl (out_32, met_33, w64 (k_16 + 1)))
    else
    some (.inr (out_14, met_15))
def f38_0 (s1 : (List Int)) (o9 : (List (List Int))) : (List Int) × Int → Option (((List Int) × Int) ⊕ ((List Int) ⊕ ((List Int) × Bool)))
  | (out_11, i_12) =>
    if i_12 < (o9.length : Int) then
    (iter (f38_1 s1 o9 i_12) (out_11, false, 0)).bind fun (out_36, met_37) =>
    if ¬ (met_37 = true) then
    some (.inr (.inr ([], false)))
    else
    some (.inl (out_36, w64 (i_12 + 1)))
    else
    some (.inr (.inl out_11))
def f38 (d : Database) (s1 : (List Int)) : Option ((List Int) × Bool) :=
  (f36 d).bind fun o1 =>
  ((if ¬ (o1 = true) then
  some true
  else
  (f96 d s1).bind fun o6 =>
  some (decide (¬ (o6 = true)))) : Option (Bool)).bind fun x_3 =>
  if x_3 = true then
  some ([], false)
  else
  (f97 d).bind fun o9 =>
  (iter (f38_0 s1 o9) ([], 0)).bind fun o => match o with
  | .inl out_41 =>
  (f99 out_41).bind fun o44 =>
  some (o44, true)
  | .inr (x_42, x_43) =>
  some (x_42, x_43)
/- impl.within -/
def f87 (n0 : Int) (low : Int) (high : Int) : Option Bool :=
  ((if low ≤ n0 then
  some (decide (n0 ≤ high))
  else
  some false) : Option (Bool)).bind fun x_1 =>
  some x_1
/- impl.IsValidRelation -/
def f163 (relation : Relation) : Option Bool :=
  ((if (relation.Name.length : Int) = 1 then
  (ix relation.Name 0).bind fun c_4 =>
  ((if (c_4.toNat : Int) ≥ 97 then
  ((if (c_4.toNat : Int) ≤ 122 then
  (f87 relation.Arity 1 3).bind fun o12 =>
  ((if o12 = true then
  (f87 relation.KeyLength 0 relation.Arity).bind fun o17 =>
  some o17
  else
  some false) : Option (Bool)).bind fun x_14 =>
  some x_14
  else
  some false) : Option (Bool)).bind fun x_9 =>
  some x_9
  else
  some false) : Option (Bool)).bind fun x_6 =>
  some x_6
  else
  some false) : Option (Bool)).bind fun x_1 =>
  some x_1
/- impl.AreValidRelations -/
def f116_0 (relations : (List Relation)) : Int → Option (Int ⊕ (Unit ⊕ Bool))
  | x_1 =>
    if x_1 < (relations.length : Int) then
    (ix relations x_1).bind fun v_3 =>
    (f163 v_3).bind fun o5 =>
    ((if ¬ (o5 = true) then
    some true
    else
    ((if x_1 > 0 then
    (ix relations (w64 (x_1 - 1))).bind fun v_13 =>
    some (!(Op.bytesLess v_13.Name v_3.Name))
    else
    some false) : Option (Bool)).bind fun x_10 =>
    some x_10) : Option (Bool)).bind fun x_7 =>
    if x_7 = true then
    some (.inr (.inr false))
    else
    some (.inl (w64 (x_1 + 1)))
    else
    some (.inr (.inl ()))
def f116 (relations : (List Relation)) : Option Bool :=
  (iter (f116_0 relations) 0).bind fun o => match o with
  | .inl _ =>
  some (decide ((relations.length : Int) ≤ 4))
  | .inr x_18 =>
  some x_18
/- slices.IndexFunc[[]int,int] -/
def f103_0 (s0 : (List Int)) (f : Int → Option Bool) : Int → Option (Int ⊕ (Unit ⊕ Int))
  | x_1 =>
    if x_1 < (s0.length : Int) then
    (ix s0 x_1).bind fun v_3 =>
    (f v_3).bind fun o5 =>
    if o5 = true then
    some (.inr (.inr x_1))
    else
    some (.inl (w64 (x_1 + 1)))
    else
    some (.inr (.inl ()))
def f103 (s0 : (List Int)) (f : Int → Option Bool) : Option Int :=
  (iter (f103_0 s0 f) 0).bind fun o => match o with
  | .inl _ =>
  some (-1)
  | .inr x_10 =>
  some x_10
/- slices.ContainsFunc[[]int,int] -/
def f74 (s0 : (List Int)) (f : Int → Option Bool) : Option Bool :=
  (f103 s0 f).bind fun o1 =>
  some (decide (o1 ≥ 0))
/- impl.areValues$1 -/
def f195 (v : Int) : Option Bool :=
  (f87 v 0 9).bind fun o1 =>
  some (decide (¬ (o1 = true)))
/- impl.areValues -/
def f179 (list : (List Int)) : Option Bool :=
  (f74 list (fun x0 => f195 x0)).bind fun o1 =>
  some (decide (¬ (o1 = true)))
/- impl.isFact -/
def f145 (relations : (List Relation)) (fact : Fact) : Option Bool :=
  (f87 fact.Relation 0 (w64 ((relations.length : Int) - 1))).bind fun o1 =>
  ((if o1 = true then
  (ix relations fact.Relation).bind fun v_6 =>
  ((if (fact.Values.length : Int) = v_6.Arity then
  (f179 fact.Values).bind fun o11 =>
  some o11
  else
  some false) : Option (Bool)).bind fun x_8 =>
  some x_8
  else
  some false) : Option (Bool)).bind fun x_3 =>
  some x_3
/- impl.compare -/
def f180 (a : Int) (b : Int) : Option Int :=
  if a < b then
  some (-1)
  else
  if a > b then
  some 1
  else
  some 0
/- cmp.isNaN[int] -/
def f203 (x : Int) : Option Bool :=
  some (decide (x ≠ x))
/- cmp.Compare[int] -/
def f196 (x : Int) (y : Int) : Option Int :=
  (f203 x).bind fun o1 =>
  (f203 y).bind fun o3 =>
  if o1 = true then
  if o3 = true then
  some 0
  else
  some (-1)
  else
  if o3 = true then
  some 1
  else
  if x < y then
  some (-1)
  else
  if x > y then
  some 1
  else
  some 0
/- slices.Compare[[]int,int] -/
def f181_0 (s1 : (List Int)) (s2 : (List Int)) : Int → Option (Int ⊕ (Unit ⊕ Int))
  | x_1 =>
    if x_1 < (s1.length : Int) then
    (ix s1 x_1).bind fun v_3 =>
    if x_1 ≥ (s2.length : Int) then
    some (.inr (.inr 1))
    else
    (ix s2 x_1).bind fun v_6 =>
    (f196 v_3 v_6).bind fun o8 =>
    if o8 ≠ 0 then
    some (.inr (.inr o8))
    else
    some (.inl (w64 (x_1 + 1)))
    else
    some (.inr (.inl ()))
def f181 (s1 : (List Int)) (s2 : (List Int)) : Option Int :=
  (iter (f181_0 s1 s2) 0).bind fun o => match o with
  | .inl _ =>
  if (s1.length : Int) < (s2.length : Int) then
  some (-1)
  else
  some 0
  | .inr x_13 =>
  some x_13
/- impl.CompareFacts -/
def f146 (a : Fact) (b : Fact) : Option Int :=
  if a.Relation ≠ b.Relation then
  (f180 a.Relation b.Relation).bind fun o2 =>
  some o2
  else
  (f181 a.Values b.Values).bind fun o4 =>
  some o4
/- impl.IsValidDatabase -/
def f86_0 (db : Database) : Int → Option (Int ⊕ (Unit ⊕ Bool))
  | x_7 =>
    if x_7 < (db.Facts.length : Int) then
    (ix db.Facts x_7).bind fun v_9 =>
    (f145 db.Relations v_9).bind fun o11 =>
    ((if ¬ (o11 = true) then
    some true
    else
    ((if x_7 > 0 then
    (ix db.Facts (w64 (x_7 - 1))).bind fun v_19 =>
    (f146 v_19 v_9).bind fun o21 =>
    some (decide (o21 ≥ 0))
    else
    some false) : Option (Bool)).bind fun x_16 =>
    some x_16) : Option (Bool)).bind fun x_13 =>
    if x_13 = true then
    some (.inr (.inr false))
    else
    some (.inl (w64 (x_7 + 1)))
    else
    some (.inr (.inl ()))
def f86 (db : Database) : Option Bool :=
  (f116 db.Relations).bind fun o1 =>
  ((if ¬ (o1 = true) then
  some true
  else
  some (decide ((db.Facts.length : Int) > 14))) : Option (Bool)).bind fun x_3 =>
  if x_3 = true then
  some false
  else
  (iter (f86_0 db) 0).bind fun o => match o with
  | .inl _ =>
  some true
  | .inr x_26 =>
  some x_26
/- impl.areIndices -/
def f101_0 (indices : (List Int)) (n1 : Int) : Int → Option (Int ⊕ (Unit ⊕ Bool))
  | x_1 =>
    if x_1 < (indices.length : Int) then
    (ix indices x_1).bind fun v_3 =>
    (f87 v_3 0 (w64 (n1 - 1))).bind fun o5 =>
    ((if ¬ (o5 = true) then
    some true
    else
    ((if x_1 > 0 then
    (ix indices (w64 (x_1 - 1))).bind fun v_13 =>
    some (decide (v_13 ≥ v_3))
    else
    some false) : Option (Bool)).bind fun x_10 =>
    some x_10) : Option (Bool)).bind fun x_7 =>
    if x_7 = true then
    some (.inr (.inr false))
    else
    some (.inl (w64 (x_1 + 1)))
    else
    some (.inr (.inl ()))
def f101 (indices : (List Int)) (n1 : Int) : Option Bool :=
  (iter (f101_0 indices n1) 0).bind fun o => match o with
  | .inl _ =>
  some true
  | .inr x_18 =>
  some x_18
/- slices.Equal[[]int,int] -/
def f182_0 (s1 : (List Int)) (s2 : (List Int)) : Int → Option (Int ⊕ (Unit ⊕ Bool))
  | x_2 =>
    if x_2 < (s1.length : Int) then
    (ix s1 x_2).bind fun v_4 =>
    (ix s2 x_2).bind fun v_6 =>
    if v_4 ≠ v_6 then
    some (.inr (.inr false))
    else
    some (.inl (w64 (x_2 + 1)))
    else
    some (.inr (.inl ()))
def f182 (s1 : (List Int)) (s2 : (List Int)) : Option Bool :=
  if (s1.length : Int) ≠ (s2.length : Int) then
  some false
  else
  (iter (f182_0 s1 s2) 0).bind fun o => match o with
  | .inl _ =>
  some true
  | .inr x_11 =>
  some x_11
/- impl.sameKey -/
def f149 (relations : (List Relation)) (a : Fact) (b : Fact) : Option Bool :=
  if a.Relation ≠ b.Relation then
  some false
  else
  (ix relations a.Relation).bind fun v_2 =>
  (cutL a.Values 0 v_2.KeyLength).bind fun l_4 =>
  (cutL b.Values 0 v_2.KeyLength).bind fun l_6 =>
  (f182 l_4 l_6).bind fun o8 =>
  some o8
/- impl.blocks -/
def f102_0 (db : Database) : (List (List Int)) × Int → Option (((List (List Int)) × Int) ⊕ (List (List Int)))
  | (out_1, x_2) =>
    if x_2 < (db.Facts.length : Int) then
    (ix db.Facts x_2).bind fun v_4 =>
    ((if (w64 ((out_1.length : Int) - 1)) ≥ 0 then
    (ix out_1 (w64 ((out_1.length : Int) - 1))).bind fun v_9 =>
    (ix v_9 0).bind fun v_11 =>
    (ix db.Facts v_11).bind fun v_13 =>
    (f149 db.Relations v_13 v_4).bind fun o15 =>
    some o15
    else
    some false) : Option (Bool)).bind fun x_6 =>
    ((if x_6 = true then
    (ix out_1 (w64 ((out_1.length : Int) - 1))).bind fun v_20 =>
    (app 8 v_20 ([x_2])).bind fun l_22 =>
    some (out_1.set (w64 ((out_1.length : Int) - 1)).toNat l_22)
    else
    (app 24 out_1 ([[x_2]])).bind fun l_25 =>
    some l_25) : Option (List (List Int))).bind fun out_27 =>
    some (.inl (out_27, w64 (x_2 + 1)))
    else
    some (.inr out_1)
def f102 (db : Database) : Option (List (List Int)) :=
  (iter (f102_0 db) ([], 0)).bind fun out_30 =>
  some out_30
/- slices.Index[[]int,int] -/
def f158_0 (s0 : (List Int)) (v : Int) : Int → Option (Int ⊕ (Unit ⊕ Int))
  | x_1 =>
    if x_1 < (s0.length : Int) then
    (ix s0 x_1).bind fun v_3 =>
    if v = v_3 then
    some (.inr (.inr x_1))
    else
    some (.inl (w64 (x_1 + 1)))
    else
    some (.inr (.inl ()))
def f158 (s0 : (List Int)) (v : Int) : Option Int :=
  (iter (f158_0 s0 v) 0).bind fun o => match o with
  | .inl _ =>
  some (-1)
  | .inr x_8 =>
  some x_8
/- slices.Contains[[]int,int] -/
def f105 (s0 : (List Int)) (v : Int) : Option Bool :=
  (f158 s0 v).bind fun o1 =>
  some (decide (o1 ≥ 0))
/- impl.RepairFromFacts$1 -/
def f104 (fact : Int) (c : (List Int)) : Option Bool :=
  (f105 c fact).bind fun o1 =>
  some o1
/- impl.RepairFromFacts -/
def f41_0 (indices : (List Int)) (o9 : (List (List Int))) : (List Int) × Int → Option (((List Int) × Int) ⊕ ((List Int) ⊕ ((List Int) × Bool)))
  | (out_11, x_12) =>
    if x_12 < (o9.length : Int) then
    (ix o9 x_12).bind fun v_14 =>
    (f103 v_14 (fun x0 => f104 x0 indices)).bind fun o16 =>
    if o16 < 0 then
    some (.inr (.inr ([], false)))
    else
    (ix v_14 o16).bind fun v_19 =>
    (app 8 out_11 ([v_19])).bind fun l_21 =>
    some (.inl (l_21, w64 (x_12 + 1)))
    else
    some (.inr (.inl out_11))
def f41 (db : Database) (indices : (List Int)) : Option ((List Int) × Bool) :=
  (f86 db).bind fun o1 =>
  ((if ¬ (o1 = true) then
  some true
  else
  (f101 indices (db.Facts.length : Int)).bind fun o6 =>
  some (decide (¬ (o6 = true)))) : Option (Bool)).bind fun x_3 =>
  if x_3 = true then
  some ([], false)
  else
  (f102 db).bind fun o9 =>
  (iter (f41_0 indices o9) ([], 0)).bind fun o => match o with
  | .inl out_25 =>
  some (out_25, true)
  | .inr (x_26, x_27) =>
  some (x_26, x_27)
/- laws.eqIntS -/
def f42_0 (a : (List Int)) (b : (List Int)) : Int → Option (Int ⊕ (Unit ⊕ Bool))
  | i_2 =>
    if i_2 < (a.length : Int) then
    (ix a i_2).bind fun v_4 =>
    (ix b i_2).bind fun v_6 =>
    if v_4 ≠ v_6 then
    some (.inr (.inr false))
    else
    some (.inl (w64 (i_2 + 1)))
    else
    some (.inr (.inl ()))
def f42 (a : (List Int)) (b : (List Int)) : Option Bool :=
  if (a.length : Int) ≠ (b.length : Int) then
  some false
  else
  (iter (f42_0 a b) 0).bind fun o => match o with
  | .inl _ =>
  some true
  | .inr x_11 =>
  some x_11
/- laws.eqRelation -/
def f121 (a : Relation) (b : Relation) : Option Bool :=
  if a.Name ≠ b.Name then
  some false
  else
  if a.Arity ≠ b.Arity then
  some false
  else
  if a.KeyLength ≠ b.KeyLength then
  some false
  else
  some true
/- laws.eqRelationS -/
def f53_0 (a : (List Relation)) (b : (List Relation)) : Int → Option (Int ⊕ (Unit ⊕ Bool))
  | i_2 =>
    if i_2 < (a.length : Int) then
    (ix a i_2).bind fun v_4 =>
    (ix b i_2).bind fun v_6 =>
    (f121 v_4 v_6).bind fun o8 =>
    if ¬ (o8 = true) then
    some (.inr (.inr false))
    else
    some (.inl (w64 (i_2 + 1)))
    else
    some (.inr (.inl ()))
def f53 (a : (List Relation)) (b : (List Relation)) : Option Bool :=
  if (a.length : Int) ≠ (b.length : Int) then
  some false
  else
  (iter (f53_0 a b) 0).bind fun o => match o with
  | .inl _ =>
  some true
  | .inr x_13 =>
  some x_13
/- laws.eqFact -/
def f159 (a : Fact) (b : Fact) : Option Bool :=
  if a.Relation ≠ b.Relation then
  some false
  else
  (f42 a.Values b.Values).bind fun o2 =>
  if ¬ (o2 = true) then
  some false
  else
  some true
/- laws.eqFactS -/
def f106_0 (a : (List Fact)) (b : (List Fact)) : Int → Option (Int ⊕ (Unit ⊕ Bool))
  | i_2 =>
    if i_2 < (a.length : Int) then
    (ix a i_2).bind fun v_4 =>
    (ix b i_2).bind fun v_6 =>
    (f159 v_4 v_6).bind fun o8 =>
    if ¬ (o8 = true) then
    some (.inr (.inr false))
    else
    some (.inl (w64 (i_2 + 1)))
    else
    some (.inr (.inl ()))
def f106 (a : (List Fact)) (b : (List Fact)) : Option Bool :=
  if (a.length : Int) ≠ (b.length : Int) then
  some false
  else
  (iter (f106_0 a b) 0).bind fun o => match o with
  | .inl _ =>
  some true
  | .inr x_13 =>
  some x_13
/- laws.eqDatabase -/
def f43 (a : Database) (b : Database) : Option Bool :=
  (f53 a.Relations b.Relations).bind fun o1 =>
  if ¬ (o1 = true) then
  some false
  else
  (f106 a.Facts b.Facts).bind fun o4 =>
  if ¬ (o4 = true) then
  some false
  else
  some true
/- laws.markText -/
def f160_0 : Int × (List UInt8) → Option ((Int × (List UInt8)) ⊕ (List UInt8))
  | (k_2, out_3) =>
    if k_2 > 0 then
    (cat ([UInt8.ofNat (w8 (w64 (48 + (k_2.tmod 10)))).toNat]) out_3).bind fun s_5 =>
    some (.inl (w64 (k_2.tdiv 10), s_5))
    else
    some (.inr out_3)
def f160 (k : Int) : Option (List UInt8) :=
  if k ≤ 0 then
  some ([109, 48])
  else
  (iter f160_0 (k, [])).bind fun out_9 =>
  (cat ([109]) out_9).bind fun s_10 =>
  some s_10
/- laws.markRelationS -/
def f107_0 : (List Relation) × Int × Int → Option (((List Relation) × Int × Int) ⊕ ((List Relation) × Int))
  | (a_1, k_2, i_3) =>
    if i_3 < (a_1.length : Int) then
    (f160 k_2).bind fun o5 =>
    (ix a_1 i_3).bind fun v_7 =>
    (ix (a_1.set i_3.toNat ({ Name := o5, Arity := v_7.Arity, KeyLength := v_7.KeyLength } : Relation)) i_3).bind fun v_10 =>
    (ix ((a_1.set i_3.toNat ({ Name := o5, Arity := v_7.Arity, KeyLength := v_7.KeyLength } : Relation)).set i_3.toNat ({ Name := v_10.Name, Arity := w64 (k_2 + 1), KeyLength := v_10.KeyLength } : Relation)) i_3).bind fun v_13 =>
    some (.inl ((((a_1.set i_3.toNat ({ Name := o5, Arity := v_7.Arity, KeyLength := v_7.KeyLength } : Relation)).set i_3.toNat ({ Name := v_10.Name, Arity := w64 (k_2 + 1), KeyLength := v_10.KeyLength } : Relation)).set i_3.toNat ({ Name := v_13.Name, Arity := v_13.Arity, KeyLength := w64 ((w64 (k_2 + 1)) + 1) } : Relation)), w64 ((w64 ((w64 (k_2 + 1)) + 1)) + 1), w64 (i_3 + 1)))
    else
    some (.inr (a_1, k_2))
def f107 (a : (List Relation)) (k : Int) : Option (Int × (List Relation)) :=
  (iter f107_0 (a, k, 0)).bind fun (a_18, k_19) =>
  some (k_19, a_18)
/- laws.markIntS -/
def f45_0 : (List Int) × Int × Int → Option (((List Int) × Int × Int) ⊕ ((List Int) × Int))
  | (a_1, k_2, i_3) =>
    if i_3 < (a_1.length : Int) then
    (ix a_1 i_3).bind fun v_5 =>
    some (.inl ((a_1.set i_3.toNat k_2), w64 (k_2 + 1), w64 (i_3 + 1)))
    else
    some (.inr (a_1, k_2))
def f45 (a : (List Int)) (k : Int) : Option (Int × (List Int)) :=
  (iter f45_0 (a, k, 0)).bind fun (a_10, k_11) =>
  some (k_11, a_10)
/- laws.markFactS -/
def f108_0 : (List Fact) × Int × Int → Option (((List Fact) × Int × Int) ⊕ ((List Fact) × Int))
  | (a_1, k_2, i_3) =>
    if i_3 < (a_1.length : Int) then
    (ix a_1 i_3).bind fun v_5 =>
    (ix (a_1.set i_3.toNat ({ Relation := k_2, Values := v_5.Values } : Fact)) i_3).bind fun v_8 =>
    (f45 v_8.Values (w64 (k_2 + 1))).bind fun o10 =>
    some (.inl (((a_1.set i_3.toNat ({ Relation := k_2, Values := v_5.Values } : Fact)).set i_3.toNat ({ Relation := v_8.Relation, Values := o10.2 } : Fact)), o10.1, w64 (i_3 + 1)))
    else
    some (.inr (a_1, k_2))
def f108 (a : (List Fact)) (k : Int) : Option (Int × (List Fact)) :=
  (iter f108_0 (a, k, 0)).bind fun (a_15, k_16) =>
  some (k_16, a_15)
/- laws.markDatabase -/
def f44 (a : Database) (k : Int) : Option Int :=
  (f107 a.Relations k).bind fun o1 =>
  (f108 a.Facts o1.1).bind fun o3 =>
  some o3.1
/- laws.heldIntS -/
def f46_0 (a : (List Int)) : Int × Int → Option ((Int × Int) ⊕ (Int ⊕ Int))
  | (k_1, i_2) =>
    if i_2 < (a.length : Int) then
    (ix a i_2).bind fun v_4 =>
    if v_4 ≠ k_1 then
    some (.inr (.inr (-1)))
    else
    some (.inl (w64 (k_1 + 1), w64 (i_2 + 1)))
    else
    some (.inr (.inl k_1))
def f46 (a : (List Int)) (k : Int) : Option Int :=
  (iter (f46_0 a) (k, 0)).bind fun o => match o with
  | .inl k_9 =>
  some k_9
  | .inr x_10 =>
  some x_10
/- laws.FnExactRepairFromFacts -/
def f6 (aDb : Database) (aIndices : (List Int)) : Option Bool :=
  if (aIndices.length : Int) > 1048576 then
  some true
  else
  (f37 aDb 1048576).bind fun o2 =>
  if o2 < 0 then
  some true
  else
  (f39 aDb).bind fun o5 =>
  (f40 aIndices).bind fun o7 =>
  (f38 o5 o7).bind fun o9 =>
  (f39 aDb).bind fun o11 =>
  (f40 aIndices).bind fun o13 =>
  (f41 o11 o13).bind fun o15 =>
  (f42 o15.1 o9.1).bind fun o17 =>
  ((if ¬ (o17 = true) then
  some true
  else
  some (o15.2 != o9.2)) : Option (Bool)).bind fun x_19 =>
  if x_19 = true then
  some false
  else
  (f39 aDb).bind fun o23 =>
  (f43 o11 o23).bind fun o25 =>
  if ¬ (o25 = true) then
  some false
  else
  (f40 aIndices).bind fun o28 =>
  (f42 o13 o28).bind fun o30 =>
  if ¬ (o30 = true) then
  some false
  else
  (f44 o11 1).bind fun o33 =>
  (f45 o13 o33).bind fun o35 =>
  ((if o35.1 < 0 then
  some true
  else
  (f42 o15.1 o9.1).bind fun o40 =>
  ((if ¬ (o40 = true) then
  some true
  else
  some (o15.2 != o9.2)) : Option (Bool)).bind fun x_42 =>
  some x_42) : Option (Bool)).bind fun x_37 =>
  if x_37 = true then
  some false
  else
  (f45 o15.1 1).bind fun o46 =>
  (f46 o46.2 1).bind fun o48 =>
  if o48 < 0 then
  some false
  else
  if o48 ≠ o46.1 then
  some false
  else
  (f39 aDb).bind fun o52 =>
  (f40 aIndices).bind fun o54 =>
  (f41 o52 o54).bind fun o56 =>
  (f42 o56.1 o9.1).bind fun o58 =>
  ((if ¬ (o58 = true) then
  some true
  else
  some (o56.2 != o9.2)) : Option (Bool)).bind fun x_60 =>
  if x_60 = true then
  some false
  else
  (f46 o46.2 1).bind fun o64 =>
  if o64 < 0 then
  some false
  else
  if o64 ≠ o46.1 then
  some false
  else
  some true
end
end Go.Proofs.YtabmomjfdondnaaH
