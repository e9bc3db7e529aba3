import Derived.Test.YtaanfdjhmhifiaaX3
set_option linter.unusedVariables false
set_option linter.unusedSimpArgs false
set_option linter.defProp false
set_option linter.unusedSectionVars false
set_option maxRecDepth 100000
namespace Go.Proofs.YtaanfdjhmhifiaaH
open Go
noncomputable section
structure Relation where
 Name : (List UInt8)
 Arity : Int
 KeyLength : Int
 deriving DecidableEq, Inhabited
def eRelation : En Relation := ⟨3, fun _ a => [(.str a.Name), (.int .i64 a.Arity), (.int .i64 a.KeyLength)], fun b a => by cases b <;> rfl, by decide, fun b a => by cases b <;> simp [T.frz], fun a => by simp, fun a => by simp, fun b a => by cases b <;> simp⟩
@[simp] theorem eRelation_w : eRelation.w = 3 := rfl
@[simp] theorem eRelation_ct {a : Relation} : eRelation.c true a = [(.str a.Name), (.int .i64 a.Arity), (.int .i64 a.KeyLength)] := rfl
@[simp] theorem eRelation_cf {a : Relation} : eRelation.c false a = [(.str a.Name), (.int .i64 a.Arity), (.int .i64 a.KeyLength)] := rfl
@[simp] theorem arrRelation_len {b : Bool} {l : List Relation} : (arr eRelation b l).length = l.length * 3 := arr_len
@[simp] theorem eRelation_e (a : Relation) : Relation.mk a.Name a.Arity a.KeyLength = a := rfl
@[simp] def q0Relation {b l i o} := @arr_get2 _ eRelation b l i o 3 rfl
@[simp] def q1Relation {b l i} := @arr_get20 _ eRelation b l i 3 rfl
@[simp] def q2Relation {b l o} := @arr_get0 _ eRelation b l o 3 rfl
@[simp] def q3Relation {b l} := @arr_take0 _ eRelation b l 3 rfl
@[simp] def q4Relation {b l i o} := @arr_part _ eRelation b l i o 3 rfl
@[simp] def q5Relation {b l i o j} := @arr_part2 _ eRelation b l i o 3 j rfl
@[simp] def q6Relation {b l} := @arr_at2 _ eRelation b l 3 rfl
@[simp] def q7Relation {b l} := @arr_take2 _ eRelation b l 3 rfl
@[simp] def q8Relation {b l l' bs y} := @appT_w _ eRelation b l l' bs y 3 rfl
@[simp] def q10Relation {z0 z1 z2 n} := @rep_w _ eRelation true n ⟨z0, z1, z2⟩ [(.str z0), (.int .i64 z1), (.int .i64 z2)] rfl
@[simp] def q71Relation {b l} := @arr_tl _ eRelation b l 3 rfl
@[simp] def q70Relation {b l i} := @arr_tk _ eRelation b l i 3 rfl
@[simp] theorem q40Relation {b : Bool} {l' : List Relation} {bs : Nat} {y : Bool} (hb : bs ≠ 0) : appT 3 bs (.sl true y 3 0 []) (arr eRelation b l') = (app bs [] l').map fun v => .sl true y 3 0 (arr eRelation true v) := appT_w0 (E := eRelation) (b := b) rfl hb
@[simp] theorem q50Relation {l : List Relation} {i : Nat} {z : (List UInt8)} (h : i < l.length) : layT (arr eRelation true l) (i * 3) 1 [(.str z)] = arr eRelation true (l.set i ⟨z, (l[i]?.getD default).Arity, (l[i]?.getD default).KeyLength⟩) := by rw [List.getElem?_eq_getElem h]; exact lay_cell (E := eRelation) (b := true) (i := i) (o := 0) ⟨z, l[i].Arity, l[i].KeyLength⟩ (List.getElem?_eq_getElem h) (by decide) rfl
@[simp] theorem q60Relation {l : List Relation} {i : Nat} {z : (List UInt8)} (h : i < l.length) : (arr eRelation true l).set (i * 3) (.str z) = arr eRelation true (l.set i ⟨z, (l[i]?.getD default).Arity, (l[i]?.getD default).KeyLength⟩) := by rw [List.getElem?_eq_getElem h]; exact set_cell (E := eRelation) (b := true) (i := i) (o := 0) ⟨z, l[i].Arity, l[i].KeyLength⟩ (List.getElem?_eq_getElem h) (by decide) rfl
@[simp] theorem q51Relation {l : List Relation} {i : Nat} {z : Int} (h : i < l.length) : layT (arr eRelation true l) (i * 3 + 1) 1 [(.int .i64 z)] = arr eRelation true (l.set i ⟨(l[i]?.getD default).Name, z, (l[i]?.getD default).KeyLength⟩) := by rw [List.getElem?_eq_getElem h]; exact lay_cell (E := eRelation) (b := true) (i := i) (o := 1) ⟨l[i].Name, z, l[i].KeyLength⟩ (List.getElem?_eq_getElem h) (by decide) rfl
@[simp] theorem q61Relation {l : List Relation} {i : Nat} {z : Int} (h : i < l.length) : (arr eRelation true l).set (i * 3 + 1) (.int .i64 z) = arr eRelation true (l.set i ⟨(l[i]?.getD default).Name, z, (l[i]?.getD default).KeyLength⟩) := by rw [List.getElem?_eq_getElem h]; exact set_cell (E := eRelation) (b := true) (i := i) (o := 1) ⟨l[i].Name, z, l[i].KeyLength⟩ (List.getElem?_eq_getElem h) (by decide) rfl
@[simp] theorem q52Relation {l : List Relation} {i : Nat} {z : Int} (h : i < l.length) : layT (arr eRelation true l) (i * 3 + 2) 1 [(.int .i64 z)] = arr eRelation true (l.set i ⟨(l[i]?.getD default).Name, (l[i]?.getD default).Arity, z⟩) := by rw [List.getElem?_eq_getElem h]; exact lay_cell (E := eRelation) (b := true) (i := i) (o := 2) ⟨l[i].Name, l[i].Arity, z⟩ (List.getElem?_eq_getElem h) (by decide) rfl
@[simp] theorem q62Relation {l : List Relation} {i : Nat} {z : Int} (h : i < l.length) : (arr eRelation true l).set (i * 3 + 2) (.int .i64 z) = arr eRelation true (l.set i ⟨(l[i]?.getD default).Name, (l[i]?.getD default).Arity, z⟩) := by rw [List.getElem?_eq_getElem h]; exact set_cell (E := eRelation) (b := true) (i := i) (o := 2) ⟨l[i].Name, l[i].Arity, z⟩ (List.getElem?_eq_getElem h) (by decide) rfl
@[simp] def q20Relation {b z0 z1 z2 l bs y} := @appT_1w _ eRelation b l bs y 3 rfl ⟨z0, z1, z2⟩ [(.str z0), (.int .i64 z1), (.int .i64 z2)] rfl
@[simp] def q23Relation {b z0 z1 z2 l' bs y} := @appT_11 _ eRelation b l' bs y 3 rfl ⟨z0, z1, z2⟩ [(.str z0), (.int .i64 z1), (.int .i64 z2)] rfl
@[simp] def q22Relation {b z0 z1 z2 bs y} := @appT_10 _ eRelation b bs y 3 rfl ⟨z0, z1, z2⟩ [(.str z0), (.int .i64 z1), (.int .i64 z2)] rfl
@[simp] def q21Relation {b z0 z1 z2 l i} := @lay_w _ eRelation b l i 3 rfl ⟨z0, z1, z2⟩ [(.str z0), (.int .i64 z1), (.int .i64 z2)] rfl
structure Fact where
 Relation : Int
 Values : (List Int)
 deriving DecidableEq, Inhabited
def eFact : En Fact := ⟨2, fun b a => if b then [(.int .i64 a.Relation), (osl eI true a.Values)] else [(.int .i64 a.Relation), (ssl eI a.Values)], fun b a => by cases b <;> rfl, by decide, fun b a => by cases b <;> simp [T.frz], fun a => by simp, fun a => by simp, fun b a => by cases b <;> simp⟩
@[simp] theorem eFact_w : eFact.w = 2 := rfl
@[simp] theorem eFact_ct {a : Fact} : eFact.c true a = [(.int .i64 a.Relation), (osl eI true a.Values)] := rfl
@[simp] theorem eFact_cf {a : Fact} : eFact.c false a = [(.int .i64 a.Relation), (ssl eI a.Values)] := rfl
@[simp] theorem arrFact_len {b : Bool} {l : List Fact} : (arr eFact b l).length = l.length * 2 := arr_len
@[simp] theorem eFact_e (a : Fact) : Fact.mk a.Relation a.Values = a := rfl
@[simp] def q0Fact {b l i o} := @arr_get2 _ eFact b l i o 2 rfl
@[simp] def q1Fact {b l i} := @arr_get20 _ eFact b l i 2 rfl
@[simp] def q2Fact {b l o} := @arr_get0 _ eFact b l o 2 rfl
@[simp] def q3Fact {b l} := @arr_take0 _ eFact b l 2 rfl
@[simp] def q4Fact {b l i o} := @arr_part _ eFact b l i o 2 rfl
@[simp] def q5Fact {b l i o j} := @arr_part2 _ eFact b l i o 2 j rfl
@[simp] def q6Fact {b l} := @arr_at2 _ eFact b l 2 rfl
@[simp] def q7Fact {b l} := @arr_take2 _ eFact b l 2 rfl
@[simp] def q8Fact {b l l' bs y} := @appT_w _ eFact b l l' bs y 2 rfl
@[simp] def q10Fact {z0 z1 n} := @rep_w _ eFact true n ⟨z0, z1⟩ [(.int .i64 z0), (.sl true true 1 0 (arr eI true z1))] rfl
@[simp] def q71Fact {b l} := @arr_tl _ eFact b l 2 rfl
@[simp] def q70Fact {b l i} := @arr_tk _ eFact b l i 2 rfl
@[simp] def q40Fact {b l' bs y} := @appT_w0 _ eFact b l' bs y 2 rfl
@[simp] theorem q50Fact {l : List Fact} {i : Nat} {z : Int} (h : i < l.length) : layT (arr eFact true l) (i * 2) 1 [(.int .i64 z)] = arr eFact true (l.set i ⟨z, (l[i]?.getD default).Values⟩) := by rw [List.getElem?_eq_getElem h]; exact lay_cell (E := eFact) (b := true) (i := i) (o := 0) ⟨z, l[i].Values⟩ (List.getElem?_eq_getElem h) (by decide) rfl
@[simp] theorem q60Fact {l : List Fact} {i : Nat} {z : Int} (h : i < l.length) : (arr eFact true l).set (i * 2) (.int .i64 z) = arr eFact true (l.set i ⟨z, (l[i]?.getD default).Values⟩) := by rw [List.getElem?_eq_getElem h]; exact set_cell (E := eFact) (b := true) (i := i) (o := 0) ⟨z, l[i].Values⟩ (List.getElem?_eq_getElem h) (by decide) rfl
@[simp] theorem q51Fact {l : List Fact} {i : Nat} {z : (List Int)} (h : i < l.length) : layT (arr eFact true l) (i * 2 + 1) 1 [(.sl true true 1 0 (arr eI true z))] = arr eFact true (l.set i ⟨(l[i]?.getD default).Relation, z⟩) := by rw [List.getElem?_eq_getElem h]; exact lay_cell (E := eFact) (b := true) (i := i) (o := 1) ⟨l[i].Relation, z⟩ (List.getElem?_eq_getElem h) (by decide) rfl
@[simp] theorem q61Fact {l : List Fact} {i : Nat} {z : (List Int)} (h : i < l.length) : (arr eFact true l).set (i * 2 + 1) (.sl true true 1 0 (arr eI true z)) = arr eFact true (l.set i ⟨(l[i]?.getD default).Relation, z⟩) := by rw [List.getElem?_eq_getElem h]; exact set_cell (E := eFact) (b := true) (i := i) (o := 1) ⟨l[i].Relation, z⟩ (List.getElem?_eq_getElem h) (by decide) rfl
@[simp] def q20Fact {z0 z1 l bs y} := @appT_1w _ eFact true l bs y 2 rfl ⟨z0, z1⟩ [(.int .i64 z0), (.sl true true 1 0 (arr eI true z1))] rfl
@[simp] def q23Fact {z0 z1 l' bs y} := @appT_11 _ eFact true l' bs y 2 rfl ⟨z0, z1⟩ [(.int .i64 z0), (.sl true true 1 0 (arr eI true z1))] rfl
@[simp] def q22Fact {z0 z1 bs y} := @appT_10 _ eFact true bs y 2 rfl ⟨z0, z1⟩ [(.int .i64 z0), (.sl true true 1 0 (arr eI true z1))] rfl
@[simp] def q21Fact {z0 z1 l i} := @lay_w _ eFact true l i 2 rfl ⟨z0, z1⟩ [(.int .i64 z0), (.sl true true 1 0 (arr eI true z1))] rfl
@[simp] def q30Fact {z0 z1 l bs y} := @appT_1w _ eFact false l bs y 2 rfl ⟨z0, z1⟩ [(.int .i64 z0), (.sl false false 1 1 (arr eI false z1))] rfl
@[simp] def q33Fact {z0 z1 l' bs y} := @appT_11 _ eFact false l' bs y 2 rfl ⟨z0, z1⟩ [(.int .i64 z0), (.sl false false 1 1 (arr eI false z1))] rfl
@[simp] def q32Fact {z0 z1 bs y} := @appT_10 _ eFact false bs y 2 rfl ⟨z0, z1⟩ [(.int .i64 z0), (.sl false false 1 1 (arr eI false z1))] rfl
@[simp] def q31Fact {z0 z1 l i} := @lay_w _ eFact false l i 2 rfl ⟨z0, z1⟩ [(.int .i64 z0), (.sl false false 1 1 (arr eI false z1))] rfl
structure Database where
 Relations : (List Relation)
 Facts : (List Fact)
 deriving DecidableEq, Inhabited
def eDatabase : En Database := ⟨2, fun b a => if b then [(osl eRelation true a.Relations), (osl eFact true a.Facts)] else [(ssl eRelation a.Relations), (ssl eFact a.Facts)], fun b a => by cases b <;> rfl, by decide, fun b a => by cases b <;> simp [T.frz], fun a => by simp, fun a => by simp, fun b a => by cases b <;> simp⟩
@[simp] theorem eDatabase_w : eDatabase.w = 2 := rfl
@[simp] theorem eDatabase_ct {a : Database} : eDatabase.c true a = [(osl eRelation true a.Relations), (osl eFact true a.Facts)] := rfl
@[simp] theorem eDatabase_cf {a : Database} : eDatabase.c false a = [(ssl eRelation a.Relations), (ssl eFact a.Facts)] := rfl
@[simp] theorem arrDatabase_len {b : Bool} {l : List Database} : (arr eDatabase b l).length = l.length * 2 := arr_len
@[simp] theorem eDatabase_e (a : Database) : Database.mk a.Relations a.Facts = a := rfl
@[simp] def q0Database {b l i o} := @arr_get2 _ eDatabase b l i o 2 rfl
@[simp] def q1Database {b l i} := @arr_get20 _ eDatabase b l i 2 rfl
@[simp] def q2Database {b l o} := @arr_get0 _ eDatabase b l o 2 rfl
@[simp] def q3Database {b l} := @arr_take0 _ eDatabase b l 2 rfl
@[simp] def q4Database {b l i o} := @arr_part _ eDatabase b l i o 2 rfl
@[simp] def q5Database {b l i o j} := @arr_part2 _ eDatabase b l i o 2 j rfl
@[simp] def q6Database {b l} := @arr_at2 _ eDatabase b l 2 rfl
@[simp] def q7Database {b l} := @arr_take2 _ eDatabase b l 2 rfl
@[simp] def q8Database {b l l' bs y} := @appT_w _ eDatabase b l l' bs y 2 rfl
@[simp] def q10Database {z0 z1 n} := @rep_w _ eDatabase true n ⟨z0, z1⟩ [(.sl true true 3 0 (arr eRelation true z0)), (.sl true true 2 0 (arr eFact true z1))] rfl
@[simp] def q71Database {b l} := @arr_tl _ eDatabase b l 2 rfl
@[simp] def q70Database {b l i} := @arr_tk _ eDatabase b l i 2 rfl
@[simp] def q40Database {b l' bs y} := @appT_w0 _ eDatabase b l' bs y 2 rfl
@[simp] theorem q50Database {l : List Database} {i : Nat} {z : (List Relation)} (h : i < l.length) : layT (arr eDatabase true l) (i * 2) 1 [(.sl true true 3 0 (arr eRelation true z))] = arr eDatabase true (l.set i ⟨z, (l[i]?.getD default).Facts⟩) := by rw [List.getElem?_eq_getElem h]; exact lay_cell (E := eDatabase) (b := true) (i := i) (o := 0) ⟨z, l[i].Facts⟩ (List.getElem?_eq_getElem h) (by decide) rfl
@[simp] theorem q60Database {l : List Database} {i : Nat} {z : (List Relation)} (h : i < l.length) : (arr eDatabase true l).set (i * 2) (.sl true true 3 0 (arr eRelation true z)) = arr eDatabase true (l.set i ⟨z, (l[i]?.getD default).Facts⟩) := by rw [List.getElem?_eq_getElem h]; exact set_cell (E := eDatabase) (b := true) (i := i) (o := 0) ⟨z, l[i].Facts⟩ (List.getElem?_eq_getElem h) (by decide) rfl
@[simp] theorem q51Database {l : List Database} {i : Nat} {z : (List Fact)} (h : i < l.length) : layT (arr eDatabase true l) (i * 2 + 1) 1 [(.sl true true 2 0 (arr eFact true z))] = arr eDatabase true (l.set i ⟨(l[i]?.getD default).Relations, z⟩) := by rw [List.getElem?_eq_getElem h]; exact lay_cell (E := eDatabase) (b := true) (i := i) (o := 1) ⟨l[i].Relations, z⟩ (List.getElem?_eq_getElem h) (by decide) rfl
@[simp] theorem q61Database {l : List Database} {i : Nat} {z : (List Fact)} (h : i < l.length) : (arr eDatabase true l).set (i * 2 + 1) (.sl true true 2 0 (arr eFact true z)) = arr eDatabase true (l.set i ⟨(l[i]?.getD default).Relations, z⟩) := by rw [List.getElem?_eq_getElem h]; exact set_cell (E := eDatabase) (b := true) (i := i) (o := 1) ⟨l[i].Relations, z⟩ (List.getElem?_eq_getElem h) (by decide) rfl
@[simp] def q20Database {z0 z1 l bs y} := @appT_1w _ eDatabase true l bs y 2 rfl ⟨z0, z1⟩ [(.sl true true 3 0 (arr eRelation true z0)), (.sl true true 2 0 (arr eFact true z1))] rfl
@[simp] def q23Database {z0 z1 l' bs y} := @appT_11 _ eDatabase true l' bs y 2 rfl ⟨z0, z1⟩ [(.sl true true 3 0 (arr eRelation true z0)), (.sl true true 2 0 (arr eFact true z1))] rfl
@[simp] def q22Database {z0 z1 bs y} := @appT_10 _ eDatabase true bs y 2 rfl ⟨z0, z1⟩ [(.sl true true 3 0 (arr eRelation true z0)), (.sl true true 2 0 (arr eFact true z1))] rfl
@[simp] def q21Database {z0 z1 l i} := @lay_w _ eDatabase true l i 2 rfl ⟨z0, z1⟩ [(.sl true true 3 0 (arr eRelation true z0)), (.sl true true 2 0 (arr eFact true z1))] rfl
@[simp] def q30Database {z0 z1 l bs y} := @appT_1w _ eDatabase false l bs y 2 rfl ⟨z0, z1⟩ [(.sl false false 3 1 (arr eRelation false z0)), (.sl false false 2 1 (arr eFact false z1))] rfl
@[simp] def q33Database {z0 z1 l' bs y} := @appT_11 _ eDatabase false l' bs y 2 rfl ⟨z0, z1⟩ [(.sl false false 3 1 (arr eRelation false z0)), (.sl false false 2 1 (arr eFact false z1))] rfl
@[simp] def q32Database {z0 z1 bs y} := @appT_10 _ eDatabase false bs y 2 rfl ⟨z0, z1⟩ [(.sl false false 3 1 (arr eRelation false z0)), (.sl false false 2 1 (arr eFact false z1))] rfl
@[simp] def q31Database {z0 z1 l i} := @lay_w _ eDatabase false l i 2 rfl ⟨z0, z1⟩ [(.sl false false 3 1 (arr eRelation false z0)), (.sl false false 2 1 (arr eFact false z1))] rfl
def f44 (a : Relation) (left : Int) : Option Int :=
 if (w64 (left - (a.Name.length : Int))) < 0 then
 some (-1)
 else
 some (w64 (left - (a.Name.length : Int)))
def f19_0 (a : (List Relation)) : Int × Int → Option ((Int × Int) ⊕ (Int ⊕ Int))
 | (left_2, i_3) =>
  if i_3 < (a.length : Int) then
  (ix a i_3).bind fun v_5 =>
  (f44 v_5 left_2).bind fun o7 =>
  if o7 < 0 then
  some (.inr (.inr (-1)))
  else
  some (.inl (o7, w64 (i_3 + 1)))
  else
  some (.inr (.inl left_2))
def f19 (a : (List Relation)) (left : Int) : Option Int :=
 if (w64 (left - (a.length : Int))) < 0 then
 some (-1)
 else
 (iter (f19_0 a) (w64 (left - (a.length : Int)), 0)).bind fun o => match o with
 | .inl left_12 =>
 some left_12
 | .inr x_13 =>
 some x_13
def f68 (a : (List Int)) (left : Int) : Option Int :=
 if (w64 (left - (a.length : Int))) < 0 then
 some (-1)
 else
 some (w64 (left - (a.length : Int)))
def f45 (a : Fact) (left : Int) : Option Int :=
 (f68 a.Values left).bind fun o1 =>
 if o1 < 0 then
 some (-1)
 else
 some o1
def f20_0 (a : (List Fact)) : Int × Int → Option ((Int × Int) ⊕ (Int ⊕ Int))
 | (left_2, i_3) =>
  if i_3 < (a.length : Int) then
  (ix a i_3).bind fun v_5 =>
  (f45 v_5 left_2).bind fun o7 =>
  if o7 < 0 then
  some (.inr (.inr (-1)))
  else
  some (.inl (o7, w64 (i_3 + 1)))
  else
  some (.inr (.inl left_2))
def f20 (a : (List Fact)) (left : Int) : Option Int :=
 if (w64 (left - (a.length : Int))) < 0 then
 some (-1)
 else
 (iter (f20_0 a) (w64 (left - (a.length : Int)), 0)).bind fun o => match o with
 | .inl left_12 =>
 some left_12
 | .inr x_13 =>
 some x_13
def f5 (a : Database) (left : Int) : Option Int :=
 (f19 a.Relations left).bind fun o1 =>
 if o1 < 0 then
 some (-1)
 else
 (f20 a.Facts o1).bind fun o4 =>
 if o4 < 0 then
 some (-1)
 else
 some o4
def f48 (a : Relation) : Option Relation :=
 some a
def f23_0 (a : (List Relation)) : (List Relation) × Int → Option (((List Relation) × Int) ⊕ (List Relation))
 | (out_3, i_4) =>
  if i_4 < (a.length : Int) then
  (ix a i_4).bind fun v_6 =>
  (f48 v_6).bind fun o8 =>
  (ix out_3 i_4).bind fun v_10 =>
  some (.inl ((out_3.set i_4.toNat o8), w64 (i_4 + 1)))
  else
  some (.inr out_3)
def f23 (a : (List Relation)) : Option (List Relation) :=
 (mkl 32 (a.length : Int) ({ Name := [], Arity := 0, KeyLength := 0 } : Relation)).bind fun l_1 =>
 (iter (f23_0 a) (l_1, 0)).bind fun out_15 =>
 some out_15
def f71_0 (a : (List Int)) : (List Int) × Int → Option (((List Int) × Int) ⊕ (List Int))
 | (out_3, i_4) =>
  if i_4 < (a.length : Int) then
  (ix a i_4).bind fun v_6 =>
  (ix out_3 i_4).bind fun v_8 =>
  some (.inl ((out_3.set i_4.toNat v_6), w64 (i_4 + 1)))
  else
  some (.inr out_3)
def f71 (a : (List Int)) : Option (List Int) :=
 (mkl 8 (a.length : Int) 0).bind fun l_1 =>
 (iter (f71_0 a) (l_1, 0)).bind fun out_13 =>
 some out_13
def f49 (a : Fact) : Option Fact :=
 (f71 a.Values).bind fun o1 =>
 some ({ Relation := a.Relation, Values := o1 } : Fact)
def f24_0 (a : (List Fact)) : (List Fact) × Int → Option (((List Fact) × Int) ⊕ (List Fact))
 | (out_3, i_4) =>
  if i_4 < (a.length : Int) then
  (ix a i_4).bind fun v_6 =>
  (f49 v_6).bind fun o8 =>
  (ix out_3 i_4).bind fun v_10 =>
  some (.inl ((out_3.set i_4.toNat o8), w64 (i_4 + 1)))
  else
  some (.inr out_3)
def f24 (a : (List Fact)) : Option (List Fact) :=
 (mkl 32 (a.length : Int) (({ Relation := 0, Values := [] } : Fact) : Fact)).bind fun l_1 =>
 (iter (f24_0 a) (l_1, 0)).bind fun out_15 =>
 some out_15
def f7 (a : Database) : Option Database :=
 (f23 a.Relations).bind fun o1 =>
 (f24 a.Facts).bind fun o3 =>
 some ({ Relations := o1, Facts := o3 } : Database)
def f21 (x : Int) (low : Int) (high : Int) : Option Bool :=
 (((if x ≥ low then
 some (decide (x ≤ high))
 else
 some false) : Option (Bool))).bind fun x_1 =>
 some x_1
def f67 (s0 : Relation) : Option Bool :=
 (((if (s0.Name.length : Int) = 1 then
 (ix s0.Name 0).bind fun c_4 =>
 (((if (c_4.toNat : Int) ≥ 97 then
 (((if (c_4.toNat : Int) ≤ 122 then
 (f21 s0.Arity 1 3).bind fun o12 =>
 (((if o12 = true then
 (f21 s0.KeyLength 0 s0.Arity).bind fun o17 =>
 some o17
 else
 some false) : Option (Bool))).bind fun x_14 =>
 some x_14
 else
 some false) : Option (Bool))).bind fun x_9 =>
 some x_9
 else
 some false) : Option (Bool))).bind fun x_6 =>
 some x_6
 else
 some false) : Option (Bool))).bind fun x_1 =>
 some x_1
def f43_0 (l : (List Relation)) : Int → Option (Int ⊕ (Unit ⊕ Bool))
 | i_1 =>
  if i_1 < (l.length : Int) then
  (ix l i_1).bind fun v_3 =>
  (f67 v_3).bind fun o5 =>
  (((if ¬ (o5 = true) then
  some true
  else
  (((if i_1 > 0 then
  (ix l (w64 (i_1 - 1))).bind fun v_13 =>
  some (!(Op.bytesLess v_13.Name v_3.Name))
  else
  some false) : Option (Bool))).bind fun x_10 =>
  some x_10) : Option (Bool))).bind fun x_7 =>
  if x_7 = true then
  some (.inr (.inr false))
  else
  some (.inl (w64 (i_1 + 1)))
  else
  some (.inr (.inl ()))
def f43 (l : (List Relation)) : Option Bool :=
 (iter (f43_0 l) 0).bind fun o => match o with
 | .inl _ =>
 some (decide ((l.length : Int) ≤ 4))
 | .inr x_18 =>
 some x_18
def f41_0 (f : Fact) : Int → Option (Int ⊕ (Unit ⊕ Bool))
 | i_14 =>
  if i_14 < (f.Values.length : Int) then
  (ix f.Values i_14).bind fun v_16 =>
  (f21 v_16 0 9).bind fun o18 =>
  if ¬ (o18 = true) then
  some (.inr (.inr false))
  else
  some (.inl (w64 (i_14 + 1)))
  else
  some (.inr (.inl ()))
def f41 (l : (List Relation)) (f : Fact) : Option Bool :=
 (f43 l).bind fun o1 =>
 (((if ¬ (o1 = true) then
 some true
 else
 (f21 f.Relation 0 (w64 ((l.length : Int) - 1))).bind fun o6 =>
 (((if ¬ (o6 = true) then
 some true
 else
 (ix l f.Relation).bind fun v_11 =>
 some (decide ((f.Values.length : Int) ≠ v_11.Arity))) : Option (Bool))).bind fun x_8 =>
 some x_8) : Option (Bool))).bind fun x_3 =>
 if x_3 = true then
 some false
 else
 (iter (f41_0 f) 0).bind fun o => match o with
 | .inl _ =>
 some true
 | .inr x_23 =>
 some x_23
def f66_0 (a : (List Int)) (b : (List Int)) : Int → Option (Int ⊕ (Unit ⊕ Int))
 | i_1 =>
  (((if i_1 < (a.length : Int) then
  some (decide (i_1 < (b.length : Int)))
  else
  some false) : Option (Bool))).bind fun x_2 =>
  if x_2 = true then
  (ix a i_1).bind fun v_6 =>
  (ix b i_1).bind fun v_8 =>
  if v_6 < v_8 then
  some (.inr (.inr (-1)))
  else
  if v_6 > v_8 then
  some (.inr (.inr 1))
  else
  some (.inl (w64 (i_1 + 1)))
  else
  some (.inr (.inl ()))
def f66 (a : (List Int)) (b : (List Int)) : Option Int :=
 (iter (f66_0 a b) 0).bind fun o => match o with
 | .inl _ =>
 if (a.length : Int) < (b.length : Int) then
 some (-1)
 else
 if (a.length : Int) > (b.length : Int) then
 some 1
 else
 some 0
 | .inr x_14 =>
 some x_14
def f42 (a : Fact) (b : Fact) : Option Int :=
 if a.Relation < b.Relation then
 some (-1)
 else
 if a.Relation > b.Relation then
 some 1
 else
 (f66 a.Values b.Values).bind fun o3 =>
 some o3
def f18_0 (d : Database) : Int → Option (Int ⊕ (Unit ⊕ Bool))
 | i_1 =>
  if i_1 < (d.Facts.length : Int) then
  (ix d.Facts i_1).bind fun v_3 =>
  (f41 d.Relations v_3).bind fun o5 =>
  (((if ¬ (o5 = true) then
  some true
  else
  (((if i_1 > 0 then
  (ix d.Facts (w64 (i_1 - 1))).bind fun v_13 =>
  (f42 v_13 v_3).bind fun o15 =>
  some (decide (o15 ≥ 0))
  else
  some false) : Option (Bool))).bind fun x_10 =>
  some x_10) : Option (Bool))).bind fun x_7 =>
  if x_7 = true then
  some (.inr (.inr false))
  else
  some (.inl (w64 (i_1 + 1)))
  else
  some (.inr (.inl ()))
def f18 (d : Database) : Option Bool :=
 (iter (f18_0 d) 0).bind fun o => match o with
 | .inl _ =>
 (f43 d.Relations).bind fun o21 =>
 (((if o21 = true then
 some (decide ((d.Facts.length : Int) ≤ 14))
 else
 some false) : Option (Bool))).bind fun x_23 =>
 some x_23
 | .inr x_20 =>
 some x_20
def f69_0 (d : Database) (l : (List Int)) : Int → Option (Int ⊕ (Unit ⊕ Bool))
 | i_1 =>
  if i_1 < (l.length : Int) then
  (ix l i_1).bind fun v_3 =>
  (f21 v_3 0 (w64 ((d.Facts.length : Int) - 1))).bind fun o5 =>
  (((if ¬ (o5 = true) then
  some true
  else
  (((if i_1 > 0 then
  (ix l (w64 (i_1 - 1))).bind fun v_13 =>
  some (decide (v_3 ≤ v_13))
  else
  some false) : Option (Bool))).bind fun x_10 =>
  some x_10) : Option (Bool))).bind fun x_7 =>
  if x_7 = true then
  some (.inr (.inr false))
  else
  some (.inl (w64 (i_1 + 1)))
  else
  some (.inr (.inl ()))
def f69 (d : Database) (l : (List Int)) : Option Bool :=
 (iter (f69_0 d l) 0).bind fun o => match o with
 | .inl _ =>
 some true
 | .inr x_18 =>
 some x_18
def f46_0 (d : Database) (l : (List Int)) : (List Relation) × (List Fact) × Int → Option (((List Relation) × (List Fact) × Int) ⊕ ((List Relation) × (List Fact)))
 | (x_11, x_12, i_13) =>
  if i_13 < (l.length : Int) then
  (ix l i_13).bind fun v_15 =>
  (ix d.Facts v_15).bind fun v_17 =>
  (app 8 ([]) v_17.Values).bind fun l_19 =>
  (app 32 x_12 ([({ Relation := v_17.Relation, Values := l_19 } : Fact)])).bind fun l_21 =>
  some (.inl (x_11, l_21, w64 (i_13 + 1)))
  else
  some (.inr (x_11, x_12))
def f46 (d : Database) (l : (List Int)) : Option (Database × Bool) :=
 (f18 d).bind fun o1 =>
 (((if ¬ (o1 = true) then
 some true
 else
 (f69 d l).bind fun o6 =>
 some (decide (¬ (o6 = true)))) : Option (Bool))).bind fun x_3 =>
 if x_3 = true then
 some (({ Relations := [], Facts := [] } : Database), false)
 else
 (app 32 ([]) d.Relations).bind fun l_9 =>
 (iter (f46_0 d l) (l_9, [], 0)).bind fun (x_25, x_26) =>
 some (({ Relations := x_25, Facts := x_26 } : Database), true)
def f90 (l : (List Relation)) (f : Fact) : Option (List Int) :=
 (f41 l f).bind fun o1 =>
 if ¬ (o1 = true) then
 some ([])
 else
 (ix l f.Relation).bind fun v_4 =>
 (cutL f.Values 0 v_4.KeyLength).bind fun l_6 =>
 (app 8 ([]) l_6).bind fun l_8 =>
 some l_8
def f87 (l : (List Relation)) (a : Fact) (b : Fact) : Option Bool :=
 (f41 l a).bind fun o1 =>
 (((if o1 = true then
 (f41 l b).bind fun o6 =>
 (((if o6 = true then
 (((if a.Relation = b.Relation then
 (f90 l a).bind fun o14 =>
 (f90 l b).bind fun o16 =>
 (f66 o14 o16).bind fun o18 =>
 some (decide (o18 = 0))
 else
 some false) : Option (Bool))).bind fun x_11 =>
 some x_11
 else
 some false) : Option (Bool))).bind fun x_8 =>
 some x_8
 else
 some false) : Option (Bool))).bind fun x_3 =>
 some x_3
def f82_0 (d : Database) (i : Int) : (List Int) × Int → Option (((List Int) × Int) ⊕ (List Int))
 | (out_1, k_2) =>
  (((if k_2 < (d.Facts.length : Int) then
  (f18 d).bind fun o6 =>
  (((if o6 = true then
  (f21 i 0 (w64 ((d.Facts.length : Int) - 1))).bind fun o11 =>
  some o11
  else
  some false) : Option (Bool))).bind fun x_8 =>
  some x_8
  else
  some false) : Option (Bool))).bind fun x_3 =>
  if x_3 = true then
  (ix d.Facts i).bind fun v_14 =>
  (ix d.Facts k_2).bind fun v_16 =>
  (f87 d.Relations v_14 v_16).bind fun o18 =>
  (((if o18 = true then
  (app 8 out_1 ([k_2])).bind fun l_23 =>
  some l_23
  else
  some out_1) : Option (List Int))).bind fun out_25 =>
  some (.inl (out_25, w64 (k_2 + 1)))
  else
  some (.inr out_1)
def f82 (d : Database) (i : Int) : Option (List Int) :=
 (iter (f82_0 d i) ([], 0)).bind fun out_28 =>
 some out_28
def f70_0 (d : Database) : (List (List Int)) × Int → Option (((List (List Int)) × Int) ⊕ (List (List Int)))
 | (out_1, i_2) =>
  (((if i_2 < (d.Facts.length : Int) then
  (f18 d).bind fun o6 =>
  some o6
  else
  some false) : Option (Bool))).bind fun x_3 =>
  if x_3 = true then
  (f82 d i_2).bind fun o9 =>
  (ix o9 0).bind fun v_11 =>
  (((if v_11 = i_2 then
  (app 24 out_1 ([o9])).bind fun l_16 =>
  some l_16
  else
  some out_1) : Option (List (List Int)))).bind fun out_18 =>
  some (.inl (out_18, w64 (i_2 + 1)))
  else
  some (.inr out_1)
def f70 (d : Database) : Option (List (List Int)) :=
 (iter (f70_0 d) ([], 0)).bind fun out_21 =>
 some out_21
def f47 (d : Database) : Option Bool :=
 (f18 d).bind fun o1 =>
 (((if o1 = true then
 (f70 d).bind fun o6 =>
 some (decide ((o6.length : Int) = (d.Facts.length : Int)))
 else
 some false) : Option (Bool))).bind fun x_3 =>
 some x_3
def f22 (d : Database) (l : (List Int)) : Option Bool :=
 (f46 d l).bind fun o1 =>
 (((if o1.2 = true then
 (f47 o1.1).bind fun o6 =>
 some o6
 else
 some false) : Option (Bool))).bind fun x_3 =>
 some x_3
def f6_2 (d : Database) (last_12 : (List (List Int))) (i_16 : Int) : (List (List Int)) × Int → Option (((List (List Int)) × Int) ⊕ (List (List Int)))
 | (more_26, x_27) =>
  if x_27 < (d.Facts.length : Int) then
  (ix last_12 i_16).bind fun v_29 =>
  (app 8 ([]) v_29).bind fun l_31 =>
  (app 8 l_31 ([x_27])).bind fun l_33 =>
  (f22 d l_33).bind fun o35 =>
  (((if o35 = true then
  (app 24 more_26 ([l_33])).bind fun l_40 =>
  some l_40
  else
  some more_26) : Option (List (List Int)))).bind fun more_42 =>
  some (.inl (more_42, w64 (x_27 + 1)))
  else
  some (.inr more_26)
def f6_1 (d : Database) (last_12 : (List (List Int))) : (List (List Int)) × Int → Option (((List (List Int)) × Int) ⊕ (List (List Int)))
 | (more_15, i_16) =>
  if i_16 < (last_12.length : Int) then
  (ix last_12 i_16).bind fun v_18 =>
  (((if (v_18.length : Int) > 0 then
  (ix v_18 (w64 ((v_18.length : Int) - 1))).bind fun v_23 =>
  some (w64 (v_23 + 1))
  else
  some 0) : Option Int)).bind fun from_25 =>
  (iter ((f6_2 d last_12 i_16)) (more_15, from_25)).bind fun more_45 =>
  some (.inl (more_45, w64 (i_16 + 1)))
  else
  some (.inr more_15)
def f6_0 (d : Database) (k : Int) : (List (List Int)) × (List (List Int)) × Int → Option (((List (List Int)) × (List (List Int)) × Int) ⊕ (List (List Int)))
 | (out_11, last_12, n_13) =>
  if n_13 < k then
  (iter ((f6_1 d last_12)) ([], 0)).bind fun more_48 =>
  (app 24 out_11 more_48).bind fun l_49 =>
  some (.inl (l_49, more_48, w64 (n_13 + 1)))
  else
  some (.inr out_11)
def f6 (d : Database) (k : Int) : Option (List (List Int)) :=
 (f18 d).bind fun o1 =>
 (((if ¬ (o1 = true) then
 some true
 else
 (f21 k 0 3).bind fun o6 =>
 some (decide (¬ (o6 = true)))) : Option (Bool))).bind fun x_3 =>
 if x_3 = true then
 some ([])
 else
 (app 24 ([]) ([[]])).bind fun l_9 =>
 (iter (f6_0 d k) (l_9, [[]], 0)).bind fun out_53 =>
 some out_53
def f26 (n0 : Int) (low : Int) (high : Int) : Option Bool :=
 (((if low ≤ n0 then
 some (decide (n0 ≤ high))
 else
 some false) : Option (Bool))).bind fun x_1 =>
 some x_1
def f72 (relation : Relation) : Option Bool :=
 (((if (relation.Name.length : Int) = 1 then
 (ix relation.Name 0).bind fun c_4 =>
 (((if (c_4.toNat : Int) ≥ 97 then
 (((if (c_4.toNat : Int) ≤ 122 then
 (f26 relation.Arity 1 3).bind fun o12 =>
 (((if o12 = true then
 (f26 relation.KeyLength 0 relation.Arity).bind fun o17 =>
 some o17
 else
 some false) : Option (Bool))).bind fun x_14 =>
 some x_14
 else
 some false) : Option (Bool))).bind fun x_9 =>
 some x_9
 else
 some false) : Option (Bool))).bind fun x_6 =>
 some x_6
 else
 some false) : Option (Bool))).bind fun x_1 =>
 some x_1
def f50_0 (relations : (List Relation)) : Int → Option (Int ⊕ (Unit ⊕ Bool))
 | x_1 =>
  if x_1 < (relations.length : Int) then
  (ix relations x_1).bind fun v_3 =>
  (f72 v_3).bind fun o5 =>
  (((if ¬ (o5 = true) then
  some true
  else
  (((if x_1 > 0 then
  (ix relations (w64 (x_1 - 1))).bind fun v_13 =>
  some (!(Op.bytesLess v_13.Name v_3.Name))
  else
  some false) : Option (Bool))).bind fun x_10 =>
  some x_10) : Option (Bool))).bind fun x_7 =>
  if x_7 = true then
  some (.inr (.inr false))
  else
  some (.inl (w64 (x_1 + 1)))
  else
  some (.inr (.inl ()))
def f50 (relations : (List Relation)) : Option Bool :=
 (iter (f50_0 relations) 0).bind fun o => match o with
 | .inl _ =>
 some (decide ((relations.length : Int) ≤ 4))
 | .inr x_18 =>
 some x_18
def f76_0 (s0 : (List Int)) (f : Int → Option Bool) : Int → Option (Int ⊕ (Unit ⊕ Int))
 | x_1 =>
  if x_1 < (s0.length : Int) then
  (ix s0 x_1).bind fun v_3 =>
  (f v_3).bind fun o5 =>
  if o5 = true then
  some (.inr (.inr x_1))
  else
  some (.inl (w64 (x_1 + 1)))
  else
  some (.inr (.inl ()))
def f76 (s0 : (List Int)) (f : Int → Option Bool) : Option Int :=
 (iter (f76_0 s0 f) 0).bind fun o => match o with
 | .inl _ =>
 some (-1)
 | .inr x_10 =>
 some x_10
def f54 (s0 : (List Int)) (f : Int → Option Bool) : Option Bool :=
 (f76 s0 f).bind fun o1 =>
 some (decide (o1 ≥ 0))
def f83 (v : Int) : Option Bool :=
 (f26 v 0 9).bind fun o1 =>
 some (decide (¬ (o1 = true)))
def f73 (list : (List Int)) : Option Bool :=
 (f54 list (fun x0 => f83 x0)).bind fun o1 =>
 some (decide (¬ (o1 = true)))
def f51 (relations : (List Relation)) (fact : Fact) : Option Bool :=
 (f26 fact.Relation 0 (w64 ((relations.length : Int) - 1))).bind fun o1 =>
 (((if o1 = true then
 (ix relations fact.Relation).bind fun v_6 =>
 (((if (fact.Values.length : Int) = v_6.Arity then
 (f73 fact.Values).bind fun o11 =>
 some o11
 else
 some false) : Option (Bool))).bind fun x_8 =>
 some x_8
 else
 some false) : Option (Bool))).bind fun x_3 =>
 some x_3
def f74 (a : Int) (b : Int) : Option Int :=
 if a < b then
 some (-1)
 else
 if a > b then
 some 1
 else
 some 0
def f88 (x : Int) : Option Bool :=
 some (decide (x ≠ x))
def f84 (x : Int) (y : Int) : Option Int :=
 (f88 x).bind fun o1 =>
 (f88 y).bind fun o3 =>
 if o1 = true then
 if o3 = true then
 some 0
 else
 some (-1)
 else
 if o3 = true then
 some 1
 else
 if x < y then
 some (-1)
 else
 if x > y then
 some 1
 else
 some 0
def f75_0 (s1 : (List Int)) (s2 : (List Int)) : Int → Option (Int ⊕ (Unit ⊕ Int))
 | x_1 =>
  if x_1 < (s1.length : Int) then
  (ix s1 x_1).bind fun v_3 =>
  if x_1 ≥ (s2.length : Int) then
  some (.inr (.inr 1))
  else
  (ix s2 x_1).bind fun v_6 =>
  (f84 v_3 v_6).bind fun o8 =>
  if o8 ≠ 0 then
  some (.inr (.inr o8))
  else
  some (.inl (w64 (x_1 + 1)))
  else
  some (.inr (.inl ()))
def f75 (s1 : (List Int)) (s2 : (List Int)) : Option Int :=
 (iter (f75_0 s1 s2) 0).bind fun o => match o with
 | .inl _ =>
 if (s1.length : Int) < (s2.length : Int) then
 some (-1)
 else
 some 0
 | .inr x_13 =>
 some x_13
def f52 (a : Fact) (b : Fact) : Option Int :=
 if a.Relation ≠ b.Relation then
 (f74 a.Relation b.Relation).bind fun o2 =>
 some o2
 else
 (f75 a.Values b.Values).bind fun o4 =>
 some o4
def f25_0 (db : Database) : Int → Option (Int ⊕ (Unit ⊕ Bool))
 | x_7 =>
  if x_7 < (db.Facts.length : Int) then
  (ix db.Facts x_7).bind fun v_9 =>
  (f51 db.Relations v_9).bind fun o11 =>
  (((if ¬ (o11 = true) then
  some true
  else
  (((if x_7 > 0 then
  (ix db.Facts (w64 (x_7 - 1))).bind fun v_19 =>
  (f52 v_19 v_9).bind fun o21 =>
  some (decide (o21 ≥ 0))
  else
  some false) : Option (Bool))).bind fun x_16 =>
  some x_16) : Option (Bool))).bind fun x_13 =>
  if x_13 = true then
  some (.inr (.inr false))
  else
  some (.inl (w64 (x_7 + 1)))
  else
  some (.inr (.inl ()))
def f25 (db : Database) : Option Bool :=
 (f50 db.Relations).bind fun o1 =>
 (((if ¬ (o1 = true) then
 some true
 else
 some (decide ((db.Facts.length : Int) > 14))) : Option (Bool))).bind fun x_3 =>
 if x_3 = true then
 some false
 else
 (iter (f25_0 db) 0).bind fun o => match o with
 | .inl _ =>
 some true
 | .inr x_26 =>
 some x_26
def f77_0 (s1 : (List Int)) (s2 : (List Int)) : Int → Option (Int ⊕ (Unit ⊕ Bool))
 | x_2 =>
  if x_2 < (s1.length : Int) then
  (ix s1 x_2).bind fun v_4 =>
  (ix s2 x_2).bind fun v_6 =>
  if v_4 ≠ v_6 then
  some (.inr (.inr false))
  else
  some (.inl (w64 (x_2 + 1)))
  else
  some (.inr (.inl ()))
def f77 (s1 : (List Int)) (s2 : (List Int)) : Option Bool :=
 if (s1.length : Int) ≠ (s2.length : Int) then
 some false
 else
 (iter (f77_0 s1 s2) 0).bind fun o => match o with
 | .inl _ =>
 some true
 | .inr x_11 =>
 some x_11
def f56 (relations : (List Relation)) (a : Fact) (b : Fact) : Option Bool :=
 if a.Relation ≠ b.Relation then
 some false
 else
 (ix relations a.Relation).bind fun v_2 =>
 (cutL a.Values 0 v_2.KeyLength).bind fun l_4 =>
 (cutL b.Values 0 v_2.KeyLength).bind fun l_6 =>
 (f77 l_4 l_6).bind fun o8 =>
 some o8
def f55 (own : Int) (c : Database) (c2 : Int) : Option Bool :=
 (ix c.Facts own).bind fun v_1 =>
 (ix c.Facts c2).bind fun v_3 =>
 (f56 c.Relations v_1 v_3).bind fun o5 =>
 some o5
def f57 (s0 : (List Int)) : Option (List Int) :=
 (app 8 ([]) s0).bind fun l_1 =>
 some l_1
def f53_0 (set0 : (List Int)) (c : Int) (c4 : Database) (rec : (List Int) → Int → Int → (List (List Int)) → Database → Option (List (List Int))) : (List (List Int)) × Int → Option (((List (List Int)) × Int) ⊕ (List (List Int)))
 | (x_6, i_7) =>
  if i_7 < (c4.Facts.length : Int) then
  (f54 set0 (fun x0 => f55 x0 c4 i_7)).bind fun o9 =>
  (((if ¬ (o9 = true) then
  (f57 set0).bind fun o14 =>
  (app 8 o14 ([i_7])).bind fun l_16 =>
  ((rec l_16 (w64 (i_7 + 1)) c x_6 c4)).bind fun o18 =>
  some o18
  else
  some x_6) : Option (List (List Int)))).bind fun x_20 =>
  some (.inl (x_20, w64 (i_7 + 1)))
  else
  some (.inr x_6)
def f53 : Nat → (List Int) → Int → Int → (List (List Int)) → Database → Option (List (List Int))
 | 0 => fun _ _ _ _ _ => none
 | n + 1 => fun set0 from1 c c3 c4 =>
  if (set0.length : Int) = c then
  (app 8 ([]) set0).bind fun l_2 =>
  (app 24 c3 ([l_2])).bind fun l_4 =>
  some l_4
  else
  (iter ((f53_0 set0 c c4 (f53 n))) (c3, from1)).bind fun x_23 =>
  some x_23
def f27 (db : Database) (size : Int) : Option (List (List Int)) :=
 ((f53 64 ([] : (List Int)) 0 size ([]) db)).bind fun o1 =>
 some o1
def f8_0 (db : Database) (size : Int) : (List (List Int)) × Int → Option (((List (List Int)) × Int) ⊕ (List (List Int)))
 | (out_9, x_10) =>
  if x_10 < (w64 (size + 1)) then
  (f27 db x_10).bind fun o12 =>
  (app 24 out_9 o12).bind fun l_14 =>
  some (.inl (l_14, w64 (x_10 + 1)))
  else
  some (.inr out_9)
def f8 (db : Database) (size : Int) : Option (List (List Int)) :=
 (f25 db).bind fun o1 =>
 (((if ¬ (o1 = true) then
 some true
 else
 (f26 size 0 3).bind fun o6 =>
 some (decide (¬ (o6 = true)))) : Option (Bool))).bind fun x_3 =>
 if x_3 = true then
 some ([])
 else
 (iter (f8_0 db size) ([], 0)).bind fun out_18 =>
 some out_18
def f28_0 (a : (List Int)) (b : (List Int)) : Int → Option (Int ⊕ (Unit ⊕ Bool))
 | i_2 =>
  if i_2 < (a.length : Int) then
  (ix a i_2).bind fun v_4 =>
  (ix b i_2).bind fun v_6 =>
  if v_4 ≠ v_6 then
  some (.inr (.inr false))
  else
  some (.inl (w64 (i_2 + 1)))
  else
  some (.inr (.inl ()))
def f28 (a : (List Int)) (b : (List Int)) : Option Bool :=
 if (a.length : Int) ≠ (b.length : Int) then
 some false
 else
 (iter (f28_0 a b) 0).bind fun o => match o with
 | .inl _ =>
 some true
 | .inr x_11 =>
 some x_11
def f9_0 (a : (List (List Int))) (b : (List (List Int))) : Int → Option (Int ⊕ (Unit ⊕ Bool))
 | i_2 =>
  if i_2 < (a.length : Int) then
  (ix a i_2).bind fun v_4 =>
  (ix b i_2).bind fun v_6 =>
  (f28 v_4 v_6).bind fun o8 =>
  if ¬ (o8 = true) then
  some (.inr (.inr false))
  else
  some (.inl (w64 (i_2 + 1)))
  else
  some (.inr (.inl ()))
def f9 (a : (List (List Int))) (b : (List (List Int))) : Option Bool :=
 if (a.length : Int) ≠ (b.length : Int) then
 some false
 else
 (iter (f9_0 a b) 0).bind fun o => match o with
 | .inl _ =>
 some true
 | .inr x_13 =>
 some x_13
def f58 (a : Relation) (b : Relation) : Option Bool :=
 if a.Name ≠ b.Name then
 some false
 else
 if a.Arity ≠ b.Arity then
 some false
 else
 if a.KeyLength ≠ b.KeyLength then
 some false
 else
 some true
def f29_0 (a : (List Relation)) (b : (List Relation)) : Int → Option (Int ⊕ (Unit ⊕ Bool))
 | i_2 =>
  if i_2 < (a.length : Int) then
  (ix a i_2).bind fun v_4 =>
  (ix b i_2).bind fun v_6 =>
  (f58 v_4 v_6).bind fun o8 =>
  if ¬ (o8 = true) then
  some (.inr (.inr false))
  else
  some (.inl (w64 (i_2 + 1)))
  else
  some (.inr (.inl ()))
def f29 (a : (List Relation)) (b : (List Relation)) : Option Bool :=
 if (a.length : Int) ≠ (b.length : Int) then
 some false
 else
 (iter (f29_0 a b) 0).bind fun o => match o with
 | .inl _ =>
 some true
 | .inr x_13 =>
 some x_13
def f59 (a : Fact) (b : Fact) : Option Bool :=
 if a.Relation ≠ b.Relation then
 some false
 else
 (f28 a.Values b.Values).bind fun o2 =>
 if ¬ (o2 = true) then
 some false
 else
 some true
def f30_0 (a : (List Fact)) (b : (List Fact)) : Int → Option (Int ⊕ (Unit ⊕ Bool))
 | i_2 =>
  if i_2 < (a.length : Int) then
  (ix a i_2).bind fun v_4 =>
  (ix b i_2).bind fun v_6 =>
  (f59 v_4 v_6).bind fun o8 =>
  if ¬ (o8 = true) then
  some (.inr (.inr false))
  else
  some (.inl (w64 (i_2 + 1)))
  else
  some (.inr (.inl ()))
def f30 (a : (List Fact)) (b : (List Fact)) : Option Bool :=
 if (a.length : Int) ≠ (b.length : Int) then
 some false
 else
 (iter (f30_0 a b) 0).bind fun o => match o with
 | .inl _ =>
 some true
 | .inr x_13 =>
 some x_13
def f10 (a : Database) (b : Database) : Option Bool :=
 (f29 a.Relations b.Relations).bind fun o1 =>
 if ¬ (o1 = true) then
 some false
 else
 (f30 a.Facts b.Facts).bind fun o4 =>
 if ¬ (o4 = true) then
 some false
 else
 some true
def f60_0 : Int × (List UInt8) → Option ((Int × (List UInt8)) ⊕ (List UInt8))
 | (k_2, out_3) =>
  if k_2 > 0 then
  (cat ([UInt8.ofNat (w8 (w64 (48 + (k_2.tmod 10)))).toNat]) out_3).bind fun s_5 =>
  some (.inl (w64 (k_2.tdiv 10), s_5))
  else
  some (.inr out_3)
def f60 (k : Int) : Option (List UInt8) :=
 if k ≤ 0 then
 some ([109, 48])
 else
 (iter f60_0 (k, [])).bind fun out_9 =>
 (cat ([109]) out_9).bind fun s_10 =>
 some s_10
def f31_0 : (List Relation) × Int × Int → Option (((List Relation) × Int × Int) ⊕ ((List Relation) × Int))
 | (a_1, k_2, i_3) =>
  if i_3 < (a_1.length : Int) then
  (f60 k_2).bind fun o5 =>
  (ix a_1 i_3).bind fun v_7 =>
  (ix (a_1.set i_3.toNat ({ Name := o5, Arity := v_7.Arity, KeyLength := v_7.KeyLength } : Relation)) i_3).bind fun v_10 =>
  (ix ((a_1.set i_3.toNat ({ Name := o5, Arity := v_7.Arity, KeyLength := v_7.KeyLength } : Relation)).set i_3.toNat ({ Name := v_10.Name, Arity := w64 (k_2 + 1), KeyLength := v_10.KeyLength } : Relation)) i_3).bind fun v_13 =>
  some (.inl ((((a_1.set i_3.toNat ({ Name := o5, Arity := v_7.Arity, KeyLength := v_7.KeyLength } : Relation)).set i_3.toNat ({ Name := v_10.Name, Arity := w64 (k_2 + 1), KeyLength := v_10.KeyLength } : Relation)).set i_3.toNat ({ Name := v_13.Name, Arity := v_13.Arity, KeyLength := w64 ((w64 (k_2 + 1)) + 1) } : Relation)), w64 ((w64 ((w64 (k_2 + 1)) + 1)) + 1), w64 (i_3 + 1)))
  else
  some (.inr (a_1, k_2))
def f31 (a : (List Relation)) (k : Int) : Option (Int × (List Relation)) :=
 (iter f31_0 (a, k, 0)).bind fun (a_18, k_19) =>
 some (k_19, a_18)
def f33_0 : (List Int) × Int × Int → Option (((List Int) × Int × Int) ⊕ ((List Int) × Int))
 | (a_1, k_2, i_3) =>
  if i_3 < (a_1.length : Int) then
  (ix a_1 i_3).bind fun v_5 =>
  some (.inl ((a_1.set i_3.toNat k_2), w64 (k_2 + 1), w64 (i_3 + 1)))
  else
  some (.inr (a_1, k_2))
def f33 (a : (List Int)) (k : Int) : Option (Int × (List Int)) :=
 (iter f33_0 (a, k, 0)).bind fun (a_10, k_11) =>
 some (k_11, a_10)
def f32_0 : (List Fact) × Int × Int → Option (((List Fact) × Int × Int) ⊕ ((List Fact) × Int))
 | (a_1, k_2, i_3) =>
  if i_3 < (a_1.length : Int) then
  (ix a_1 i_3).bind fun v_5 =>
  (ix (a_1.set i_3.toNat ({ Relation := k_2, Values := v_5.Values } : Fact)) i_3).bind fun v_8 =>
  (f33 v_8.Values (w64 (k_2 + 1))).bind fun o10 =>
  some (.inl (((a_1.set i_3.toNat ({ Relation := k_2, Values := v_5.Values } : Fact)).set i_3.toNat ({ Relation := v_8.Relation, Values := o10.2 } : Fact)), o10.1, w64 (i_3 + 1)))
  else
  some (.inr (a_1, k_2))
def f32 (a : (List Fact)) (k : Int) : Option (Int × (List Fact)) :=
 (iter f32_0 (a, k, 0)).bind fun (a_15, k_16) =>
 some (k_16, a_15)
def f11 (a : Database) (k : Int) : Option Int :=
 (f31 a.Relations k).bind fun o1 =>
 (f32 a.Facts o1.1).bind fun o3 =>
 some o3.1
def f12_0 : (List (List Int)) × Int × Int → Option (((List (List Int)) × Int × Int) ⊕ ((List (List Int)) × Int))
 | (a_1, k_2, i_3) =>
  if i_3 < (a_1.length : Int) then
  (ix a_1 i_3).bind fun v_5 =>
  (f33 v_5 k_2).bind fun o7 =>
  some (.inl ((a_1.set i_3.toNat o7.2), o7.1, w64 (i_3 + 1)))
  else
  some (.inr (a_1, k_2))
def f12 (a : (List (List Int))) (k : Int) : Option (Int × (List (List Int))) :=
 (iter f12_0 (a, k, 0)).bind fun (a_12, k_13) =>
 some (k_13, a_12)
def f34_0 (a : (List Int)) : Int × Int → Option ((Int × Int) ⊕ (Int ⊕ Int))
 | (k_1, i_2) =>
  if i_2 < (a.length : Int) then
  (ix a i_2).bind fun v_4 =>
  if v_4 ≠ k_1 then
  some (.inr (.inr (-1)))
  else
  some (.inl (w64 (k_1 + 1), w64 (i_2 + 1)))
  else
  some (.inr (.inl k_1))
def f34 (a : (List Int)) (k : Int) : Option Int :=
 (iter (f34_0 a) (k, 0)).bind fun o => match o with
 | .inl k_9 =>
 some k_9
 | .inr x_10 =>
 some x_10
def f13_0 (a : (List (List Int))) : Int × Int → Option ((Int × Int) ⊕ (Int ⊕ Int))
 | (k_1, i_2) =>
  if i_2 < (a.length : Int) then
  (ix a i_2).bind fun v_4 =>
  (f34 v_4 k_1).bind fun o6 =>
  if o6 < 0 then
  some (.inr (.inr (-1)))
  else
  some (.inl (o6, w64 (i_2 + 1)))
  else
  some (.inr (.inl k_1))
def f13 (a : (List (List Int))) (k : Int) : Option Int :=
 (iter (f13_0 a) (k, 0)).bind fun o => match o with
 | .inl k_11 =>
 some k_11
 | .inr x_12 =>
 some x_12
def f3 (aDb : Database) (aSize : Int) : Option Bool :=
 (f5 aDb 1048576).bind fun o1 =>
 if o1 < 0 then
 some true
 else
 (f7 aDb).bind fun o4 =>
 (f6 o4 aSize).bind fun o6 =>
 (f7 aDb).bind fun o8 =>
 (f8 o8 aSize).bind fun o10 =>
 (f9 o10 o6).bind fun o12 =>
 if ¬ (o12 = true) then
 some false
 else
 (f7 aDb).bind fun o15 =>
 (f10 o8 o15).bind fun o17 =>
 if ¬ (o17 = true) then
 some false
 else
 (f11 o8 1).bind fun o20 =>
 (((if o20 < 0 then
 some true
 else
 (f9 o10 o6).bind fun o25 =>
 some (decide (¬ (o25 = true)))) : Option (Bool))).bind fun x_22 =>
 if x_22 = true then
 some false
 else
 (f12 o10 1).bind fun o28 =>
 (f13 o28.2 1).bind fun o30 =>
 if o30 < 0 then
 some false
 else
 if o30 ≠ o28.1 then
 some false
 else
 (f7 aDb).bind fun o34 =>
 (f8 o34 aSize).bind fun o36 =>
 (f9 o36 o6).bind fun o38 =>
 if ¬ (o38 = true) then
 some false
 else
 (f13 o28.2 1).bind fun o41 =>
 if o41 < 0 then
 some false
 else
 if o41 ≠ o28.1 then
 some false
 else
 some true
end
end Go.Proofs.YtaanfdjhmhifiaaH
