import Derived.Test.YtcllfkplpdppiaaDoorX3
set_option linter.unusedVariables false
set_option linter.unusedSimpArgs false
set_option linter.defProp false
set_option linter.unusedSectionVars false
set_option maxRecDepth 100000
namespace Go.Proofs.YtcllfkplpdppiaaDoorH
open Go
noncomputable section
structure Relation where
 Name : (List UInt8)
 Arity : Int
 KeyLength : Int
 deriving DecidableEq, Inhabited
def eRelation : En Relation := ⟨3, fun _ a => [(.str a.Name), (.int .i64 a.Arity), (.int .i64 a.KeyLength)], fun b a => by cases b <;> rfl, by decide, fun b a => by cases b <;> simp [T.frz], fun a => by simp, fun a => by simp, fun b a => by cases b <;> simp⟩
@[simp] theorem eRelation_w : eRelation.w = 3 := rfl
@[simp] theorem eRelation_ct {a : Relation} : eRelation.c true a = [(.str a.Name), (.int .i64 a.Arity), (.int .i64 a.KeyLength)] := rfl
@[simp] theorem eRelation_cf {a : Relation} : eRelation.c false a = [(.str a.Name), (.int .i64 a.Arity), (.int .i64 a.KeyLength)] := rfl
@[simp] theorem arrRelation_len {b : Bool} {l : List Relation} : (arr eRelation b l).length = l.length * 3 := arr_len
@[simp] theorem eRelation_e (a : Relation) : Relation.mk a.Name a.Arity a.KeyLength = a := rfl
@[simp] def q0Relation {b l i o} := @arr_get2 _ eRelation b l i o 3 rfl
@[simp] def q1Relation {b l i} := @arr_get20 _ eRelation b l i 3 rfl
@[simp] def q2Relation {b l o} := @arr_get0 _ eRelation b l o 3 rfl
@[simp] def q3Relation {b l} := @arr_take0 _ eRelation b l 3 rfl
@[simp] def q4Relation {b l i o} := @arr_part _ eRelation b l i o 3 rfl
@[simp] def q5Relation {b l i o j} := @arr_part2 _ eRelation b l i o 3 j rfl
@[simp] def q6Relation {b l} := @arr_at2 _ eRelation b l 3 rfl
@[simp] def q7Relation {b l} := @arr_take2 _ eRelation b l 3 rfl
@[simp] def q8Relation {b l l' bs y} := @appT_w _ eRelation b l l' bs y 3 rfl
@[simp] def q10Relation {z0 z1 z2 n} := @rep_w _ eRelation true n ⟨z0, z1, z2⟩ [(.str z0), (.int .i64 z1), (.int .i64 z2)] rfl
@[simp] def q71Relation {b l} := @arr_tl _ eRelation b l 3 rfl
@[simp] def q70Relation {b l i} := @arr_tk _ eRelation b l i 3 rfl
@[simp] theorem q40Relation {b : Bool} {l' : List Relation} {bs : Nat} {y : Bool} (hb : bs ≠ 0) : appT 3 bs (.sl true y 3 0 []) (arr eRelation b l') = (app bs [] l').map fun v => .sl true y 3 0 (arr eRelation true v) := appT_w0 (E := eRelation) (b := b) rfl hb
@[simp] theorem q50Relation {l : List Relation} {i : Nat} {z : (List UInt8)} (h : i < l.length) : layT (arr eRelation true l) (i * 3) 1 [(.str z)] = arr eRelation true (l.set i ⟨z, (l[i]?.getD default).Arity, (l[i]?.getD default).KeyLength⟩) := by rw [List.getElem?_eq_getElem h]; exact lay_cell (E := eRelation) (b := true) (i := i) (o := 0) ⟨z, l[i].Arity, l[i].KeyLength⟩ (List.getElem?_eq_getElem h) (by decide) rfl
@[simp] theorem q60Relation {l : List Relation} {i : Nat} {z : (List UInt8)} (h : i < l.length) : (arr eRelation true l).set (i * 3) (.str z) = arr eRelation true (l.set i ⟨z, (l[i]?.getD default).Arity, (l[i]?.getD default).KeyLength⟩) := by rw [List.getElem?_eq_getElem h]; exact set_cell (E := eRelation) (b := true) (i := i) (o := 0) ⟨z, l[i].Arity, l[i].KeyLength⟩ (List.getElem?_eq_getElem h) (by decide) rfl
@[simp] theorem q51Relation {l : List Relation} {i : Nat} {z : Int} (h : i < l.length) : layT (arr eRelation true l) (i * 3 + 1) 1 [(.int .i64 z)] = arr eRelation true (l.set i ⟨(l[i]?.getD default).Name, z, (l[i]?.getD default).KeyLength⟩) := by rw [List.getElem?_eq_getElem h]; exact lay_cell (E := eRelation) (b := true) (i := i) (o := 1) ⟨l[i].Name, z, l[i].KeyLength⟩ (List.getElem?_eq_getElem h) (by decide) rfl
@[simp] theorem q61Relation {l : List Relation} {i : Nat} {z : Int} (h : i < l.length) : (arr eRelation true l).set (i * 3 + 1) (.int .i64 z) = arr eRelation true (l.set i ⟨(l[i]?.getD default).Name, z, (l[i]?.getD default).KeyLength⟩) := by rw [List.getElem?_eq_getElem h]; exact set_cell (E := eRelation) (b := true) (i := i) (o := 1) ⟨l[i].Name, z, l[i].KeyLength⟩ (List.getElem?_eq_getElem h) (by decide) rfl
@[simp] theorem q52Relation {l : List Relation} {i : Nat} {z : Int} (h : i < l.length) : layT (arr eRelation true l) (i * 3 + 2) 1 [(.int .i64 z)] = arr eRelation true (l.set i ⟨(l[i]?.getD default).Name, (l[i]?.getD default).Arity, z⟩) := by rw [List.getElem?_eq_getElem h]; exact lay_cell (E := eRelation) (b := true) (i := i) (o := 2) ⟨l[i].Name, l[i].Arity, z⟩ (List.getElem?_eq_getElem h) (by decide) rfl
@[simp] theorem q62Relation {l : List Relation} {i : Nat} {z : Int} (h : i < l.length) : (arr eRelation true l).set (i * 3 + 2) (.int .i64 z) = arr eRelation true (l.set i ⟨(l[i]?.getD default).Name, (l[i]?.getD default).Arity, z⟩) := by rw [List.getElem?_eq_getElem h]; exact set_cell (E := eRelation) (b := true) (i := i) (o := 2) ⟨l[i].Name, l[i].Arity, z⟩ (List.getElem?_eq_getElem h) (by decide) rfl
@[simp] def q20Relation {b z0 z1 z2 l bs y} := @appT_1w _ eRelation b l bs y 3 rfl ⟨z0, z1, z2⟩ [(.str z0), (.int .i64 z1), (.int .i64 z2)] rfl
@[simp] def q23Relation {b z0 z1 z2 l' bs y} := @appT_11 _ eRelation b l' bs y 3 rfl ⟨z0, z1, z2⟩ [(.str z0), (.int .i64 z1), (.int .i64 z2)] rfl
@[simp] def q22Relation {b z0 z1 z2 bs y} := @appT_10 _ eRelation b bs y 3 rfl ⟨z0, z1, z2⟩ [(.str z0), (.int .i64 z1), (.int .i64 z2)] rfl
@[simp] def q21Relation {b z0 z1 z2 l i} := @lay_w _ eRelation b l i 3 rfl ⟨z0, z1, z2⟩ [(.str z0), (.int .i64 z1), (.int .i64 z2)] rfl
structure Fact where
 Relation : Int
 Values : (List Int)
 deriving DecidableEq, Inhabited
def eFact : En Fact := ⟨2, fun b a => if b then [(.int .i64 a.Relation), (osl eI true a.Values)] else [(.int .i64 a.Relation), (ssl eI a.Values)], fun b a => by cases b <;> rfl, by decide, fun b a => by cases b <;> simp [T.frz], fun a => by simp, fun a => by simp, fun b a => by cases b <;> simp⟩
@[simp] theorem eFact_w : eFact.w = 2 := rfl
@[simp] theorem eFact_ct {a : Fact} : eFact.c true a = [(.int .i64 a.Relation), (osl eI true a.Values)] := rfl
@[simp] theorem eFact_cf {a : Fact} : eFact.c false a = [(.int .i64 a.Relation), (ssl eI a.Values)] := rfl
@[simp] theorem arrFact_len {b : Bool} {l : List Fact} : (arr eFact b l).length = l.length * 2 := arr_len
@[simp] theorem eFact_e (a : Fact) : Fact.mk a.Relation a.Values = a := rfl
@[simp] def q0Fact {b l i o} := @arr_get2 _ eFact b l i o 2 rfl
@[simp] def q1Fact {b l i} := @arr_get20 _ eFact b l i 2 rfl
@[simp] def q2Fact {b l o} := @arr_get0 _ eFact b l o 2 rfl
@[simp] def q3Fact {b l} := @arr_take0 _ eFact b l 2 rfl
@[simp] def q4Fact {b l i o} := @arr_part _ eFact b l i o 2 rfl
@[simp] def q5Fact {b l i o j} := @arr_part2 _ eFact b l i o 2 j rfl
@[simp] def q6Fact {b l} := @arr_at2 _ eFact b l 2 rfl
@[simp] def q7Fact {b l} := @arr_take2 _ eFact b l 2 rfl
@[simp] def q8Fact {b l l' bs y} := @appT_w _ eFact b l l' bs y 2 rfl
@[simp] def q10Fact {z0 z1 n} := @rep_w _ eFact true n ⟨z0, z1⟩ [(.int .i64 z0), (.sl true true 1 0 (arr eI true z1))] rfl
@[simp] def q71Fact {b l} := @arr_tl _ eFact b l 2 rfl
@[simp] def q70Fact {b l i} := @arr_tk _ eFact b l i 2 rfl
@[simp] def q40Fact {b l' bs y} := @appT_w0 _ eFact b l' bs y 2 rfl
@[simp] theorem q50Fact {l : List Fact} {i : Nat} {z : Int} (h : i < l.length) : layT (arr eFact true l) (i * 2) 1 [(.int .i64 z)] = arr eFact true (l.set i ⟨z, (l[i]?.getD default).Values⟩) := by rw [List.getElem?_eq_getElem h]; exact lay_cell (E := eFact) (b := true) (i := i) (o := 0) ⟨z, l[i].Values⟩ (List.getElem?_eq_getElem h) (by decide) rfl
@[simp] theorem q60Fact {l : List Fact} {i : Nat} {z : Int} (h : i < l.length) : (arr eFact true l).set (i * 2) (.int .i64 z) = arr eFact true (l.set i ⟨z, (l[i]?.getD default).Values⟩) := by rw [List.getElem?_eq_getElem h]; exact set_cell (E := eFact) (b := true) (i := i) (o := 0) ⟨z, l[i].Values⟩ (List.getElem?_eq_getElem h) (by decide) rfl
@[simp] theorem q51Fact {l : List Fact} {i : Nat} {z : (List Int)} (h : i < l.length) : layT (arr eFact true l) (i * 2 + 1) 1 [(.sl true true 1 0 (arr eI true z))] = arr eFact true (l.set i ⟨(l[i]?.getD default).Relation, z⟩) := by rw [List.getElem?_eq_getElem h]; exact lay_cell (E := eFact) (b := true) (i := i) (o := 1) ⟨l[i].Relation, z⟩ (List.getElem?_eq_getElem h) (by decide) rfl
@[simp] theorem q61Fact {l : List Fact} {i : Nat} {z : (List Int)} (h : i < l.length) : (arr eFact true l).set (i * 2 + 1) (.sl true true 1 0 (arr eI true z)) = arr eFact true (l.set i ⟨(l[i]?.getD default).Relation, z⟩) := by rw [List.getElem?_eq_getElem h]; exact set_cell (E := eFact) (b := true) (i := i) (o := 1) ⟨l[i].Relation, z⟩ (List.getElem?_eq_getElem h) (by decide) rfl
@[simp] def q20Fact {z0 z1 l bs y} := @appT_1w _ eFact true l bs y 2 rfl ⟨z0, z1⟩ [(.int .i64 z0), (.sl true true 1 0 (arr eI true z1))] rfl
@[simp] def q23Fact {z0 z1 l' bs y} := @appT_11 _ eFact true l' bs y 2 rfl ⟨z0, z1⟩ [(.int .i64 z0), (.sl true true 1 0 (arr eI true z1))] rfl
@[simp] def q22Fact {z0 z1 bs y} := @appT_10 _ eFact true bs y 2 rfl ⟨z0, z1⟩ [(.int .i64 z0), (.sl true true 1 0 (arr eI true z1))] rfl
@[simp] def q21Fact {z0 z1 l i} := @lay_w _ eFact true l i 2 rfl ⟨z0, z1⟩ [(.int .i64 z0), (.sl true true 1 0 (arr eI true z1))] rfl
@[simp] def q30Fact {z0 z1 l bs y} := @appT_1w _ eFact false l bs y 2 rfl ⟨z0, z1⟩ [(.int .i64 z0), (.sl false false 1 1 (arr eI false z1))] rfl
@[simp] def q33Fact {z0 z1 l' bs y} := @appT_11 _ eFact false l' bs y 2 rfl ⟨z0, z1⟩ [(.int .i64 z0), (.sl false false 1 1 (arr eI false z1))] rfl
@[simp] def q32Fact {z0 z1 bs y} := @appT_10 _ eFact false bs y 2 rfl ⟨z0, z1⟩ [(.int .i64 z0), (.sl false false 1 1 (arr eI false z1))] rfl
@[simp] def q31Fact {z0 z1 l i} := @lay_w _ eFact false l i 2 rfl ⟨z0, z1⟩ [(.int .i64 z0), (.sl false false 1 1 (arr eI false z1))] rfl
structure Database where
 Relations : (List Relation)
 Facts : (List Fact)
 deriving DecidableEq, Inhabited
def eDatabase : En Database := ⟨2, fun b a => if b then [(osl eRelation true a.Relations), (osl eFact true a.Facts)] else [(ssl eRelation a.Relations), (ssl eFact a.Facts)], fun b a => by cases b <;> rfl, by decide, fun b a => by cases b <;> simp [T.frz], fun a => by simp, fun a => by simp, fun b a => by cases b <;> simp⟩
@[simp] theorem eDatabase_w : eDatabase.w = 2 := rfl
@[simp] theorem eDatabase_ct {a : Database} : eDatabase.c true a = [(osl eRelation true a.Relations), (osl eFact true a.Facts)] := rfl
@[simp] theorem eDatabase_cf {a : Database} : eDatabase.c false a = [(ssl eRelation a.Relations), (ssl eFact a.Facts)] := rfl
@[simp] theorem eDatabase_e (a : Database) : Database.mk a.Relations a.Facts = a := rfl
structure DerivationStep where
 Facts : (List Int)
 Block : Int
 deriving DecidableEq, Inhabited
def eDerivationStep : En DerivationStep := ⟨2, fun b a => if b then [(osl eI true a.Facts), (.int .i64 a.Block)] else [(ssl eI a.Facts), (.int .i64 a.Block)], fun b a => by cases b <;> rfl, by decide, fun b a => by cases b <;> simp [T.frz], fun a => by simp, fun a => by simp, fun b a => by cases b <;> simp⟩
@[simp] theorem eDerivationStep_w : eDerivationStep.w = 2 := rfl
@[simp] theorem eDerivationStep_ct {a : DerivationStep} : eDerivationStep.c true a = [(osl eI true a.Facts), (.int .i64 a.Block)] := rfl
@[simp] theorem eDerivationStep_cf {a : DerivationStep} : eDerivationStep.c false a = [(ssl eI a.Facts), (.int .i64 a.Block)] := rfl
@[simp] theorem arrDerivationStep_len {b : Bool} {l : List DerivationStep} : (arr eDerivationStep b l).length = l.length * 2 := arr_len
@[simp] theorem eDerivationStep_e (a : DerivationStep) : DerivationStep.mk a.Facts a.Block = a := rfl
@[simp] def q0DerivationStep {b l i o} := @arr_get2 _ eDerivationStep b l i o 2 rfl
@[simp] def q1DerivationStep {b l i} := @arr_get20 _ eDerivationStep b l i 2 rfl
@[simp] def q2DerivationStep {b l o} := @arr_get0 _ eDerivationStep b l o 2 rfl
@[simp] def q3DerivationStep {b l} := @arr_take0 _ eDerivationStep b l 2 rfl
@[simp] def q4DerivationStep {b l i o} := @arr_part _ eDerivationStep b l i o 2 rfl
@[simp] def q5DerivationStep {b l i o j} := @arr_part2 _ eDerivationStep b l i o 2 j rfl
@[simp] def q6DerivationStep {b l} := @arr_at2 _ eDerivationStep b l 2 rfl
@[simp] def q7DerivationStep {b l} := @arr_take2 _ eDerivationStep b l 2 rfl
@[simp] def q8DerivationStep {b l l' bs y} := @appT_w _ eDerivationStep b l l' bs y 2 rfl
@[simp] def q10DerivationStep {z0 z1 n} := @rep_w _ eDerivationStep true n ⟨z0, z1⟩ [(.sl true true 1 0 (arr eI true z0)), (.int .i64 z1)] rfl
@[simp] def q71DerivationStep {b l} := @arr_tl _ eDerivationStep b l 2 rfl
@[simp] def q70DerivationStep {b l i} := @arr_tk _ eDerivationStep b l i 2 rfl
@[simp] def q40DerivationStep {b l' bs y} := @appT_w0 _ eDerivationStep b l' bs y 2 rfl
@[simp] theorem q50DerivationStep {l : List DerivationStep} {i : Nat} {z : (List Int)} (h : i < l.length) : layT (arr eDerivationStep true l) (i * 2) 1 [(.sl true true 1 0 (arr eI true z))] = arr eDerivationStep true (l.set i ⟨z, (l[i]?.getD default).Block⟩) := by rw [List.getElem?_eq_getElem h]; exact lay_cell (E := eDerivationStep) (b := true) (i := i) (o := 0) ⟨z, l[i].Block⟩ (List.getElem?_eq_getElem h) (by decide) rfl
@[simp] theorem q60DerivationStep {l : List DerivationStep} {i : Nat} {z : (List Int)} (h : i < l.length) : (arr eDerivationStep true l).set (i * 2) (.sl true true 1 0 (arr eI true z)) = arr eDerivationStep true (l.set i ⟨z, (l[i]?.getD default).Block⟩) := by rw [List.getElem?_eq_getElem h]; exact set_cell (E := eDerivationStep) (b := true) (i := i) (o := 0) ⟨z, l[i].Block⟩ (List.getElem?_eq_getElem h) (by decide) rfl
@[simp] theorem q51DerivationStep {l : List DerivationStep} {i : Nat} {z : Int} (h : i < l.length) : layT (arr eDerivationStep true l) (i * 2 + 1) 1 [(.int .i64 z)] = arr eDerivationStep true (l.set i ⟨(l[i]?.getD default).Facts, z⟩) := by rw [List.getElem?_eq_getElem h]; exact lay_cell (E := eDerivationStep) (b := true) (i := i) (o := 1) ⟨l[i].Facts, z⟩ (List.getElem?_eq_getElem h) (by decide) rfl
@[simp] theorem q61DerivationStep {l : List DerivationStep} {i : Nat} {z : Int} (h : i < l.length) : (arr eDerivationStep true l).set (i * 2 + 1) (.int .i64 z) = arr eDerivationStep true (l.set i ⟨(l[i]?.getD default).Facts, z⟩) := by rw [List.getElem?_eq_getElem h]; exact set_cell (E := eDerivationStep) (b := true) (i := i) (o := 1) ⟨l[i].Facts, z⟩ (List.getElem?_eq_getElem h) (by decide) rfl
@[simp] def q20DerivationStep {z0 z1 l bs y} := @appT_1w _ eDerivationStep true l bs y 2 rfl ⟨z0, z1⟩ [(.sl true true 1 0 (arr eI true z0)), (.int .i64 z1)] rfl
@[simp] def q23DerivationStep {z0 z1 l' bs y} := @appT_11 _ eDerivationStep true l' bs y 2 rfl ⟨z0, z1⟩ [(.sl true true 1 0 (arr eI true z0)), (.int .i64 z1)] rfl
@[simp] def q22DerivationStep {z0 z1 bs y} := @appT_10 _ eDerivationStep true bs y 2 rfl ⟨z0, z1⟩ [(.sl true true 1 0 (arr eI true z0)), (.int .i64 z1)] rfl
@[simp] def q21DerivationStep {z0 z1 l i} := @lay_w _ eDerivationStep true l i 2 rfl ⟨z0, z1⟩ [(.sl true true 1 0 (arr eI true z0)), (.int .i64 z1)] rfl
@[simp] def q30DerivationStep {z0 z1 l bs y} := @appT_1w _ eDerivationStep false l bs y 2 rfl ⟨z0, z1⟩ [(.sl false false 1 1 (arr eI false z0)), (.int .i64 z1)] rfl
@[simp] def q33DerivationStep {z0 z1 l' bs y} := @appT_11 _ eDerivationStep false l' bs y 2 rfl ⟨z0, z1⟩ [(.sl false false 1 1 (arr eI false z0)), (.int .i64 z1)] rfl
@[simp] def q32DerivationStep {z0 z1 bs y} := @appT_10 _ eDerivationStep false bs y 2 rfl ⟨z0, z1⟩ [(.sl false false 1 1 (arr eI false z0)), (.int .i64 z1)] rfl
@[simp] def q31DerivationStep {z0 z1 l i} := @lay_w _ eDerivationStep false l i 2 rfl ⟨z0, z1⟩ [(.sl false false 1 1 (arr eI false z0)), (.int .i64 z1)] rfl
def f34 (a : Relation) (left : Int) : Option Int :=
 if (w64 (left - (a.Name.length : Int))) < 0 then
 some (-1)
 else
 some (w64 (left - (a.Name.length : Int)))
def f13_0 (a : (List Relation)) : Int × Int → Option ((Int × Int) ⊕ (Int ⊕ Int))
 | (left_2, i_3) =>
  if i_3 < (a.length : Int) then
  (ix a i_3).bind fun v_5 =>
  (f34 v_5 left_2).bind fun o7 =>
  if o7 < 0 then
  some (.inr (.inr (-1)))
  else
  some (.inl (o7, w64 (i_3 + 1)))
  else
  some (.inr (.inl left_2))
def f13 (a : (List Relation)) (left : Int) : Option Int :=
 if (w64 (left - (a.length : Int))) < 0 then
 some (-1)
 else
 (iter (f13_0 a) (w64 (left - (a.length : Int)), 0)).bind fun o => match o with
 | .inl left_12 =>
 some left_12
 | .inr x_13 =>
 some x_13
def f47 (a : (List Int)) (left : Int) : Option Int :=
 if (w64 (left - (a.length : Int))) < 0 then
 some (-1)
 else
 some (w64 (left - (a.length : Int)))
def f46 (a : Fact) (left : Int) : Option Int :=
 (f47 a.Values left).bind fun o1 =>
 if o1 < 0 then
 some (-1)
 else
 some o1
def f21_0 (a : (List Fact)) : Int × Int → Option ((Int × Int) ⊕ (Int ⊕ Int))
 | (left_2, i_3) =>
  if i_3 < (a.length : Int) then
  (ix a i_3).bind fun v_5 =>
  (f46 v_5 left_2).bind fun o7 =>
  if o7 < 0 then
  some (.inr (.inr (-1)))
  else
  some (.inl (o7, w64 (i_3 + 1)))
  else
  some (.inr (.inl left_2))
def f21 (a : (List Fact)) (left : Int) : Option Int :=
 if (w64 (left - (a.length : Int))) < 0 then
 some (-1)
 else
 (iter (f21_0 a) (w64 (left - (a.length : Int)), 0)).bind fun o => match o with
 | .inl left_12 =>
 some left_12
 | .inr x_13 =>
 some x_13
def f5 (a : Database) (left : Int) : Option Int :=
 (f13 a.Relations left).bind fun o1 =>
 if o1 < 0 then
 some (-1)
 else
 (f21 a.Facts o1).bind fun o4 =>
 if o4 < 0 then
 some (-1)
 else
 some o4
def f22 (a : DerivationStep) (left : Int) : Option Int :=
 (f47 a.Facts left).bind fun o1 =>
 if o1 < 0 then
 some (-1)
 else
 some o1
def f6_0 (a : (List DerivationStep)) : Int × Int → Option ((Int × Int) ⊕ (Int ⊕ Int))
 | (left_2, i_3) =>
  if i_3 < (a.length : Int) then
  (ix a i_3).bind fun v_5 =>
  (f22 v_5 left_2).bind fun o7 =>
  if o7 < 0 then
  some (.inr (.inr (-1)))
  else
  some (.inl (o7, w64 (i_3 + 1)))
  else
  some (.inr (.inl left_2))
def f6 (a : (List DerivationStep)) (left : Int) : Option Int :=
 if (w64 (left - (a.length : Int))) < 0 then
 some (-1)
 else
 (iter (f6_0 a) (w64 (left - (a.length : Int)), 0)).bind fun o => match o with
 | .inl left_12 =>
 some left_12
 | .inr x_13 =>
 some x_13
def f39 (a : Relation) : Option Relation :=
 some a
def f16_0 (a : (List Relation)) : (List Relation) × Int → Option (((List Relation) × Int) ⊕ (List Relation))
 | (out_3, i_4) =>
  if i_4 < (a.length : Int) then
  (ix a i_4).bind fun v_6 =>
  (f39 v_6).bind fun o8 =>
  (ix out_3 i_4).bind fun v_10 =>
  some (.inl ((out_3.set i_4.toNat o8), w64 (i_4 + 1)))
  else
  some (.inr out_3)
def f16 (a : (List Relation)) : Option (List Relation) :=
 (mkl 32 (a.length : Int) ({ Name := [], Arity := 0, KeyLength := 0 } : Relation)).bind fun l_1 =>
 (iter (f16_0 a) (l_1, 0)).bind fun out_15 =>
 some out_15
def f54_0 (a : (List Int)) : (List Int) × Int → Option (((List Int) × Int) ⊕ (List Int))
 | (out_3, i_4) =>
  if i_4 < (a.length : Int) then
  (ix a i_4).bind fun v_6 =>
  (ix out_3 i_4).bind fun v_8 =>
  some (.inl ((out_3.set i_4.toNat v_6), w64 (i_4 + 1)))
  else
  some (.inr out_3)
def f54 (a : (List Int)) : Option (List Int) :=
 (mkl 8 (a.length : Int) 0).bind fun l_1 =>
 (iter (f54_0 a) (l_1, 0)).bind fun out_13 =>
 some out_13
def f53 (a : Fact) : Option Fact :=
 (f54 a.Values).bind fun o1 =>
 some ({ Relation := a.Relation, Values := o1 } : Fact)
def f26_0 (a : (List Fact)) : (List Fact) × Int → Option (((List Fact) × Int) ⊕ (List Fact))
 | (out_3, i_4) =>
  if i_4 < (a.length : Int) then
  (ix a i_4).bind fun v_6 =>
  (f53 v_6).bind fun o8 =>
  (ix out_3 i_4).bind fun v_10 =>
  some (.inl ((out_3.set i_4.toNat o8), w64 (i_4 + 1)))
  else
  some (.inr out_3)
def f26 (a : (List Fact)) : Option (List Fact) :=
 (mkl 32 (a.length : Int) (({ Relation := 0, Values := [] } : Fact) : Fact)).bind fun l_1 =>
 (iter (f26_0 a) (l_1, 0)).bind fun out_15 =>
 some out_15
def f8 (a : Database) : Option Database :=
 (f16 a.Relations).bind fun o1 =>
 (f26 a.Facts).bind fun o3 =>
 some ({ Relations := o1, Facts := o3 } : Database)
def f27 (a : DerivationStep) : Option DerivationStep :=
 (f54 a.Facts).bind fun o1 =>
 some ({ Facts := o1, Block := a.Block } : DerivationStep)
def f9_0 (a : (List DerivationStep)) : (List DerivationStep) × Int → Option (((List DerivationStep) × Int) ⊕ (List DerivationStep))
 | (out_3, i_4) =>
  if i_4 < (a.length : Int) then
  (ix a i_4).bind fun v_6 =>
  (f27 v_6).bind fun o8 =>
  (ix out_3 i_4).bind fun v_10 =>
  some (.inl ((out_3.set i_4.toNat o8), w64 (i_4 + 1)))
  else
  some (.inr out_3)
def f9 (a : (List DerivationStep)) : Option (List DerivationStep) :=
 (mkl 32 (a.length : Int) (({ Facts := [], Block := 0 } : DerivationStep) : DerivationStep)).bind fun l_1 =>
 (iter (f9_0 a) (l_1, 0)).bind fun out_15 =>
 some out_15
def f67 (x : Int) (low : Int) (high : Int) : Option Bool :=
 (((if x ≥ low then
 some (decide (x ≤ high))
 else
 some false) : Option (Bool))).bind fun x_1 =>
 some x_1
def f83 (s0 : Relation) : Option Bool :=
 (((if (s0.Name.length : Int) = 1 then
 (ix s0.Name 0).bind fun c_4 =>
 (((if (c_4.toNat : Int) ≥ 97 then
 (((if (c_4.toNat : Int) ≤ 122 then
 (f67 s0.Arity 1 3).bind fun o12 =>
 (((if o12 = true then
 (f67 s0.KeyLength 0 s0.Arity).bind fun o17 =>
 some o17
 else
 some false) : Option (Bool))).bind fun x_14 =>
 some x_14
 else
 some false) : Option (Bool))).bind fun x_9 =>
 some x_9
 else
 some false) : Option (Bool))).bind fun x_6 =>
 some x_6
 else
 some false) : Option (Bool))).bind fun x_1 =>
 some x_1
def f50_0 (l : (List Relation)) : Int → Option (Int ⊕ (Unit ⊕ Bool))
 | i_1 =>
  if i_1 < (l.length : Int) then
  (ix l i_1).bind fun v_3 =>
  (f83 v_3).bind fun o5 =>
  (((if ¬ (o5 = true) then
  some true
  else
  (((if i_1 > 0 then
  (ix l (w64 (i_1 - 1))).bind fun v_13 =>
  some (!(Op.bytesLess v_13.Name v_3.Name))
  else
  some false) : Option (Bool))).bind fun x_10 =>
  some x_10) : Option (Bool))).bind fun x_7 =>
  if x_7 = true then
  some (.inr (.inr false))
  else
  some (.inl (w64 (i_1 + 1)))
  else
  some (.inr (.inl ()))
def f50 (l : (List Relation)) : Option Bool :=
 (iter (f50_0 l) 0).bind fun o => match o with
 | .inl _ =>
 some (decide ((l.length : Int) ≤ 4))
 | .inr x_18 =>
 some x_18
def f48_0 (f : Fact) : Int → Option (Int ⊕ (Unit ⊕ Bool))
 | i_14 =>
  if i_14 < (f.Values.length : Int) then
  (ix f.Values i_14).bind fun v_16 =>
  (f67 v_16 0 9).bind fun o18 =>
  if ¬ (o18 = true) then
  some (.inr (.inr false))
  else
  some (.inl (w64 (i_14 + 1)))
  else
  some (.inr (.inl ()))
def f48 (l : (List Relation)) (f : Fact) : Option Bool :=
 (f50 l).bind fun o1 =>
 (((if ¬ (o1 = true) then
 some true
 else
 (f67 f.Relation 0 (w64 ((l.length : Int) - 1))).bind fun o6 =>
 (((if ¬ (o6 = true) then
 some true
 else
 (ix l f.Relation).bind fun v_11 =>
 some (decide ((f.Values.length : Int) ≠ v_11.Arity))) : Option (Bool))).bind fun x_8 =>
 some x_8) : Option (Bool))).bind fun x_3 =>
 if x_3 = true then
 some false
 else
 (iter (f48_0 f) 0).bind fun o => match o with
 | .inl _ =>
 some true
 | .inr x_23 =>
 some x_23
def f82_0 (a : (List Int)) (b : (List Int)) : Int → Option (Int ⊕ (Unit ⊕ Int))
 | i_1 =>
  (((if i_1 < (a.length : Int) then
  some (decide (i_1 < (b.length : Int)))
  else
  some false) : Option (Bool))).bind fun x_2 =>
  if x_2 = true then
  (ix a i_1).bind fun v_6 =>
  (ix b i_1).bind fun v_8 =>
  if v_6 < v_8 then
  some (.inr (.inr (-1)))
  else
  if v_6 > v_8 then
  some (.inr (.inr 1))
  else
  some (.inl (w64 (i_1 + 1)))
  else
  some (.inr (.inl ()))
def f82 (a : (List Int)) (b : (List Int)) : Option Int :=
 (iter (f82_0 a b) 0).bind fun o => match o with
 | .inl _ =>
 if (a.length : Int) < (b.length : Int) then
 some (-1)
 else
 if (a.length : Int) > (b.length : Int) then
 some 1
 else
 some 0
 | .inr x_14 =>
 some x_14
def f49 (a : Fact) (b : Fact) : Option Int :=
 if a.Relation < b.Relation then
 some (-1)
 else
 if a.Relation > b.Relation then
 some 1
 else
 (f82 a.Values b.Values).bind fun o3 =>
 some o3
def f23_0 (d : Database) : Int → Option (Int ⊕ (Unit ⊕ Bool))
 | i_1 =>
  if i_1 < (d.Facts.length : Int) then
  (ix d.Facts i_1).bind fun v_3 =>
  (f48 d.Relations v_3).bind fun o5 =>
  (((if ¬ (o5 = true) then
  some true
  else
  (((if i_1 > 0 then
  (ix d.Facts (w64 (i_1 - 1))).bind fun v_13 =>
  (f49 v_13 v_3).bind fun o15 =>
  some (decide (o15 ≥ 0))
  else
  some false) : Option (Bool))).bind fun x_10 =>
  some x_10) : Option (Bool))).bind fun x_7 =>
  if x_7 = true then
  some (.inr (.inr false))
  else
  some (.inl (w64 (i_1 + 1)))
  else
  some (.inr (.inl ()))
def f23 (d : Database) : Option Bool :=
 (iter (f23_0 d) 0).bind fun o => match o with
 | .inl _ =>
 (f50 d.Relations).bind fun o21 =>
 (((if o21 = true then
 some (decide ((d.Facts.length : Int) ≤ 14))
 else
 some false) : Option (Bool))).bind fun x_23 =>
 some x_23
 | .inr x_20 =>
 some x_20
def f51_0 (d : Database) (l : (List Int)) : Int → Option (Int ⊕ (Unit ⊕ Bool))
 | i_1 =>
  if i_1 < (l.length : Int) then
  (ix l i_1).bind fun v_3 =>
  (f67 v_3 0 (w64 ((d.Facts.length : Int) - 1))).bind fun o5 =>
  (((if ¬ (o5 = true) then
  some true
  else
  (((if i_1 > 0 then
  (ix l (w64 (i_1 - 1))).bind fun v_13 =>
  some (decide (v_3 ≤ v_13))
  else
  some false) : Option (Bool))).bind fun x_10 =>
  some x_10) : Option (Bool))).bind fun x_7 =>
  if x_7 = true then
  some (.inr (.inr false))
  else
  some (.inl (w64 (i_1 + 1)))
  else
  some (.inr (.inl ()))
def f51 (d : Database) (l : (List Int)) : Option Bool :=
 (iter (f51_0 d l) 0).bind fun o => match o with
 | .inl _ =>
 some true
 | .inr x_18 =>
 some x_18
def f25_0 : Int × (List UInt8) → Option ((Int × (List UInt8)) ⊕ (List UInt8))
 | (n_2, out_3) =>
  if n_2 ≠ 0 then
  (((if (n_2.tmod 10) < 0 then
  some (w64 (-(n_2.tmod 10)))
  else
  some (n_2.tmod 10)) : Option Int)).bind fun d_8 =>
  (cat ([UInt8.ofNat (w8 (w64 (48 + d_8))).toNat]) out_3).bind fun s_9 =>
  some (.inl (w64 (n_2.tdiv 10), s_9))
  else
  some (.inr out_3)
def f25 (n0 : Int) : Option (List UInt8) :=
 if n0 = 0 then
 some ([48])
 else
 (iter (f25_0) (n0, [])).bind fun out_13 =>
 if n0 < 0 then
 (cat ([45]) out_13).bind fun s_15 =>
 some s_15
 else
 some out_13
def f52_0 (l : (List Relation)) (f : Fact) : (List UInt8) × Int → Option (((List UInt8) × Int) ⊕ (List UInt8))
 | (s_6, i_7) =>
  if i_7 < (f.Values.length : Int) then
  (ix l f.Relation).bind fun v_9 =>
  (((if i_7 = v_9.KeyLength then
  (cat s_6 ([124])).bind fun s_14 =>
  some s_14
  else
  some s_6) : Option (List UInt8))).bind fun s_16 =>
  (ix f.Values i_7).bind fun v_17 =>
  (f25 v_17).bind fun o19 =>
  (cat s_16 o19).bind fun s_21 =>
  some (.inl (s_21, w64 (i_7 + 1)))
  else
  some (.inr s_6)
def f52 (l : (List Relation)) (f : Fact) : Option (List UInt8) :=
 (f48 l f).bind fun o1 =>
 if ¬ (o1 = true) then
 some ([])
 else
 (ix l f.Relation).bind fun v_4 =>
 (iter (f52_0 l f) (v_4.Name, 0)).bind fun s_25 =>
 some s_25
def f24_0 (d : Database) (l : (List Int)) : (List UInt8) × Int → Option (((List UInt8) × Int) ⊕ (List UInt8))
 | (s_1, i_2) =>
  (((if i_2 < (l.length : Int) then
  (f23 d).bind fun o6 =>
  (((if o6 = true then
  (f51 d l).bind fun o11 =>
  some o11
  else
  some false) : Option (Bool))).bind fun x_8 =>
  some x_8
  else
  some false) : Option (Bool))).bind fun x_3 =>
  if x_3 = true then
  (((if i_2 > 0 then
  (cat s_1 ([32])).bind fun s_17 =>
  some s_17
  else
  some s_1) : Option (List UInt8))).bind fun s_19 =>
  (ix l i_2).bind fun v_20 =>
  (ix d.Facts v_20).bind fun v_22 =>
  (f52 d.Relations v_22).bind fun o24 =>
  (cat s_19 o24).bind fun s_26 =>
  some (.inl (s_26, w64 (i_2 + 1)))
  else
  some (.inr s_1)
def f24 (d : Database) (l : (List Int)) : Option (List UInt8) :=
 (iter (f24_0 d l) ([], 0)).bind fun s_30 =>
 some s_30
def f7_0 (d : Database) (l : (List DerivationStep)) : (List UInt8) × Int → Option (((List UInt8) × Int) ⊕ (List UInt8))
 | (s_1, i_2) =>
  (((if i_2 < (l.length : Int) then
  (f23 d).bind fun o6 =>
  some o6
  else
  some false) : Option (Bool))).bind fun x_3 =>
  if x_3 = true then
  (((if i_2 > 0 then
  (cat s_1 ([32])).bind fun s_12 =>
  some s_12
  else
  some s_1) : Option (List UInt8))).bind fun s_14 =>
  (cat s_14 ([123])).bind fun s_15 =>
  (ix l i_2).bind fun v_17 =>
  (f24 d v_17.Facts).bind fun o19 =>
  (cat s_15 o19).bind fun s_21 =>
  (cat s_21 ([125])).bind fun s_23 =>
  (((if v_17.Block ≥ 0 then
  (cat s_23 ([98, 121])).bind fun s_28 =>
  (f25 v_17.Block).bind fun o30 =>
  (cat s_28 o30).bind fun s_32 =>
  some s_32
  else
  some s_23) : Option (List UInt8))).bind fun s_34 =>
  some (.inl (s_34, w64 (i_2 + 1)))
  else
  some (.inr s_1)
def f7 (d : Database) (l : (List DerivationStep)) : Option (List UInt8) :=
 (iter (f7_0 d l) ([], 0)).bind fun s_37 =>
 some s_37
def f73 (n0 : Int) (low : Int) (high : Int) : Option Bool :=
 (((if low ≤ n0 then
 some (decide (n0 ≤ high))
 else
 some false) : Option (Bool))).bind fun x_1 =>
 some x_1
def f84 (relation : Relation) : Option Bool :=
 (((if (relation.Name.length : Int) = 1 then
 (ix relation.Name 0).bind fun c_4 =>
 (((if (c_4.toNat : Int) ≥ 97 then
 (((if (c_4.toNat : Int) ≤ 122 then
 (f73 relation.Arity 1 3).bind fun o12 =>
 (((if o12 = true then
 (f73 relation.KeyLength 0 relation.Arity).bind fun o17 =>
 some o17
 else
 some false) : Option (Bool))).bind fun x_14 =>
 some x_14
 else
 some false) : Option (Bool))).bind fun x_9 =>
 some x_9
 else
 some false) : Option (Bool))).bind fun x_6 =>
 some x_6
 else
 some false) : Option (Bool))).bind fun x_1 =>
 some x_1
def f55_0 (relations : (List Relation)) : Int → Option (Int ⊕ (Unit ⊕ Bool))
 | x_1 =>
  if x_1 < (relations.length : Int) then
  (ix relations x_1).bind fun v_3 =>
  (f84 v_3).bind fun o5 =>
  (((if ¬ (o5 = true) then
  some true
  else
  (((if x_1 > 0 then
  (ix relations (w64 (x_1 - 1))).bind fun v_13 =>
  some (!(Op.bytesLess v_13.Name v_3.Name))
  else
  some false) : Option (Bool))).bind fun x_10 =>
  some x_10) : Option (Bool))).bind fun x_7 =>
  if x_7 = true then
  some (.inr (.inr false))
  else
  some (.inl (w64 (x_1 + 1)))
  else
  some (.inr (.inl ()))
def f55 (relations : (List Relation)) : Option Bool :=
 (iter (f55_0 relations) 0).bind fun o => match o with
 | .inl _ =>
 some (decide ((relations.length : Int) ≤ 4))
 | .inr x_18 =>
 some x_18
def f96_0 (s0 : (List Int)) (f : Int → Option Bool) : Int → Option (Int ⊕ (Unit ⊕ Int))
 | x_1 =>
  if x_1 < (s0.length : Int) then
  (ix s0 x_1).bind fun v_3 =>
  (f v_3).bind fun o5 =>
  if o5 = true then
  some (.inr (.inr x_1))
  else
  some (.inl (w64 (x_1 + 1)))
  else
  some (.inr (.inl ()))
def f96 (s0 : (List Int)) (f : Int → Option Bool) : Option Int :=
 (iter (f96_0 s0 f) 0).bind fun o => match o with
 | .inl _ =>
 some (-1)
 | .inr x_10 =>
 some x_10
def f74 (s0 : (List Int)) (f : Int → Option Bool) : Option Bool :=
 (f96 s0 f).bind fun o1 =>
 some (decide (o1 ≥ 0))
def f101 (v : Int) : Option Bool :=
 (f73 v 0 9).bind fun o1 =>
 some (decide (¬ (o1 = true)))
def f85 (list : (List Int)) : Option Bool :=
 (f74 list (fun x0 => f101 x0)).bind fun o1 =>
 some (decide (¬ (o1 = true)))
def f56 (relations : (List Relation)) (fact : Fact) : Option Bool :=
 (f73 fact.Relation 0 (w64 ((relations.length : Int) - 1))).bind fun o1 =>
 (((if o1 = true then
 (ix relations fact.Relation).bind fun v_6 =>
 (((if (fact.Values.length : Int) = v_6.Arity then
 (f85 fact.Values).bind fun o11 =>
 some o11
 else
 some false) : Option (Bool))).bind fun x_8 =>
 some x_8
 else
 some false) : Option (Bool))).bind fun x_3 =>
 some x_3
def f86 (a : Int) (b : Int) : Option Int :=
 if a < b then
 some (-1)
 else
 if a > b then
 some 1
 else
 some 0
def f111 (x : Int) : Option Bool :=
 some (decide (x ≠ x))
def f102 (x : Int) (y : Int) : Option Int :=
 (f111 x).bind fun o1 =>
 (f111 y).bind fun o3 =>
 if o1 = true then
 if o3 = true then
 some 0
 else
 some (-1)
 else
 if o3 = true then
 some 1
 else
 if x < y then
 some (-1)
 else
 if x > y then
 some 1
 else
 some 0
def f87_0 (s1 : (List Int)) (s2 : (List Int)) : Int → Option (Int ⊕ (Unit ⊕ Int))
 | x_1 =>
  if x_1 < (s1.length : Int) then
  (ix s1 x_1).bind fun v_3 =>
  if x_1 ≥ (s2.length : Int) then
  some (.inr (.inr 1))
  else
  (ix s2 x_1).bind fun v_6 =>
  (f102 v_3 v_6).bind fun o8 =>
  if o8 ≠ 0 then
  some (.inr (.inr o8))
  else
  some (.inl (w64 (x_1 + 1)))
  else
  some (.inr (.inl ()))
def f87 (s1 : (List Int)) (s2 : (List Int)) : Option Int :=
 (iter (f87_0 s1 s2) 0).bind fun o => match o with
 | .inl _ =>
 if (s1.length : Int) < (s2.length : Int) then
 some (-1)
 else
 some 0
 | .inr x_13 =>
 some x_13
def f57 (a : Fact) (b : Fact) : Option Int :=
 if a.Relation ≠ b.Relation then
 (f86 a.Relation b.Relation).bind fun o2 =>
 some o2
 else
 (f87 a.Values b.Values).bind fun o4 =>
 some o4
def f28_0 (db : Database) : Int → Option (Int ⊕ (Unit ⊕ Bool))
 | x_7 =>
  if x_7 < (db.Facts.length : Int) then
  (ix db.Facts x_7).bind fun v_9 =>
  (f56 db.Relations v_9).bind fun o11 =>
  (((if ¬ (o11 = true) then
  some true
  else
  (((if x_7 > 0 then
  (ix db.Facts (w64 (x_7 - 1))).bind fun v_19 =>
  (f57 v_19 v_9).bind fun o21 =>
  some (decide (o21 ≥ 0))
  else
  some false) : Option (Bool))).bind fun x_16 =>
  some x_16) : Option (Bool))).bind fun x_13 =>
  if x_13 = true then
  some (.inr (.inr false))
  else
  some (.inl (w64 (x_7 + 1)))
  else
  some (.inr (.inl ()))
def f28 (db : Database) : Option Bool :=
 (f55 db.Relations).bind fun o1 =>
 (((if ¬ (o1 = true) then
 some true
 else
 some (decide ((db.Facts.length : Int) > 14))) : Option (Bool))).bind fun x_3 =>
 if x_3 = true then
 some false
 else
 (iter (f28_0 db) 0).bind fun o => match o with
 | .inl _ =>
 some true
 | .inr x_26 =>
 some x_26
def f88_0 (indices : (List Int)) (n1 : Int) : Int → Option (Int ⊕ (Unit ⊕ Bool))
 | x_1 =>
  if x_1 < (indices.length : Int) then
  (ix indices x_1).bind fun v_3 =>
  (f73 v_3 0 (w64 (n1 - 1))).bind fun o5 =>
  (((if ¬ (o5 = true) then
  some true
  else
  (((if x_1 > 0 then
  (ix indices (w64 (x_1 - 1))).bind fun v_13 =>
  some (decide (v_13 ≥ v_3))
  else
  some false) : Option (Bool))).bind fun x_10 =>
  some x_10) : Option (Bool))).bind fun x_7 =>
  if x_7 = true then
  some (.inr (.inr false))
  else
  some (.inl (w64 (x_1 + 1)))
  else
  some (.inr (.inl ()))
def f88 (indices : (List Int)) (n1 : Int) : Option Bool :=
 (iter (f88_0 indices n1) 0).bind fun o => match o with
 | .inl _ =>
 some true
 | .inr x_18 =>
 some x_18
def f89_0 (db : Database) : (List Relation) × (List Fact) × Int → Option (((List Relation) × (List Fact) × Int) ⊕ ((List Relation) × (List Fact)))
 | (out_3, out_4, x_5) =>
  if x_5 < (db.Facts.length : Int) then
  (ix db.Facts x_5).bind fun v_7 =>
  (app 8 ([]) v_7.Values).bind fun l_9 =>
  (app 32 out_4 ([({ Relation := v_7.Relation, Values := l_9 } : Fact)])).bind fun l_11 =>
  some (.inl (out_3, l_11, w64 (x_5 + 1)))
  else
  some (.inr (out_3, out_4))
def f89 (db : Database) : Option Database :=
 (app 32 ([]) db.Relations).bind fun l_1 =>
 (iter (f89_0 db) (l_1, [], 0)).bind fun (out_15, out_16) =>
 some ({ Relations := out_15, Facts := out_16 } : Database)
def f58_0 (indices : (List Int)) (o9 : Database) : (List Relation) × (List Fact) × Int → Option (((List Relation) × (List Fact) × Int) ⊕ ((List Relation) × (List Fact)))
 | (out_11, out_12, x_13) =>
  if x_13 < (indices.length : Int) then
  (ix indices x_13).bind fun v_15 =>
  (ix o9.Facts v_15).bind fun v_17 =>
  (app 32 out_12 ([v_17])).bind fun l_19 =>
  some (.inl (out_11, l_19, w64 (x_13 + 1)))
  else
  some (.inr (out_11, out_12))
def f58 (db : Database) (indices : (List Int)) : Option (Database × Bool) :=
 (f28 db).bind fun o1 =>
 (((if ¬ (o1 = true) then
 some true
 else
 (f88 indices (db.Facts.length : Int)).bind fun o6 =>
 some (decide (¬ (o6 = true)))) : Option (Bool))).bind fun x_3 =>
 if x_3 = true then
 some (({ Relations := [], Facts := [] } : Database), false)
 else
 (f89 db).bind fun o9 =>
 (iter (f58_0 indices o9) (o9.Relations, [], 0)).bind fun (out_23, out_24) =>
 some (({ Relations := out_23, Facts := out_24 } : Database), true)
def f103 (relations : (List Relation)) (fact : Fact) : Option Bool :=
 (f55 relations).bind fun o1 =>
 (((if o1 = true then
 (f56 relations fact).bind fun o6 =>
 some o6
 else
 some false) : Option (Bool))).bind fun x_3 =>
 some x_3
def f60 (n : Int) : Option (List UInt8) := itoaN n
def f30 (n0 : Int) : Option (List UInt8) :=
 (f60 n0).bind fun o1 =>
 some o1
def f31 (xs : List (List UInt8)) (sep : List UInt8) : Option (List UInt8) := joinN xs sep
def f80 (parts : (List (List UInt8))) (at1 : Int) : Option (List UInt8) :=
 (cutL parts 0 at1).bind fun l_1 =>
 (f31 l_1 ([])).bind fun o3 =>
 (((if at1 < (parts.length : Int) then
 (cutL parts at1 parts.length).bind fun l_8 =>
 (f31 l_8 ([])).bind fun o10 =>
 (cat ([124]) o10).bind fun s_12 =>
 (cat o3 s_12).bind fun s_14 =>
 some s_14
 else
 some o3) : Option (List UInt8))).bind fun out_16 =>
 some out_16
def f90_0 (fact : Fact) : (List (List UInt8)) × Int → Option (((List (List UInt8)) × Int) ⊕ (List (List UInt8)))
 | (parts_4, x_5) =>
  if x_5 < (fact.Values.length : Int) then
  (ix fact.Values x_5).bind fun v_7 =>
  (f30 v_7).bind fun o9 =>
  (app 16 parts_4 ([o9])).bind fun l_11 =>
  some (.inl (l_11, w64 (x_5 + 1)))
  else
  some (.inr parts_4)
def f90 (relations : (List Relation)) (fact : Fact) : Option (List UInt8) :=
 (f103 relations fact).bind fun o1 =>
 if ¬ (o1 = true) then
 some ([])
 else
 (iter ((f90_0 fact)) ([], 0)).bind fun parts_15 =>
 (ix relations fact.Relation).bind fun v_16 =>
 (f80 parts_15 v_16.KeyLength).bind fun o18 =>
 (cat v_16.Name o18).bind fun s_20 =>
 some s_20
def f59_0 (db : Database) : (List (List UInt8)) × Int → Option (((List (List UInt8)) × Int) ⊕ (List (List UInt8)))
 | (facts_1, x_2) =>
  if x_2 < (db.Facts.length : Int) then
  (ix db.Facts x_2).bind fun v_4 =>
  (f90 db.Relations v_4).bind fun o6 =>
  (app 16 facts_1 ([o6])).bind fun l_8 =>
  some (.inl (l_8, w64 (x_2 + 1)))
  else
  some (.inr facts_1)
def f59 (db : Database) : Option (List UInt8) :=
 (iter (f59_0 db) ([], 0)).bind fun facts_12 =>
 (f31 facts_12 ([32])).bind fun o13 =>
 some o13
def f29 (db : Database) (indices : (List Int)) : Option (List UInt8) :=
 (f58 db indices).bind fun o1 =>
 if ¬ (o1.2 = true) then
 some ([])
 else
 (f59 o1.1).bind fun o4 =>
 some o4
def f10_0 (db : Database) (derivation : (List DerivationStep)) : (List (List UInt8)) × Int → Option (((List (List UInt8)) × Int) ⊕ (List (List UInt8)))
 | (out_4, x_5) =>
  if x_5 < (derivation.length : Int) then
  (ix derivation x_5).bind fun v_7 =>
  (f29 db v_7.Facts).bind fun o9 =>
  (cat ([123]) o9).bind fun s_11 =>
  (cat s_11 ([125])).bind fun s_13 =>
  (((if v_7.Block ≥ 0 then
  (f30 v_7.Block).bind fun o18 =>
  (cat ([98, 121]) o18).bind fun s_20 =>
  (cat s_13 s_20).bind fun s_22 =>
  some s_22
  else
  some s_13) : Option (List UInt8))).bind fun word_24 =>
  (app 16 out_4 ([word_24])).bind fun l_25 =>
  some (.inl (l_25, w64 (x_5 + 1)))
  else
  some (.inr out_4)
def f10 (db : Database) (derivation : (List DerivationStep)) : Option (List UInt8) :=
 (f28 db).bind fun o1 =>
 if ¬ (o1 = true) then
 some ([])
 else
 (iter (f10_0 db derivation) ([], 0)).bind fun out_29 =>
 (f31 out_29 ([32])).bind fun o30 =>
 some o30
def f44 (a : Relation) (b : Relation) : Option Bool :=
 if a.Name ≠ b.Name then
 some false
 else
 if a.Arity ≠ b.Arity then
 some false
 else
 if a.KeyLength ≠ b.KeyLength then
 some false
 else
 some true
def f19_0 (a : (List Relation)) (b : (List Relation)) : Int → Option (Int ⊕ (Unit ⊕ Bool))
 | i_2 =>
  if i_2 < (a.length : Int) then
  (ix a i_2).bind fun v_4 =>
  (ix b i_2).bind fun v_6 =>
  (f44 v_4 v_6).bind fun o8 =>
  if ¬ (o8 = true) then
  some (.inr (.inr false))
  else
  some (.inl (w64 (i_2 + 1)))
  else
  some (.inr (.inl ()))
def f19 (a : (List Relation)) (b : (List Relation)) : Option Bool :=
 if (a.length : Int) ≠ (b.length : Int) then
 some false
 else
 (iter (f19_0 a b) 0).bind fun o => match o with
 | .inl _ =>
 some true
 | .inr x_13 =>
 some x_13
def f65_0 (a : (List Int)) (b : (List Int)) : Int → Option (Int ⊕ (Unit ⊕ Bool))
 | i_2 =>
  if i_2 < (a.length : Int) then
  (ix a i_2).bind fun v_4 =>
  (ix b i_2).bind fun v_6 =>
  if v_4 ≠ v_6 then
  some (.inr (.inr false))
  else
  some (.inl (w64 (i_2 + 1)))
  else
  some (.inr (.inl ()))
def f65 (a : (List Int)) (b : (List Int)) : Option Bool :=
 if (a.length : Int) ≠ (b.length : Int) then
 some false
 else
 (iter (f65_0 a b) 0).bind fun o => match o with
 | .inl _ =>
 some true
 | .inr x_11 =>
 some x_11
def f64 (a : Fact) (b : Fact) : Option Bool :=
 if a.Relation ≠ b.Relation then
 some false
 else
 (f65 a.Values b.Values).bind fun o2 =>
 if ¬ (o2 = true) then
 some false
 else
 some true
def f32_0 (a : (List Fact)) (b : (List Fact)) : Int → Option (Int ⊕ (Unit ⊕ Bool))
 | i_2 =>
  if i_2 < (a.length : Int) then
  (ix a i_2).bind fun v_4 =>
  (ix b i_2).bind fun v_6 =>
  (f64 v_4 v_6).bind fun o8 =>
  if ¬ (o8 = true) then
  some (.inr (.inr false))
  else
  some (.inl (w64 (i_2 + 1)))
  else
  some (.inr (.inl ()))
def f32 (a : (List Fact)) (b : (List Fact)) : Option Bool :=
 if (a.length : Int) ≠ (b.length : Int) then
 some false
 else
 (iter (f32_0 a b) 0).bind fun o => match o with
 | .inl _ =>
 some true
 | .inr x_13 =>
 some x_13
def f11 (a : Database) (b : Database) : Option Bool :=
 (f19 a.Relations b.Relations).bind fun o1 =>
 if ¬ (o1 = true) then
 some false
 else
 (f32 a.Facts b.Facts).bind fun o4 =>
 if ¬ (o4 = true) then
 some false
 else
 some true
def f33 (a : DerivationStep) (b : DerivationStep) : Option Bool :=
 (f65 a.Facts b.Facts).bind fun o1 =>
 if ¬ (o1 = true) then
 some false
 else
 if a.Block ≠ b.Block then
 some false
 else
 some true
def f12_0 (a : (List DerivationStep)) (b : (List DerivationStep)) : Int → Option (Int ⊕ (Unit ⊕ Bool))
 | i_2 =>
  if i_2 < (a.length : Int) then
  (ix a i_2).bind fun v_4 =>
  (ix b i_2).bind fun v_6 =>
  (f33 v_4 v_6).bind fun o8 =>
  if ¬ (o8 = true) then
  some (.inr (.inr false))
  else
  some (.inl (w64 (i_2 + 1)))
  else
  some (.inr (.inl ()))
def f12 (a : (List DerivationStep)) (b : (List DerivationStep)) : Option Bool :=
 if (a.length : Int) ≠ (b.length : Int) then
 some false
 else
 (iter (f12_0 a b) 0).bind fun o => match o with
 | .inl _ =>
 some true
 | .inr x_13 =>
 some x_13
def f3 (aDb : Database) (aDerivation : (List DerivationStep)) : Option Bool :=
 (f5 aDb 1048576).bind fun o1 =>
 if o1 < 0 then
 some true
 else
 (f6 aDerivation o1).bind fun o4 =>
 if o4 < 0 then
 some true
 else
 (f8 aDb).bind fun o7 =>
 (f9 aDerivation).bind fun o9 =>
 (f7 o7 o9).bind fun o11 =>
 (f8 aDb).bind fun o13 =>
 (f9 aDerivation).bind fun o15 =>
 (f10 o13 o15).bind fun o17 =>
 if o17 ≠ o11 then
 some false
 else
 (f8 aDb).bind fun o20 =>
 (f11 o13 o20).bind fun o22 =>
 if ¬ (o22 = true) then
 some false
 else
 (f9 aDerivation).bind fun o25 =>
 (f12 o15 o25).bind fun o27 =>
 if ¬ (o27 = true) then
 some false
 else
 some true
end
end Go.Proofs.YtcllfkplpdppiaaDoorH
