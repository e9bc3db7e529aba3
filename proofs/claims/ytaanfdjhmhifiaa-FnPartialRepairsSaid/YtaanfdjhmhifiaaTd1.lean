import Derived.Test.YtaanfdjhmhifiaaX3
set_option linter.unusedVariables false
set_option linter.unusedSimpArgs false
set_option linter.defProp false
set_option linter.unusedSectionVars false
set_option maxRecDepth 100000
namespace Go.Proofs.YtaanfdjhmhifiaaH
open Go
noncomputable section
structure Relation where
 Name : (List UInt8)
 Arity : Int
 KeyLength : Int
 deriving DecidableEq, Inhabited
def eRelation : En Relation := ⟨3, fun _ a => [(.str a.Name), (.int .i64 a.Arity), (.int .i64 a.KeyLength)], fun b a => by cases b <;> rfl, by decide, fun b a => by cases b <;> simp [T.frz], fun a => by simp, fun a => by simp, fun b a => by cases b <;> simp⟩
@[simp] theorem eRelation_w : eRelation.w = 3 := rfl
@[simp] theorem eRelation_ct {a : Relation} : eRelation.c true a = [(.str a.Name), (.int .i64 a.Arity), (.int .i64 a.KeyLength)] := rfl
@[simp] theorem eRelation_cf {a : Relation} : eRelation.c false a = [(.str a.Name), (.int .i64 a.Arity), (.int .i64 a.KeyLength)] := rfl
@[simp] theorem arrRelation_len {b : Bool} {l : List Relation} : (arr eRelation b l).length = l.length * 3 := arr_len
@[simp] theorem eRelation_e (a : Relation) : Relation.mk a.Name a.Arity a.KeyLength = a := rfl
@[simp] def q0Relation {b l i o} := @arr_get2 _ eRelation b l i o 3 rfl
@[simp] def q1Relation {b l i} := @arr_get20 _ eRelation b l i 3 rfl
@[simp] def q2Relation {b l o} := @arr_get0 _ eRelation b l o 3 rfl
@[simp] def q3Relation {b l} := @arr_take0 _ eRelation b l 3 rfl
@[simp] def q4Relation {b l i o} := @arr_part _ eRelation b l i o 3 rfl
@[simp] def q5Relation {b l i o j} := @arr_part2 _ eRelation b l i o 3 j rfl
@[simp] def q6Relation {b l} := @arr_at2 _ eRelation b l 3 rfl
@[simp] def q7Relation {b l} := @arr_take2 _ eRelation b l 3 rfl
@[simp] def q8Relation {b l l' bs y} := @appT_w _ eRelation b l l' bs y 3 rfl
@[simp] def q10Relation {z0 z1 z2 n} := @rep_w _ eRelation true n ⟨z0, z1, z2⟩ [(.str z0), (.int .i64 z1), (.int .i64 z2)] rfl
@[simp] def q71Relation {b l} := @arr_tl _ eRelation b l 3 rfl
@[simp] def q70Relation {b l i} := @arr_tk _ eRelation b l i 3 rfl
@[simp] theorem q40Relation {b : Bool} {l' : List Relation} {bs : Nat} {y : Bool} (hb : bs ≠ 0) : appT 3 bs (.sl true y 3 0 []) (arr eRelation b l') = (app bs [] l').map fun v => .sl true y 3 0 (arr eRelation true v) := appT_w0 (E := eRelation) (b := b) rfl hb
@[simp] theorem q50Relation {l : List Relation} {i : Nat} {z : (List UInt8)} (h : i < l.length) : layT (arr eRelation true l) (i * 3) 1 [(.str z)] = arr eRelation true (l.set i ⟨z, (l[i]?.getD default).Arity, (l[i]?.getD default).KeyLength⟩) := by rw [List.getElem?_eq_getElem h]; exact lay_cell (E := eRelation) (b := true) (i := i) (o := 0) ⟨z, l[i].Arity, l[i].KeyLength⟩ (List.getElem?_eq_getElem h) (by decide) rfl
@[simp] theorem q60Relation {l : List Relation} {i : Nat} {z : (List UInt8)} (h : i < l.length) : (arr eRelation true l).set (i * 3) (.str z) = arr eRelation true (l.set i ⟨z, (l[i]?.getD default).Arity, (l[i]?.getD default).KeyLength⟩) := by rw [List.getElem?_eq_getElem h]; exact set_cell (E := eRelation) (b := true) (i := i) (o := 0) ⟨z, l[i].Arity, l[i].KeyLength⟩ (List.getElem?_eq_getElem h) (by decide) rfl
@[simp] theorem q51Relation {l : List Relation} {i : Nat} {z : Int} (h : i < l.length) : layT (arr eRelation true l) (i * 3 + 1) 1 [(.int .i64 z)] = arr eRelation true (l.set i ⟨(l[i]?.getD default).Name, z, (l[i]?.getD default).KeyLength⟩) := by rw [List.getElem?_eq_getElem h]; exact lay_cell (E := eRelation) (b := true) (i := i) (o := 1) ⟨l[i].Name, z, l[i].KeyLength⟩ (List.getElem?_eq_getElem h) (by decide) rfl
@[simp] theorem q61Relation {l : List Relation} {i : Nat} {z : Int} (h : i < l.length) : (arr eRelation true l).set (i * 3 + 1) (.int .i64 z) = arr eRelation true (l.set i ⟨(l[i]?.getD default).Name, z, (l[i]?.getD default).KeyLength⟩) := by rw [List.getElem?_eq_getElem h]; exact set_cell (E := eRelation) (b := true) (i := i) (o := 1) ⟨l[i].Name, z, l[i].KeyLength⟩ (List.getElem?_eq_getElem h) (by decide) rfl
@[simp] theorem q52Relation {l : List Relation} {i : Nat} {z : Int} (h : i < l.length) : layT (arr eRelation true l) (i * 3 + 2) 1 [(.int .i64 z)] = arr eRelation true (l.set i ⟨(l[i]?.getD default).Name, (l[i]?.getD default).Arity, z⟩) := by rw [List.getElem?_eq_getElem h]; exact lay_cell (E := eRelation) (b := true) (i := i) (o := 2) ⟨l[i].Name, l[i].Arity, z⟩ (List.getElem?_eq_getElem h) (by decide) rfl
@[simp] theorem q62Relation {l : List Relation} {i : Nat} {z : Int} (h : i < l.length) : (arr eRelation true l).set (i * 3 + 2) (.int .i64 z) = arr eRelation true (l.set i ⟨(l[i]?.getD default).Name, (l[i]?.getD default).Arity, z⟩) := by rw [List.getElem?_eq_getElem h]; exact set_cell (E := eRelation) (b := true) (i := i) (o := 2) ⟨l[i].Name, l[i].Arity, z⟩ (List.getElem?_eq_getElem h) (by decide) rfl
@[simp] def q20Relation {b z0 z1 z2 l bs y} := @appT_1w _ eRelation b l bs y 3 rfl ⟨z0, z1, z2⟩ [(.str z0), (.int .i64 z1), (.int .i64 z2)] rfl
@[simp] def q23Relation {b z0 z1 z2 l' bs y} := @appT_11 _ eRelation b l' bs y 3 rfl ⟨z0, z1, z2⟩ [(.str z0), (.int .i64 z1), (.int .i64 z2)] rfl
@[simp] def q22Relation {b z0 z1 z2 bs y} := @appT_10 _ eRelation b bs y 3 rfl ⟨z0, z1, z2⟩ [(.str z0), (.int .i64 z1), (.int .i64 z2)] rfl
@[simp] def q21Relation {b z0 z1 z2 l i} := @lay_w _ eRelation b l i 3 rfl ⟨z0, z1, z2⟩ [(.str z0), (.int .i64 z1), (.int .i64 z2)] rfl
structure Fact where
 Relation : Int
 Values : (List Int)
 deriving DecidableEq, Inhabited
def eFact : En Fact := ⟨2, fun b a => if b then [(.int .i64 a.Relation), (osl eI true a.Values)] else [(.int .i64 a.Relation), (ssl eI a.Values)], fun b a => by cases b <;> rfl, by decide, fun b a => by cases b <;> simp [T.frz], fun a => by simp, fun a => by simp, fun b a => by cases b <;> simp⟩
@[simp] theorem eFact_w : eFact.w = 2 := rfl
@[simp] theorem eFact_ct {a : Fact} : eFact.c true a = [(.int .i64 a.Relation), (osl eI true a.Values)] := rfl
@[simp] theorem eFact_cf {a : Fact} : eFact.c false a = [(.int .i64 a.Relation), (ssl eI a.Values)] := rfl
@[simp] theorem arrFact_len {b : Bool} {l : List Fact} : (arr eFact b l).length = l.length * 2 := arr_len
@[simp] theorem eFact_e (a : Fact) : Fact.mk a.Relation a.Values = a := rfl
@[simp] def q0Fact {b l i o} := @arr_get2 _ eFact b l i o 2 rfl
@[simp] def q1Fact {b l i} := @arr_get20 _ eFact b l i 2 rfl
@[simp] def q2Fact {b l o} := @arr_get0 _ eFact b l o 2 rfl
@[simp] def q3Fact {b l} := @arr_take0 _ eFact b l 2 rfl
@[simp] def q4Fact {b l i o} := @arr_part _ eFact b l i o 2 rfl
@[simp] def q5Fact {b l i o j} := @arr_part2 _ eFact b l i o 2 j rfl
@[simp] def q6Fact {b l} := @arr_at2 _ eFact b l 2 rfl
@[simp] def q7Fact {b l} := @arr_take2 _ eFact b l 2 rfl
@[simp] def q8Fact {b l l' bs y} := @appT_w _ eFact b l l' bs y 2 rfl
@[simp] def q10Fact {z0 z1 n} := @rep_w _ eFact true n ⟨z0, z1⟩ [(.int .i64 z0), (.sl true true 1 0 (arr eI true z1))] rfl
@[simp] def q71Fact {b l} := @arr_tl _ eFact b l 2 rfl
@[simp] def q70Fact {b l i} := @arr_tk _ eFact b l i 2 rfl
@[simp] def q40Fact {b l' bs y} := @appT_w0 _ eFact b l' bs y 2 rfl
@[simp] theorem q50Fact {l : List Fact} {i : Nat} {z : Int} (h : i < l.length) : layT (arr eFact true l) (i * 2) 1 [(.int .i64 z)] = arr eFact true (l.set i ⟨z, (l[i]?.getD default).Values⟩) := by rw [List.getElem?_eq_getElem h]; exact lay_cell (E := eFact) (b := true) (i := i) (o := 0) ⟨z, l[i].Values⟩ (List.getElem?_eq_getElem h) (by decide) rfl
@[simp] theorem q60Fact {l : List Fact} {i : Nat} {z : Int} (h : i < l.length) : (arr eFact true l).set (i * 2) (.int .i64 z) = arr eFact true (l.set i ⟨z, (l[i]?.getD default).Values⟩) := by rw [List.getElem?_eq_getElem h]; exact set_cell (E := eFact) (b := true) (i := i) (o := 0) ⟨z, l[i].Values⟩ (List.getElem?_eq_getElem h) (by decide) rfl
@[simp] theorem q51Fact {l : List Fact} {i : Nat} {z : (List Int)} (h : i < l.length) : layT (arr eFact true l) (i * 2 + 1) 1 [(.sl true true 1 0 (arr eI true z))] = arr eFact true (l.set i ⟨(l[i]?.getD default).Relation, z⟩) := by rw [List.getElem?_eq_getElem h]; exact lay_cell (E := eFact) (b := true) (i := i) (o := 1) ⟨l[i].Relation, z⟩ (List.getElem?_eq_getElem h) (by decide) rfl
@[simp] theorem q61Fact {l : List Fact} {i : Nat} {z : (List Int)} (h : i < l.length) : (arr eFact true l).set (i * 2 + 1) (.sl true true 1 0 (arr eI true z)) = arr eFact true (l.set i ⟨(l[i]?.getD default).Relation, z⟩) := by rw [List.getElem?_eq_getElem h]; exact set_cell (E := eFact) (b := true) (i := i) (o := 1) ⟨l[i].Relation, z⟩ (List.getElem?_eq_getElem h) (by decide) rfl
@[simp] def q20Fact {z0 z1 l bs y} := @appT_1w _ eFact true l bs y 2 rfl ⟨z0, z1⟩ [(.int .i64 z0), (.sl true true 1 0 (arr eI true z1))] rfl
@[simp] def q23Fact {z0 z1 l' bs y} := @appT_11 _ eFact true l' bs y 2 rfl ⟨z0, z1⟩ [(.int .i64 z0), (.sl true true 1 0 (arr eI true z1))] rfl
@[simp] def q22Fact {z0 z1 bs y} := @appT_10 _ eFact true bs y 2 rfl ⟨z0, z1⟩ [(.int .i64 z0), (.sl true true 1 0 (arr eI true z1))] rfl
@[simp] def q21Fact {z0 z1 l i} := @lay_w _ eFact true l i 2 rfl ⟨z0, z1⟩ [(.int .i64 z0), (.sl true true 1 0 (arr eI true z1))] rfl
@[simp] def q30Fact {z0 z1 l bs y} := @appT_1w _ eFact false l bs y 2 rfl ⟨z0, z1⟩ [(.int .i64 z0), (.sl false false 1 1 (arr eI false z1))] rfl
@[simp] def q33Fact {z0 z1 l' bs y} := @appT_11 _ eFact false l' bs y 2 rfl ⟨z0, z1⟩ [(.int .i64 z0), (.sl false false 1 1 (arr eI false z1))] rfl
@[simp] def q32Fact {z0 z1 bs y} := @appT_10 _ eFact false bs y 2 rfl ⟨z0, z1⟩ [(.int .i64 z0), (.sl false false 1 1 (arr eI false z1))] rfl
@[simp] def q31Fact {z0 z1 l i} := @lay_w _ eFact false l i 2 rfl ⟨z0, z1⟩ [(.int .i64 z0), (.sl false false 1 1 (arr eI false z1))] rfl
structure L1Cur where
 b : (List Int)
 i : Int
 h : Int
 deriving DecidableEq, Inhabited
def eL1Cur : En L1Cur := ⟨3, fun b a => if b then [(osl eU true a.b), (.int .i64 a.i), (.int .i64 a.h)] else [(ssl eU a.b), (.int .i64 a.i), (.int .i64 a.h)], fun b a => by cases b <;> rfl, by decide, fun b a => by cases b <;> simp [T.frz], fun a => by simp, fun a => by simp, fun b a => by cases b <;> simp⟩
@[simp] theorem eL1Cur_w : eL1Cur.w = 3 := rfl
@[simp] theorem eL1Cur_ct {a : L1Cur} : eL1Cur.c true a = [(osl eU true a.b), (.int .i64 a.i), (.int .i64 a.h)] := rfl
@[simp] theorem eL1Cur_cf {a : L1Cur} : eL1Cur.c false a = [(ssl eU a.b), (.int .i64 a.i), (.int .i64 a.h)] := rfl
@[simp] theorem arrL1Cur_len {b : Bool} {l : List L1Cur} : (arr eL1Cur b l).length = l.length * 3 := arr_len
@[simp] theorem eL1Cur_e (a : L1Cur) : L1Cur.mk a.b a.i a.h = a := rfl
@[simp] def q0L1Cur {b l i o} := @arr_get2 _ eL1Cur b l i o 3 rfl
@[simp] def q1L1Cur {b l i} := @arr_get20 _ eL1Cur b l i 3 rfl
@[simp] def q2L1Cur {b l o} := @arr_get0 _ eL1Cur b l o 3 rfl
@[simp] def q3L1Cur {b l} := @arr_take0 _ eL1Cur b l 3 rfl
@[simp] def q4L1Cur {b l i o} := @arr_part _ eL1Cur b l i o 3 rfl
@[simp] def q5L1Cur {b l i o j} := @arr_part2 _ eL1Cur b l i o 3 j rfl
@[simp] def q6L1Cur {b l} := @arr_at2 _ eL1Cur b l 3 rfl
@[simp] def q7L1Cur {b l} := @arr_take2 _ eL1Cur b l 3 rfl
@[simp] def q8L1Cur {b l l' bs y} := @appT_w _ eL1Cur b l l' bs y 3 rfl
@[simp] def q10L1Cur {z0 z1 z2 n} := @rep_w _ eL1Cur true n ⟨z0, z1, z2⟩ [(.sl true true 1 0 (arr eU true z0)), (.int .i64 z1), (.int .i64 z2)] rfl
@[simp] def q71L1Cur {b l} := @arr_tl _ eL1Cur b l 3 rfl
@[simp] def q70L1Cur {b l i} := @arr_tk _ eL1Cur b l i 3 rfl
@[simp] def q40L1Cur {b l' bs y} := @appT_w0 _ eL1Cur b l' bs y 3 rfl
@[simp] theorem q50L1Cur {l : List L1Cur} {i : Nat} {z : (List Int)} (h : i < l.length) : layT (arr eL1Cur true l) (i * 3) 1 [(.sl true true 1 0 (arr eU true z))] = arr eL1Cur true (l.set i ⟨z, (l[i]?.getD default).i, (l[i]?.getD default).h⟩) := by rw [List.getElem?_eq_getElem h]; exact lay_cell (E := eL1Cur) (b := true) (i := i) (o := 0) ⟨z, l[i].i, l[i].h⟩ (List.getElem?_eq_getElem h) (by decide) rfl
@[simp] theorem q60L1Cur {l : List L1Cur} {i : Nat} {z : (List Int)} (h : i < l.length) : (arr eL1Cur true l).set (i * 3) (.sl true true 1 0 (arr eU true z)) = arr eL1Cur true (l.set i ⟨z, (l[i]?.getD default).i, (l[i]?.getD default).h⟩) := by rw [List.getElem?_eq_getElem h]; exact set_cell (E := eL1Cur) (b := true) (i := i) (o := 0) ⟨z, l[i].i, l[i].h⟩ (List.getElem?_eq_getElem h) (by decide) rfl
@[simp] theorem q51L1Cur {l : List L1Cur} {i : Nat} {z : Int} (h : i < l.length) : layT (arr eL1Cur true l) (i * 3 + 1) 1 [(.int .i64 z)] = arr eL1Cur true (l.set i ⟨(l[i]?.getD default).b, z, (l[i]?.getD default).h⟩) := by rw [List.getElem?_eq_getElem h]; exact lay_cell (E := eL1Cur) (b := true) (i := i) (o := 1) ⟨l[i].b, z, l[i].h⟩ (List.getElem?_eq_getElem h) (by decide) rfl
@[simp] theorem q61L1Cur {l : List L1Cur} {i : Nat} {z : Int} (h : i < l.length) : (arr eL1Cur true l).set (i * 3 + 1) (.int .i64 z) = arr eL1Cur true (l.set i ⟨(l[i]?.getD default).b, z, (l[i]?.getD default).h⟩) := by rw [List.getElem?_eq_getElem h]; exact set_cell (E := eL1Cur) (b := true) (i := i) (o := 1) ⟨l[i].b, z, l[i].h⟩ (List.getElem?_eq_getElem h) (by decide) rfl
@[simp] theorem q52L1Cur {l : List L1Cur} {i : Nat} {z : Int} (h : i < l.length) : layT (arr eL1Cur true l) (i * 3 + 2) 1 [(.int .i64 z)] = arr eL1Cur true (l.set i ⟨(l[i]?.getD default).b, (l[i]?.getD default).i, z⟩) := by rw [List.getElem?_eq_getElem h]; exact lay_cell (E := eL1Cur) (b := true) (i := i) (o := 2) ⟨l[i].b, l[i].i, z⟩ (List.getElem?_eq_getElem h) (by decide) rfl
@[simp] theorem q62L1Cur {l : List L1Cur} {i : Nat} {z : Int} (h : i < l.length) : (arr eL1Cur true l).set (i * 3 + 2) (.int .i64 z) = arr eL1Cur true (l.set i ⟨(l[i]?.getD default).b, (l[i]?.getD default).i, z⟩) := by rw [List.getElem?_eq_getElem h]; exact set_cell (E := eL1Cur) (b := true) (i := i) (o := 2) ⟨l[i].b, l[i].i, z⟩ (List.getElem?_eq_getElem h) (by decide) rfl
@[simp] def q20L1Cur {z0 z1 z2 l bs y} := @appT_1w _ eL1Cur true l bs y 3 rfl ⟨z0, z1, z2⟩ [(.sl true true 1 0 (arr eU true z0)), (.int .i64 z1), (.int .i64 z2)] rfl
@[simp] def q23L1Cur {z0 z1 z2 l' bs y} := @appT_11 _ eL1Cur true l' bs y 3 rfl ⟨z0, z1, z2⟩ [(.sl true true 1 0 (arr eU true z0)), (.int .i64 z1), (.int .i64 z2)] rfl
@[simp] def q22L1Cur {z0 z1 z2 bs y} := @appT_10 _ eL1Cur true bs y 3 rfl ⟨z0, z1, z2⟩ [(.sl true true 1 0 (arr eU true z0)), (.int .i64 z1), (.int .i64 z2)] rfl
@[simp] def q21L1Cur {z0 z1 z2 l i} := @lay_w _ eL1Cur true l i 3 rfl ⟨z0, z1, z2⟩ [(.sl true true 1 0 (arr eU true z0)), (.int .i64 z1), (.int .i64 z2)] rfl
@[simp] def q30L1Cur {z0 z1 z2 l bs y} := @appT_1w _ eL1Cur false l bs y 3 rfl ⟨z0, z1, z2⟩ [(.sl false false 1 1 (arr eU false z0)), (.int .i64 z1), (.int .i64 z2)] rfl
@[simp] def q33L1Cur {z0 z1 z2 l' bs y} := @appT_11 _ eL1Cur false l' bs y 3 rfl ⟨z0, z1, z2⟩ [(.sl false false 1 1 (arr eU false z0)), (.int .i64 z1), (.int .i64 z2)] rfl
@[simp] def q32L1Cur {z0 z1 z2 bs y} := @appT_10 _ eL1Cur false bs y 3 rfl ⟨z0, z1, z2⟩ [(.sl false false 1 1 (arr eU false z0)), (.int .i64 z1), (.int .i64 z2)] rfl
@[simp] def q31L1Cur {z0 z1 z2 l i} := @lay_w _ eL1Cur false l i 3 rfl ⟨z0, z1, z2⟩ [(.sl false false 1 1 (arr eU false z0)), (.int .i64 z1), (.int .i64 z2)] rfl
structure Database where
 Relations : (List Relation)
 Facts : (List Fact)
 deriving DecidableEq, Inhabited
def eDatabase : En Database := ⟨2, fun b a => if b then [(osl eRelation true a.Relations), (osl eFact true a.Facts)] else [(ssl eRelation a.Relations), (ssl eFact a.Facts)], fun b a => by cases b <;> rfl, by decide, fun b a => by cases b <;> simp [T.frz], fun a => by simp, fun a => by simp, fun b a => by cases b <;> simp⟩
@[simp] theorem eDatabase_w : eDatabase.w = 2 := rfl
@[simp] theorem eDatabase_ct {a : Database} : eDatabase.c true a = [(osl eRelation true a.Relations), (osl eFact true a.Facts)] := rfl
@[simp] theorem eDatabase_cf {a : Database} : eDatabase.c false a = [(ssl eRelation a.Relations), (ssl eFact a.Facts)] := rfl
@[simp] theorem arrDatabase_len {b : Bool} {l : List Database} : (arr eDatabase b l).length = l.length * 2 := arr_len
@[simp] theorem eDatabase_e (a : Database) : Database.mk a.Relations a.Facts = a := rfl
@[simp] def q0Database {b l i o} := @arr_get2 _ eDatabase b l i o 2 rfl
@[simp] def q1Database {b l i} := @arr_get20 _ eDatabase b l i 2 rfl
@[simp] def q2Database {b l o} := @arr_get0 _ eDatabase b l o 2 rfl
@[simp] def q3Database {b l} := @arr_take0 _ eDatabase b l 2 rfl
@[simp] def q4Database {b l i o} := @arr_part _ eDatabase b l i o 2 rfl
@[simp] def q5Database {b l i o j} := @arr_part2 _ eDatabase b l i o 2 j rfl
@[simp] def q6Database {b l} := @arr_at2 _ eDatabase b l 2 rfl
@[simp] def q7Database {b l} := @arr_take2 _ eDatabase b l 2 rfl
@[simp] def q8Database {b l l' bs y} := @appT_w _ eDatabase b l l' bs y 2 rfl
@[simp] def q10Database {z0 z1 n} := @rep_w _ eDatabase true n ⟨z0, z1⟩ [(.sl true true 3 0 (arr eRelation true z0)), (.sl true true 2 0 (arr eFact true z1))] rfl
@[simp] def q71Database {b l} := @arr_tl _ eDatabase b l 2 rfl
@[simp] def q70Database {b l i} := @arr_tk _ eDatabase b l i 2 rfl
@[simp] def q40Database {b l' bs y} := @appT_w0 _ eDatabase b l' bs y 2 rfl
@[simp] theorem q50Database {l : List Database} {i : Nat} {z : (List Relation)} (h : i < l.length) : layT (arr eDatabase true l) (i * 2) 1 [(.sl true true 3 0 (arr eRelation true z))] = arr eDatabase true (l.set i ⟨z, (l[i]?.getD default).Facts⟩) := by rw [List.getElem?_eq_getElem h]; exact lay_cell (E := eDatabase) (b := true) (i := i) (o := 0) ⟨z, l[i].Facts⟩ (List.getElem?_eq_getElem h) (by decide) rfl
@[simp] theorem q60Database {l : List Database} {i : Nat} {z : (List Relation)} (h : i < l.length) : (arr eDatabase true l).set (i * 2) (.sl true true 3 0 (arr eRelation true z)) = arr eDatabase true (l.set i ⟨z, (l[i]?.getD default).Facts⟩) := by rw [List.getElem?_eq_getElem h]; exact set_cell (E := eDatabase) (b := true) (i := i) (o := 0) ⟨z, l[i].Facts⟩ (List.getElem?_eq_getElem h) (by decide) rfl
@[simp] theorem q51Database {l : List Database} {i : Nat} {z : (List Fact)} (h : i < l.length) : layT (arr eDatabase true l) (i * 2 + 1) 1 [(.sl true true 2 0 (arr eFact true z))] = arr eDatabase true (l.set i ⟨(l[i]?.getD default).Relations, z⟩) := by rw [List.getElem?_eq_getElem h]; exact lay_cell (E := eDatabase) (b := true) (i := i) (o := 1) ⟨l[i].Relations, z⟩ (List.getElem?_eq_getElem h) (by decide) rfl
@[simp] theorem q61Database {l : List Database} {i : Nat} {z : (List Fact)} (h : i < l.length) : (arr eDatabase true l).set (i * 2 + 1) (.sl true true 2 0 (arr eFact true z)) = arr eDatabase true (l.set i ⟨(l[i]?.getD default).Relations, z⟩) := by rw [List.getElem?_eq_getElem h]; exact set_cell (E := eDatabase) (b := true) (i := i) (o := 1) ⟨l[i].Relations, z⟩ (List.getElem?_eq_getElem h) (by decide) rfl
@[simp] def q20Database {z0 z1 l bs y} := @appT_1w _ eDatabase true l bs y 2 rfl ⟨z0, z1⟩ [(.sl true true 3 0 (arr eRelation true z0)), (.sl true true 2 0 (arr eFact true z1))] rfl
@[simp] def q23Database {z0 z1 l' bs y} := @appT_11 _ eDatabase true l' bs y 2 rfl ⟨z0, z1⟩ [(.sl true true 3 0 (arr eRelation true z0)), (.sl true true 2 0 (arr eFact true z1))] rfl
@[simp] def q22Database {z0 z1 bs y} := @appT_10 _ eDatabase true bs y 2 rfl ⟨z0, z1⟩ [(.sl true true 3 0 (arr eRelation true z0)), (.sl true true 2 0 (arr eFact true z1))] rfl
@[simp] def q21Database {z0 z1 l i} := @lay_w _ eDatabase true l i 2 rfl ⟨z0, z1⟩ [(.sl true true 3 0 (arr eRelation true z0)), (.sl true true 2 0 (arr eFact true z1))] rfl
@[simp] def q30Database {z0 z1 l bs y} := @appT_1w _ eDatabase false l bs y 2 rfl ⟨z0, z1⟩ [(.sl false false 3 1 (arr eRelation false z0)), (.sl false false 2 1 (arr eFact false z1))] rfl
@[simp] def q33Database {z0 z1 l' bs y} := @appT_11 _ eDatabase false l' bs y 2 rfl ⟨z0, z1⟩ [(.sl false false 3 1 (arr eRelation false z0)), (.sl false false 2 1 (arr eFact false z1))] rfl
@[simp] def q32Database {z0 z1 bs y} := @appT_10 _ eDatabase false bs y 2 rfl ⟨z0, z1⟩ [(.sl false false 3 1 (arr eRelation false z0)), (.sl false false 2 1 (arr eFact false z1))] rfl
@[simp] def q31Database {z0 z1 l i} := @lay_w _ eDatabase false l i 2 rfl ⟨z0, z1⟩ [(.sl false false 3 1 (arr eRelation false z0)), (.sl false false 2 1 (arr eFact false z1))] rfl
def f14 (code : (List Int)) : Option Bool :=
 some (decide ((code.length : Int) > 1048576))
def f35_0 (code : (List Int)) : Int × Int → Option ((Int × Int) ⊕ Int)
 | (h_1, i_2) =>
  (((if i_2 < (code.length : Int) then
  some (decide (i_2 < 4000))
  else
  some false) : Option (Bool))).bind fun x_3 =>
  if x_3 = true then
  (ix code i_2).bind fun v_7 =>
  some (.inl (band .i64 (w64 ((w64 ((w64 (h_1 * 131)) + (w64 v_7))) + 7)) 1073741823, w64 (i_2 + 1)))
  else
  some (.inr h_1)
def f35 (code : (List Int)) : Option L1Cur :=
 (iter (f35_0 code) (w64 (10101 + (code.length : Int)), 0)).bind fun h_11 =>
 some ({ b := code, i := 0, h := h_11 } : L1Cur)
def f62 (c : L1Cur) : Option (Int × L1Cur) :=
 (((if c.i < (c.b.length : Int) then
 (ix c.b c.i).bind fun v_4 =>
 some (w64 (c.i + 1), band .i64 (w64 ((band .i64 (bxor .i64 (sshr .i64 (w64 ((w64 (c.h * 6364136223846793005)) + 1442695040888963407)) 33) (sshr .i64 (w64 ((w64 (c.h * 6364136223846793005)) + 1442695040888963407)) 45)) 255) + (w64 v_4))) 255)
 else
 some (c.i, band .i64 (bxor .i64 (sshr .i64 (w64 ((w64 (c.h * 6364136223846793005)) + 1442695040888963407)) 33) (sshr .i64 (w64 ((w64 (c.h * 6364136223846793005)) + 1442695040888963407)) 45)) 255)) : Option (Int × Int))).bind fun (c_6, x_7) =>
 some (x_7, ({ b := c.b, i := c_6, h := w64 ((w64 (c.h * 6364136223846793005)) + 1442695040888963407) } : L1Cur))
def f37 (c : L1Cur) (n1 : Int) : Option (Int × L1Cur) :=
 if n1 ≤ 0 then
 some (0, c)
 else
 if n1 ≤ 256 then
 (f62 c).bind fun o3 =>
 (nz n1).bind fun z_5 =>
 some (o3.1.tmod n1, o3.2)
 else
 (f62 c).bind fun o7 =>
 (f62 o7.2).bind fun o9 =>
 (f62 o9.2).bind fun o11 =>
 (f62 o11.2).bind fun o13 =>
 (nz n1).bind fun z_15 =>
 some ((w64 ((w64 ((w64 ((w64 (o7.1 * 16777216)) + (w64 (o9.1 * 65536)))) + (w64 (o11.1 * 256)))) + o13.1)).tmod n1, o13.2)
def f79 (c : L1Cur) (list : (List Int)) : Option (Int × L1Cur) :=
 (f37 c (list.length : Int)).bind fun o1 =>
 (ix list o1.1).bind fun v_3 =>
 some (v_3, o1.2)
def f78 (c : L1Cur) : Option ((List Relation) × L1Cur) :=
 (f79 c ([1, 1, 2, 0])).bind fun o1 =>
 (f37 o1.2 2).bind fun o3 =>
 some ([({ Name := [114], Arity := 2, KeyLength := 1 } : Relation), ({ Name := [115], Arity := 2, KeyLength := 1 } : Relation), ({ Name := [116], Arity := 2, KeyLength := o1.1 } : Relation), ({ Name := [117], Arity := 3, KeyLength := w64 (1 + o3.1) } : Relation)], o3.2)
def f81_0 (l : (List Relation)) (val : Int) : (List Int) × Int × Int × Int × (List Int) → Option (((List Int) × Int × Int × Int × (List Int)) ⊕ ((List Int) × Int × Int × Int × (List Int)))
 | (c_3, c_4, c_5, f_6, f_7) =>
  (ix l f_6).bind fun v_8 =>
  if (f_7.length : Int) < v_8.Arity then
  (f37 ({ b := c_3, i := c_4, h := c_5 } : L1Cur) val).bind fun o11 =>
  (app 8 f_7 ([o11.1])).bind fun l_13 =>
  some (.inl (o11.2.b, o11.2.i, o11.2.h, f_6, l_13))
  else
  some (.inr (c_3, c_4, c_5, f_6, f_7))
def f81 (c : L1Cur) (l : (List Relation)) (val : Int) : Option (Fact × L1Cur) :=
 (f37 c (l.length : Int)).bind fun o1 =>
 (iter (f81_0 l val) (o1.2.b, o1.2.i, o1.2.h, o1.1, [])).bind fun (c_17, c_18, c_19, f_20, f_21) =>
 some (({ Relation := f_20, Values := f_21 } : Fact), ({ b := c_17, i := c_18, h := c_19 } : L1Cur))
def f85_0 (d : Database) : (List Relation) × (List Fact) × Int → Option (((List Relation) × (List Fact) × Int) ⊕ ((List Relation) × (List Fact)))
 | (x_3, x_4, i_5) =>
  if i_5 < (d.Facts.length : Int) then
  (ix d.Facts i_5).bind fun v_7 =>
  (app 8 ([]) v_7.Values).bind fun l_9 =>
  (app 32 x_4 ([({ Relation := v_7.Relation, Values := l_9 } : Fact)])).bind fun l_11 =>
  some (.inl (x_3, l_11, w64 (i_5 + 1)))
  else
  some (.inr (x_3, x_4))
def f85 (d : Database) : Option Database :=
 (app 32 ([]) d.Relations).bind fun l_1 =>
 (iter (f85_0 d) (l_1, [], 0)).bind fun (x_15, x_16) =>
 some ({ Relations := x_15, Facts := x_16 } : Database)
def f21 (x : Int) (low : Int) (high : Int) : Option Bool :=
 (((if x ≥ low then
 some (decide (x ≤ high))
 else
 some false) : Option (Bool))).bind fun x_1 =>
 some x_1
def f67 (s0 : Relation) : Option Bool :=
 (((if (s0.Name.length : Int) = 1 then
 (ix s0.Name 0).bind fun c_4 =>
 (((if (c_4.toNat : Int) ≥ 97 then
 (((if (c_4.toNat : Int) ≤ 122 then
 (f21 s0.Arity 1 3).bind fun o12 =>
 (((if o12 = true then
 (f21 s0.KeyLength 0 s0.Arity).bind fun o17 =>
 some o17
 else
 some false) : Option (Bool))).bind fun x_14 =>
 some x_14
 else
 some false) : Option (Bool))).bind fun x_9 =>
 some x_9
 else
 some false) : Option (Bool))).bind fun x_6 =>
 some x_6
 else
 some false) : Option (Bool))).bind fun x_1 =>
 some x_1
def f43_0 (l : (List Relation)) : Int → Option (Int ⊕ (Unit ⊕ Bool))
 | i_1 =>
  if i_1 < (l.length : Int) then
  (ix l i_1).bind fun v_3 =>
  (f67 v_3).bind fun o5 =>
  (((if ¬ (o5 = true) then
  some true
  else
  (((if i_1 > 0 then
  (ix l (w64 (i_1 - 1))).bind fun v_13 =>
  some (!(Op.bytesLess v_13.Name v_3.Name))
  else
  some false) : Option (Bool))).bind fun x_10 =>
  some x_10) : Option (Bool))).bind fun x_7 =>
  if x_7 = true then
  some (.inr (.inr false))
  else
  some (.inl (w64 (i_1 + 1)))
  else
  some (.inr (.inl ()))
def f43 (l : (List Relation)) : Option Bool :=
 (iter (f43_0 l) 0).bind fun o => match o with
 | .inl _ =>
 some (decide ((l.length : Int) ≤ 4))
 | .inr x_18 =>
 some x_18
def f41_0 (f : Fact) : Int → Option (Int ⊕ (Unit ⊕ Bool))
 | i_14 =>
  if i_14 < (f.Values.length : Int) then
  (ix f.Values i_14).bind fun v_16 =>
  (f21 v_16 0 9).bind fun o18 =>
  if ¬ (o18 = true) then
  some (.inr (.inr false))
  else
  some (.inl (w64 (i_14 + 1)))
  else
  some (.inr (.inl ()))
def f41 (l : (List Relation)) (f : Fact) : Option Bool :=
 (f43 l).bind fun o1 =>
 (((if ¬ (o1 = true) then
 some true
 else
 (f21 f.Relation 0 (w64 ((l.length : Int) - 1))).bind fun o6 =>
 (((if ¬ (o6 = true) then
 some true
 else
 (ix l f.Relation).bind fun v_11 =>
 some (decide ((f.Values.length : Int) ≠ v_11.Arity))) : Option (Bool))).bind fun x_8 =>
 some x_8) : Option (Bool))).bind fun x_3 =>
 if x_3 = true then
 some false
 else
 (iter (f41_0 f) 0).bind fun o => match o with
 | .inl _ =>
 some true
 | .inr x_23 =>
 some x_23
def f66_0 (a : (List Int)) (b : (List Int)) : Int → Option (Int ⊕ (Unit ⊕ Int))
 | i_1 =>
  (((if i_1 < (a.length : Int) then
  some (decide (i_1 < (b.length : Int)))
  else
  some false) : Option (Bool))).bind fun x_2 =>
  if x_2 = true then
  (ix a i_1).bind fun v_6 =>
  (ix b i_1).bind fun v_8 =>
  if v_6 < v_8 then
  some (.inr (.inr (-1)))
  else
  if v_6 > v_8 then
  some (.inr (.inr 1))
  else
  some (.inl (w64 (i_1 + 1)))
  else
  some (.inr (.inl ()))
def f66 (a : (List Int)) (b : (List Int)) : Option Int :=
 (iter (f66_0 a b) 0).bind fun o => match o with
 | .inl _ =>
 if (a.length : Int) < (b.length : Int) then
 some (-1)
 else
 if (a.length : Int) > (b.length : Int) then
 some 1
 else
 some 0
 | .inr x_14 =>
 some x_14
def f42 (a : Fact) (b : Fact) : Option Int :=
 if a.Relation < b.Relation then
 some (-1)
 else
 if a.Relation > b.Relation then
 some 1
 else
 (f66 a.Values b.Values).bind fun o3 =>
 some o3
def f18_0 (d : Database) : Int → Option (Int ⊕ (Unit ⊕ Bool))
 | i_1 =>
  if i_1 < (d.Facts.length : Int) then
  (ix d.Facts i_1).bind fun v_3 =>
  (f41 d.Relations v_3).bind fun o5 =>
  (((if ¬ (o5 = true) then
  some true
  else
  (((if i_1 > 0 then
  (ix d.Facts (w64 (i_1 - 1))).bind fun v_13 =>
  (f42 v_13 v_3).bind fun o15 =>
  some (decide (o15 ≥ 0))
  else
  some false) : Option (Bool))).bind fun x_10 =>
  some x_10) : Option (Bool))).bind fun x_7 =>
  if x_7 = true then
  some (.inr (.inr false))
  else
  some (.inl (w64 (i_1 + 1)))
  else
  some (.inr (.inl ()))
def f18 (d : Database) : Option Bool :=
 (iter (f18_0 d) 0).bind fun o => match o with
 | .inl _ =>
 (f43 d.Relations).bind fun o21 =>
 (((if o21 = true then
 some (decide ((d.Facts.length : Int) ≤ 14))
 else
 some false) : Option (Bool))).bind fun x_23 =>
 some x_23
 | .inr x_20 =>
 some x_20
def f89_0 (d : Database) (f : Fact) : Int → Option (Int ⊕ (Unit ⊕ Int))
 | i_1 =>
  if i_1 < (d.Facts.length : Int) then
  (ix d.Facts i_1).bind fun v_3 =>
  (f42 v_3 f).bind fun o5 =>
  if o5 = 0 then
  some (.inr (.inr i_1))
  else
  some (.inl (w64 (i_1 + 1)))
  else
  some (.inr (.inl ()))
def f89 (d : Database) (f : Fact) : Option Int :=
 (iter (f89_0 d f) 0).bind fun o => match o with
 | .inl _ =>
 some (-1)
 | .inr x_10 =>
 some x_10
def f86 (d : Database) (f : Fact) : Option Bool :=
 (f18 d).bind fun o1 =>
 (((if o1 = true then
 (f89 d f).bind fun o6 =>
 some (decide (o6 ≥ 0))
 else
 some false) : Option (Bool))).bind fun x_3 =>
 some x_3
def f80_0 (f : Fact) (o1 : Database) : Int → Option (Int ⊕ Int)
 | k_19 =>
  (((if k_19 < (o1.Facts.length : Int) then
  (ix o1.Facts k_19).bind fun v_23 =>
  (f42 v_23 f).bind fun o25 =>
  some (decide (o25 < 0))
  else
  some false) : Option (Bool))).bind fun x_20 =>
  if x_20 = true then
  some (.inl (w64 (k_19 + 1)))
  else
  some (.inr k_19)
def f80 (d : Database) (f : Fact) : Option (Database × Bool) :=
 (f85 d).bind fun o1 =>
 (f18 d).bind fun o3 =>
 (((if ¬ (o3 = true) then
 some true
 else
 (f41 d.Relations f).bind fun o8 =>
 (((if ¬ (o8 = true) then
 some true
 else
 (f86 d f).bind fun o13 =>
 (((if o13 = true then
 some true
 else
 some (decide ((d.Facts.length : Int) = 14))) : Option (Bool))).bind fun x_15 =>
 some x_15) : Option (Bool))).bind fun x_10 =>
 some x_10) : Option (Bool))).bind fun x_5 =>
 if x_5 = true then
 some (o1, false)
 else
 (iter (f80_0 f o1) 0).bind fun k_30 =>
 (cutL o1.Facts k_30 o1.Facts.length).bind fun l_31 =>
 (app 8 ([]) f.Values).bind fun l_33 =>
 (app 32 ([({ Relation := f.Relation, Values := l_33 } : Fact)]) l_31).bind fun l_35 =>
 (cutL o1.Facts 0 k_30).bind fun l_37 =>
 (app 32 ([]) l_37).bind fun l_39 =>
 (app 32 l_39 l_35).bind fun l_41 =>
 some (({ Relations := o1.Relations, Facts := l_41 } : Database), true)
def f61_0 (o3 : (Int × L1Cur)) : (List Int) × Int × Int × (List Relation) × (List Fact) × Int → Option (((List Int) × Int × Int × (List Relation) × (List Fact) × Int) ⊕ ((List Int) × Int × Int × (List Relation) × (List Fact)))
 | (c_7, c_8, c_9, d_10, d_11, n_12) =>
  if n_12 > 0 then
  (f81 ({ b := c_7, i := c_8, h := c_9 } : L1Cur) d_10 o3.1).bind fun o14 =>
  (f80 ({ Relations := d_10, Facts := d_11 } : Database) o14.1).bind fun o16 =>
  some (.inl (o14.2.b, o14.2.i, o14.2.h, o16.1.Relations, o16.1.Facts, w64 (n_12 - 1)))
  else
  some (.inr (c_7, c_8, c_9, d_10, d_11))
def f61 (c : L1Cur) : Option (Database × L1Cur) :=
 (f78 c).bind fun o1 =>
 (f79 o1.2 ([2, 2, 3, 3])).bind fun o3 =>
 (f37 o3.2 11).bind fun o5 =>
 (iter (f61_0 o3) (o5.2.b, o5.2.i, o5.2.h, o1.1, [], w64 (2 + o5.1))).bind fun (c_20, c_21, c_22, d_23, d_24) =>
 some (({ Relations := d_23, Facts := d_24 } : Database), ({ b := c_20, i := c_21, h := c_22 } : L1Cur))
def f36_0 : (List Relation) × (List Fact) → Option (((List Relation) × (List Fact)) ⊕ ((List Relation) × (List Fact)))
 | (d_3, d_4) =>
  if (d_4.length : Int) > 9 then
  (cutL d_4 0 (w64 ((d_4.length : Int) - 1))).bind fun l_6 =>
  some (.inl (d_3, l_6))
  else
  some (.inr (d_3, d_4))
def f36 (c : L1Cur) : Option (Database × L1Cur) :=
 (f61 c).bind fun o1 =>
 (iter (f36_0) (o1.1.Relations, o1.1.Facts)).bind fun (d_10, d_11) =>
 some (({ Relations := d_10, Facts := d_11 } : Database), o1.2)
def f15 (code : (List Int)) : Option (Database × Int) :=
 (f35 code).bind fun o1 =>
 (f36 o1).bind fun o3 =>
 (f37 o3.2 6).bind fun o5 =>
 some (o3.1, w64 (o5.1 - 1))
def f26 (n0 : Int) (low : Int) (high : Int) : Option Bool :=
 (((if low ≤ n0 then
 some (decide (n0 ≤ high))
 else
 some false) : Option (Bool))).bind fun x_1 =>
 some x_1
def f72 (relation : Relation) : Option Bool :=
 (((if (relation.Name.length : Int) = 1 then
 (ix relation.Name 0).bind fun c_4 =>
 (((if (c_4.toNat : Int) ≥ 97 then
 (((if (c_4.toNat : Int) ≤ 122 then
 (f26 relation.Arity 1 3).bind fun o12 =>
 (((if o12 = true then
 (f26 relation.KeyLength 0 relation.Arity).bind fun o17 =>
 some o17
 else
 some false) : Option (Bool))).bind fun x_14 =>
 some x_14
 else
 some false) : Option (Bool))).bind fun x_9 =>
 some x_9
 else
 some false) : Option (Bool))).bind fun x_6 =>
 some x_6
 else
 some false) : Option (Bool))).bind fun x_1 =>
 some x_1
def f50_0 (relations : (List Relation)) : Int → Option (Int ⊕ (Unit ⊕ Bool))
 | x_1 =>
  if x_1 < (relations.length : Int) then
  (ix relations x_1).bind fun v_3 =>
  (f72 v_3).bind fun o5 =>
  (((if ¬ (o5 = true) then
  some true
  else
  (((if x_1 > 0 then
  (ix relations (w64 (x_1 - 1))).bind fun v_13 =>
  some (!(Op.bytesLess v_13.Name v_3.Name))
  else
  some false) : Option (Bool))).bind fun x_10 =>
  some x_10) : Option (Bool))).bind fun x_7 =>
  if x_7 = true then
  some (.inr (.inr false))
  else
  some (.inl (w64 (x_1 + 1)))
  else
  some (.inr (.inl ()))
def f50 (relations : (List Relation)) : Option Bool :=
 (iter (f50_0 relations) 0).bind fun o => match o with
 | .inl _ =>
 some (decide ((relations.length : Int) ≤ 4))
 | .inr x_18 =>
 some x_18
def f76_0 (s0 : (List Int)) (f : Int → Option Bool) : Int → Option (Int ⊕ (Unit ⊕ Int))
 | x_1 =>
  if x_1 < (s0.length : Int) then
  (ix s0 x_1).bind fun v_3 =>
  (f v_3).bind fun o5 =>
  if o5 = true then
  some (.inr (.inr x_1))
  else
  some (.inl (w64 (x_1 + 1)))
  else
  some (.inr (.inl ()))
def f76 (s0 : (List Int)) (f : Int → Option Bool) : Option Int :=
 (iter (f76_0 s0 f) 0).bind fun o => match o with
 | .inl _ =>
 some (-1)
 | .inr x_10 =>
 some x_10
def f54 (s0 : (List Int)) (f : Int → Option Bool) : Option Bool :=
 (f76 s0 f).bind fun o1 =>
 some (decide (o1 ≥ 0))
def f83 (v : Int) : Option Bool :=
 (f26 v 0 9).bind fun o1 =>
 some (decide (¬ (o1 = true)))
def f73 (list : (List Int)) : Option Bool :=
 (f54 list (fun x0 => f83 x0)).bind fun o1 =>
 some (decide (¬ (o1 = true)))
def f51 (relations : (List Relation)) (fact : Fact) : Option Bool :=
 (f26 fact.Relation 0 (w64 ((relations.length : Int) - 1))).bind fun o1 =>
 (((if o1 = true then
 (ix relations fact.Relation).bind fun v_6 =>
 (((if (fact.Values.length : Int) = v_6.Arity then
 (f73 fact.Values).bind fun o11 =>
 some o11
 else
 some false) : Option (Bool))).bind fun x_8 =>
 some x_8
 else
 some false) : Option (Bool))).bind fun x_3 =>
 some x_3
def f74 (a : Int) (b : Int) : Option Int :=
 if a < b then
 some (-1)
 else
 if a > b then
 some 1
 else
 some 0
def f88 (x : Int) : Option Bool :=
 some (decide (x ≠ x))
def f84 (x : Int) (y : Int) : Option Int :=
 (f88 x).bind fun o1 =>
 (f88 y).bind fun o3 =>
 if o1 = true then
 if o3 = true then
 some 0
 else
 some (-1)
 else
 if o3 = true then
 some 1
 else
 if x < y then
 some (-1)
 else
 if x > y then
 some 1
 else
 some 0
def f75_0 (s1 : (List Int)) (s2 : (List Int)) : Int → Option (Int ⊕ (Unit ⊕ Int))
 | x_1 =>
  if x_1 < (s1.length : Int) then
  (ix s1 x_1).bind fun v_3 =>
  if x_1 ≥ (s2.length : Int) then
  some (.inr (.inr 1))
  else
  (ix s2 x_1).bind fun v_6 =>
  (f84 v_3 v_6).bind fun o8 =>
  if o8 ≠ 0 then
  some (.inr (.inr o8))
  else
  some (.inl (w64 (x_1 + 1)))
  else
  some (.inr (.inl ()))
def f75 (s1 : (List Int)) (s2 : (List Int)) : Option Int :=
 (iter (f75_0 s1 s2) 0).bind fun o => match o with
 | .inl _ =>
 if (s1.length : Int) < (s2.length : Int) then
 some (-1)
 else
 some 0
 | .inr x_13 =>
 some x_13
def f52 (a : Fact) (b : Fact) : Option Int :=
 if a.Relation ≠ b.Relation then
 (f74 a.Relation b.Relation).bind fun o2 =>
 some o2
 else
 (f75 a.Values b.Values).bind fun o4 =>
 some o4
def f25_0 (db : Database) : Int → Option (Int ⊕ (Unit ⊕ Bool))
 | x_7 =>
  if x_7 < (db.Facts.length : Int) then
  (ix db.Facts x_7).bind fun v_9 =>
  (f51 db.Relations v_9).bind fun o11 =>
  (((if ¬ (o11 = true) then
  some true
  else
  (((if x_7 > 0 then
  (ix db.Facts (w64 (x_7 - 1))).bind fun v_19 =>
  (f52 v_19 v_9).bind fun o21 =>
  some (decide (o21 ≥ 0))
  else
  some false) : Option (Bool))).bind fun x_16 =>
  some x_16) : Option (Bool))).bind fun x_13 =>
  if x_13 = true then
  some (.inr (.inr false))
  else
  some (.inl (w64 (x_7 + 1)))
  else
  some (.inr (.inl ()))
def f25 (db : Database) : Option Bool :=
 (f50 db.Relations).bind fun o1 =>
 (((if ¬ (o1 = true) then
 some true
 else
 some (decide ((db.Facts.length : Int) > 14))) : Option (Bool))).bind fun x_3 =>
 if x_3 = true then
 some false
 else
 (iter (f25_0 db) 0).bind fun o => match o with
 | .inl _ =>
 some true
 | .inr x_26 =>
 some x_26
def f77_0 (s1 : (List Int)) (s2 : (List Int)) : Int → Option (Int ⊕ (Unit ⊕ Bool))
 | x_2 =>
  if x_2 < (s1.length : Int) then
  (ix s1 x_2).bind fun v_4 =>
  (ix s2 x_2).bind fun v_6 =>
  if v_4 ≠ v_6 then
  some (.inr (.inr false))
  else
  some (.inl (w64 (x_2 + 1)))
  else
  some (.inr (.inl ()))
def f77 (s1 : (List Int)) (s2 : (List Int)) : Option Bool :=
 if (s1.length : Int) ≠ (s2.length : Int) then
 some false
 else
 (iter (f77_0 s1 s2) 0).bind fun o => match o with
 | .inl _ =>
 some true
 | .inr x_11 =>
 some x_11
def f56 (relations : (List Relation)) (a : Fact) (b : Fact) : Option Bool :=
 if a.Relation ≠ b.Relation then
 some false
 else
 (ix relations a.Relation).bind fun v_2 =>
 (cutL a.Values 0 v_2.KeyLength).bind fun l_4 =>
 (cutL b.Values 0 v_2.KeyLength).bind fun l_6 =>
 (f77 l_4 l_6).bind fun o8 =>
 some o8
def f55 (own : Int) (c : Database) (c2 : Int) : Option Bool :=
 (ix c.Facts own).bind fun v_1 =>
 (ix c.Facts c2).bind fun v_3 =>
 (f56 c.Relations v_1 v_3).bind fun o5 =>
 some o5
def f57 (s0 : (List Int)) : Option (List Int) :=
 (app 8 ([]) s0).bind fun l_1 =>
 some l_1
def f53_0 (set0 : (List Int)) (c : Int) (c4 : Database) (rec : (List Int) → Int → Int → (List (List Int)) → Database → Option (List (List Int))) : (List (List Int)) × Int → Option (((List (List Int)) × Int) ⊕ (List (List Int)))
 | (x_6, i_7) =>
  if i_7 < (c4.Facts.length : Int) then
  (f54 set0 (fun x0 => f55 x0 c4 i_7)).bind fun o9 =>
  (((if ¬ (o9 = true) then
  (f57 set0).bind fun o14 =>
  (app 8 o14 ([i_7])).bind fun l_16 =>
  ((rec l_16 (w64 (i_7 + 1)) c x_6 c4)).bind fun o18 =>
  some o18
  else
  some x_6) : Option (List (List Int)))).bind fun x_20 =>
  some (.inl (x_20, w64 (i_7 + 1)))
  else
  some (.inr x_6)
def f53 : Nat → (List Int) → Int → Int → (List (List Int)) → Database → Option (List (List Int))
 | 0 => fun _ _ _ _ _ => none
 | n + 1 => fun set0 from1 c c3 c4 =>
  if (set0.length : Int) = c then
  (app 8 ([]) set0).bind fun l_2 =>
  (app 24 c3 ([l_2])).bind fun l_4 =>
  some l_4
  else
  (iter ((f53_0 set0 c c4 (f53 n))) (c3, from1)).bind fun x_23 =>
  some x_23
def f27 (db : Database) (size : Int) : Option (List (List Int)) :=
 ((f53 64 ([] : (List Int)) 0 size ([]) db)).bind fun o1 =>
 some o1
def f8_0 (db : Database) (size : Int) : (List (List Int)) × Int → Option (((List (List Int)) × Int) ⊕ (List (List Int)))
 | (out_9, x_10) =>
  if x_10 < (w64 (size + 1)) then
  (f27 db x_10).bind fun o12 =>
  (app 24 out_9 o12).bind fun l_14 =>
  some (.inl (l_14, w64 (x_10 + 1)))
  else
  some (.inr out_9)
def f8 (db : Database) (size : Int) : Option (List (List Int)) :=
 (f25 db).bind fun o1 =>
 (((if ¬ (o1 = true) then
 some true
 else
 (f26 size 0 3).bind fun o6 =>
 some (decide (¬ (o6 = true)))) : Option (Bool))).bind fun x_3 =>
 if x_3 = true then
 some ([])
 else
 (iter (f8_0 db size) ([], 0)).bind fun out_18 =>
 some out_18
def f69_0 (d : Database) (l : (List Int)) : Int → Option (Int ⊕ (Unit ⊕ Bool))
 | i_1 =>
  if i_1 < (l.length : Int) then
  (ix l i_1).bind fun v_3 =>
  (f21 v_3 0 (w64 ((d.Facts.length : Int) - 1))).bind fun o5 =>
  (((if ¬ (o5 = true) then
  some true
  else
  (((if i_1 > 0 then
  (ix l (w64 (i_1 - 1))).bind fun v_13 =>
  some (decide (v_3 ≤ v_13))
  else
  some false) : Option (Bool))).bind fun x_10 =>
  some x_10) : Option (Bool))).bind fun x_7 =>
  if x_7 = true then
  some (.inr (.inr false))
  else
  some (.inl (w64 (i_1 + 1)))
  else
  some (.inr (.inl ()))
def f69 (d : Database) (l : (List Int)) : Option Bool :=
 (iter (f69_0 d l) 0).bind fun o => match o with
 | .inl _ =>
 some true
 | .inr x_18 =>
 some x_18
def f46_0 (d : Database) (l : (List Int)) : (List Relation) × (List Fact) × Int → Option (((List Relation) × (List Fact) × Int) ⊕ ((List Relation) × (List Fact)))
 | (x_11, x_12, i_13) =>
  if i_13 < (l.length : Int) then
  (ix l i_13).bind fun v_15 =>
  (ix d.Facts v_15).bind fun v_17 =>
  (app 8 ([]) v_17.Values).bind fun l_19 =>
  (app 32 x_12 ([({ Relation := v_17.Relation, Values := l_19 } : Fact)])).bind fun l_21 =>
  some (.inl (x_11, l_21, w64 (i_13 + 1)))
  else
  some (.inr (x_11, x_12))
def f46 (d : Database) (l : (List Int)) : Option (Database × Bool) :=
 (f18 d).bind fun o1 =>
 (((if ¬ (o1 = true) then
 some true
 else
 (f69 d l).bind fun o6 =>
 some (decide (¬ (o6 = true)))) : Option (Bool))).bind fun x_3 =>
 if x_3 = true then
 some (({ Relations := [], Facts := [] } : Database), false)
 else
 (app 32 ([]) d.Relations).bind fun l_9 =>
 (iter (f46_0 d l) (l_9, [], 0)).bind fun (x_25, x_26) =>
 some (({ Relations := x_25, Facts := x_26 } : Database), true)
def f90 (l : (List Relation)) (f : Fact) : Option (List Int) :=
 (f41 l f).bind fun o1 =>
 if ¬ (o1 = true) then
 some ([])
 else
 (ix l f.Relation).bind fun v_4 =>
 (cutL f.Values 0 v_4.KeyLength).bind fun l_6 =>
 (app 8 ([]) l_6).bind fun l_8 =>
 some l_8
def f87 (l : (List Relation)) (a : Fact) (b : Fact) : Option Bool :=
 (f41 l a).bind fun o1 =>
 (((if o1 = true then
 (f41 l b).bind fun o6 =>
 (((if o6 = true then
 (((if a.Relation = b.Relation then
 (f90 l a).bind fun o14 =>
 (f90 l b).bind fun o16 =>
 (f66 o14 o16).bind fun o18 =>
 some (decide (o18 = 0))
 else
 some false) : Option (Bool))).bind fun x_11 =>
 some x_11
 else
 some false) : Option (Bool))).bind fun x_8 =>
 some x_8
 else
 some false) : Option (Bool))).bind fun x_3 =>
 some x_3
def f82_0 (d : Database) (i : Int) : (List Int) × Int → Option (((List Int) × Int) ⊕ (List Int))
 | (out_1, k_2) =>
  (((if k_2 < (d.Facts.length : Int) then
  (f18 d).bind fun o6 =>
  (((if o6 = true then
  (f21 i 0 (w64 ((d.Facts.length : Int) - 1))).bind fun o11 =>
  some o11
  else
  some false) : Option (Bool))).bind fun x_8 =>
  some x_8
  else
  some false) : Option (Bool))).bind fun x_3 =>
  if x_3 = true then
  (ix d.Facts i).bind fun v_14 =>
  (ix d.Facts k_2).bind fun v_16 =>
  (f87 d.Relations v_14 v_16).bind fun o18 =>
  (((if o18 = true then
  (app 8 out_1 ([k_2])).bind fun l_23 =>
  some l_23
  else
  some out_1) : Option (List Int))).bind fun out_25 =>
  some (.inl (out_25, w64 (k_2 + 1)))
  else
  some (.inr out_1)
def f82 (d : Database) (i : Int) : Option (List Int) :=
 (iter (f82_0 d i) ([], 0)).bind fun out_28 =>
 some out_28
def f70_0 (d : Database) : (List (List Int)) × Int → Option (((List (List Int)) × Int) ⊕ (List (List Int)))
 | (out_1, i_2) =>
  (((if i_2 < (d.Facts.length : Int) then
  (f18 d).bind fun o6 =>
  some o6
  else
  some false) : Option (Bool))).bind fun x_3 =>
  if x_3 = true then
  (f82 d i_2).bind fun o9 =>
  (ix o9 0).bind fun v_11 =>
  (((if v_11 = i_2 then
  (app 24 out_1 ([o9])).bind fun l_16 =>
  some l_16
  else
  some out_1) : Option (List (List Int)))).bind fun out_18 =>
  some (.inl (out_18, w64 (i_2 + 1)))
  else
  some (.inr out_1)
def f70 (d : Database) : Option (List (List Int)) :=
 (iter (f70_0 d) ([], 0)).bind fun out_21 =>
 some out_21
def f47 (d : Database) : Option Bool :=
 (f18 d).bind fun o1 =>
 (((if o1 = true then
 (f70 d).bind fun o6 =>
 some (decide ((o6.length : Int) = (d.Facts.length : Int)))
 else
 some false) : Option (Bool))).bind fun x_3 =>
 some x_3
def f22 (d : Database) (l : (List Int)) : Option Bool :=
 (f46 d l).bind fun o1 =>
 (((if o1.2 = true then
 (f47 o1.1).bind fun o6 =>
 some o6
 else
 some false) : Option (Bool))).bind fun x_3 =>
 some x_3
def f6_2 (d : Database) (last_12 : (List (List Int))) (i_16 : Int) : (List (List Int)) × Int → Option (((List (List Int)) × Int) ⊕ (List (List Int)))
 | (more_26, x_27) =>
  if x_27 < (d.Facts.length : Int) then
  (ix last_12 i_16).bind fun v_29 =>
  (app 8 ([]) v_29).bind fun l_31 =>
  (app 8 l_31 ([x_27])).bind fun l_33 =>
  (f22 d l_33).bind fun o35 =>
  (((if o35 = true then
  (app 24 more_26 ([l_33])).bind fun l_40 =>
  some l_40
  else
  some more_26) : Option (List (List Int)))).bind fun more_42 =>
  some (.inl (more_42, w64 (x_27 + 1)))
  else
  some (.inr more_26)
def f6_1 (d : Database) (last_12 : (List (List Int))) : (List (List Int)) × Int → Option (((List (List Int)) × Int) ⊕ (List (List Int)))
 | (more_15, i_16) =>
  if i_16 < (last_12.length : Int) then
  (ix last_12 i_16).bind fun v_18 =>
  (((if (v_18.length : Int) > 0 then
  (ix v_18 (w64 ((v_18.length : Int) - 1))).bind fun v_23 =>
  some (w64 (v_23 + 1))
  else
  some 0) : Option Int)).bind fun from_25 =>
  (iter ((f6_2 d last_12 i_16)) (more_15, from_25)).bind fun more_45 =>
  some (.inl (more_45, w64 (i_16 + 1)))
  else
  some (.inr more_15)
def f6_0 (d : Database) (k : Int) : (List (List Int)) × (List (List Int)) × Int → Option (((List (List Int)) × (List (List Int)) × Int) ⊕ (List (List Int)))
 | (out_11, last_12, n_13) =>
  if n_13 < k then
  (iter ((f6_1 d last_12)) ([], 0)).bind fun more_48 =>
  (app 24 out_11 more_48).bind fun l_49 =>
  some (.inl (l_49, more_48, w64 (n_13 + 1)))
  else
  some (.inr out_11)
def f6 (d : Database) (k : Int) : Option (List (List Int)) :=
 (f18 d).bind fun o1 =>
 (((if ¬ (o1 = true) then
 some true
 else
 (f21 k 0 3).bind fun o6 =>
 some (decide (¬ (o6 = true)))) : Option (Bool))).bind fun x_3 =>
 if x_3 = true then
 some ([])
 else
 (app 24 ([]) ([[]])).bind fun l_9 =>
 (iter (f6_0 d k) (l_9, [[]], 0)).bind fun out_53 =>
 some out_53
def f38_0 (a : (List Int)) (b : (List Int)) : Int → Option (Int ⊕ (Unit ⊕ Bool))
 | i_2 =>
  if i_2 < (a.length : Int) then
  (ix a i_2).bind fun v_4 =>
  (ix b i_2).bind fun v_6 =>
  if v_4 ≠ v_6 then
  some (.inr (.inr false))
  else
  some (.inl (w64 (i_2 + 1)))
  else
  some (.inr (.inl ()))
def f38 (a : (List Int)) (b : (List Int)) : Option Bool :=
 if (a.length : Int) ≠ (b.length : Int) then
 some false
 else
 (iter (f38_0 a b) 0).bind fun o => match o with
 | .inl _ =>
 some true
 | .inr x_11 =>
 some x_11
def f16_0 (a : (List (List Int))) (b : (List (List Int))) : Int → Option (Int ⊕ (Unit ⊕ Bool))
 | i_2 =>
  if i_2 < (a.length : Int) then
  (ix a i_2).bind fun v_4 =>
  (ix b i_2).bind fun v_6 =>
  (f38 v_4 v_6).bind fun o8 =>
  if ¬ (o8 = true) then
  some (.inr (.inr false))
  else
  some (.inl (w64 (i_2 + 1)))
  else
  some (.inr (.inl ()))
def f16 (a : (List (List Int))) (b : (List (List Int))) : Option Bool :=
 if (a.length : Int) ≠ (b.length : Int) then
 some false
 else
 (iter (f16_0 a b) 0).bind fun o => match o with
 | .inl _ =>
 some true
 | .inr x_13 =>
 some x_13
def f63_0 (indices : (List Int)) (n1 : Int) : Int → Option (Int ⊕ (Unit ⊕ Bool))
 | x_1 =>
  if x_1 < (indices.length : Int) then
  (ix indices x_1).bind fun v_3 =>
  (f26 v_3 0 (w64 (n1 - 1))).bind fun o5 =>
  (((if ¬ (o5 = true) then
  some true
  else
  (((if x_1 > 0 then
  (ix indices (w64 (x_1 - 1))).bind fun v_13 =>
  some (decide (v_13 ≥ v_3))
  else
  some false) : Option (Bool))).bind fun x_10 =>
  some x_10) : Option (Bool))).bind fun x_7 =>
  if x_7 = true then
  some (.inr (.inr false))
  else
  some (.inl (w64 (x_1 + 1)))
  else
  some (.inr (.inl ()))
def f63 (indices : (List Int)) (n1 : Int) : Option Bool :=
 (iter (f63_0 indices n1) 0).bind fun o => match o with
 | .inl _ =>
 some true
 | .inr x_18 =>
 some x_18
def f64_0 (db : Database) : (List Relation) × (List Fact) × Int → Option (((List Relation) × (List Fact) × Int) ⊕ ((List Relation) × (List Fact)))
 | (out_3, out_4, x_5) =>
  if x_5 < (db.Facts.length : Int) then
  (ix db.Facts x_5).bind fun v_7 =>
  (app 8 ([]) v_7.Values).bind fun l_9 =>
  (app 32 out_4 ([({ Relation := v_7.Relation, Values := l_9 } : Fact)])).bind fun l_11 =>
  some (.inl (out_3, l_11, w64 (x_5 + 1)))
  else
  some (.inr (out_3, out_4))
def f64 (db : Database) : Option Database :=
 (app 32 ([]) db.Relations).bind fun l_1 =>
 (iter (f64_0 db) (l_1, [], 0)).bind fun (out_15, out_16) =>
 some ({ Relations := out_15, Facts := out_16 } : Database)
def f39_0 (indices : (List Int)) (o9 : Database) : (List Relation) × (List Fact) × Int → Option (((List Relation) × (List Fact) × Int) ⊕ ((List Relation) × (List Fact)))
 | (out_11, out_12, x_13) =>
  if x_13 < (indices.length : Int) then
  (ix indices x_13).bind fun v_15 =>
  (ix o9.Facts v_15).bind fun v_17 =>
  (app 32 out_12 ([v_17])).bind fun l_19 =>
  some (.inl (out_11, l_19, w64 (x_13 + 1)))
  else
  some (.inr (out_11, out_12))
def f39 (db : Database) (indices : (List Int)) : Option (Database × Bool) :=
 (f25 db).bind fun o1 =>
 (((if ¬ (o1 = true) then
 some true
 else
 (f63 indices (db.Facts.length : Int)).bind fun o6 =>
 some (decide (¬ (o6 = true)))) : Option (Bool))).bind fun x_3 =>
 if x_3 = true then
 some (({ Relations := [], Facts := [] } : Database), false)
 else
 (f64 db).bind fun o9 =>
 (iter (f39_0 indices o9) (o9.Relations, [], 0)).bind fun (out_23, out_24) =>
 some (({ Relations := out_23, Facts := out_24 } : Database), true)
def f65_0 (db : Database) : (List (List Int)) × Int → Option (((List (List Int)) × Int) ⊕ (List (List Int)))
 | (out_1, x_2) =>
  if x_2 < (db.Facts.length : Int) then
  (ix db.Facts x_2).bind fun v_4 =>
  (((if (w64 ((out_1.length : Int) - 1)) ≥ 0 then
  (ix out_1 (w64 ((out_1.length : Int) - 1))).bind fun v_9 =>
  (ix v_9 0).bind fun v_11 =>
  (ix db.Facts v_11).bind fun v_13 =>
  (f56 db.Relations v_13 v_4).bind fun o15 =>
  some o15
  else
  some false) : Option (Bool))).bind fun x_6 =>
  (((if x_6 = true then
  (ix out_1 (w64 ((out_1.length : Int) - 1))).bind fun v_20 =>
  (app 8 v_20 ([x_2])).bind fun l_22 =>
  some (out_1.set (w64 ((out_1.length : Int) - 1)).toNat l_22)
  else
  (app 24 out_1 ([[x_2]])).bind fun l_25 =>
  some l_25) : Option (List (List Int)))).bind fun out_27 =>
  some (.inl (out_27, w64 (x_2 + 1)))
  else
  some (.inr out_1)
def f65 (db : Database) : Option (List (List Int)) :=
 (iter (f65_0 db) ([], 0)).bind fun out_30 =>
 some out_30
def f40 (db : Database) : Option Bool :=
 (f25 db).bind fun o1 =>
 (((if o1 = true then
 (f65 db).bind fun o6 =>
 some (decide ((o6.length : Int) = (db.Facts.length : Int)))
 else
 some false) : Option (Bool))).bind fun x_3 =>
 some x_3
def f17 (db : Database) (indices : (List Int)) : Option Bool :=
 (f39 db indices).bind fun o1 =>
 (((if o1.2 = true then
 (f40 o1.1).bind fun o6 =>
 some o6
 else
 some false) : Option (Bool))).bind fun x_3 =>
 some x_3
def f4_0 (o4 : (Database × Int)) (o6 : (List (List Int))) : Int → Option (Int ⊕ (Unit ⊕ Bool))
 | i_13 =>
  if i_13 < (o6.length : Int) then
  (ix o6 i_13).bind fun v_15 =>
  (((if (v_15.length : Int) > o4.2 then
  some true
  else
  (f17 o4.1 v_15).bind fun o20 =>
  (((if ¬ (o20 = true) then
  some true
  else
  (((if i_13 > 0 then
  (ix o6 (w64 (i_13 - 1))).bind fun v_28 =>
  some (decide ((v_15.length : Int) < (v_28.length : Int)))
  else
  some false) : Option (Bool))).bind fun x_25 =>
  some x_25) : Option (Bool))).bind fun x_22 =>
  some x_22) : Option (Bool))).bind fun x_17 =>
  if x_17 = true then
  some (.inr (.inr false))
  else
  some (.inl (w64 (i_13 + 1)))
  else
  some (.inr (.inl ()))
def f4 (code : (List Int)) : Option Bool :=
 (f14 code).bind fun o1 =>
 if o1 = true then
 some true
 else
 (f15 code).bind fun o4 =>
 (f8 o4.1 o4.2).bind fun o6 =>
 (f6 o4.1 o4.2).bind fun o8 =>
 (f16 o6 o8).bind fun o10 =>
 if ¬ (o10 = true) then
 some false
 else
 (iter (f4_0 o4 o6) 0).bind fun o => match o with
 | .inl _ =>
 (((if o4.2 < 0 then
 some true
 else
 (((if o4.2 > 3 then
 some true
 else
 (f18 o4.1).bind fun o40 =>
 (((if ¬ (o40 = true) then
 some true
 else
 (((if (o6.length : Int) > 0 then
 (ix o6 0).bind fun v_48 =>
 some (decide ((v_48.length : Int) = 0))
 else
 some false) : Option (Bool))).bind fun x_45 =>
 some x_45) : Option (Bool))).bind fun x_42 =>
 some x_42) : Option (Bool))).bind fun x_37 =>
 some x_37) : Option (Bool))).bind fun x_34 =>
 some x_34
 | .inr x_33 =>
 some x_33
end
end Go.Proofs.YtaanfdjhmhifiaaH
