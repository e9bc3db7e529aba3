import Derived.Test.YtcllfkplpdppiaaGreatX3
set_option linter.unusedVariables false
set_option linter.unusedSimpArgs false
set_option linter.defProp false
set_option linter.unusedSectionVars false
set_option maxRecDepth 100000
namespace Go.Proofs.YtcllfkplpdppiaaGreatH
open Go
noncomputable section
structure Relation where
 Name : (List UInt8)
 Arity : Int
 KeyLength : Int
 deriving DecidableEq, Inhabited
def eRelation : En Relation := ⟨3, fun _ a => [(.str a.Name), (.int .i64 a.Arity), (.int .i64 a.KeyLength)], fun b a => by cases b <;> rfl, by decide, fun b a => by cases b <;> simp [T.frz], fun a => by simp, fun a => by simp, fun b a => by cases b <;> simp⟩
@[simp] theorem eRelation_w : eRelation.w = 3 := rfl
@[simp] theorem eRelation_ct {a : Relation} : eRelation.c true a = [(.str a.Name), (.int .i64 a.Arity), (.int .i64 a.KeyLength)] := rfl
@[simp] theorem eRelation_cf {a : Relation} : eRelation.c false a = [(.str a.Name), (.int .i64 a.Arity), (.int .i64 a.KeyLength)] := rfl
@[simp] theorem arrRelation_len {b : Bool} {l : List Relation} : (arr eRelation b l).length = l.length * 3 := arr_len
@[simp] theorem eRelation_e (a : Relation) : Relation.mk a.Name a.Arity a.KeyLength = a := rfl
@[simp] def q0Relation {b l i o} := @arr_get2 _ eRelation b l i o 3 rfl
@[simp] def q1Relation {b l i} := @arr_get20 _ eRelation b l i 3 rfl
@[simp] def q2Relation {b l o} := @arr_get0 _ eRelation b l o 3 rfl
@[simp] def q3Relation {b l} := @arr_take0 _ eRelation b l 3 rfl
@[simp] def q4Relation {b l i o} := @arr_part _ eRelation b l i o 3 rfl
@[simp] def q5Relation {b l i o j} := @arr_part2 _ eRelation b l i o 3 j rfl
@[simp] def q6Relation {b l} := @arr_at2 _ eRelation b l 3 rfl
@[simp] def q7Relation {b l} := @arr_take2 _ eRelation b l 3 rfl
@[simp] def q8Relation {b l l' bs y} := @appT_w _ eRelation b l l' bs y 3 rfl
@[simp] def q10Relation {z0 z1 z2 n} := @rep_w _ eRelation true n ⟨z0, z1, z2⟩ [(.str z0), (.int .i64 z1), (.int .i64 z2)] rfl
@[simp] def q71Relation {b l} := @arr_tl _ eRelation b l 3 rfl
@[simp] def q70Relation {b l i} := @arr_tk _ eRelation b l i 3 rfl
@[simp] theorem q40Relation {b : Bool} {l' : List Relation} {bs : Nat} {y : Bool} (hb : bs ≠ 0) : appT 3 bs (.sl true y 3 0 []) (arr eRelation b l') = (app bs [] l').map fun v => .sl true y 3 0 (arr eRelation true v) := appT_w0 (E := eRelation) (b := b) rfl hb
@[simp] theorem q50Relation {l : List Relation} {i : Nat} {z : (List UInt8)} (h : i < l.length) : layT (arr eRelation true l) (i * 3) 1 [(.str z)] = arr eRelation true (l.set i ⟨z, (l[i]?.getD default).Arity, (l[i]?.getD default).KeyLength⟩) := by rw [List.getElem?_eq_getElem h]; exact lay_cell (E := eRelation) (b := true) (i := i) (o := 0) ⟨z, l[i].Arity, l[i].KeyLength⟩ (List.getElem?_eq_getElem h) (by decide) rfl
@[simp] theorem q60Relation {l : List Relation} {i : Nat} {z : (List UInt8)} (h : i < l.length) : (arr eRelation true l).set (i * 3) (.str z) = arr eRelation true (l.set i ⟨z, (l[i]?.getD default).Arity, (l[i]?.getD default).KeyLength⟩) := by rw [List.getElem?_eq_getElem h]; exact set_cell (E := eRelation) (b := true) (i := i) (o := 0) ⟨z, l[i].Arity, l[i].KeyLength⟩ (List.getElem?_eq_getElem h) (by decide) rfl
@[simp] theorem q51Relation {l : List Relation} {i : Nat} {z : Int} (h : i < l.length) : layT (arr eRelation true l) (i * 3 + 1) 1 [(.int .i64 z)] = arr eRelation true (l.set i ⟨(l[i]?.getD default).Name, z, (l[i]?.getD default).KeyLength⟩) := by rw [List.getElem?_eq_getElem h]; exact lay_cell (E := eRelation) (b := true) (i := i) (o := 1) ⟨l[i].Name, z, l[i].KeyLength⟩ (List.getElem?_eq_getElem h) (by decide) rfl
@[simp] theorem q61Relation {l : List Relation} {i : Nat} {z : Int} (h : i < l.length) : (arr eRelation true l).set (i * 3 + 1) (.int .i64 z) = arr eRelation true (l.set i ⟨(l[i]?.getD default).Name, z, (l[i]?.getD default).KeyLength⟩) := by rw [List.getElem?_eq_getElem h]; exact set_cell (E := eRelation) (b := true) (i := i) (o := 1) ⟨l[i].Name, z, l[i].KeyLength⟩ (List.getElem?_eq_getElem h) (by decide) rfl
@[simp] theorem q52Relation {l : List Relation} {i : Nat} {z : Int} (h : i < l.length) : layT (arr eRelation true l) (i * 3 + 2) 1 [(.int .i64 z)] = arr eRelation true (l.set i ⟨(l[i]?.getD default).Name, (l[i]?.getD default).Arity, z⟩) := by rw [List.getElem?_eq_getElem h]; exact lay_cell (E := eRelation) (b := true) (i := i) (o := 2) ⟨l[i].Name, l[i].Arity, z⟩ (List.getElem?_eq_getElem h) (by decide) rfl
@[simp] theorem q62Relation {l : List Relation} {i : Nat} {z : Int} (h : i < l.length) : (arr eRelation true l).set (i * 3 + 2) (.int .i64 z) = arr eRelation true (l.set i ⟨(l[i]?.getD default).Name, (l[i]?.getD default).Arity, z⟩) := by rw [List.getElem?_eq_getElem h]; exact set_cell (E := eRelation) (b := true) (i := i) (o := 2) ⟨l[i].Name, l[i].Arity, z⟩ (List.getElem?_eq_getElem h) (by decide) rfl
@[simp] def q20Relation {b z0 z1 z2 l bs y} := @appT_1w _ eRelation b l bs y 3 rfl ⟨z0, z1, z2⟩ [(.str z0), (.int .i64 z1), (.int .i64 z2)] rfl
@[simp] def q23Relation {b z0 z1 z2 l' bs y} := @appT_11 _ eRelation b l' bs y 3 rfl ⟨z0, z1, z2⟩ [(.str z0), (.int .i64 z1), (.int .i64 z2)] rfl
@[simp] def q22Relation {b z0 z1 z2 bs y} := @appT_10 _ eRelation b bs y 3 rfl ⟨z0, z1, z2⟩ [(.str z0), (.int .i64 z1), (.int .i64 z2)] rfl
@[simp] def q21Relation {b z0 z1 z2 l i} := @lay_w _ eRelation b l i 3 rfl ⟨z0, z1, z2⟩ [(.str z0), (.int .i64 z1), (.int .i64 z2)] rfl
structure Fact where
 Relation : Int
 Values : (List Int)
 deriving DecidableEq, Inhabited
def eFact : En Fact := ⟨2, fun b a => if b then [(.int .i64 a.Relation), (osl eI true a.Values)] else [(.int .i64 a.Relation), (ssl eI a.Values)], fun b a => by cases b <;> rfl, by decide, fun b a => by cases b <;> simp [T.frz], fun a => by simp, fun a => by simp, fun b a => by cases b <;> simp⟩
@[simp] theorem eFact_w : eFact.w = 2 := rfl
@[simp] theorem eFact_ct {a : Fact} : eFact.c true a = [(.int .i64 a.Relation), (osl eI true a.Values)] := rfl
@[simp] theorem eFact_cf {a : Fact} : eFact.c false a = [(.int .i64 a.Relation), (ssl eI a.Values)] := rfl
@[simp] theorem arrFact_len {b : Bool} {l : List Fact} : (arr eFact b l).length = l.length * 2 := arr_len
@[simp] theorem eFact_e (a : Fact) : Fact.mk a.Relation a.Values = a := rfl
@[simp] def q0Fact {b l i o} := @arr_get2 _ eFact b l i o 2 rfl
@[simp] def q1Fact {b l i} := @arr_get20 _ eFact b l i 2 rfl
@[simp] def q2Fact {b l o} := @arr_get0 _ eFact b l o 2 rfl
@[simp] def q3Fact {b l} := @arr_take0 _ eFact b l 2 rfl
@[simp] def q4Fact {b l i o} := @arr_part _ eFact b l i o 2 rfl
@[simp] def q5Fact {b l i o j} := @arr_part2 _ eFact b l i o 2 j rfl
@[simp] def q6Fact {b l} := @arr_at2 _ eFact b l 2 rfl
@[simp] def q7Fact {b l} := @arr_take2 _ eFact b l 2 rfl
@[simp] def q8Fact {b l l' bs y} := @appT_w _ eFact b l l' bs y 2 rfl
@[simp] def q10Fact {z0 z1 n} := @rep_w _ eFact true n ⟨z0, z1⟩ [(.int .i64 z0), (.sl true true 1 0 (arr eI true z1))] rfl
@[simp] def q71Fact {b l} := @arr_tl _ eFact b l 2 rfl
@[simp] def q70Fact {b l i} := @arr_tk _ eFact b l i 2 rfl
@[simp] def q40Fact {b l' bs y} := @appT_w0 _ eFact b l' bs y 2 rfl
@[simp] theorem q50Fact {l : List Fact} {i : Nat} {z : Int} (h : i < l.length) : layT (arr eFact true l) (i * 2) 1 [(.int .i64 z)] = arr eFact true (l.set i ⟨z, (l[i]?.getD default).Values⟩) := by rw [List.getElem?_eq_getElem h]; exact lay_cell (E := eFact) (b := true) (i := i) (o := 0) ⟨z, l[i].Values⟩ (List.getElem?_eq_getElem h) (by decide) rfl
@[simp] theorem q60Fact {l : List Fact} {i : Nat} {z : Int} (h : i < l.length) : (arr eFact true l).set (i * 2) (.int .i64 z) = arr eFact true (l.set i ⟨z, (l[i]?.getD default).Values⟩) := by rw [List.getElem?_eq_getElem h]; exact set_cell (E := eFact) (b := true) (i := i) (o := 0) ⟨z, l[i].Values⟩ (List.getElem?_eq_getElem h) (by decide) rfl
@[simp] theorem q51Fact {l : List Fact} {i : Nat} {z : (List Int)} (h : i < l.length) : layT (arr eFact true l) (i * 2 + 1) 1 [(.sl true true 1 0 (arr eI true z))] = arr eFact true (l.set i ⟨(l[i]?.getD default).Relation, z⟩) := by rw [List.getElem?_eq_getElem h]; exact lay_cell (E := eFact) (b := true) (i := i) (o := 1) ⟨l[i].Relation, z⟩ (List.getElem?_eq_getElem h) (by decide) rfl
@[simp] theorem q61Fact {l : List Fact} {i : Nat} {z : (List Int)} (h : i < l.length) : (arr eFact true l).set (i * 2 + 1) (.sl true true 1 0 (arr eI true z)) = arr eFact true (l.set i ⟨(l[i]?.getD default).Relation, z⟩) := by rw [List.getElem?_eq_getElem h]; exact set_cell (E := eFact) (b := true) (i := i) (o := 1) ⟨l[i].Relation, z⟩ (List.getElem?_eq_getElem h) (by decide) rfl
@[simp] def q20Fact {z0 z1 l bs y} := @appT_1w _ eFact true l bs y 2 rfl ⟨z0, z1⟩ [(.int .i64 z0), (.sl true true 1 0 (arr eI true z1))] rfl
@[simp] def q23Fact {z0 z1 l' bs y} := @appT_11 _ eFact true l' bs y 2 rfl ⟨z0, z1⟩ [(.int .i64 z0), (.sl true true 1 0 (arr eI true z1))] rfl
@[simp] def q22Fact {z0 z1 bs y} := @appT_10 _ eFact true bs y 2 rfl ⟨z0, z1⟩ [(.int .i64 z0), (.sl true true 1 0 (arr eI true z1))] rfl
@[simp] def q21Fact {z0 z1 l i} := @lay_w _ eFact true l i 2 rfl ⟨z0, z1⟩ [(.int .i64 z0), (.sl true true 1 0 (arr eI true z1))] rfl
@[simp] def q30Fact {z0 z1 l bs y} := @appT_1w _ eFact false l bs y 2 rfl ⟨z0, z1⟩ [(.int .i64 z0), (.sl false false 1 1 (arr eI false z1))] rfl
@[simp] def q33Fact {z0 z1 l' bs y} := @appT_11 _ eFact false l' bs y 2 rfl ⟨z0, z1⟩ [(.int .i64 z0), (.sl false false 1 1 (arr eI false z1))] rfl
@[simp] def q32Fact {z0 z1 bs y} := @appT_10 _ eFact false bs y 2 rfl ⟨z0, z1⟩ [(.int .i64 z0), (.sl false false 1 1 (arr eI false z1))] rfl
@[simp] def q31Fact {z0 z1 l i} := @lay_w _ eFact false l i 2 rfl ⟨z0, z1⟩ [(.int .i64 z0), (.sl false false 1 1 (arr eI false z1))] rfl
structure Database where
 Relations : (List Relation)
 Facts : (List Fact)
 deriving DecidableEq, Inhabited
def eDatabase : En Database := ⟨2, fun b a => if b then [(osl eRelation true a.Relations), (osl eFact true a.Facts)] else [(ssl eRelation a.Relations), (ssl eFact a.Facts)], fun b a => by cases b <;> rfl, by decide, fun b a => by cases b <;> simp [T.frz], fun a => by simp, fun a => by simp, fun b a => by cases b <;> simp⟩
@[simp] theorem eDatabase_w : eDatabase.w = 2 := rfl
@[simp] theorem eDatabase_ct {a : Database} : eDatabase.c true a = [(osl eRelation true a.Relations), (osl eFact true a.Facts)] := rfl
@[simp] theorem eDatabase_cf {a : Database} : eDatabase.c false a = [(ssl eRelation a.Relations), (ssl eFact a.Facts)] := rfl
@[simp] theorem arrDatabase_len {b : Bool} {l : List Database} : (arr eDatabase b l).length = l.length * 2 := arr_len
@[simp] theorem eDatabase_e (a : Database) : Database.mk a.Relations a.Facts = a := rfl
@[simp] def q0Database {b l i o} := @arr_get2 _ eDatabase b l i o 2 rfl
@[simp] def q1Database {b l i} := @arr_get20 _ eDatabase b l i 2 rfl
@[simp] def q2Database {b l o} := @arr_get0 _ eDatabase b l o 2 rfl
@[simp] def q3Database {b l} := @arr_take0 _ eDatabase b l 2 rfl
@[simp] def q4Database {b l i o} := @arr_part _ eDatabase b l i o 2 rfl
@[simp] def q5Database {b l i o j} := @arr_part2 _ eDatabase b l i o 2 j rfl
@[simp] def q6Database {b l} := @arr_at2 _ eDatabase b l 2 rfl
@[simp] def q7Database {b l} := @arr_take2 _ eDatabase b l 2 rfl
@[simp] def q8Database {b l l' bs y} := @appT_w _ eDatabase b l l' bs y 2 rfl
@[simp] def q10Database {z0 z1 n} := @rep_w _ eDatabase true n ⟨z0, z1⟩ [(.sl true true 3 0 (arr eRelation true z0)), (.sl true true 2 0 (arr eFact true z1))] rfl
@[simp] def q71Database {b l} := @arr_tl _ eDatabase b l 2 rfl
@[simp] def q70Database {b l i} := @arr_tk _ eDatabase b l i 2 rfl
@[simp] def q40Database {b l' bs y} := @appT_w0 _ eDatabase b l' bs y 2 rfl
@[simp] theorem q50Database {l : List Database} {i : Nat} {z : (List Relation)} (h : i < l.length) : layT (arr eDatabase true l) (i * 2) 1 [(.sl true true 3 0 (arr eRelation true z))] = arr eDatabase true (l.set i ⟨z, (l[i]?.getD default).Facts⟩) := by rw [List.getElem?_eq_getElem h]; exact lay_cell (E := eDatabase) (b := true) (i := i) (o := 0) ⟨z, l[i].Facts⟩ (List.getElem?_eq_getElem h) (by decide) rfl
@[simp] theorem q60Database {l : List Database} {i : Nat} {z : (List Relation)} (h : i < l.length) : (arr eDatabase true l).set (i * 2) (.sl true true 3 0 (arr eRelation true z)) = arr eDatabase true (l.set i ⟨z, (l[i]?.getD default).Facts⟩) := by rw [List.getElem?_eq_getElem h]; exact set_cell (E := eDatabase) (b := true) (i := i) (o := 0) ⟨z, l[i].Facts⟩ (List.getElem?_eq_getElem h) (by decide) rfl
@[simp] theorem q51Database {l : List Database} {i : Nat} {z : (List Fact)} (h : i < l.length) : layT (arr eDatabase true l) (i * 2 + 1) 1 [(.sl true true 2 0 (arr eFact true z))] = arr eDatabase true (l.set i ⟨(l[i]?.getD default).Relations, z⟩) := by rw [List.getElem?_eq_getElem h]; exact lay_cell (E := eDatabase) (b := true) (i := i) (o := 1) ⟨l[i].Relations, z⟩ (List.getElem?_eq_getElem h) (by decide) rfl
@[simp] theorem q61Database {l : List Database} {i : Nat} {z : (List Fact)} (h : i < l.length) : (arr eDatabase true l).set (i * 2 + 1) (.sl true true 2 0 (arr eFact true z)) = arr eDatabase true (l.set i ⟨(l[i]?.getD default).Relations, z⟩) := by rw [List.getElem?_eq_getElem h]; exact set_cell (E := eDatabase) (b := true) (i := i) (o := 1) ⟨l[i].Relations, z⟩ (List.getElem?_eq_getElem h) (by decide) rfl
@[simp] def q20Database {z0 z1 l bs y} := @appT_1w _ eDatabase true l bs y 2 rfl ⟨z0, z1⟩ [(.sl true true 3 0 (arr eRelation true z0)), (.sl true true 2 0 (arr eFact true z1))] rfl
@[simp] def q23Database {z0 z1 l' bs y} := @appT_11 _ eDatabase true l' bs y 2 rfl ⟨z0, z1⟩ [(.sl true true 3 0 (arr eRelation true z0)), (.sl true true 2 0 (arr eFact true z1))] rfl
@[simp] def q22Database {z0 z1 bs y} := @appT_10 _ eDatabase true bs y 2 rfl ⟨z0, z1⟩ [(.sl true true 3 0 (arr eRelation true z0)), (.sl true true 2 0 (arr eFact true z1))] rfl
@[simp] def q21Database {z0 z1 l i} := @lay_w _ eDatabase true l i 2 rfl ⟨z0, z1⟩ [(.sl true true 3 0 (arr eRelation true z0)), (.sl true true 2 0 (arr eFact true z1))] rfl
@[simp] def q30Database {z0 z1 l bs y} := @appT_1w _ eDatabase false l bs y 2 rfl ⟨z0, z1⟩ [(.sl false false 3 1 (arr eRelation false z0)), (.sl false false 2 1 (arr eFact false z1))] rfl
@[simp] def q33Database {z0 z1 l' bs y} := @appT_11 _ eDatabase false l' bs y 2 rfl ⟨z0, z1⟩ [(.sl false false 3 1 (arr eRelation false z0)), (.sl false false 2 1 (arr eFact false z1))] rfl
@[simp] def q32Database {z0 z1 bs y} := @appT_10 _ eDatabase false bs y 2 rfl ⟨z0, z1⟩ [(.sl false false 3 1 (arr eRelation false z0)), (.sl false false 2 1 (arr eFact false z1))] rfl
@[simp] def q31Database {z0 z1 l i} := @lay_w _ eDatabase false l i 2 rfl ⟨z0, z1⟩ [(.sl false false 3 1 (arr eRelation false z0)), (.sl false false 2 1 (arr eFact false z1))] rfl
structure Atom where
 Relation : Int
 Terms : (List Int)
 deriving DecidableEq, Inhabited
def eAtom : En Atom := ⟨2, fun b a => if b then [(.int .i64 a.Relation), (osl eI true a.Terms)] else [(.int .i64 a.Relation), (ssl eI a.Terms)], fun b a => by cases b <;> rfl, by decide, fun b a => by cases b <;> simp [T.frz], fun a => by simp, fun a => by simp, fun b a => by cases b <;> simp⟩
@[simp] theorem eAtom_w : eAtom.w = 2 := rfl
@[simp] theorem eAtom_ct {a : Atom} : eAtom.c true a = [(.int .i64 a.Relation), (osl eI true a.Terms)] := rfl
@[simp] theorem eAtom_cf {a : Atom} : eAtom.c false a = [(.int .i64 a.Relation), (ssl eI a.Terms)] := rfl
@[simp] theorem arrAtom_len {b : Bool} {l : List Atom} : (arr eAtom b l).length = l.length * 2 := arr_len
@[simp] theorem eAtom_e (a : Atom) : Atom.mk a.Relation a.Terms = a := rfl
@[simp] def q0Atom {b l i o} := @arr_get2 _ eAtom b l i o 2 rfl
@[simp] def q1Atom {b l i} := @arr_get20 _ eAtom b l i 2 rfl
@[simp] def q2Atom {b l o} := @arr_get0 _ eAtom b l o 2 rfl
@[simp] def q3Atom {b l} := @arr_take0 _ eAtom b l 2 rfl
@[simp] def q4Atom {b l i o} := @arr_part _ eAtom b l i o 2 rfl
@[simp] def q5Atom {b l i o j} := @arr_part2 _ eAtom b l i o 2 j rfl
@[simp] def q6Atom {b l} := @arr_at2 _ eAtom b l 2 rfl
@[simp] def q7Atom {b l} := @arr_take2 _ eAtom b l 2 rfl
@[simp] def q8Atom {b l l' bs y} := @appT_w _ eAtom b l l' bs y 2 rfl
@[simp] def q10Atom {z0 z1 n} := @rep_w _ eAtom true n ⟨z0, z1⟩ [(.int .i64 z0), (.sl true true 1 0 (arr eI true z1))] rfl
@[simp] def q71Atom {b l} := @arr_tl _ eAtom b l 2 rfl
@[simp] def q70Atom {b l i} := @arr_tk _ eAtom b l i 2 rfl
@[simp] def q40Atom {b l' bs y} := @appT_w0 _ eAtom b l' bs y 2 rfl
@[simp] theorem q50Atom {l : List Atom} {i : Nat} {z : Int} (h : i < l.length) : layT (arr eAtom true l) (i * 2) 1 [(.int .i64 z)] = arr eAtom true (l.set i ⟨z, (l[i]?.getD default).Terms⟩) := by rw [List.getElem?_eq_getElem h]; exact lay_cell (E := eAtom) (b := true) (i := i) (o := 0) ⟨z, l[i].Terms⟩ (List.getElem?_eq_getElem h) (by decide) rfl
@[simp] theorem q60Atom {l : List Atom} {i : Nat} {z : Int} (h : i < l.length) : (arr eAtom true l).set (i * 2) (.int .i64 z) = arr eAtom true (l.set i ⟨z, (l[i]?.getD default).Terms⟩) := by rw [List.getElem?_eq_getElem h]; exact set_cell (E := eAtom) (b := true) (i := i) (o := 0) ⟨z, l[i].Terms⟩ (List.getElem?_eq_getElem h) (by decide) rfl
@[simp] theorem q51Atom {l : List Atom} {i : Nat} {z : (List Int)} (h : i < l.length) : layT (arr eAtom true l) (i * 2 + 1) 1 [(.sl true true 1 0 (arr eI true z))] = arr eAtom true (l.set i ⟨(l[i]?.getD default).Relation, z⟩) := by rw [List.getElem?_eq_getElem h]; exact lay_cell (E := eAtom) (b := true) (i := i) (o := 1) ⟨l[i].Relation, z⟩ (List.getElem?_eq_getElem h) (by decide) rfl
@[simp] theorem q61Atom {l : List Atom} {i : Nat} {z : (List Int)} (h : i < l.length) : (arr eAtom true l).set (i * 2 + 1) (.sl true true 1 0 (arr eI true z)) = arr eAtom true (l.set i ⟨(l[i]?.getD default).Relation, z⟩) := by rw [List.getElem?_eq_getElem h]; exact set_cell (E := eAtom) (b := true) (i := i) (o := 1) ⟨l[i].Relation, z⟩ (List.getElem?_eq_getElem h) (by decide) rfl
@[simp] def q20Atom {z0 z1 l bs y} := @appT_1w _ eAtom true l bs y 2 rfl ⟨z0, z1⟩ [(.int .i64 z0), (.sl true true 1 0 (arr eI true z1))] rfl
@[simp] def q23Atom {z0 z1 l' bs y} := @appT_11 _ eAtom true l' bs y 2 rfl ⟨z0, z1⟩ [(.int .i64 z0), (.sl true true 1 0 (arr eI true z1))] rfl
@[simp] def q22Atom {z0 z1 bs y} := @appT_10 _ eAtom true bs y 2 rfl ⟨z0, z1⟩ [(.int .i64 z0), (.sl true true 1 0 (arr eI true z1))] rfl
@[simp] def q21Atom {z0 z1 l i} := @lay_w _ eAtom true l i 2 rfl ⟨z0, z1⟩ [(.int .i64 z0), (.sl true true 1 0 (arr eI true z1))] rfl
@[simp] def q30Atom {z0 z1 l bs y} := @appT_1w _ eAtom false l bs y 2 rfl ⟨z0, z1⟩ [(.int .i64 z0), (.sl false false 1 1 (arr eI false z1))] rfl
@[simp] def q33Atom {z0 z1 l' bs y} := @appT_11 _ eAtom false l' bs y 2 rfl ⟨z0, z1⟩ [(.int .i64 z0), (.sl false false 1 1 (arr eI false z1))] rfl
@[simp] def q32Atom {z0 z1 bs y} := @appT_10 _ eAtom false bs y 2 rfl ⟨z0, z1⟩ [(.int .i64 z0), (.sl false false 1 1 (arr eI false z1))] rfl
@[simp] def q31Atom {z0 z1 l i} := @lay_w _ eAtom false l i 2 rfl ⟨z0, z1⟩ [(.int .i64 z0), (.sl false false 1 1 (arr eI false z1))] rfl
structure RewritingStep where
 Atom : Atom
 Existential : (List Int)
 Universal : (List Int)
 deriving DecidableEq, Inhabited
def eRewritingStep : En RewritingStep := ⟨4, fun b a => if b then [(.int .i64 a.Atom.Relation), (osl eI true a.Atom.Terms), (osl eI true a.Existential), (osl eI true a.Universal)] else [(.int .i64 a.Atom.Relation), (ssl eI a.Atom.Terms), (ssl eI a.Existential), (ssl eI a.Universal)], fun b a => by cases b <;> rfl, by decide, fun b a => by cases b <;> simp [T.frz], fun a => by simp, fun a => by simp, fun b a => by cases b <;> simp⟩
@[simp] theorem eRewritingStep_w : eRewritingStep.w = 4 := rfl
@[simp] theorem eRewritingStep_ct {a : RewritingStep} : eRewritingStep.c true a = [(.int .i64 a.Atom.Relation), (osl eI true a.Atom.Terms), (osl eI true a.Existential), (osl eI true a.Universal)] := rfl
@[simp] theorem eRewritingStep_cf {a : RewritingStep} : eRewritingStep.c false a = [(.int .i64 a.Atom.Relation), (ssl eI a.Atom.Terms), (ssl eI a.Existential), (ssl eI a.Universal)] := rfl
@[simp] theorem arrRewritingStep_len {b : Bool} {l : List RewritingStep} : (arr eRewritingStep b l).length = l.length * 4 := arr_len
@[simp] theorem eRewritingStep_e (a : RewritingStep) : RewritingStep.mk a.Atom a.Existential a.Universal = a := rfl
@[simp] def q0RewritingStep {b l i o} := @arr_get2 _ eRewritingStep b l i o 4 rfl
@[simp] def q1RewritingStep {b l i} := @arr_get20 _ eRewritingStep b l i 4 rfl
@[simp] def q2RewritingStep {b l o} := @arr_get0 _ eRewritingStep b l o 4 rfl
@[simp] def q3RewritingStep {b l} := @arr_take0 _ eRewritingStep b l 4 rfl
@[simp] def q4RewritingStep {b l i o} := @arr_part _ eRewritingStep b l i o 4 rfl
@[simp] def q5RewritingStep {b l i o j} := @arr_part2 _ eRewritingStep b l i o 4 j rfl
@[simp] def q6RewritingStep {b l} := @arr_at2 _ eRewritingStep b l 4 rfl
@[simp] def q7RewritingStep {b l} := @arr_take2 _ eRewritingStep b l 4 rfl
@[simp] def q8RewritingStep {b l l' bs y} := @appT_w _ eRewritingStep b l l' bs y 4 rfl
@[simp] def q10RewritingStep {z0 z1 z2 n} := @rep_w _ eRewritingStep true n ⟨z0, z1, z2⟩ [(.int .i64 z0.Relation), (.sl true true 1 0 (arr eI true z0.Terms)), (.sl true true 1 0 (arr eI true z1)), (.sl true true 1 0 (arr eI true z2))] rfl
@[simp] def q71RewritingStep {b l} := @arr_tl _ eRewritingStep b l 4 rfl
@[simp] def q70RewritingStep {b l i} := @arr_tk _ eRewritingStep b l i 4 rfl
@[simp] def q40RewritingStep {b l' bs y} := @appT_w0 _ eRewritingStep b l' bs y 4 rfl
@[simp] theorem q51RewritingStep {l : List RewritingStep} {i : Nat} {z : (List Int)} (h : i < l.length) : layT (arr eRewritingStep true l) (i * 4 + 2) 1 [(.sl true true 1 0 (arr eI true z))] = arr eRewritingStep true (l.set i ⟨(l[i]?.getD default).Atom, z, (l[i]?.getD default).Universal⟩) := by rw [List.getElem?_eq_getElem h]; exact lay_cell (E := eRewritingStep) (b := true) (i := i) (o := 2) ⟨l[i].Atom, z, l[i].Universal⟩ (List.getElem?_eq_getElem h) (by decide) rfl
@[simp] theorem q61RewritingStep {l : List RewritingStep} {i : Nat} {z : (List Int)} (h : i < l.length) : (arr eRewritingStep true l).set (i * 4 + 2) (.sl true true 1 0 (arr eI true z)) = arr eRewritingStep true (l.set i ⟨(l[i]?.getD default).Atom, z, (l[i]?.getD default).Universal⟩) := by rw [List.getElem?_eq_getElem h]; exact set_cell (E := eRewritingStep) (b := true) (i := i) (o := 2) ⟨l[i].Atom, z, l[i].Universal⟩ (List.getElem?_eq_getElem h) (by decide) rfl
@[simp] theorem q52RewritingStep {l : List RewritingStep} {i : Nat} {z : (List Int)} (h : i < l.length) : layT (arr eRewritingStep true l) (i * 4 + 3) 1 [(.sl true true 1 0 (arr eI true z))] = arr eRewritingStep true (l.set i ⟨(l[i]?.getD default).Atom, (l[i]?.getD default).Existential, z⟩) := by rw [List.getElem?_eq_getElem h]; exact lay_cell (E := eRewritingStep) (b := true) (i := i) (o := 3) ⟨l[i].Atom, l[i].Existential, z⟩ (List.getElem?_eq_getElem h) (by decide) rfl
@[simp] theorem q62RewritingStep {l : List RewritingStep} {i : Nat} {z : (List Int)} (h : i < l.length) : (arr eRewritingStep true l).set (i * 4 + 3) (.sl true true 1 0 (arr eI true z)) = arr eRewritingStep true (l.set i ⟨(l[i]?.getD default).Atom, (l[i]?.getD default).Existential, z⟩) := by rw [List.getElem?_eq_getElem h]; exact set_cell (E := eRewritingStep) (b := true) (i := i) (o := 3) ⟨l[i].Atom, l[i].Existential, z⟩ (List.getElem?_eq_getElem h) (by decide) rfl
@[simp] def q20RewritingStep {z0 z1 z2 l bs y} := @appT_1w _ eRewritingStep true l bs y 4 rfl ⟨z0, z1, z2⟩ [(.int .i64 z0.Relation), (.sl true true 1 0 (arr eI true z0.Terms)), (.sl true true 1 0 (arr eI true z1)), (.sl true true 1 0 (arr eI true z2))] rfl
@[simp] def q23RewritingStep {z0 z1 z2 l' bs y} := @appT_11 _ eRewritingStep true l' bs y 4 rfl ⟨z0, z1, z2⟩ [(.int .i64 z0.Relation), (.sl true true 1 0 (arr eI true z0.Terms)), (.sl true true 1 0 (arr eI true z1)), (.sl true true 1 0 (arr eI true z2))] rfl
@[simp] def q22RewritingStep {z0 z1 z2 bs y} := @appT_10 _ eRewritingStep true bs y 4 rfl ⟨z0, z1, z2⟩ [(.int .i64 z0.Relation), (.sl true true 1 0 (arr eI true z0.Terms)), (.sl true true 1 0 (arr eI true z1)), (.sl true true 1 0 (arr eI true z2))] rfl
@[simp] def q21RewritingStep {z0 z1 z2 l i} := @lay_w _ eRewritingStep true l i 4 rfl ⟨z0, z1, z2⟩ [(.int .i64 z0.Relation), (.sl true true 1 0 (arr eI true z0.Terms)), (.sl true true 1 0 (arr eI true z1)), (.sl true true 1 0 (arr eI true z2))] rfl
@[simp] def q30RewritingStep {z0 z1 z2 l bs y} := @appT_1w _ eRewritingStep false l bs y 4 rfl ⟨z0, z1, z2⟩ [(.int .i64 z0.Relation), (.sl false false 1 1 (arr eI false z0.Terms)), (.sl false false 1 1 (arr eI false z1)), (.sl false false 1 1 (arr eI false z2))] rfl
@[simp] def q33RewritingStep {z0 z1 z2 l' bs y} := @appT_11 _ eRewritingStep false l' bs y 4 rfl ⟨z0, z1, z2⟩ [(.int .i64 z0.Relation), (.sl false false 1 1 (arr eI false z0.Terms)), (.sl false false 1 1 (arr eI false z1)), (.sl false false 1 1 (arr eI false z2))] rfl
@[simp] def q32RewritingStep {z0 z1 z2 bs y} := @appT_10 _ eRewritingStep false bs y 4 rfl ⟨z0, z1, z2⟩ [(.int .i64 z0.Relation), (.sl false false 1 1 (arr eI false z0.Terms)), (.sl false false 1 1 (arr eI false z1)), (.sl false false 1 1 (arr eI false z2))] rfl
@[simp] def q31RewritingStep {z0 z1 z2 l i} := @lay_w _ eRewritingStep false l i 4 rfl ⟨z0, z1, z2⟩ [(.int .i64 z0.Relation), (.sl false false 1 1 (arr eI false z0.Terms)), (.sl false false 1 1 (arr eI false z1)), (.sl false false 1 1 (arr eI false z2))] rfl
def f92 (a : Relation) (left : Int) : Option Int :=
 if (w64 (left - (a.Name.length : Int))) < 0 then
 some (-1)
 else
 some (w64 (left - (a.Name.length : Int)))
def f26_0 (a : (List Relation)) : Int × Int → Option ((Int × Int) ⊕ (Int ⊕ Int))
 | (left_2, i_3) =>
  if i_3 < (a.length : Int) then
  (ix a i_3).bind fun v_5 =>
  (f92 v_5 left_2).bind fun o7 =>
  if o7 < 0 then
  some (.inr (.inr (-1)))
  else
  some (.inl (o7, w64 (i_3 + 1)))
  else
  some (.inr (.inl left_2))
def f26 (a : (List Relation)) (left : Int) : Option Int :=
 if (w64 (left - (a.length : Int))) < 0 then
 some (-1)
 else
 (iter (f26_0 a) (w64 (left - (a.length : Int)), 0)).bind fun o => match o with
 | .inl left_12 =>
 some left_12
 | .inr x_13 =>
 some x_13
def f87 (a : (List Int)) (left : Int) : Option Int :=
 if (w64 (left - (a.length : Int))) < 0 then
 some (-1)
 else
 some (w64 (left - (a.length : Int)))
def f148 (a : Fact) (left : Int) : Option Int :=
 (f87 a.Values left).bind fun o1 =>
 if o1 < 0 then
 some (-1)
 else
 some o1
def f71_0 (a : (List Fact)) : Int × Int → Option ((Int × Int) ⊕ (Int ⊕ Int))
 | (left_2, i_3) =>
  if i_3 < (a.length : Int) then
  (ix a i_3).bind fun v_5 =>
  (f148 v_5 left_2).bind fun o7 =>
  if o7 < 0 then
  some (.inr (.inr (-1)))
  else
  some (.inl (o7, w64 (i_3 + 1)))
  else
  some (.inr (.inl left_2))
def f71 (a : (List Fact)) (left : Int) : Option Int :=
 if (w64 (left - (a.length : Int))) < 0 then
 some (-1)
 else
 (iter (f71_0 a) (w64 (left - (a.length : Int)), 0)).bind fun o => match o with
 | .inl left_12 =>
 some left_12
 | .inr x_13 =>
 some x_13
def f11 (a : Database) (left : Int) : Option Int :=
 (f26 a.Relations left).bind fun o1 =>
 if o1 < 0 then
 some (-1)
 else
 (f71 a.Facts o1).bind fun o4 =>
 if o4 < 0 then
 some (-1)
 else
 some o4
def f149 (a : Atom) (left : Int) : Option Int :=
 (f87 a.Terms left).bind fun o1 =>
 if o1 < 0 then
 some (-1)
 else
 some o1
def f72 (a : RewritingStep) (left : Int) : Option Int :=
 (f149 a.Atom left).bind fun o1 =>
 if o1 < 0 then
 some (-1)
 else
 (f87 a.Existential o1).bind fun o4 =>
 if o4 < 0 then
 some (-1)
 else
 (f87 a.Universal o4).bind fun o7 =>
 if o7 < 0 then
 some (-1)
 else
 some o7
def f12_0 (a : (List RewritingStep)) : Int × Int → Option ((Int × Int) ⊕ (Int ⊕ Int))
 | (left_2, i_3) =>
  if i_3 < (a.length : Int) then
  (ix a i_3).bind fun v_5 =>
  (f72 v_5 left_2).bind fun o7 =>
  if o7 < 0 then
  some (.inr (.inr (-1)))
  else
  some (.inl (o7, w64 (i_3 + 1)))
  else
  some (.inr (.inl left_2))
def f12 (a : (List RewritingStep)) (left : Int) : Option Int :=
 if (w64 (left - (a.length : Int))) < 0 then
 some (-1)
 else
 (iter (f12_0 a) (w64 (left - (a.length : Int)), 0)).bind fun o => match o with
 | .inl left_12 =>
 some left_12
 | .inr x_13 =>
 some x_13
def f98 (a : Relation) : Option Relation :=
 some a
def f28_0 (a : (List Relation)) : (List Relation) × Int → Option (((List Relation) × Int) ⊕ (List Relation))
 | (out_3, i_4) =>
  if i_4 < (a.length : Int) then
  (ix a i_4).bind fun v_6 =>
  (f98 v_6).bind fun o8 =>
  (ix out_3 i_4).bind fun v_10 =>
  some (.inl ((out_3.set i_4.toNat o8), w64 (i_4 + 1)))
  else
  some (.inr out_3)
def f28 (a : (List Relation)) : Option (List Relation) :=
 (mkl 32 (a.length : Int) ({ Name := [], Arity := 0, KeyLength := 0 } : Relation)).bind fun l_1 =>
 (iter (f28_0 a) (l_1, 0)).bind fun out_15 =>
 some out_15
def f16_0 (a : (List Int)) : (List Int) × Int → Option (((List Int) × Int) ⊕ (List Int))
 | (out_3, i_4) =>
  if i_4 < (a.length : Int) then
  (ix a i_4).bind fun v_6 =>
  (ix out_3 i_4).bind fun v_8 =>
  some (.inl ((out_3.set i_4.toNat v_6), w64 (i_4 + 1)))
  else
  some (.inr out_3)
def f16 (a : (List Int)) : Option (List Int) :=
 (mkl 8 (a.length : Int) 0).bind fun l_1 =>
 (iter (f16_0 a) (l_1, 0)).bind fun out_13 =>
 some out_13
def f154 (a : Fact) : Option Fact :=
 (f16 a.Values).bind fun o1 =>
 some ({ Relation := a.Relation, Values := o1 } : Fact)
def f77_0 (a : (List Fact)) : (List Fact) × Int → Option (((List Fact) × Int) ⊕ (List Fact))
 | (out_3, i_4) =>
  if i_4 < (a.length : Int) then
  (ix a i_4).bind fun v_6 =>
  (f154 v_6).bind fun o8 =>
  (ix out_3 i_4).bind fun v_10 =>
  some (.inl ((out_3.set i_4.toNat o8), w64 (i_4 + 1)))
  else
  some (.inr out_3)
def f77 (a : (List Fact)) : Option (List Fact) :=
 (mkl 32 (a.length : Int) (({ Relation := 0, Values := [] } : Fact) : Fact)).bind fun l_1 =>
 (iter (f77_0 a) (l_1, 0)).bind fun out_15 =>
 some out_15
def f14 (a : Database) : Option Database :=
 (f28 a.Relations).bind fun o1 =>
 (f77 a.Facts).bind fun o3 =>
 some ({ Relations := o1, Facts := o3 } : Database)
def f155 (a : Atom) : Option Atom :=
 (f16 a.Terms).bind fun o1 =>
 some ({ Relation := a.Relation, Terms := o1 } : Atom)
def f78 (a : RewritingStep) : Option RewritingStep :=
 (f155 a.Atom).bind fun o1 =>
 (f16 a.Existential).bind fun o3 =>
 (f16 a.Universal).bind fun o5 =>
 some ({ Atom := o1, Existential := o3, Universal := o5 } : RewritingStep)
def f15_0 (a : (List RewritingStep)) : (List RewritingStep) × Int → Option (((List RewritingStep) × Int) ⊕ (List RewritingStep))
 | (out_3, i_4) =>
  if i_4 < (a.length : Int) then
  (ix a i_4).bind fun v_6 =>
  (f78 v_6).bind fun o8 =>
  (ix out_3 i_4).bind fun v_10 =>
  some (.inl ((out_3.set i_4.toNat o8), w64 (i_4 + 1)))
  else
  some (.inr out_3)
def f15 (a : (List RewritingStep)) : Option (List RewritingStep) :=
 (mkl 80 (a.length : Int) (({ Atom := ({ Relation := 0, Terms := [] } : Atom), Existential := [], Universal := [] } : RewritingStep) : RewritingStep)).bind fun l_1 =>
 (iter (f15_0 a) (l_1, 0)).bind fun out_15 =>
 some out_15
def f118 (x : Int) (low : Int) (high : Int) : Option Bool :=
 (((if x ≥ low then
 some (decide (x ≤ high))
 else
 some false) : Option (Bool))).bind fun x_1 =>
 some x_1
def f179 (s0 : Relation) : Option Bool :=
 (((if (s0.Name.length : Int) = 1 then
 (ix s0.Name 0).bind fun c_4 =>
 (((if (c_4.toNat : Int) ≥ 97 then
 (((if (c_4.toNat : Int) ≤ 122 then
 (f118 s0.Arity 1 3).bind fun o12 =>
 (((if o12 = true then
 (f118 s0.KeyLength 0 s0.Arity).bind fun o17 =>
 some o17
 else
 some false) : Option (Bool))).bind fun x_14 =>
 some x_14
 else
 some false) : Option (Bool))).bind fun x_9 =>
 some x_9
 else
 some false) : Option (Bool))).bind fun x_6 =>
 some x_6
 else
 some false) : Option (Bool))).bind fun x_1 =>
 some x_1
def f117_0 (l : (List Relation)) : Int → Option (Int ⊕ (Unit ⊕ Bool))
 | i_1 =>
  if i_1 < (l.length : Int) then
  (ix l i_1).bind fun v_3 =>
  (f179 v_3).bind fun o5 =>
  (((if ¬ (o5 = true) then
  some true
  else
  (((if i_1 > 0 then
  (ix l (w64 (i_1 - 1))).bind fun v_13 =>
  some (!(Op.bytesLess v_13.Name v_3.Name))
  else
  some false) : Option (Bool))).bind fun x_10 =>
  some x_10) : Option (Bool))).bind fun x_7 =>
  if x_7 = true then
  some (.inr (.inr false))
  else
  some (.inl (w64 (i_1 + 1)))
  else
  some (.inr (.inl ()))
def f117 (l : (List Relation)) : Option Bool :=
 (iter (f117_0 l) 0).bind fun o => match o with
 | .inl _ =>
 some (decide ((l.length : Int) ≤ 4))
 | .inr x_18 =>
 some x_18
def f150_0 (f : Fact) : Int → Option (Int ⊕ (Unit ⊕ Bool))
 | i_14 =>
  if i_14 < (f.Values.length : Int) then
  (ix f.Values i_14).bind fun v_16 =>
  (f118 v_16 0 9).bind fun o18 =>
  if ¬ (o18 = true) then
  some (.inr (.inr false))
  else
  some (.inl (w64 (i_14 + 1)))
  else
  some (.inr (.inl ()))
def f150 (l : (List Relation)) (f : Fact) : Option Bool :=
 (f117 l).bind fun o1 =>
 (((if ¬ (o1 = true) then
 some true
 else
 (f118 f.Relation 0 (w64 ((l.length : Int) - 1))).bind fun o6 =>
 (((if ¬ (o6 = true) then
 some true
 else
 (ix l f.Relation).bind fun v_11 =>
 some (decide ((f.Values.length : Int) ≠ v_11.Arity))) : Option (Bool))).bind fun x_8 =>
 some x_8) : Option (Bool))).bind fun x_3 =>
 if x_3 = true then
 some false
 else
 (iter (f150_0 f) 0).bind fun o => match o with
 | .inl _ =>
 some true
 | .inr x_23 =>
 some x_23
def f207_0 (a : (List Int)) (b : (List Int)) : Int → Option (Int ⊕ (Unit ⊕ Int))
 | i_1 =>
  (((if i_1 < (a.length : Int) then
  some (decide (i_1 < (b.length : Int)))
  else
  some false) : Option (Bool))).bind fun x_2 =>
  if x_2 = true then
  (ix a i_1).bind fun v_6 =>
  (ix b i_1).bind fun v_8 =>
  if v_6 < v_8 then
  some (.inr (.inr (-1)))
  else
  if v_6 > v_8 then
  some (.inr (.inr 1))
  else
  some (.inl (w64 (i_1 + 1)))
  else
  some (.inr (.inl ()))
def f207 (a : (List Int)) (b : (List Int)) : Option Int :=
 (iter (f207_0 a b) 0).bind fun o => match o with
 | .inl _ =>
 if (a.length : Int) < (b.length : Int) then
 some (-1)
 else
 if (a.length : Int) > (b.length : Int) then
 some 1
 else
 some 0
 | .inr x_14 =>
 some x_14
def f151 (a : Fact) (b : Fact) : Option Int :=
 if a.Relation < b.Relation then
 some (-1)
 else
 if a.Relation > b.Relation then
 some 1
 else
 (f207 a.Values b.Values).bind fun o3 =>
 some o3
def f73_0 (d : Database) : Int → Option (Int ⊕ (Unit ⊕ Bool))
 | i_1 =>
  if i_1 < (d.Facts.length : Int) then
  (ix d.Facts i_1).bind fun v_3 =>
  (f150 d.Relations v_3).bind fun o5 =>
  (((if ¬ (o5 = true) then
  some true
  else
  (((if i_1 > 0 then
  (ix d.Facts (w64 (i_1 - 1))).bind fun v_13 =>
  (f151 v_13 v_3).bind fun o15 =>
  some (decide (o15 ≥ 0))
  else
  some false) : Option (Bool))).bind fun x_10 =>
  some x_10) : Option (Bool))).bind fun x_7 =>
  if x_7 = true then
  some (.inr (.inr false))
  else
  some (.inl (w64 (i_1 + 1)))
  else
  some (.inr (.inl ()))
def f73 (d : Database) : Option Bool :=
 (iter (f73_0 d) 0).bind fun o => match o with
 | .inl _ =>
 (f117 d.Relations).bind fun o21 =>
 (((if o21 = true then
 some (decide ((d.Facts.length : Int) ≤ 14))
 else
 some false) : Option (Bool))).bind fun x_23 =>
 some x_23
 | .inr x_20 =>
 some x_20
def f95_0 (l : (List Int)) (x : Int) : Int → Option (Int ⊕ (Unit ⊕ Bool))
 | i_1 =>
  if i_1 < (l.length : Int) then
  (ix l i_1).bind fun v_3 =>
  if v_3 = x then
  some (.inr (.inr true))
  else
  some (.inl (w64 (i_1 + 1)))
  else
  some (.inr (.inl ()))
def f95 (l : (List Int)) (x : Int) : Option Bool :=
 (iter (f95_0 l x) 0).bind fun o => match o with
 | .inl _ =>
 some false
 | .inr x_8 =>
 some x_8
def f120_0 (a : Atom) : (List Int) × Int → Option (((List Int) × Int) ⊕ (List Int))
 | (out_1, v_2) =>
  if v_2 < 4 then
  (f95 a.Terms v_2).bind fun o4 =>
  (((if o4 = true then
  (app 8 out_1 ([v_2])).bind fun l_9 =>
  some l_9
  else
  some out_1) : Option (List Int))).bind fun out_11 =>
  some (.inl (out_11, w64 (v_2 + 1)))
  else
  some (.inr out_1)
def f120 (a : Atom) : Option (List Int) :=
 (iter (f120_0 a) ([], 0)).bind fun out_14 =>
 some out_14
def f96 (l : (List Relation)) (a : Atom) : Option (List Int) :=
 (f118 a.Relation 0 (w64 ((l.length : Int) - 1))).bind fun o1 =>
 (((if ¬ (o1 = true) then
 some true
 else
 (ix l a.Relation).bind fun v_6 =>
 (f118 v_6.KeyLength 0 (a.Terms.length : Int)).bind fun o8 =>
 some (decide (¬ (o8 = true)))) : Option (Bool))).bind fun x_3 =>
 if x_3 = true then
 some ([])
 else
 (ix l a.Relation).bind fun v_11 =>
 (cutL a.Terms 0 v_11.KeyLength).bind fun l_13 =>
 (f120 ({ Relation := 0, Terms := l_13 } : Atom)).bind fun o15 =>
 some o15
def f152_0 (l : (List Int)) (want : (List Int)) : Int → Option (Int ⊕ (Unit ⊕ Bool))
 | i_1 =>
  if i_1 < (want.length : Int) then
  (ix want i_1).bind fun v_3 =>
  (f95 l v_3).bind fun o5 =>
  if ¬ (o5 = true) then
  some (.inr (.inr false))
  else
  some (.inl (w64 (i_1 + 1)))
  else
  some (.inr (.inl ()))
def f152 (l : (List Int)) (want : (List Int)) : Option Bool :=
 (iter (f152_0 l want) 0).bind fun o => match o with
 | .inl _ =>
 some true
 | .inr x_10 =>
 some x_10
def f74_1 (v_3 : RewritingStep) : Int → Option (Int ⊕ (Unit ⊕ Bool))
 | k_18 =>
  if k_18 < (v_3.Atom.Terms.length : Int) then
  (ix v_3.Atom.Terms k_18).bind fun v_20 =>
  (f118 v_20 (-10) 3).bind fun o22 =>
  if ¬ (o22 = true) then
  some (.inr (.inr false))
  else
  some (.inl (w64 (k_18 + 1)))
  else
  some (.inr (.inl ()))
def f74_0 (l : (List Relation)) (f : (List RewritingStep)) : Int → Option (Int ⊕ (Unit ⊕ Bool))
 | i_1 =>
  if i_1 < (f.length : Int) then
  (ix f i_1).bind fun v_3 =>
  (f117 l).bind fun o5 =>
  (((if ¬ (o5 = true) then
  some true
  else
  (f118 v_3.Atom.Relation 0 (w64 ((l.length : Int) - 1))).bind fun o10 =>
  (((if ¬ (o10 = true) then
  some true
  else
  (ix l v_3.Atom.Relation).bind fun v_15 =>
  some (decide ((v_3.Atom.Terms.length : Int) ≠ v_15.Arity))) : Option (Bool))).bind fun x_12 =>
  some x_12) : Option (Bool))).bind fun x_7 =>
  if x_7 = true then
  some (.inr (.inr false))
  else
  (iter ((f74_1 v_3)) 0).bind fun o => match o with
  | .inl _ =>
  (f96 l v_3.Atom).bind fun o28 =>
  (f152 o28 v_3.Existential).bind fun o30 =>
  (((if ¬ (o30 = true) then
  some true
  else
  (f120 v_3.Atom).bind fun o35 =>
  (f152 o35 v_3.Universal).bind fun o37 =>
  some (decide (¬ (o37 = true)))) : Option (Bool))).bind fun x_32 =>
  if x_32 = true then
  some (.inr (.inr false))
  else
  some (.inl (w64 (i_1 + 1)))
  | .inr x_27 =>
  some (.inr (.inr x_27))
  else
  some (.inr (.inl ()))
def f74 (l : (List Relation)) (f : (List RewritingStep)) : Option Bool :=
 (iter (f74_0 l f) 0).bind fun o => match o with
 | .inl _ =>
 some (decide ((f.length : Int) ≤ 3))
 | .inr x_42 =>
 some x_42
def f75_0 (n0 : Int) : (List Int) → Option ((List Int) ⊕ (List Int))
 | l_1 =>
  if (l_1.length : Int) < n0 then
  (app 8 l_1 ([-1])).bind fun l_3 =>
  some (.inl l_3)
  else
  some (.inr l_1)
def f75 (n0 : Int) : Option (List Int) :=
 (iter (f75_0 n0) ([])).bind fun l_7 =>
 some l_7
def f263 (l : (List Relation)) (f : Fact) : Option (List Int) :=
 (f150 l f).bind fun o1 =>
 if ¬ (o1 = true) then
 some ([])
 else
 (ix l f.Relation).bind fun v_4 =>
 (cutL f.Values 0 v_4.KeyLength).bind fun l_6 =>
 (app 8 ([]) l_6).bind fun l_8 =>
 some l_8
def f241 (l : (List Relation)) (a : Fact) (b : Fact) : Option Bool :=
 (f150 l a).bind fun o1 =>
 (((if o1 = true then
 (f150 l b).bind fun o6 =>
 (((if o6 = true then
 (((if a.Relation = b.Relation then
 (f263 l a).bind fun o14 =>
 (f263 l b).bind fun o16 =>
 (f207 o14 o16).bind fun o18 =>
 some (decide (o18 = 0))
 else
 some false) : Option (Bool))).bind fun x_11 =>
 some x_11
 else
 some false) : Option (Bool))).bind fun x_8 =>
 some x_8
 else
 some false) : Option (Bool))).bind fun x_3 =>
 some x_3
def f198_0 (d : Database) (i : Int) : (List Int) × Int → Option (((List Int) × Int) ⊕ (List Int))
 | (out_1, k_2) =>
  (((if k_2 < (d.Facts.length : Int) then
  (f73 d).bind fun o6 =>
  (((if o6 = true then
  (f118 i 0 (w64 ((d.Facts.length : Int) - 1))).bind fun o11 =>
  some o11
  else
  some false) : Option (Bool))).bind fun x_8 =>
  some x_8
  else
  some false) : Option (Bool))).bind fun x_3 =>
  if x_3 = true then
  (ix d.Facts i).bind fun v_14 =>
  (ix d.Facts k_2).bind fun v_16 =>
  (f241 d.Relations v_14 v_16).bind fun o18 =>
  (((if o18 = true then
  (app 8 out_1 ([k_2])).bind fun l_23 =>
  some l_23
  else
  some out_1) : Option (List Int))).bind fun out_25 =>
  some (.inl (out_25, w64 (k_2 + 1)))
  else
  some (.inr out_1)
def f198 (d : Database) (i : Int) : Option (List Int) :=
 (iter (f198_0 d i) ([], 0)).bind fun out_28 =>
 some out_28
def f141_0 (d : Database) : (List (List Int)) × Int → Option (((List (List Int)) × Int) ⊕ (List (List Int)))
 | (out_1, i_2) =>
  (((if i_2 < (d.Facts.length : Int) then
  (f73 d).bind fun o6 =>
  some o6
  else
  some false) : Option (Bool))).bind fun x_3 =>
  if x_3 = true then
  (f198 d i_2).bind fun o9 =>
  (ix o9 0).bind fun v_11 =>
  (((if v_11 = i_2 then
  (app 24 out_1 ([o9])).bind fun l_16 =>
  some l_16
  else
  some out_1) : Option (List (List Int)))).bind fun out_18 =>
  some (.inl (out_18, w64 (i_2 + 1)))
  else
  some (.inr out_1)
def f141 (d : Database) : Option (List (List Int)) :=
 (iter (f141_0 d) ([], 0)).bind fun out_21 =>
 some out_21
def f153_0 (a : Atom) (f : Fact) : (List Int) × Int → Option (((List Int) × Int) ⊕ ((List Int) ⊕ ((List Int) × Bool)))
 | (x_7, i_8) =>
  if i_8 < (a.Terms.length : Int) then
  ((((ix a.Terms i_8).bind fun v_12 =>
  if v_12 < 0 then
  (ix f.Values i_8).bind fun v_15 =>
  if (w64 ((-1) - v_12)) ≠ v_15 then
  some (.inr (x_7, false))
  else
  some (.inl x_7)
  else
  (ix x_7 v_12).bind fun v_18 =>
  (((if v_18 ≥ 0 then
  (ix f.Values i_8).bind fun v_23 =>
  some (decide (v_18 ≠ v_23))
  else
  some false) : Option (Bool))).bind fun x_20 =>
  if x_20 = true then
  some (.inr (x_7, false))
  else
  (ix f.Values i_8).bind fun v_26 =>
  some (.inl (x_7.set v_12.toNat v_26))) : Option ((List Int) ⊕ ((List Int) × Bool)))).bind fun o => match o with
  | .inl x_29 =>
  some (.inl (x_29, w64 (i_8 + 1)))
  | .inr (x_30, x_31) =>
  some (.inr (.inr (x_30, x_31)))
  else
  some (.inr (.inl x_7))
def f153 (a : Atom) (f : Fact) (vals : (List Int)) : Option ((List Int) × Bool) :=
 (app 8 ([]) vals).bind fun l_1 =>
 (((if f.Relation ≠ a.Relation then
 some true
 else
 some (decide ((f.Values.length : Int) ≠ (a.Terms.length : Int)))) : Option (Bool))).bind fun x_3 =>
 if x_3 = true then
 some (l_1, false)
 else
 (iter (f153_0 a f) (l_1, 0)).bind fun o => match o with
 | .inl x_34 =>
 some (x_34, true)
 | .inr (x_35, x_36) =>
 some (x_35, x_36)
def f76_1 (d : Database) (f : (List RewritingStep)) (n2 : Int) (rec : Database → (List RewritingStep) → Int → (List Int) → Option Bool) (v_2 : RewritingStep) (o6 : (List (List Int))) (i_8 : Int) (o23 : ((List Int) × Bool)) : Bool × Int → Option ((Bool × Int) ⊕ Bool)
 | (is_25, k_26) =>
  (ix o6 i_8).bind fun v_27 =>
  (((if k_26 < (v_27.length : Int) then
  some is_25
  else
  some false) : Option (Bool))).bind fun x_29 =>
  if x_29 = true then
  (ix v_27 k_26).bind fun v_33 =>
  (ix d.Facts v_33).bind fun v_35 =>
  (f153 v_2.Atom v_35 o23.1).bind fun o37 =>
  (((if o37.2 = true then
  (rec d f (w64 (n2 + 1)) o37.1).bind fun o42 =>
  some o42
  else
  some false) : Option (Bool))).bind fun is_39 =>
  some (.inl (is_39, w64 (k_26 + 1)))
  else
  some (.inr is_25)
def f76_0 (d : Database) (f : (List RewritingStep)) (n2 : Int) (vals : (List Int)) (rec : Database → (List RewritingStep) → Int → (List Int) → Option Bool) (v_2 : RewritingStep) (v_4 : Relation) (o6 : (List (List Int))) : Int → Option (Int ⊕ (Unit ⊕ Bool))
 | i_8 =>
  if i_8 < (o6.length : Int) then
  ((((ix o6 i_8).bind fun v_12 =>
  (ix v_12 0).bind fun v_14 =>
  (ix d.Facts v_14).bind fun v_16 =>
  if v_16.Relation ≠ v_2.Atom.Relation then
  some (.inl ())
  else
  (cutL v_2.Atom.Terms 0 v_4.KeyLength).bind fun l_19 =>
  (cutL v_16.Values 0 v_4.KeyLength).bind fun l_21 =>
  (f153 ({ Relation := v_2.Atom.Relation, Terms := l_19 } : Atom) ({ Relation := v_2.Atom.Relation, Values := l_21 } : Fact) vals).bind fun o23 =>
  (iter ((f76_1 d f n2 rec v_2 o6 i_8 o23)) (o23.2, 0)).bind fun is_46 =>
  if is_46 = true then
  some (.inr true)
  else
  some (.inl ())) : Option (Unit ⊕ Bool))).bind fun o => match o with
  | .inl _ =>
  some (.inl (w64 (i_8 + 1)))
  | .inr x_48 =>
  some (.inr (.inr x_48))
  else
  some (.inr (.inl ()))
def f76 : Nat → Database → (List RewritingStep) → Int → (List Int) → Option Bool
 | 0 => fun _ _ _ _ => none
 | n + 1 => fun d f n2 vals =>
  if n2 = (f.length : Int) then
  some true
  else
  (ix f n2).bind fun v_2 =>
  (ix d.Relations v_2.Atom.Relation).bind fun v_4 =>
  (f141 d).bind fun o6 =>
  (iter (f76_0 d f n2 vals (f76 n) v_2 v_4 o6) 0).bind fun o => match o with
  | .inl _ =>
  some false
  | .inr x_51 =>
  some x_51
def f13_0 (vals : (List Int)) : (List Int) × Int → Option (((List Int) × Int) ⊕ (List Int))
 | (x_14, i_15) =>
  if i_15 < (vals.length : Int) then
  (ix vals i_15).bind fun v_17 =>
  (ix x_14 i_15).bind fun v_19 =>
  some (.inl ((x_14.set i_15.toNat (if v_17 > -1 then v_17 else -1)), w64 (i_15 + 1)))
  else
  some (.inr x_14)
def f13 (d : Database) (f : (List RewritingStep)) (vals : (List Int)) : Option Bool :=
 (f73 d).bind fun o1 =>
 (((if ¬ (o1 = true) then
 some true
 else
 (f74 d.Relations f).bind fun o6 =>
 (((if ¬ (o6 = true) then
 some true
 else
 some (decide ((vals.length : Int) > 4))) : Option (Bool))).bind fun x_8 =>
 some x_8) : Option (Bool))).bind fun x_3 =>
 if x_3 = true then
 some false
 else
 (f75 4).bind fun o12 =>
 (iter ((f13_0 vals)) (o12, 0)).bind fun x_24 =>
 (f76 64 d f 0 x_24).bind fun o25 =>
 some o25
def f122 (n0 : Int) (low : Int) (high : Int) : Option Bool :=
 (((if low ≤ n0 then
 some (decide (n0 ≤ high))
 else
 some false) : Option (Bool))).bind fun x_1 =>
 some x_1
def f208 (relation : Relation) : Option Bool :=
 (((if (relation.Name.length : Int) = 1 then
 (ix relation.Name 0).bind fun c_4 =>
 (((if (c_4.toNat : Int) ≥ 97 then
 (((if (c_4.toNat : Int) ≤ 122 then
 (f122 relation.Arity 1 3).bind fun o12 =>
 (((if o12 = true then
 (f122 relation.KeyLength 0 relation.Arity).bind fun o17 =>
 some o17
 else
 some false) : Option (Bool))).bind fun x_14 =>
 some x_14
 else
 some false) : Option (Bool))).bind fun x_9 =>
 some x_9
 else
 some false) : Option (Bool))).bind fun x_6 =>
 some x_6
 else
 some false) : Option (Bool))).bind fun x_1 =>
 some x_1
def f156_0 (relations : (List Relation)) : Int → Option (Int ⊕ (Unit ⊕ Bool))
 | x_1 =>
  if x_1 < (relations.length : Int) then
  (ix relations x_1).bind fun v_3 =>
  (f208 v_3).bind fun o5 =>
  (((if ¬ (o5 = true) then
  some true
  else
  (((if x_1 > 0 then
  (ix relations (w64 (x_1 - 1))).bind fun v_13 =>
  some (!(Op.bytesLess v_13.Name v_3.Name))
  else
  some false) : Option (Bool))).bind fun x_10 =>
  some x_10) : Option (Bool))).bind fun x_7 =>
  if x_7 = true then
  some (.inr (.inr false))
  else
  some (.inl (w64 (x_1 + 1)))
  else
  some (.inr (.inl ()))
def f156 (relations : (List Relation)) : Option Bool :=
 (iter (f156_0 relations) 0).bind fun o => match o with
 | .inl _ =>
 some (decide ((relations.length : Int) ≤ 4))
 | .inr x_18 =>
 some x_18
def f212_0 (s0 : (List Int)) (f : Int → Option Bool) : Int → Option (Int ⊕ (Unit ⊕ Int))
 | x_1 =>
  if x_1 < (s0.length : Int) then
  (ix s0 x_1).bind fun v_3 =>
  (f v_3).bind fun o5 =>
  if o5 = true then
  some (.inr (.inr x_1))
  else
  some (.inl (w64 (x_1 + 1)))
  else
  some (.inr (.inl ()))
def f212 (s0 : (List Int)) (f : Int → Option Bool) : Option Int :=
 (iter (f212_0 s0 f) 0).bind fun o => match o with
 | .inl _ =>
 some (-1)
 | .inr x_10 =>
 some x_10
def f159 (s0 : (List Int)) (f : Int → Option Bool) : Option Bool :=
 (f212 s0 f).bind fun o1 =>
 some (decide (o1 ≥ 0))
def f245 (v : Int) : Option Bool :=
 (f122 v 0 9).bind fun o1 =>
 some (decide (¬ (o1 = true)))
def f209 (list : (List Int)) : Option Bool :=
 (f159 list (fun x0 => f245 x0)).bind fun o1 =>
 some (decide (¬ (o1 = true)))
def f157 (relations : (List Relation)) (fact : Fact) : Option Bool :=
 (f122 fact.Relation 0 (w64 ((relations.length : Int) - 1))).bind fun o1 =>
 (((if o1 = true then
 (ix relations fact.Relation).bind fun v_6 =>
 (((if (fact.Values.length : Int) = v_6.Arity then
 (f209 fact.Values).bind fun o11 =>
 some o11
 else
 some false) : Option (Bool))).bind fun x_8 =>
 some x_8
 else
 some false) : Option (Bool))).bind fun x_3 =>
 some x_3
def f210 (a : Int) (b : Int) : Option Int :=
 if a < b then
 some (-1)
 else
 if a > b then
 some 1
 else
 some 0
def f262 (x : Int) : Option Bool :=
 some (decide (x ≠ x))
def f246 (x : Int) (y : Int) : Option Int :=
 (f262 x).bind fun o1 =>
 (f262 y).bind fun o3 =>
 if o1 = true then
 if o3 = true then
 some 0
 else
 some (-1)
 else
 if o3 = true then
 some 1
 else
 if x < y then
 some (-1)
 else
 if x > y then
 some 1
 else
 some 0
def f211_0 (s1 : (List Int)) (s2 : (List Int)) : Int → Option (Int ⊕ (Unit ⊕ Int))
 | x_1 =>
  if x_1 < (s1.length : Int) then
  (ix s1 x_1).bind fun v_3 =>
  if x_1 ≥ (s2.length : Int) then
  some (.inr (.inr 1))
  else
  (ix s2 x_1).bind fun v_6 =>
  (f246 v_3 v_6).bind fun o8 =>
  if o8 ≠ 0 then
  some (.inr (.inr o8))
  else
  some (.inl (w64 (x_1 + 1)))
  else
  some (.inr (.inl ()))
def f211 (s1 : (List Int)) (s2 : (List Int)) : Option Int :=
 (iter (f211_0 s1 s2) 0).bind fun o => match o with
 | .inl _ =>
 if (s1.length : Int) < (s2.length : Int) then
 some (-1)
 else
 some 0
 | .inr x_13 =>
 some x_13
def f158 (a : Fact) (b : Fact) : Option Int :=
 if a.Relation ≠ b.Relation then
 (f210 a.Relation b.Relation).bind fun o2 =>
 some o2
 else
 (f211 a.Values b.Values).bind fun o4 =>
 some o4
def f79_0 (db : Database) : Int → Option (Int ⊕ (Unit ⊕ Bool))
 | x_7 =>
  if x_7 < (db.Facts.length : Int) then
  (ix db.Facts x_7).bind fun v_9 =>
  (f157 db.Relations v_9).bind fun o11 =>
  (((if ¬ (o11 = true) then
  some true
  else
  (((if x_7 > 0 then
  (ix db.Facts (w64 (x_7 - 1))).bind fun v_19 =>
  (f158 v_19 v_9).bind fun o21 =>
  some (decide (o21 ≥ 0))
  else
  some false) : Option (Bool))).bind fun x_16 =>
  some x_16) : Option (Bool))).bind fun x_13 =>
  if x_13 = true then
  some (.inr (.inr false))
  else
  some (.inl (w64 (x_7 + 1)))
  else
  some (.inr (.inl ()))
def f79 (db : Database) : Option Bool :=
 (f156 db.Relations).bind fun o1 =>
 (((if ¬ (o1 = true) then
 some true
 else
 some (decide ((db.Facts.length : Int) > 14))) : Option (Bool))).bind fun x_3 =>
 if x_3 = true then
 some false
 else
 (iter (f79_0 db) 0).bind fun o => match o with
 | .inl _ =>
 some true
 | .inr x_26 =>
 some x_26
def f160 (t : Int) : Option Bool :=
 (f122 t (-10) 3).bind fun o1 =>
 some (decide (¬ (o1 = true)))
def f217 (n : Int) : Option Nat := growN 8 n
def f169_0 (slices : (List (List Int))) : Int × Int → Option ((Int × Int) ⊕ Int)
 | (size_1, x_2) =>
  if x_2 < (slices.length : Int) then
  (ix slices x_2).bind fun v_4 =>
  (((if (w64 (size_1 + (v_4.length : Int))) < 0 then
  none
  else
  some ()) : Option Unit)).bind fun _ =>
  some (.inl (w64 (size_1 + (v_4.length : Int)), w64 (x_2 + 1)))
  else
  some (.inr size_1)
def f169_1 (slices : (List (List Int))) : Nat × (List Int) × Int → Option ((Nat × (List Int) × Int) ⊕ (Nat × (List Int)))
 | (newslice_14, newslice_15, x_16) =>
  if x_16 < (slices.length : Int) then
  (ix slices x_16).bind fun v_18 =>
  (apps 8 newslice_15 newslice_14 v_18).bind fun l_20 =>
  some (.inl (l_20.2, l_20.1, w64 (x_16 + 1)))
  else
  some (.inr (newslice_14, newslice_15))
def f169 (slices : (List (List Int))) : Option (List Int) :=
 (iter (f169_0 slices) (0, 0)).bind fun size_11 =>
 (f217 size_11).bind fun o12 =>
 (iter (f169_1 slices) (o12, [], 0)).bind fun (newslice_24, newslice_25) =>
 (nsk newslice_24).bind fun _ =>
 some newslice_25
def f240 (x : Int) : Option Int :=
 (((if x ≥ 4294967296 then
 some (sshr .u64 x 32, 32)
 else
 some (x, 0)) : Option (Int × Int))).bind fun (x_4, n_5) =>
 (((if x_4 ≥ 65536 then
 some (sshr .u64 x_4 16, w64 (n_5 + 16))
 else
 some (x_4, n_5)) : Option (Int × Int))).bind fun (x_9, n_10) =>
 (((if x_9 ≥ 256 then
 some (sshr .u64 x_9 8, w64 (n_10 + 8))
 else
 some (x_9, n_10)) : Option (Int × Int))).bind fun (x_14, n_15) =>
 (ix ([0, 1, 2, 2, 3, 3, 3, 3, 4, 4, 4, 4, 4, 4, 4, 4, 5, 5, 5, 5, 5, 5, 5, 5, 5, 5, 5, 5, 5, 5, 5, 5, 6, 6, 6, 6, 6, 6, 6, 6, 6, 6, 6, 6, 6, 6, 6, 6, 6, 6, 6, 6, 6, 6, 6, 6, 6, 6, 6, 6, 6, 6, 6, 6, 7, 7, 7, 7, 7, 7, 7, 7, 7, 7, 7, 7, 7, 7, 7, 7, 7, 7, 7, 7, 7, 7, 7, 7, 7, 7, 7, 7, 7, 7, 7, 7, 7, 7, 7, 7, 7, 7, 7, 7, 7, 7, 7, 7, 7, 7, 7, 7, 7, 7, 7, 7, 7, 7, 7, 7, 7, 7, 7, 7, 7, 7, 7, 7, 8, 8, 8, 8, 8, 8, 8, 8, 8, 8, 8, 8, 8, 8, 8, 8, 8, 8, 8, 8, 8, 8, 8, 8, 8, 8, 8, 8, 8, 8, 8, 8, 8, 8, 8, 8, 8, 8, 8, 8, 8, 8, 8, 8, 8, 8, 8, 8, 8, 8, 8, 8, 8, 8, 8, 8, 8, 8, 8, 8, 8, 8, 8, 8, 8, 8, 8, 8, 8, 8, 8, 8, 8, 8, 8, 8, 8, 8, 8, 8, 8, 8, 8, 8, 8, 8, 8, 8, 8, 8, 8, 8, 8, 8, 8, 8, 8, 8, 8, 8, 8, 8, 8, 8, 8, 8, 8, 8, 8, 8, 8, 8, 8, 8, 8, 8, 8, 8, 8, 8, 8, 8, 8, 8, 8, 8, 8, 8] : List UInt8) (w8 x_14)).bind fun c_16 =>
 some (w64 (n_15 + (w64 (c_16.toNat : Int))))
def f197 (x : Int) : Option Int :=
 (f240 x).bind fun o1 =>
 some o1
def f236 (x : Int) (y : Int) : Option Bool :=
 (f262 x).bind fun o1 =>
 (((if o1 = true then
 (f262 y).bind fun o6 =>
 (((if ¬ (o6 = true) then
 some true
 else
 some (decide (x < y))) : Option (Bool))).bind fun x_8 =>
 some x_8
 else
 some (decide (x < y))) : Option (Bool))).bind fun x_3 =>
 some x_3
def f230_1 (a : Int) : (List Int) × Int → Option (((List Int) × Int) ⊕ (List Int))
 | (data_4, j_5) =>
  (((if j_5 > a then
  (ix data_4 j_5).bind fun v_9 =>
  (ix data_4 (w64 (j_5 - 1))).bind fun v_11 =>
  (f236 v_9 v_11).bind fun o13 =>
  some o13
  else
  some false) : Option (Bool))).bind fun x_6 =>
  if x_6 = true then
  (ix data_4 (w64 (j_5 - 1))).bind fun v_16 =>
  (ix data_4 j_5).bind fun v_18 =>
  (ix (data_4.set j_5.toNat v_16) (w64 (j_5 - 1))).bind fun v_21 =>
  some (.inl (((data_4.set j_5.toNat v_16).set (w64 (j_5 - 1)).toNat v_18), w64 (j_5 - 1)))
  else
  some (.inr data_4)
def f230_0 (a : Int) (b : Int) : (List Int) × Int → Option (((List Int) × Int) ⊕ (List Int))
 | (data_1, i_2) =>
  if i_2 < b then
  (iter ((f230_1 a)) (data_1, i_2)).bind fun data_26 =>
  some (.inl (data_26, w64 (i_2 + 1)))
  else
  some (.inr data_1)
def f230 (data : (List Int)) (a : Int) (b : Int) : Option (List Int) :=
 (iter (f230_0 a b) (data, w64 (a + 1))).bind fun data_29 =>
 some data_29
def f257_0 (hi : Int) (first : Int) : (List Int) × Int → Option (((List Int) × Int) ⊕ ((List Int) ⊕ (List Int)))
 | (data_1, root_2) =>
  if (w64 ((w64 (2 * root_2)) + 1)) ≥ hi then
  some (.inr (.inl data_1))
  else
  (((if (w64 ((w64 ((w64 (2 * root_2)) + 1)) + 1)) < hi then
  (ix data_1 (w64 (first + (w64 ((w64 (2 * root_2)) + 1))))).bind fun v_7 =>
  (ix data_1 (w64 ((w64 (first + (w64 ((w64 (2 * root_2)) + 1)))) + 1))).bind fun v_9 =>
  (f236 v_7 v_9).bind fun o11 =>
  some o11
  else
  some false) : Option (Bool))).bind fun x_4 =>
  (((if x_4 = true then
  some (w64 ((w64 ((w64 (2 * root_2)) + 1)) + 1))
  else
  some (w64 ((w64 (2 * root_2)) + 1))) : Option Int)).bind fun child_16 =>
  (ix data_1 (w64 (first + root_2))).bind fun v_17 =>
  (ix data_1 (w64 (first + child_16))).bind fun v_19 =>
  (f236 v_17 v_19).bind fun o21 =>
  if ¬ (o21 = true) then
  some (.inr (.inr data_1))
  else
  (ix (data_1.set (w64 (first + root_2)).toNat v_19) (w64 (first + child_16))).bind fun v_25 =>
  some (.inl (((data_1.set (w64 (first + root_2)).toNat v_19).set (w64 (first + child_16)).toNat v_17), child_16))
def f257 (data : (List Int)) (lo : Int) (hi : Int) (first : Int) : Option (List Int) :=
 (iter (f257_0 hi first) (data, lo)).bind fun o => match o with
 | .inl data_30 =>
 some data_30
 | .inr data_31 =>
 some data_31
def f231_0 (a : Int) (b : Int) : (List Int) × Int → Option (((List Int) × Int) ⊕ (List Int))
 | (data_1, i_2) =>
  if i_2 ≥ 0 then
  (f257 data_1 i_2 (w64 (b - a)) a).bind fun o4 =>
  some (.inl (o4, w64 (i_2 - 1)))
  else
  some (.inr data_1)
def f231_1 (a : Int) : (List Int) × Int → Option (((List Int) × Int) ⊕ (List Int))
 | (data_9, i_10) =>
  if i_10 ≥ 0 then
  (ix data_9 (w64 (a + i_10))).bind fun v_12 =>
  (ix data_9 a).bind fun v_14 =>
  (ix (data_9.set a.toNat v_12) (w64 (a + i_10))).bind fun v_17 =>
  (f257 ((data_9.set a.toNat v_12).set (w64 (a + i_10)).toNat v_14) 0 i_10 a).bind fun o20 =>
  some (.inl (o20, w64 (i_10 - 1)))
  else
  some (.inr data_9)
def f231 (data : (List Int)) (a : Int) (b : Int) : Option (List Int) :=
 (iter (f231_0 a b) (data, w64 ((w64 ((w64 (b - a)) - 1)).tdiv 2))).bind fun data_8 =>
 (iter (f231_1 a) (data_8, w64 ((w64 (b - a)) - 1))).bind fun data_24 =>
 some data_24
def f258 (length : Int) : Option Int :=
 (f197 (IntKind.u64.wrap length)).bind fun o1 =>
 (nn o1).bind fun z_3 =>
 some (sshl .u64 1 o1)
def f259 (r0 : Int) : Option (Int × Int) :=
 some (bxor .u64 (bxor .u64 (bxor .u64 r0 (sshl .u64 r0 13)) (sshr .u64 (bxor .u64 r0 (sshl .u64 r0 13)) 7)) (sshl .u64 (bxor .u64 (bxor .u64 r0 (sshl .u64 r0 13)) (sshr .u64 (bxor .u64 r0 (sshl .u64 r0 13)) 7)) 17), bxor .u64 (bxor .u64 (bxor .u64 r0 (sshl .u64 r0 13)) (sshr .u64 (bxor .u64 r0 (sshl .u64 r0 13)) 7)) (sshl .u64 (bxor .u64 (bxor .u64 r0 (sshl .u64 r0 13)) (sshr .u64 (bxor .u64 r0 (sshl .u64 r0 13)) 7)) 17))
def f232_0 (a : Int) (b : Int) (o4 : Int) : (List Int) × Int × Int → Option (((List Int) × Int × Int) ⊕ (List Int))
 | (data_6, random_7, idx_8) =>
  if idx_8 ≤ (w64 ((w64 (a + (w64 ((w64 ((w64 (b - a)).tdiv 4)) * 2)))) + 1)) then
  (f259 random_7).bind fun o10 =>
  (((if (w64 (band .u64 o10.1 (IntKind.u64.wrap (o4 - 1)))) ≥ (w64 (b - a)) then
  some (w64 ((w64 (band .u64 o10.1 (IntKind.u64.wrap (o4 - 1)))) - (w64 (b - a))))
  else
  some (w64 (band .u64 o10.1 (IntKind.u64.wrap (o4 - 1))))) : Option Int)).bind fun other_15 =>
  (ix data_6 (w64 (a + other_15))).bind fun v_16 =>
  (ix data_6 idx_8).bind fun v_18 =>
  (ix (data_6.set idx_8.toNat v_16) (w64 (a + other_15))).bind fun v_21 =>
  some (.inl (((data_6.set idx_8.toNat v_16).set (w64 (a + other_15)).toNat v_18), o10.2, w64 (idx_8 + 1)))
  else
  some (.inr data_6)
def f232 (data : (List Int)) (a : Int) (b : Int) : Option (List Int) :=
 (((if (w64 (b - a)) ≥ 8 then
 (f258 (w64 (b - a))).bind fun o4 =>
 (iter (f232_0 a b o4) (data, IntKind.u64.wrap (w64 (b - a)), w64 ((w64 (a + (w64 ((w64 ((w64 (b - a)).tdiv 4)) * 2)))) - 1))).bind fun data_26 =>
 some data_26
 else
 some data) : Option (List Int))).bind fun data_27 =>
 some data_27
def f271 (data : (List Int)) (a : Int) (b : Int) (swaps : Int) : Option (Int × Int × Int) :=
 (ix data b).bind fun v_1 =>
 (ix data a).bind fun v_3 =>
 (f236 v_1 v_3).bind fun o5 =>
 if o5 = true then
 some (b, a, w64 (swaps + 1))
 else
 some (a, b, swaps)
def f261 (data : (List Int)) (a : Int) (b : Int) (c : Int) (swaps : Int) : Option (Int × Int) :=
 (f271 data a b swaps).bind fun o1 =>
 (f271 data o1.2.1 c o1.2.2).bind fun o3 =>
 (f271 data o1.1 o3.1 o3.2.2).bind fun o5 =>
 some (o5.2.1, o5.2.2)
def f260 (data : (List Int)) (a : Int) (swaps : Int) : Option (Int × Int) :=
 (f261 data (w64 (a - 1)) a (w64 (a + 1)) swaps).bind fun o1 =>
 some (o1.1, o1.2)
def f233 (data : (List Int)) (a : Int) (b : Int) : Option (Int × Int) :=
 (((if (w64 (b - a)) ≥ 8 then
 (((if (w64 (b - a)) ≥ 50 then
 (f260 data (w64 (a + (w64 (w64 ((w64 (b - a)).tdiv 4))))) 0).bind fun o7 =>
 (f260 data (w64 (a + (w64 ((w64 ((w64 (b - a)).tdiv 4)) * 2)))) o7.2).bind fun o9 =>
 (f260 data (w64 (a + (w64 ((w64 ((w64 (b - a)).tdiv 4)) * 3)))) o9.2).bind fun o11 =>
 some (o11.2, o7.1, o9.1, o11.1)
 else
 some (0, w64 (a + (w64 (w64 ((w64 (b - a)).tdiv 4)))), w64 (a + (w64 ((w64 ((w64 (b - a)).tdiv 4)) * 2))), w64 (a + (w64 ((w64 ((w64 (b - a)).tdiv 4)) * 3))))) : Option (Int × Int × Int × Int))).bind fun (swaps_13, i_14, j_15, k_16) =>
 (f261 data i_14 j_15 k_16 swaps_13).bind fun o17 =>
 some (o17.2, o17.1)
 else
 some (0, w64 (a + (w64 ((w64 ((w64 (b - a)).tdiv 4)) * 2))))) : Option (Int × Int))).bind fun (swaps_19, j_20) =>
 if swaps_19 = 0 then
 some (j_20, 1)
 else
 if swaps_19 = 12 then
 some (j_20, 2)
 else
 some (j_20, 0)
def f234_0 : (List Int) × Int × Int → Option (((List Int) × Int × Int) ⊕ (List Int))
 | (data_1, i_2, j_3) =>
  if i_2 < j_3 then
  (ix data_1 j_3).bind fun v_5 =>
  (ix data_1 i_2).bind fun v_7 =>
  (ix (data_1.set i_2.toNat v_5) j_3).bind fun v_10 =>
  some (.inl (((data_1.set i_2.toNat v_5).set j_3.toNat v_7), w64 (i_2 + 1), w64 (j_3 - 1)))
  else
  some (.inr data_1)
def f234 (data : (List Int)) (a : Int) (b : Int) : Option (List Int) :=
 (iter f234_0 (data, a, w64 (b - 1))).bind fun data_15 =>
 some data_15
def f235_1 (b : Int) (data_1 : (List Int)) : Int → Option (Int ⊕ Int)
 | i_5 =>
  (((if i_5 < b then
  (ix data_1 i_5).bind fun v_9 =>
  (ix data_1 (w64 (i_5 - 1))).bind fun v_11 =>
  (f236 v_9 v_11).bind fun o13 =>
  some (decide (¬ (o13 = true)))
  else
  some false) : Option (Bool))).bind fun x_6 =>
  if x_6 = true then
  some (.inl (w64 (i_5 + 1)))
  else
  some (.inr i_5)
def f235_2 : (List Int) × Int → Option (((List Int) × Int) ⊕ (List Int))
 | (data_32, j_33) =>
  if j_33 ≥ 1 then
  (ix data_32 j_33).bind fun v_35 =>
  (ix data_32 (w64 (j_33 - 1))).bind fun v_37 =>
  (f236 v_35 v_37).bind fun o39 =>
  if ¬ (o39 = true) then
  some (.inr data_32)
  else
  (ix (data_32.set j_33.toNat v_37) (w64 (j_33 - 1))).bind fun v_43 =>
  some (.inl (((data_32.set j_33.toNat v_37).set (w64 (j_33 - 1)).toNat v_35), w64 (j_33 - 1)))
  else
  some (.inr data_32)
def f235_3 (b : Int) : (List Int) × Int → Option (((List Int) × Int) ⊕ (List Int))
 | (data_53, j_54) =>
  if j_54 < b then
  (ix data_53 j_54).bind fun v_56 =>
  (ix data_53 (w64 (j_54 - 1))).bind fun v_58 =>
  (f236 v_56 v_58).bind fun o60 =>
  if ¬ (o60 = true) then
  some (.inr data_53)
  else
  (ix (data_53.set j_54.toNat v_58) (w64 (j_54 - 1))).bind fun v_64 =>
  some (.inl (((data_53.set j_54.toNat v_58).set (w64 (j_54 - 1)).toNat v_56), w64 (j_54 + 1)))
  else
  some (.inr data_53)
def f235_0 (a : Int) (b : Int) : (List Int) × Int × Int → Option (((List Int) × Int × Int) ⊕ ((List Int) ⊕ ((List Int) × Bool)))
 | (data_1, i_2, j_3) =>
  if j_3 < 5 then
  (iter ((f235_1 b data_1)) i_2).bind fun i_18 =>
  if i_18 = b then
  some (.inr (.inr (data_1, true)))
  else
  if (w64 (b - a)) < 50 then
  some (.inr (.inr (data_1, false)))
  else
  (ix data_1 (w64 (i_18 - 1))).bind fun v_21 =>
  (ix data_1 i_18).bind fun v_23 =>
  (ix (data_1.set i_18.toNat v_21) (w64 (i_18 - 1))).bind fun v_26 =>
  (((if (w64 (i_18 - a)) ≥ 2 then
  (iter (f235_2) (((data_1.set i_18.toNat v_21).set (w64 (i_18 - 1)).toNat v_23), w64 (i_18 - 1))).bind fun data_48 =>
  some data_48
  else
  some ((data_1.set i_18.toNat v_21).set (w64 (i_18 - 1)).toNat v_23)) : Option (List Int))).bind fun data_49 =>
  (((if (w64 (b - i_18)) ≥ 2 then
  (iter ((f235_3 b)) (data_49, w64 (i_18 + 1))).bind fun data_69 =>
  some data_69
  else
  some data_49) : Option (List Int))).bind fun data_70 =>
  some (.inl (data_70, i_18, w64 (j_3 + 1)))
  else
  some (.inr (.inl data_1))
def f235 (data : (List Int)) (a : Int) (b : Int) : Option (Bool × (List Int)) :=
 (iter (f235_0 a b) (data, w64 (a + 1), 0)).bind fun o => match o with
 | .inl data_73 =>
 some (false, data_73)
 | .inr (data_74, x_75) =>
 some (x_75, data_74)
def f237_1 (a : Int) (data_9 : (List Int)) (j_11 : Int) : Int → Option (Int ⊕ Int)
 | i_12 =>
  (((if i_12 ≤ j_11 then
  (ix data_9 a).bind fun v_16 =>
  (ix data_9 i_12).bind fun v_18 =>
  (f236 v_16 v_18).bind fun o20 =>
  some (decide (¬ (o20 = true)))
  else
  some false) : Option (Bool))).bind fun x_13 =>
  if x_13 = true then
  some (.inl (w64 (i_12 + 1)))
  else
  some (.inr i_12)
def f237_2 (a : Int) (data_9 : (List Int)) (i_25 : Int) : Int → Option (Int ⊕ Int)
 | j_26 =>
  (((if i_25 ≤ j_26 then
  (ix data_9 a).bind fun v_30 =>
  (ix data_9 j_26).bind fun v_32 =>
  (f236 v_30 v_32).bind fun o34 =>
  some o34
  else
  some false) : Option (Bool))).bind fun x_27 =>
  if x_27 = true then
  some (.inl (w64 (j_26 - 1)))
  else
  some (.inr j_26)
def f237_0 (a : Int) : (List Int) × Int × Int → Option (((List Int) × Int × Int) ⊕ ((List Int) × Int))
 | (data_9, i_10, j_11) =>
  (iter (f237_1 a data_9 j_11) i_10).bind fun i_25 =>
  (iter (f237_2 a data_9 i_25) j_11).bind fun j_39 =>
  if i_25 > j_39 then
  some (.inr (data_9, i_25))
  else
  (ix data_9 j_39).bind fun v_41 =>
  (ix data_9 i_25).bind fun v_43 =>
  (ix (data_9.set i_25.toNat v_41) j_39).bind fun v_46 =>
  some (.inl (((data_9.set i_25.toNat v_41).set j_39.toNat v_43), w64 (i_25 + 1), w64 (j_39 - 1)))
def f237 (data : (List Int)) (a : Int) (b : Int) (pivot : Int) : Option (Int × (List Int)) :=
 (ix data pivot).bind fun v_1 =>
 (ix data a).bind fun v_3 =>
 (ix (data.set a.toNat v_1) pivot).bind fun v_6 =>
 (iter (f237_0 a) (((data.set a.toNat v_1).set pivot.toNat v_3), w64 (a + 1), w64 (b - 1))).bind fun (data_51, i_52) =>
 some (i_52, data_51)
def f238_0 (data : (List Int)) (a : Int) (b : Int) (pivot : Int) (v_1 : Int) (v_3 : Int) : Int → Option (Int ⊕ Int)
 | i_9 =>
  (((if i_9 ≤ (w64 (b - 1)) then
  (ix ((data.set a.toNat v_1).set pivot.toNat v_3) i_9).bind fun v_13 =>
  (ix ((data.set a.toNat v_1).set pivot.toNat v_3) a).bind fun v_15 =>
  (f236 v_13 v_15).bind fun o17 =>
  some o17
  else
  some false) : Option (Bool))).bind fun x_10 =>
  if x_10 = true then
  some (.inl (w64 (i_9 + 1)))
  else
  some (.inr i_9)
def f238_1 (data : (List Int)) (a : Int) (pivot : Int) (v_1 : Int) (v_3 : Int) (i_22 : Int) : Int → Option (Int ⊕ Int)
 | j_23 =>
  (((if i_22 ≤ j_23 then
  (ix ((data.set a.toNat v_1).set pivot.toNat v_3) j_23).bind fun v_27 =>
  (ix ((data.set a.toNat v_1).set pivot.toNat v_3) a).bind fun v_29 =>
  (f236 v_27 v_29).bind fun o31 =>
  some (decide (¬ (o31 = true)))
  else
  some false) : Option (Bool))).bind fun x_24 =>
  if x_24 = true then
  some (.inl (w64 (j_23 - 1)))
  else
  some (.inr j_23)
def f238_3 (a : Int) (data_54 : (List Int)) (j_56 : Int) : Int → Option (Int ⊕ Int)
 | i_57 =>
  (((if i_57 ≤ j_56 then
  (ix data_54 i_57).bind fun v_61 =>
  (ix data_54 a).bind fun v_63 =>
  (f236 v_61 v_63).bind fun o65 =>
  some o65
  else
  some false) : Option (Bool))).bind fun x_58 =>
  if x_58 = true then
  some (.inl (w64 (i_57 + 1)))
  else
  some (.inr i_57)
def f238_4 (a : Int) (data_54 : (List Int)) (i_70 : Int) : Int → Option (Int ⊕ Int)
 | j_71 =>
  (((if i_70 ≤ j_71 then
  (ix data_54 j_71).bind fun v_75 =>
  (ix data_54 a).bind fun v_77 =>
  (f236 v_75 v_77).bind fun o79 =>
  some (decide (¬ (o79 = true)))
  else
  some false) : Option (Bool))).bind fun x_72 =>
  if x_72 = true then
  some (.inl (w64 (j_71 - 1)))
  else
  some (.inr j_71)
def f238_2 (a : Int) : (List Int) × Int × Int → Option (((List Int) × Int × Int) ⊕ ((List Int) × Int))
 | (data_54, i_55, j_56) =>
  (iter (f238_3 a data_54 j_56) i_55).bind fun i_70 =>
  (iter (f238_4 a data_54 i_70) j_56).bind fun j_84 =>
  if i_70 > j_84 then
  some (.inr (data_54, j_84))
  else
  (ix data_54 j_84).bind fun v_86 =>
  (ix data_54 i_70).bind fun v_88 =>
  (ix (data_54.set i_70.toNat v_86) j_84).bind fun v_91 =>
  some (.inl (((data_54.set i_70.toNat v_86).set j_84.toNat v_88), w64 (i_70 + 1), w64 (j_84 - 1)))
def f238 (data : (List Int)) (a : Int) (b : Int) (pivot : Int) : Option (Int × Bool × (List Int)) :=
 (ix data pivot).bind fun v_1 =>
 (ix data a).bind fun v_3 =>
 (ix (data.set a.toNat v_1) pivot).bind fun v_6 =>
 (iter (f238_0 data a b pivot v_1 v_3) (w64 (a + 1))).bind fun i_22 =>
 (iter (f238_1 data a pivot v_1 v_3 i_22) (w64 (b - 1))).bind fun j_36 =>
 if i_22 > j_36 then
 (ix ((data.set a.toNat v_1).set pivot.toNat v_3) a).bind fun v_38 =>
 (ix ((data.set a.toNat v_1).set pivot.toNat v_3) j_36).bind fun v_40 =>
 (ix (((data.set a.toNat v_1).set pivot.toNat v_3).set j_36.toNat v_38) a).bind fun v_43 =>
 some (j_36, true, ((((data.set a.toNat v_1).set pivot.toNat v_3).set j_36.toNat v_38).set a.toNat v_40))
 else
 (ix ((data.set a.toNat v_1).set pivot.toNat v_3) j_36).bind fun v_46 =>
 (ix ((data.set a.toNat v_1).set pivot.toNat v_3) i_22).bind fun v_48 =>
 (ix (((data.set a.toNat v_1).set pivot.toNat v_3).set i_22.toNat v_46) j_36).bind fun v_51 =>
 (iter (f238_2 a) (((((data.set a.toNat v_1).set pivot.toNat v_3).set i_22.toNat v_46).set j_36.toNat v_48), w64 (i_22 + 1), w64 (j_36 - 1))).bind fun (data_96, j_97) =>
 (ix data_96 a).bind fun v_98 =>
 (ix data_96 j_97).bind fun v_100 =>
 (ix (data_96.set j_97.toNat v_98) a).bind fun v_103 =>
 some (j_97, false, ((data_96.set j_97.toNat v_98).set a.toNat v_100))
def f196_0 (rec : (List Int) → Int → Int → Int → Option (List Int)) : (List Int) × Int × Int × Int × Bool × Bool → Option (((List Int) × Int × Int × Int × Bool × Bool) ⊕ (List Int))
 | (data_1, a_2, b_3, limit_4, wasBalanced_5, wasPartitioned_6) =>
  (((if (w64 (b_3 - a_2)) ≤ 12 then
  (f230 data_1 a_2 b_3).bind fun o10 =>
  some (.inr o10)
  else
  if limit_4 = 0 then
  (f231 data_1 a_2 b_3).bind fun o13 =>
  some (.inr o13)
  else
  (((if ¬ (wasBalanced_5 = true) then
  (f232 data_1 a_2 b_3).bind fun o18 =>
  some (o18, w64 (limit_4 - 1))
  else
  some (data_1, limit_4)) : Option ((List Int) × Int))).bind fun (data_20, limit_21) =>
  (f233 data_20 a_2 b_3).bind fun o22 =>
  (((if o22.2 = 2 then
  (f234 data_20 a_2 b_3).bind fun o27 =>
  some (o27, w64 ((w64 (b_3 - 1)) - (w64 (o22.1 - a_2))), 1)
  else
  some (data_20, o22.1, o22.2)) : Option ((List Int) × Int × Int))).bind fun (data_29, pivot_30, hint_31) =>
  (((if wasBalanced_5 = true then
  (((if wasPartitioned_6 = true then
  some (decide (hint_31 = 1))
  else
  some false) : Option (Bool))).bind fun x_35 =>
  some x_35
  else
  some false) : Option (Bool))).bind fun x_32 =>
  (((if x_32 = true then
  (f235 data_29 a_2 b_3).bind fun o41 =>
  if o41.1 = true then
  some (.inr o41.2)
  else
  some (.inl o41.2)
  else
  some (.inl data_29)) : Option ((List Int) ⊕ (List Int)))).bind fun o => match o with
  | .inl data_44 =>
  (((if a_2 > 0 then
  (ix data_44 (w64 (a_2 - 1))).bind fun v_49 =>
  (ix data_44 pivot_30).bind fun v_51 =>
  (f236 v_49 v_51).bind fun o53 =>
  some (decide (¬ (o53 = true)))
  else
  some false) : Option (Bool))).bind fun x_46 =>
  if x_46 = true then
  (f237 data_44 a_2 b_3 pivot_30).bind fun o56 =>
  some (.inl (o56.2, o56.1, b_3, limit_21, wasBalanced_5, wasPartitioned_6))
  else
  (f238 data_44 a_2 b_3 pivot_30).bind fun o58 =>
  (((if (w64 (o58.1 - a_2)) < (w64 (b_3 - o58.1)) then
  (rec o58.2.2 a_2 o58.1 limit_21).bind fun o63 =>
  some (o63, w64 (o58.1 + 1), b_3, (decide ((w64 (o58.1 - a_2)) ≥ (w64 ((w64 (b_3 - a_2)).tdiv 8)))))
  else
  (rec o58.2.2 (w64 (o58.1 + 1)) b_3 limit_21).bind fun o65 =>
  some (o65, a_2, o58.1, (decide ((w64 (b_3 - o58.1)) ≥ (w64 ((w64 (b_3 - a_2)).tdiv 8)))))) : Option ((List Int) × Int × Int × Bool))).bind fun (data_67, a_68, b_69, wasBalanced_70) =>
  some (.inl (data_67, a_68, b_69, limit_21, wasBalanced_70, o58.2.1))
  | .inr data_45 =>
  some (.inr data_45)) : Option (((List Int) × Int × Int × Int × Bool × Bool) ⊕ (List Int)))).bind fun o => match o with
  | .inl (data_71, a_72, b_73, limit_74, wasBalanced_75, wasPartitioned_76) =>
  some (.inl (data_71, a_72, b_73, limit_74, wasBalanced_75, wasPartitioned_76))
  | .inr data_77 =>
  some (.inr data_77)
def f196 : Nat → (List Int) → Int → Int → Int → Option (List Int)
 | 0 => fun _ _ _ _ => none
 | n + 1 => fun data a b limit =>
  (iter (f196_0 (f196 n)) (data, a, b, limit, true, true)).bind fun data_80 =>
  some data_80
def f140 (x : (List Int)) : Option (List Int) :=
 (f197 (IntKind.u64.wrap (x.length : Int))).bind fun o1 =>
 (f196 64 x 0 (x.length : Int) o1).bind fun o3 =>
 some o3
def f170 (l : List Int) : Option (List Int) := compactN l
def f104 (a : (List Int)) (b : (List Int)) : Option (List Int) :=
 (f169 ([a, b])).bind fun o1 =>
 (f140 o1).bind fun o3 =>
 (f170 o3).bind fun o5 =>
 some o5
def f102_0 (atom : Atom) : (List Int) × Int → Option (((List Int) × Int) ⊕ (List Int))
 | (out_1, x_2) =>
  if x_2 < (atom.Terms.length : Int) then
  (ix atom.Terms x_2).bind fun v_4 =>
  (f122 v_4 0 3).bind fun o6 =>
  (((if o6 = true then
  (app 8 out_1 ([v_4])).bind fun l_11 =>
  some l_11
  else
  some out_1) : Option (List Int))).bind fun out_13 =>
  some (.inl (out_13, w64 (x_2 + 1)))
  else
  some (.inr out_1)
def f102 (atom : Atom) : Option (List Int) :=
 (iter (f102_0 atom) ([], 0)).bind fun out_16 =>
 (f104 out_16 ([] : (List Int))).bind fun o17 =>
 some o17
def f101 (relations : (List Relation)) (atom : Atom) : Option (List Int) :=
 (f122 atom.Relation 0 (w64 ((relations.length : Int) - 1))).bind fun o1 =>
 (((if ¬ (o1 = true) then
 some true
 else
 (ix relations atom.Relation).bind fun v_6 =>
 (f122 v_6.KeyLength 0 (atom.Terms.length : Int)).bind fun o8 =>
 some (decide (¬ (o8 = true)))) : Option (Bool))).bind fun x_3 =>
 if x_3 = true then
 some ([])
 else
 (ix relations atom.Relation).bind fun v_11 =>
 (cutL atom.Terms 0 v_11.KeyLength).bind fun l_13 =>
 (f102 ({ Relation := 0, Terms := l_13 } : Atom)).bind fun o15 =>
 some o15
def f182_0 (s0 : (List Int)) (v : Int) : Int → Option (Int ⊕ (Unit ⊕ Int))
 | x_1 =>
  if x_1 < (s0.length : Int) then
  (ix s0 x_1).bind fun v_3 =>
  if v = v_3 then
  some (.inr (.inr x_1))
  else
  some (.inl (w64 (x_1 + 1)))
  else
  some (.inr (.inl ()))
def f182 (s0 : (List Int)) (v : Int) : Option Int :=
 (iter (f182_0 s0 v) 0).bind fun o => match o with
 | .inl _ =>
 some (-1)
 | .inr x_8 =>
 some x_8
def f125 (s0 : (List Int)) (v : Int) : Option Bool :=
 (f182 s0 v).bind fun o1 =>
 some (decide (o1 ≥ 0))
def f195 (n0 : Int) (c : (List Int)) : Option Bool :=
 (f125 c n0).bind fun o1 =>
 some (decide (¬ (o1 = true)))
def f139 (a : (List Int)) (b : (List Int)) : Option Bool :=
 (f159 a (fun x0 => f195 x0 b)).bind fun o1 =>
 some (decide (¬ (o1 = true)))
def f80_0 (relations : (List Relation)) (rewriting : (List RewritingStep)) : Int → Option (Int ⊕ (Unit ⊕ Bool))
 | x_1 =>
  if x_1 < (rewriting.length : Int) then
  (ix rewriting x_1).bind fun v_3 =>
  (((if x_1 ≥ 3 then
  some true
  else
  (f156 relations).bind fun o8 =>
  (((if ¬ (o8 = true) then
  some true
  else
  (f122 v_3.Atom.Relation 0 (w64 ((relations.length : Int) - 1))).bind fun o13 =>
  (((if ¬ (o13 = true) then
  some true
  else
  (ix relations v_3.Atom.Relation).bind fun v_18 =>
  some (decide ((v_3.Atom.Terms.length : Int) ≠ v_18.Arity))) : Option (Bool))).bind fun x_15 =>
  some x_15) : Option (Bool))).bind fun x_10 =>
  some x_10) : Option (Bool))).bind fun x_5 =>
  if x_5 = true then
  some (.inr (.inr false))
  else
  (f159 v_3.Atom.Terms (fun x0 => f160 x0)).bind fun o21 =>
  if o21 = true then
  some (.inr (.inr false))
  else
  (f101 relations v_3.Atom).bind fun o24 =>
  (f139 v_3.Existential o24).bind fun o26 =>
  (((if ¬ (o26 = true) then
  some true
  else
  (f102 v_3.Atom).bind fun o31 =>
  (f139 v_3.Universal o31).bind fun o33 =>
  some (decide (¬ (o33 = true)))) : Option (Bool))).bind fun x_28 =>
  if x_28 = true then
  some (.inr (.inr false))
  else
  some (.inl (w64 (x_1 + 1)))
  else
  some (.inr (.inl ()))
def f80 (relations : (List Relation)) (rewriting : (List RewritingStep)) : Option Bool :=
 (iter (f80_0 relations rewriting) 0).bind fun o => match o with
 | .inl _ =>
 some true
 | .inr x_38 =>
 some x_38
def f248 (x : Int) (y : Int) : Option (Int × Int) :=
 some (IntKind.u64.wrap ((IntKind.u64.wrap ((IntKind.u64.wrap ((sshr .u64 x 32) * (sshr .u64 y 32))) + (sshr .u64 (IntKind.u64.wrap ((IntKind.u64.wrap ((sshr .u64 x 32) * (band .u64 y 4294967295))) + (sshr .u64 (IntKind.u64.wrap ((band .u64 x 4294967295) * (band .u64 y 4294967295))) 32))) 32))) + (sshr .u64 (IntKind.u64.wrap ((band .u64 (IntKind.u64.wrap ((IntKind.u64.wrap ((sshr .u64 x 32) * (band .u64 y 4294967295))) + (sshr .u64 (IntKind.u64.wrap ((band .u64 x 4294967295) * (band .u64 y 4294967295))) 32))) 4294967295) + (IntKind.u64.wrap ((band .u64 x 4294967295) * (sshr .u64 y 32))))) 32)), IntKind.u64.wrap (x * y))
def f213 (x : Int) (y : Int) : Option (Int × Int) :=
 (f248 x y).bind fun o1 =>
 some (o1.1, o1.2)
def f161_0 : (List Int) × Int → Option (((List Int) × Int) ⊕ (List Int))
 | (newslice_14, n_15) =>
  if n_15 < (newslice_14.length : Int) then
  (cutL newslice_14 0 n_15).bind fun z_17 =>
  some (.inl ((csL newslice_14 n_15.toNat), w64 (n_15 + (min n_15 ((newslice_14.length : Int) - n_15)))))
  else
  some (.inr newslice_14)
def f161 (x : (List Int)) (count : Int) : Option (List Int) :=
 (((if count < 0 then
 none
 else
 some ()) : Option Unit)).bind fun _ =>
 (f213 (IntKind.u64.wrap (x.length : Int)) (IntKind.u64.wrap count)).bind fun o4 =>
 (((if o4.1 > 0 then
 some true
 else
 some (decide (o4.2 > 9223372036854775807))) : Option (Bool))).bind fun x_6 =>
 (((if x_6 = true then
 none
 else
 some ()) : Option Unit)).bind fun _ =>
 (mkl 8 (w64 o4.2) 0).bind fun l_12 =>
 (iter f161_0 ((cpL l_12 x), ((min x.length l_12.length : Nat) : Int))).bind fun newslice_21 =>
 some newslice_21
def f81 (n0 : Int) : Option (List Int) :=
 (f161 ([-1]) n0).bind fun o1 =>
 some o1
def f214_0 (s1 : (List Int)) (s2 : (List Int)) : Int → Option (Int ⊕ (Unit ⊕ Bool))
 | x_2 =>
  if x_2 < (s1.length : Int) then
  (ix s1 x_2).bind fun v_4 =>
  (ix s2 x_2).bind fun v_6 =>
  if v_4 ≠ v_6 then
  some (.inr (.inr false))
  else
  some (.inl (w64 (x_2 + 1)))
  else
  some (.inr (.inl ()))
def f214 (s1 : (List Int)) (s2 : (List Int)) : Option Bool :=
 if (s1.length : Int) ≠ (s2.length : Int) then
 some false
 else
 (iter (f214_0 s1 s2) 0).bind fun o => match o with
 | .inl _ =>
 some true
 | .inr x_11 =>
 some x_11
def f162 (relations : (List Relation)) (a : Fact) (b : Fact) : Option Bool :=
 if a.Relation ≠ b.Relation then
 some false
 else
 (ix relations a.Relation).bind fun v_2 =>
 (cutL a.Values 0 v_2.KeyLength).bind fun l_4 =>
 (cutL b.Values 0 v_2.KeyLength).bind fun l_6 =>
 (f214 l_4 l_6).bind fun o8 =>
 some o8
def f83_0 (db : Database) : (List (List Int)) × Int → Option (((List (List Int)) × Int) ⊕ (List (List Int)))
 | (out_1, x_2) =>
  if x_2 < (db.Facts.length : Int) then
  (ix db.Facts x_2).bind fun v_4 =>
  (((if (w64 ((out_1.length : Int) - 1)) ≥ 0 then
  (ix out_1 (w64 ((out_1.length : Int) - 1))).bind fun v_9 =>
  (ix v_9 0).bind fun v_11 =>
  (ix db.Facts v_11).bind fun v_13 =>
  (f162 db.Relations v_13 v_4).bind fun o15 =>
  some o15
  else
  some false) : Option (Bool))).bind fun x_6 =>
  (((if x_6 = true then
  (ix out_1 (w64 ((out_1.length : Int) - 1))).bind fun v_20 =>
  (app 8 v_20 ([x_2])).bind fun l_22 =>
  some (out_1.set (w64 ((out_1.length : Int) - 1)).toNat l_22)
  else
  (app 24 out_1 ([[x_2]])).bind fun l_25 =>
  some l_25) : Option (List (List Int)))).bind fun out_27 =>
  some (.inl (out_27, w64 (x_2 + 1)))
  else
  some (.inr out_1)
def f83 (db : Database) : Option (List (List Int)) :=
 (iter (f83_0 db) ([], 0)).bind fun out_30 =>
 some out_30
def f135 (s0 : (List Int)) : Option (List Int) :=
 (app 8 ([]) s0).bind fun l_1 =>
 some l_1
def f192 (t : Int) : Option Bool :=
 some (decide (t ≥ 0))
def f193 (v : Int) : Option Int :=
 some (w64 ((-1) - v))
def f136_0 (terms : (List Int)) (from2 : (List Int)) : (List Int) × Int → Option (((List Int) × Int) ⊕ ((List Int) ⊕ ((List Int) × Bool)))
 | (out_3, x_4) =>
  if x_4 < (terms.length : Int) then
  (ix terms x_4).bind fun v_6 =>
  (f192 v_6).bind fun o8 =>
  (((if ¬ (o8 = true) then
  (ix from2 x_4).bind fun v_13 =>
  (f193 v_6).bind fun o15 =>
  if o15 ≠ v_13 then
  some (.inr ([], false))
  else
  some (.inl out_3)
  else
  (ix out_3 v_6).bind fun v_18 =>
  (((if v_18 < 0 then
  (ix from2 x_4).bind fun v_23 =>
  some (.inl (out_3.set v_6.toNat v_23))
  else
  (ix from2 x_4).bind fun v_26 =>
  if v_18 ≠ v_26 then
  some (.inr ([], false))
  else
  some (.inl out_3)) : Option ((List Int) ⊕ ((List Int) × Bool)))).bind fun o => match o with
  | .inl out_29 =>
  some (.inl out_29)
  | .inr (x_30, x_31) =>
  some (.inr (x_30, x_31))) : Option ((List Int) ⊕ ((List Int) × Bool)))).bind fun o => match o with
  | .inl out_32 =>
  some (.inl (out_32, w64 (x_4 + 1)))
  | .inr (x_33, x_34) =>
  some (.inr (.inr (x_33, x_34)))
  else
  some (.inr (.inl out_3))
def f136 (values : (List Int)) (terms : (List Int)) (from2 : (List Int)) : Option ((List Int) × Bool) :=
 (f135 values).bind fun o1 =>
 (iter (f136_0 terms from2) (o1, 0)).bind fun o => match o with
 | .inl out_37 =>
 some (out_37, true)
 | .inr (x_38, x_39) =>
 some (x_38, x_39)
def f82_1 (db : Database) (list : (List (List Int))) (rewriting : (List RewritingStep)) (rec : Database → (List (List Int)) → (List RewritingStep) → (List Int) → Option Bool) (v_2 : RewritingStep) (v_10 : (List Int)) (o21 : ((List Int) × Bool)) : Bool × Int → Option ((Bool × Int) ⊕ Bool)
 | (ok_23, i_24) =>
  (((if i_24 < (v_10.length : Int) then
  some ok_23
  else
  some false) : Option (Bool))).bind fun x_25 =>
  if x_25 = true then
  (ix v_10 i_24).bind fun v_29 =>
  (ix db.Facts v_29).bind fun v_31 =>
  (f136 o21.1 v_2.Atom.Terms v_31.Values).bind fun o33 =>
  (((if o33.2 = true then
  (cutL rewriting 1 rewriting.length).bind fun l_38 =>
  (rec db list l_38 o33.1).bind fun o40 =>
  some o40
  else
  some false) : Option (Bool))).bind fun ok_35 =>
  some (.inl (ok_35, w64 (i_24 + 1)))
  else
  some (.inr ok_23)
def f82_0 (db : Database) (list : (List (List Int))) (rewriting : (List RewritingStep)) (values : (List Int)) (rec : Database → (List (List Int)) → (List RewritingStep) → (List Int) → Option Bool) (v_2 : RewritingStep) (v_4 : Relation) : Int → Option (Int ⊕ (Unit ⊕ Bool))
 | x_6 =>
  if x_6 < (list.length : Int) then
  ((((ix list x_6).bind fun v_10 =>
  (ix v_10 0).bind fun v_12 =>
  (ix db.Facts v_12).bind fun v_14 =>
  if v_14.Relation ≠ v_2.Atom.Relation then
  some (.inl ())
  else
  (cutL v_2.Atom.Terms 0 v_4.KeyLength).bind fun l_17 =>
  (cutL v_14.Values 0 v_4.KeyLength).bind fun l_19 =>
  (f136 values l_17 l_19).bind fun o21 =>
  (iter ((f82_1 db list rewriting rec v_2 v_10 o21)) (o21.2, 0)).bind fun ok_44 =>
  if ok_44 = true then
  some (.inr true)
  else
  some (.inl ())) : Option (Unit ⊕ Bool))).bind fun o => match o with
  | .inl _ =>
  some (.inl (w64 (x_6 + 1)))
  | .inr x_46 =>
  some (.inr (.inr x_46))
  else
  some (.inr (.inl ()))
def f82 : Nat → Database → (List (List Int)) → (List RewritingStep) → (List Int) → Option Bool
 | 0 => fun _ _ _ _ => none
 | n + 1 => fun db list rewriting values =>
  if (rewriting.length : Int) = 0 then
  some true
  else
  (ix rewriting 0).bind fun v_2 =>
  (ix db.Relations v_2.Atom.Relation).bind fun v_4 =>
  (iter (f82_0 db list rewriting values (f82 n) v_2 v_4) 0).bind fun o => match o with
  | .inl _ =>
  some false
  | .inr x_49 =>
  some x_49
def f17 (db : Database) (rewriting : (List RewritingStep)) (values : (List Int)) : Option Bool :=
 (f79 db).bind fun o1 =>
 (((if ¬ (o1 = true) then
 some true
 else
 (f80 db.Relations rewriting).bind fun o6 =>
 (((if ¬ (o6 = true) then
 some true
 else
 some (decide ((values.length : Int) > 4))) : Option (Bool))).bind fun x_8 =>
 some x_8) : Option (Bool))).bind fun x_3 =>
 if x_3 = true then
 some false
 else
 (f81 4).bind fun o12 =>
 (nel o12).bind fun z_14 =>
 (f83 db).bind fun o16 =>
 (f82 64 db o16 rewriting (cpL o12 values)).bind fun o18 =>
 some o18
def f107 (a : Relation) (b : Relation) : Option Bool :=
 if a.Name ≠ b.Name then
 some false
 else
 if a.Arity ≠ b.Arity then
 some false
 else
 if a.KeyLength ≠ b.KeyLength then
 some false
 else
 some true
def f30_0 (a : (List Relation)) (b : (List Relation)) : Int → Option (Int ⊕ (Unit ⊕ Bool))
 | i_2 =>
  if i_2 < (a.length : Int) then
  (ix a i_2).bind fun v_4 =>
  (ix b i_2).bind fun v_6 =>
  (f107 v_4 v_6).bind fun o8 =>
  if ¬ (o8 = true) then
  some (.inr (.inr false))
  else
  some (.inl (w64 (i_2 + 1)))
  else
  some (.inr (.inl ()))
def f30 (a : (List Relation)) (b : (List Relation)) : Option Bool :=
 if (a.length : Int) ≠ (b.length : Int) then
 some false
 else
 (iter (f30_0 a b) 0).bind fun o => match o with
 | .inl _ =>
 some true
 | .inr x_13 =>
 some x_13
def f20_0 (a : (List Int)) (b : (List Int)) : Int → Option (Int ⊕ (Unit ⊕ Bool))
 | i_2 =>
  if i_2 < (a.length : Int) then
  (ix a i_2).bind fun v_4 =>
  (ix b i_2).bind fun v_6 =>
  if v_4 ≠ v_6 then
  some (.inr (.inr false))
  else
  some (.inl (w64 (i_2 + 1)))
  else
  some (.inr (.inl ()))
def f20 (a : (List Int)) (b : (List Int)) : Option Bool :=
 if (a.length : Int) ≠ (b.length : Int) then
 some false
 else
 (iter (f20_0 a b) 0).bind fun o => match o with
 | .inl _ =>
 some true
 | .inr x_11 =>
 some x_11
def f163 (a : Fact) (b : Fact) : Option Bool :=
 if a.Relation ≠ b.Relation then
 some false
 else
 (f20 a.Values b.Values).bind fun o2 =>
 if ¬ (o2 = true) then
 some false
 else
 some true
def f84_0 (a : (List Fact)) (b : (List Fact)) : Int → Option (Int ⊕ (Unit ⊕ Bool))
 | i_2 =>
  if i_2 < (a.length : Int) then
  (ix a i_2).bind fun v_4 =>
  (ix b i_2).bind fun v_6 =>
  (f163 v_4 v_6).bind fun o8 =>
  if ¬ (o8 = true) then
  some (.inr (.inr false))
  else
  some (.inl (w64 (i_2 + 1)))
  else
  some (.inr (.inl ()))
def f84 (a : (List Fact)) (b : (List Fact)) : Option Bool :=
 if (a.length : Int) ≠ (b.length : Int) then
 some false
 else
 (iter (f84_0 a b) 0).bind fun o => match o with
 | .inl _ =>
 some true
 | .inr x_13 =>
 some x_13
def f18 (a : Database) (b : Database) : Option Bool :=
 (f30 a.Relations b.Relations).bind fun o1 =>
 if ¬ (o1 = true) then
 some false
 else
 (f84 a.Facts b.Facts).bind fun o4 =>
 if ¬ (o4 = true) then
 some false
 else
 some true
def f164 (a : Atom) (b : Atom) : Option Bool :=
 if a.Relation ≠ b.Relation then
 some false
 else
 (f20 a.Terms b.Terms).bind fun o2 =>
 if ¬ (o2 = true) then
 some false
 else
 some true
def f85 (a : RewritingStep) (b : RewritingStep) : Option Bool :=
 (f164 a.Atom b.Atom).bind fun o1 =>
 if ¬ (o1 = true) then
 some false
 else
 (f20 a.Existential b.Existential).bind fun o4 =>
 if ¬ (o4 = true) then
 some false
 else
 (f20 a.Universal b.Universal).bind fun o7 =>
 if ¬ (o7 = true) then
 some false
 else
 some true
def f19_0 (a : (List RewritingStep)) (b : (List RewritingStep)) : Int → Option (Int ⊕ (Unit ⊕ Bool))
 | i_2 =>
  if i_2 < (a.length : Int) then
  (ix a i_2).bind fun v_4 =>
  (ix b i_2).bind fun v_6 =>
  (f85 v_4 v_6).bind fun o8 =>
  if ¬ (o8 = true) then
  some (.inr (.inr false))
  else
  some (.inl (w64 (i_2 + 1)))
  else
  some (.inr (.inl ()))
def f19 (a : (List RewritingStep)) (b : (List RewritingStep)) : Option Bool :=
 if (a.length : Int) ≠ (b.length : Int) then
 some false
 else
 (iter (f19_0 a b) 0).bind fun o => match o with
 | .inl _ =>
 some true
 | .inr x_13 =>
 some x_13
def f3 (aDb : Database) (aRewriting : (List RewritingStep)) (aValues : (List Int)) : Option Bool :=
 if (aValues.length : Int) > 1048576 then
 some true
 else
 (f11 aDb 1048576).bind fun o2 =>
 if o2 < 0 then
 some true
 else
 (f12 aRewriting o2).bind fun o5 =>
 if o5 < 0 then
 some true
 else
 (f14 aDb).bind fun o8 =>
 (f15 aRewriting).bind fun o10 =>
 (f16 aValues).bind fun o12 =>
 (f13 o8 o10 o12).bind fun o14 =>
 (f14 aDb).bind fun o16 =>
 (f15 aRewriting).bind fun o18 =>
 (f16 aValues).bind fun o20 =>
 (f17 o16 o18 o20).bind fun o22 =>
 if (o22 != o14) = true then
 some false
 else
 (f14 aDb).bind fun o25 =>
 (f18 o16 o25).bind fun o27 =>
 if ¬ (o27 = true) then
 some false
 else
 (f15 aRewriting).bind fun o30 =>
 (f19 o18 o30).bind fun o32 =>
 if ¬ (o32 = true) then
 some false
 else
 (f16 aValues).bind fun o35 =>
 (f20 o20 o35).bind fun o37 =>
 if ¬ (o37 = true) then
 some false
 else
 some true
end
end Go.Proofs.YtcllfkplpdppiaaGreatH
