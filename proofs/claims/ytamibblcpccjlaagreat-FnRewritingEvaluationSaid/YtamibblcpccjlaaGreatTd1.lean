import Derived.Test.YtamibblcpccjlaaGreatX3
set_option linter.unusedVariables false
set_option linter.unusedSimpArgs false
set_option linter.defProp false
set_option linter.unusedSectionVars false
set_option maxRecDepth 100000
namespace Go.Proofs.YtamibblcpccjlaaGreatH
open Go
noncomputable section
structure Relation where
 Name : (List UInt8)
 Arity : Int
 KeyLength : Int
 deriving DecidableEq, Inhabited
def eRelation : En Relation := ⟨3, fun _ a => [(.str a.Name), (.int .i64 a.Arity), (.int .i64 a.KeyLength)], fun b a => by cases b <;> rfl, by decide, fun b a => by cases b <;> simp [T.frz], fun a => by simp, fun a => by simp, fun b a => by cases b <;> simp⟩
@[simp] theorem eRelation_w : eRelation.w = 3 := rfl
@[simp] theorem eRelation_ct {a : Relation} : eRelation.c true a = [(.str a.Name), (.int .i64 a.Arity), (.int .i64 a.KeyLength)] := rfl
@[simp] theorem eRelation_cf {a : Relation} : eRelation.c false a = [(.str a.Name), (.int .i64 a.Arity), (.int .i64 a.KeyLength)] := rfl
@[simp] theorem arrRelation_len {b : Bool} {l : List Relation} : (arr eRelation b l).length = l.length * 3 := arr_len
@[simp] theorem eRelation_e (a : Relation) : Relation.mk a.Name a.Arity a.KeyLength = a := rfl
@[simp] def q0Relation {b l i o} := @arr_get2 _ eRelation b l i o 3 rfl
@[simp] def q1Relation {b l i} := @arr_get20 _ eRelation b l i 3 rfl
@[simp] def q2Relation {b l o} := @arr_get0 _ eRelation b l o 3 rfl
@[simp] def q3Relation {b l} := @arr_take0 _ eRelation b l 3 rfl
@[simp] def q4Relation {b l i o} := @arr_part _ eRelation b l i o 3 rfl
@[simp] def q5Relation {b l i o j} := @arr_part2 _ eRelation b l i o 3 j rfl
@[simp] def q6Relation {b l} := @arr_at2 _ eRelation b l 3 rfl
@[simp] def q7Relation {b l} := @arr_take2 _ eRelation b l 3 rfl
@[simp] def q8Relation {b l l' bs y} := @appT_w _ eRelation b l l' bs y 3 rfl
@[simp] def q10Relation {z0 z1 z2 n} := @rep_w _ eRelation true n ⟨z0, z1, z2⟩ [(.str z0), (.int .i64 z1), (.int .i64 z2)] rfl
@[simp] def q71Relation {b l} := @arr_tl _ eRelation b l 3 rfl
@[simp] def q70Relation {b l i} := @arr_tk _ eRelation b l i 3 rfl
@[simp] theorem q40Relation {b : Bool} {l' : List Relation} {bs : Nat} {y : Bool} (hb : bs ≠ 0) : appT 3 bs (.sl true y 3 0 []) (arr eRelation b l') = (app bs [] l').map fun v => .sl true y 3 0 (arr eRelation true v) := appT_w0 (E := eRelation) (b := b) rfl hb
@[simp] theorem q50Relation {l : List Relation} {i : Nat} {z : (List UInt8)} (h : i < l.length) : layT (arr eRelation true l) (i * 3) 1 [(.str z)] = arr eRelation true (l.set i ⟨z, (l[i]?.getD default).Arity, (l[i]?.getD default).KeyLength⟩) := by rw [List.getElem?_eq_getElem h]; exact lay_cell (E := eRelation) (b := true) (i := i) (o := 0) ⟨z, l[i].Arity, l[i].KeyLength⟩ (List.getElem?_eq_getElem h) (by decide) rfl
@[simp] theorem q60Relation {l : List Relation} {i : Nat} {z : (List UInt8)} (h : i < l.length) : (arr eRelation true l).set (i * 3) (.str z) = arr eRelation true (l.set i ⟨z, (l[i]?.getD default).Arity, (l[i]?.getD default).KeyLength⟩) := by rw [List.getElem?_eq_getElem h]; exact set_cell (E := eRelation) (b := true) (i := i) (o := 0) ⟨z, l[i].Arity, l[i].KeyLength⟩ (List.getElem?_eq_getElem h) (by decide) rfl
@[simp] theorem q51Relation {l : List Relation} {i : Nat} {z : Int} (h : i < l.length) : layT (arr eRelation true l) (i * 3 + 1) 1 [(.int .i64 z)] = arr eRelation true (l.set i ⟨(l[i]?.getD default).Name, z, (l[i]?.getD default).KeyLength⟩) := by rw [List.getElem?_eq_getElem h]; exact lay_cell (E := eRelation) (b := true) (i := i) (o := 1) ⟨l[i].Name, z, l[i].KeyLength⟩ (List.getElem?_eq_getElem h) (by decide) rfl
@[simp] theorem q61Relation {l : List Relation} {i : Nat} {z : Int} (h : i < l.length) : (arr eRelation true l).set (i * 3 + 1) (.int .i64 z) = arr eRelation true (l.set i ⟨(l[i]?.getD default).Name, z, (l[i]?.getD default).KeyLength⟩) := by rw [List.getElem?_eq_getElem h]; exact set_cell (E := eRelation) (b := true) (i := i) (o := 1) ⟨l[i].Name, z, l[i].KeyLength⟩ (List.getElem?_eq_getElem h) (by decide) rfl
@[simp] theorem q52Relation {l : List Relation} {i : Nat} {z : Int} (h : i < l.length) : layT (arr eRelation true l) (i * 3 + 2) 1 [(.int .i64 z)] = arr eRelation true (l.set i ⟨(l[i]?.getD default).Name, (l[i]?.getD default).Arity, z⟩) := by rw [List.getElem?_eq_getElem h]; exact lay_cell (E := eRelation) (b := true) (i := i) (o := 2) ⟨l[i].Name, l[i].Arity, z⟩ (List.getElem?_eq_getElem h) (by decide) rfl
@[simp] theorem q62Relation {l : List Relation} {i : Nat} {z : Int} (h : i < l.length) : (arr eRelation true l).set (i * 3 + 2) (.int .i64 z) = arr eRelation true (l.set i ⟨(l[i]?.getD default).Name, (l[i]?.getD default).Arity, z⟩) := by rw [List.getElem?_eq_getElem h]; exact set_cell (E := eRelation) (b := true) (i := i) (o := 2) ⟨l[i].Name, l[i].Arity, z⟩ (List.getElem?_eq_getElem h) (by decide) rfl
@[simp] def q20Relation {b z0 z1 z2 l bs y} := @appT_1w _ eRelation b l bs y 3 rfl ⟨z0, z1, z2⟩ [(.str z0), (.int .i64 z1), (.int .i64 z2)] rfl
@[simp] def q23Relation {b z0 z1 z2 l' bs y} := @appT_11 _ eRelation b l' bs y 3 rfl ⟨z0, z1, z2⟩ [(.str z0), (.int .i64 z1), (.int .i64 z2)] rfl
@[simp] def q22Relation {b z0 z1 z2 bs y} := @appT_10 _ eRelation b bs y 3 rfl ⟨z0, z1, z2⟩ [(.str z0), (.int .i64 z1), (.int .i64 z2)] rfl
@[simp] def q21Relation {b z0 z1 z2 l i} := @lay_w _ eRelation b l i 3 rfl ⟨z0, z1, z2⟩ [(.str z0), (.int .i64 z1), (.int .i64 z2)] rfl
structure Fact where
 Relation : Int
 Values : (List Int)
 deriving DecidableEq, Inhabited
def eFact : En Fact := ⟨2, fun b a => if b then [(.int .i64 a.Relation), (osl eI true a.Values)] else [(.int .i64 a.Relation), (ssl eI a.Values)], fun b a => by cases b <;> rfl, by decide, fun b a => by cases b <;> simp [T.frz], fun a => by simp, fun a => by simp, fun b a => by cases b <;> simp⟩
@[simp] theorem eFact_w : eFact.w = 2 := rfl
@[simp] theorem eFact_ct {a : Fact} : eFact.c true a = [(.int .i64 a.Relation), (osl eI true a.Values)] := rfl
@[simp] theorem eFact_cf {a : Fact} : eFact.c false a = [(.int .i64 a.Relation), (ssl eI a.Values)] := rfl
@[simp] theorem arrFact_len {b : Bool} {l : List Fact} : (arr eFact b l).length = l.length * 2 := arr_len
@[simp] theorem eFact_e (a : Fact) : Fact.mk a.Relation a.Values = a := rfl
@[simp] def q0Fact {b l i o} := @arr_get2 _ eFact b l i o 2 rfl
@[simp] def q1Fact {b l i} := @arr_get20 _ eFact b l i 2 rfl
@[simp] def q2Fact {b l o} := @arr_get0 _ eFact b l o 2 rfl
@[simp] def q3Fact {b l} := @arr_take0 _ eFact b l 2 rfl
@[simp] def q4Fact {b l i o} := @arr_part _ eFact b l i o 2 rfl
@[simp] def q5Fact {b l i o j} := @arr_part2 _ eFact b l i o 2 j rfl
@[simp] def q6Fact {b l} := @arr_at2 _ eFact b l 2 rfl
@[simp] def q7Fact {b l} := @arr_take2 _ eFact b l 2 rfl
@[simp] def q8Fact {b l l' bs y} := @appT_w _ eFact b l l' bs y 2 rfl
@[simp] def q10Fact {z0 z1 n} := @rep_w _ eFact true n ⟨z0, z1⟩ [(.int .i64 z0), (.sl true true 1 0 (arr eI true z1))] rfl
@[simp] def q71Fact {b l} := @arr_tl _ eFact b l 2 rfl
@[simp] def q70Fact {b l i} := @arr_tk _ eFact b l i 2 rfl
@[simp] def q40Fact {b l' bs y} := @appT_w0 _ eFact b l' bs y 2 rfl
@[simp] theorem q50Fact {l : List Fact} {i : Nat} {z : Int} (h : i < l.length) : layT (arr eFact true l) (i * 2) 1 [(.int .i64 z)] = arr eFact true (l.set i ⟨z, (l[i]?.getD default).Values⟩) := by rw [List.getElem?_eq_getElem h]; exact lay_cell (E := eFact) (b := true) (i := i) (o := 0) ⟨z, l[i].Values⟩ (List.getElem?_eq_getElem h) (by decide) rfl
@[simp] theorem q60Fact {l : List Fact} {i : Nat} {z : Int} (h : i < l.length) : (arr eFact true l).set (i * 2) (.int .i64 z) = arr eFact true (l.set i ⟨z, (l[i]?.getD default).Values⟩) := by rw [List.getElem?_eq_getElem h]; exact set_cell (E := eFact) (b := true) (i := i) (o := 0) ⟨z, l[i].Values⟩ (List.getElem?_eq_getElem h) (by decide) rfl
@[simp] theorem q51Fact {l : List Fact} {i : Nat} {z : (List Int)} (h : i < l.length) : layT (arr eFact true l) (i * 2 + 1) 1 [(.sl true true 1 0 (arr eI true z))] = arr eFact true (l.set i ⟨(l[i]?.getD default).Relation, z⟩) := by rw [List.getElem?_eq_getElem h]; exact lay_cell (E := eFact) (b := true) (i := i) (o := 1) ⟨l[i].Relation, z⟩ (List.getElem?_eq_getElem h) (by decide) rfl
@[simp] theorem q61Fact {l : List Fact} {i : Nat} {z : (List Int)} (h : i < l.length) : (arr eFact true l).set (i * 2 + 1) (.sl true true 1 0 (arr eI true z)) = arr eFact true (l.set i ⟨(l[i]?.getD default).Relation, z⟩) := by rw [List.getElem?_eq_getElem h]; exact set_cell (E := eFact) (b := true) (i := i) (o := 1) ⟨l[i].Relation, z⟩ (List.getElem?_eq_getElem h) (by decide) rfl
@[simp] def q20Fact {z0 z1 l bs y} := @appT_1w _ eFact true l bs y 2 rfl ⟨z0, z1⟩ [(.int .i64 z0), (.sl true true 1 0 (arr eI true z1))] rfl
@[simp] def q23Fact {z0 z1 l' bs y} := @appT_11 _ eFact true l' bs y 2 rfl ⟨z0, z1⟩ [(.int .i64 z0), (.sl true true 1 0 (arr eI true z1))] rfl
@[simp] def q22Fact {z0 z1 bs y} := @appT_10 _ eFact true bs y 2 rfl ⟨z0, z1⟩ [(.int .i64 z0), (.sl true true 1 0 (arr eI true z1))] rfl
@[simp] def q21Fact {z0 z1 l i} := @lay_w _ eFact true l i 2 rfl ⟨z0, z1⟩ [(.int .i64 z0), (.sl true true 1 0 (arr eI true z1))] rfl
@[simp] def q30Fact {z0 z1 l bs y} := @appT_1w _ eFact false l bs y 2 rfl ⟨z0, z1⟩ [(.int .i64 z0), (.sl false false 1 1 (arr eI false z1))] rfl
@[simp] def q33Fact {z0 z1 l' bs y} := @appT_11 _ eFact false l' bs y 2 rfl ⟨z0, z1⟩ [(.int .i64 z0), (.sl false false 1 1 (arr eI false z1))] rfl
@[simp] def q32Fact {z0 z1 bs y} := @appT_10 _ eFact false bs y 2 rfl ⟨z0, z1⟩ [(.int .i64 z0), (.sl false false 1 1 (arr eI false z1))] rfl
@[simp] def q31Fact {z0 z1 l i} := @lay_w _ eFact false l i 2 rfl ⟨z0, z1⟩ [(.int .i64 z0), (.sl false false 1 1 (arr eI false z1))] rfl
structure L1Cur where
 b : (List Int)
 i : Int
 h : Int
 deriving DecidableEq, Inhabited
def eL1Cur : En L1Cur := ⟨3, fun b a => if b then [(osl eU true a.b), (.int .i64 a.i), (.int .i64 a.h)] else [(ssl eU a.b), (.int .i64 a.i), (.int .i64 a.h)], fun b a => by cases b <;> rfl, by decide, fun b a => by cases b <;> simp [T.frz], fun a => by simp, fun a => by simp, fun b a => by cases b <;> simp⟩
@[simp] theorem eL1Cur_w : eL1Cur.w = 3 := rfl
@[simp] theorem eL1Cur_ct {a : L1Cur} : eL1Cur.c true a = [(osl eU true a.b), (.int .i64 a.i), (.int .i64 a.h)] := rfl
@[simp] theorem eL1Cur_cf {a : L1Cur} : eL1Cur.c false a = [(ssl eU a.b), (.int .i64 a.i), (.int .i64 a.h)] := rfl
@[simp] theorem eL1Cur_e (a : L1Cur) : L1Cur.mk a.b a.i a.h = a := rfl
structure Database where
 Relations : (List Relation)
 Facts : (List Fact)
 deriving DecidableEq, Inhabited
def eDatabase : En Database := ⟨2, fun b a => if b then [(osl eRelation true a.Relations), (osl eFact true a.Facts)] else [(ssl eRelation a.Relations), (ssl eFact a.Facts)], fun b a => by cases b <;> rfl, by decide, fun b a => by cases b <;> simp [T.frz], fun a => by simp, fun a => by simp, fun b a => by cases b <;> simp⟩
@[simp] theorem eDatabase_w : eDatabase.w = 2 := rfl
@[simp] theorem eDatabase_ct {a : Database} : eDatabase.c true a = [(osl eRelation true a.Relations), (osl eFact true a.Facts)] := rfl
@[simp] theorem eDatabase_cf {a : Database} : eDatabase.c false a = [(ssl eRelation a.Relations), (ssl eFact a.Facts)] := rfl
@[simp] theorem eDatabase_e (a : Database) : Database.mk a.Relations a.Facts = a := rfl
structure Atom where
 Relation : Int
 Terms : (List Int)
 deriving DecidableEq, Inhabited
def eAtom : En Atom := ⟨2, fun b a => if b then [(.int .i64 a.Relation), (osl eI true a.Terms)] else [(.int .i64 a.Relation), (ssl eI a.Terms)], fun b a => by cases b <;> rfl, by decide, fun b a => by cases b <;> simp [T.frz], fun a => by simp, fun a => by simp, fun b a => by cases b <;> simp⟩
@[simp] theorem eAtom_w : eAtom.w = 2 := rfl
@[simp] theorem eAtom_ct {a : Atom} : eAtom.c true a = [(.int .i64 a.Relation), (osl eI true a.Terms)] := rfl
@[simp] theorem eAtom_cf {a : Atom} : eAtom.c false a = [(.int .i64 a.Relation), (ssl eI a.Terms)] := rfl
@[simp] theorem arrAtom_len {b : Bool} {l : List Atom} : (arr eAtom b l).length = l.length * 2 := arr_len
@[simp] theorem eAtom_e (a : Atom) : Atom.mk a.Relation a.Terms = a := rfl
@[simp] def q0Atom {b l i o} := @arr_get2 _ eAtom b l i o 2 rfl
@[simp] def q1Atom {b l i} := @arr_get20 _ eAtom b l i 2 rfl
@[simp] def q2Atom {b l o} := @arr_get0 _ eAtom b l o 2 rfl
@[simp] def q3Atom {b l} := @arr_take0 _ eAtom b l 2 rfl
@[simp] def q4Atom {b l i o} := @arr_part _ eAtom b l i o 2 rfl
@[simp] def q5Atom {b l i o j} := @arr_part2 _ eAtom b l i o 2 j rfl
@[simp] def q6Atom {b l} := @arr_at2 _ eAtom b l 2 rfl
@[simp] def q7Atom {b l} := @arr_take2 _ eAtom b l 2 rfl
@[simp] def q8Atom {b l l' bs y} := @appT_w _ eAtom b l l' bs y 2 rfl
@[simp] def q10Atom {z0 z1 n} := @rep_w _ eAtom true n ⟨z0, z1⟩ [(.int .i64 z0), (.sl true true 1 0 (arr eI true z1))] rfl
@[simp] def q71Atom {b l} := @arr_tl _ eAtom b l 2 rfl
@[simp] def q70Atom {b l i} := @arr_tk _ eAtom b l i 2 rfl
@[simp] def q40Atom {b l' bs y} := @appT_w0 _ eAtom b l' bs y 2 rfl
@[simp] theorem q50Atom {l : List Atom} {i : Nat} {z : Int} (h : i < l.length) : layT (arr eAtom true l) (i * 2) 1 [(.int .i64 z)] = arr eAtom true (l.set i ⟨z, (l[i]?.getD default).Terms⟩) := by rw [List.getElem?_eq_getElem h]; exact lay_cell (E := eAtom) (b := true) (i := i) (o := 0) ⟨z, l[i].Terms⟩ (List.getElem?_eq_getElem h) (by decide) rfl
@[simp] theorem q60Atom {l : List Atom} {i : Nat} {z : Int} (h : i < l.length) : (arr eAtom true l).set (i * 2) (.int .i64 z) = arr eAtom true (l.set i ⟨z, (l[i]?.getD default).Terms⟩) := by rw [List.getElem?_eq_getElem h]; exact set_cell (E := eAtom) (b := true) (i := i) (o := 0) ⟨z, l[i].Terms⟩ (List.getElem?_eq_getElem h) (by decide) rfl
@[simp] theorem q51Atom {l : List Atom} {i : Nat} {z : (List Int)} (h : i < l.length) : layT (arr eAtom true l) (i * 2 + 1) 1 [(.sl true true 1 0 (arr eI true z))] = arr eAtom true (l.set i ⟨(l[i]?.getD default).Relation, z⟩) := by rw [List.getElem?_eq_getElem h]; exact lay_cell (E := eAtom) (b := true) (i := i) (o := 1) ⟨l[i].Relation, z⟩ (List.getElem?_eq_getElem h) (by decide) rfl
@[simp] theorem q61Atom {l : List Atom} {i : Nat} {z : (List Int)} (h : i < l.length) : (arr eAtom true l).set (i * 2 + 1) (.sl true true 1 0 (arr eI true z)) = arr eAtom true (l.set i ⟨(l[i]?.getD default).Relation, z⟩) := by rw [List.getElem?_eq_getElem h]; exact set_cell (E := eAtom) (b := true) (i := i) (o := 1) ⟨l[i].Relation, z⟩ (List.getElem?_eq_getElem h) (by decide) rfl
@[simp] def q20Atom {z0 z1 l bs y} := @appT_1w _ eAtom true l bs y 2 rfl ⟨z0, z1⟩ [(.int .i64 z0), (.sl true true 1 0 (arr eI true z1))] rfl
@[simp] def q23Atom {z0 z1 l' bs y} := @appT_11 _ eAtom true l' bs y 2 rfl ⟨z0, z1⟩ [(.int .i64 z0), (.sl true true 1 0 (arr eI true z1))] rfl
@[simp] def q22Atom {z0 z1 bs y} := @appT_10 _ eAtom true bs y 2 rfl ⟨z0, z1⟩ [(.int .i64 z0), (.sl true true 1 0 (arr eI true z1))] rfl
@[simp] def q21Atom {z0 z1 l i} := @lay_w _ eAtom true l i 2 rfl ⟨z0, z1⟩ [(.int .i64 z0), (.sl true true 1 0 (arr eI true z1))] rfl
@[simp] def q30Atom {z0 z1 l bs y} := @appT_1w _ eAtom false l bs y 2 rfl ⟨z0, z1⟩ [(.int .i64 z0), (.sl false false 1 1 (arr eI false z1))] rfl
@[simp] def q33Atom {z0 z1 l' bs y} := @appT_11 _ eAtom false l' bs y 2 rfl ⟨z0, z1⟩ [(.int .i64 z0), (.sl false false 1 1 (arr eI false z1))] rfl
@[simp] def q32Atom {z0 z1 bs y} := @appT_10 _ eAtom false bs y 2 rfl ⟨z0, z1⟩ [(.int .i64 z0), (.sl false false 1 1 (arr eI false z1))] rfl
@[simp] def q31Atom {z0 z1 l i} := @lay_w _ eAtom false l i 2 rfl ⟨z0, z1⟩ [(.int .i64 z0), (.sl false false 1 1 (arr eI false z1))] rfl
structure Query where
 VariableCount : Int
 Atoms : (List Atom)
 Free : (List Int)
 deriving DecidableEq, Inhabited
def eQuery : En Query := ⟨3, fun b a => if b then [(.int .i64 a.VariableCount), (osl eAtom true a.Atoms), (osl eI true a.Free)] else [(.int .i64 a.VariableCount), (ssl eAtom a.Atoms), (ssl eI a.Free)], fun b a => by cases b <;> rfl, by decide, fun b a => by cases b <;> simp [T.frz], fun a => by simp, fun a => by simp, fun b a => by cases b <;> simp⟩
@[simp] theorem eQuery_w : eQuery.w = 3 := rfl
@[simp] theorem eQuery_ct {a : Query} : eQuery.c true a = [(.int .i64 a.VariableCount), (osl eAtom true a.Atoms), (osl eI true a.Free)] := rfl
@[simp] theorem eQuery_cf {a : Query} : eQuery.c false a = [(.int .i64 a.VariableCount), (ssl eAtom a.Atoms), (ssl eI a.Free)] := rfl
@[simp] theorem eQuery_e (a : Query) : Query.mk a.VariableCount a.Atoms a.Free = a := rfl
structure RewritingStep where
 Atom : Atom
 Existential : (List Int)
 Universal : (List Int)
 deriving DecidableEq, Inhabited
def eRewritingStep : En RewritingStep := ⟨4, fun b a => if b then [(.int .i64 a.Atom.Relation), (osl eI true a.Atom.Terms), (osl eI true a.Existential), (osl eI true a.Universal)] else [(.int .i64 a.Atom.Relation), (ssl eI a.Atom.Terms), (ssl eI a.Existential), (ssl eI a.Universal)], fun b a => by cases b <;> rfl, by decide, fun b a => by cases b <;> simp [T.frz], fun a => by simp, fun a => by simp, fun b a => by cases b <;> simp⟩
@[simp] theorem eRewritingStep_w : eRewritingStep.w = 4 := rfl
@[simp] theorem eRewritingStep_ct {a : RewritingStep} : eRewritingStep.c true a = [(.int .i64 a.Atom.Relation), (osl eI true a.Atom.Terms), (osl eI true a.Existential), (osl eI true a.Universal)] := rfl
@[simp] theorem eRewritingStep_cf {a : RewritingStep} : eRewritingStep.c false a = [(.int .i64 a.Atom.Relation), (ssl eI a.Atom.Terms), (ssl eI a.Existential), (ssl eI a.Universal)] := rfl
@[simp] theorem arrRewritingStep_len {b : Bool} {l : List RewritingStep} : (arr eRewritingStep b l).length = l.length * 4 := arr_len
@[simp] theorem eRewritingStep_e (a : RewritingStep) : RewritingStep.mk a.Atom a.Existential a.Universal = a := rfl
@[simp] def q0RewritingStep {b l i o} := @arr_get2 _ eRewritingStep b l i o 4 rfl
@[simp] def q1RewritingStep {b l i} := @arr_get20 _ eRewritingStep b l i 4 rfl
@[simp] def q2RewritingStep {b l o} := @arr_get0 _ eRewritingStep b l o 4 rfl
@[simp] def q3RewritingStep {b l} := @arr_take0 _ eRewritingStep b l 4 rfl
@[simp] def q4RewritingStep {b l i o} := @arr_part _ eRewritingStep b l i o 4 rfl
@[simp] def q5RewritingStep {b l i o j} := @arr_part2 _ eRewritingStep b l i o 4 j rfl
@[simp] def q6RewritingStep {b l} := @arr_at2 _ eRewritingStep b l 4 rfl
@[simp] def q7RewritingStep {b l} := @arr_take2 _ eRewritingStep b l 4 rfl
@[simp] def q8RewritingStep {b l l' bs y} := @appT_w _ eRewritingStep b l l' bs y 4 rfl
@[simp] def q10RewritingStep {z0a z0b z1 z2 n} := @rep_w _ eRewritingStep true n ⟨⟨z0a, z0b⟩, z1, z2⟩ [(.int .i64 z0a), (.sl true true 1 0 (arr eI true z0b)), (.sl true true 1 0 (arr eI true z1)), (.sl true true 1 0 (arr eI true z2))] rfl
@[simp] def q71RewritingStep {b l} := @arr_tl _ eRewritingStep b l 4 rfl
@[simp] def q70RewritingStep {b l i} := @arr_tk _ eRewritingStep b l i 4 rfl
@[simp] def q40RewritingStep {b l' bs y} := @appT_w0 _ eRewritingStep b l' bs y 4 rfl
@[simp] theorem q50aRewritingStep {l : List RewritingStep} {i : Nat} {z : Int} (h : i < l.length) : layT (arr eRewritingStep true l) (i * 4) 1 [(.int .i64 z)] = arr eRewritingStep true (l.set i ⟨⟨z, (l[i]?.getD default).Atom.Terms⟩, (l[i]?.getD default).Existential, (l[i]?.getD default).Universal⟩) := by rw [List.getElem?_eq_getElem h]; exact lay_cell (E := eRewritingStep) (b := true) (i := i) (o := 0) ⟨⟨z, l[i].Atom.Terms⟩, l[i].Existential, l[i].Universal⟩ (List.getElem?_eq_getElem h) (by decide) rfl
@[simp] theorem q60aRewritingStep {l : List RewritingStep} {i : Nat} {z : Int} (h : i < l.length) : (arr eRewritingStep true l).set (i * 4) (.int .i64 z) = arr eRewritingStep true (l.set i ⟨⟨z, (l[i]?.getD default).Atom.Terms⟩, (l[i]?.getD default).Existential, (l[i]?.getD default).Universal⟩) := by rw [List.getElem?_eq_getElem h]; exact set_cell (E := eRewritingStep) (b := true) (i := i) (o := 0) ⟨⟨z, l[i].Atom.Terms⟩, l[i].Existential, l[i].Universal⟩ (List.getElem?_eq_getElem h) (by decide) rfl
@[simp] theorem q50bRewritingStep {l : List RewritingStep} {i : Nat} {z : (List Int)} (h : i < l.length) : layT (arr eRewritingStep true l) (i * 4 + 1) 1 [(.sl true true 1 0 (arr eI true z))] = arr eRewritingStep true (l.set i ⟨⟨(l[i]?.getD default).Atom.Relation, z⟩, (l[i]?.getD default).Existential, (l[i]?.getD default).Universal⟩) := by rw [List.getElem?_eq_getElem h]; exact lay_cell (E := eRewritingStep) (b := true) (i := i) (o := 1) ⟨⟨l[i].Atom.Relation, z⟩, l[i].Existential, l[i].Universal⟩ (List.getElem?_eq_getElem h) (by decide) rfl
@[simp] theorem q60bRewritingStep {l : List RewritingStep} {i : Nat} {z : (List Int)} (h : i < l.length) : (arr eRewritingStep true l).set (i * 4 + 1) (.sl true true 1 0 (arr eI true z)) = arr eRewritingStep true (l.set i ⟨⟨(l[i]?.getD default).Atom.Relation, z⟩, (l[i]?.getD default).Existential, (l[i]?.getD default).Universal⟩) := by rw [List.getElem?_eq_getElem h]; exact set_cell (E := eRewritingStep) (b := true) (i := i) (o := 1) ⟨⟨l[i].Atom.Relation, z⟩, l[i].Existential, l[i].Universal⟩ (List.getElem?_eq_getElem h) (by decide) rfl
@[simp] theorem q51RewritingStep {l : List RewritingStep} {i : Nat} {z : (List Int)} (h : i < l.length) : layT (arr eRewritingStep true l) (i * 4 + 2) 1 [(.sl true true 1 0 (arr eI true z))] = arr eRewritingStep true (l.set i ⟨(l[i]?.getD default).Atom, z, (l[i]?.getD default).Universal⟩) := by rw [List.getElem?_eq_getElem h]; exact lay_cell (E := eRewritingStep) (b := true) (i := i) (o := 2) ⟨l[i].Atom, z, l[i].Universal⟩ (List.getElem?_eq_getElem h) (by decide) rfl
@[simp] theorem q61RewritingStep {l : List RewritingStep} {i : Nat} {z : (List Int)} (h : i < l.length) : (arr eRewritingStep true l).set (i * 4 + 2) (.sl true true 1 0 (arr eI true z)) = arr eRewritingStep true (l.set i ⟨(l[i]?.getD default).Atom, z, (l[i]?.getD default).Universal⟩) := by rw [List.getElem?_eq_getElem h]; exact set_cell (E := eRewritingStep) (b := true) (i := i) (o := 2) ⟨l[i].Atom, z, l[i].Universal⟩ (List.getElem?_eq_getElem h) (by decide) rfl
@[simp] theorem q52RewritingStep {l : List RewritingStep} {i : Nat} {z : (List Int)} (h : i < l.length) : layT (arr eRewritingStep true l) (i * 4 + 3) 1 [(.sl true true 1 0 (arr eI true z))] = arr eRewritingStep true (l.set i ⟨(l[i]?.getD default).Atom, (l[i]?.getD default).Existential, z⟩) := by rw [List.getElem?_eq_getElem h]; exact lay_cell (E := eRewritingStep) (b := true) (i := i) (o := 3) ⟨l[i].Atom, l[i].Existential, z⟩ (List.getElem?_eq_getElem h) (by decide) rfl
@[simp] theorem q62RewritingStep {l : List RewritingStep} {i : Nat} {z : (List Int)} (h : i < l.length) : (arr eRewritingStep true l).set (i * 4 + 3) (.sl true true 1 0 (arr eI true z)) = arr eRewritingStep true (l.set i ⟨(l[i]?.getD default).Atom, (l[i]?.getD default).Existential, z⟩) := by rw [List.getElem?_eq_getElem h]; exact set_cell (E := eRewritingStep) (b := true) (i := i) (o := 3) ⟨l[i].Atom, l[i].Existential, z⟩ (List.getElem?_eq_getElem h) (by decide) rfl
@[simp] def q20RewritingStep {z0a z0b z1 z2 l bs y} := @appT_1w _ eRewritingStep true l bs y 4 rfl ⟨⟨z0a, z0b⟩, z1, z2⟩ [(.int .i64 z0a), (.sl true true 1 0 (arr eI true z0b)), (.sl true true 1 0 (arr eI true z1)), (.sl true true 1 0 (arr eI true z2))] rfl
@[simp] def q23RewritingStep {z0a z0b z1 z2 l' bs y} := @appT_11 _ eRewritingStep true l' bs y 4 rfl ⟨⟨z0a, z0b⟩, z1, z2⟩ [(.int .i64 z0a), (.sl true true 1 0 (arr eI true z0b)), (.sl true true 1 0 (arr eI true z1)), (.sl true true 1 0 (arr eI true z2))] rfl
@[simp] def q22RewritingStep {z0a z0b z1 z2 bs y} := @appT_10 _ eRewritingStep true bs y 4 rfl ⟨⟨z0a, z0b⟩, z1, z2⟩ [(.int .i64 z0a), (.sl true true 1 0 (arr eI true z0b)), (.sl true true 1 0 (arr eI true z1)), (.sl true true 1 0 (arr eI true z2))] rfl
@[simp] def q21RewritingStep {z0a z0b z1 z2 l i} := @lay_w _ eRewritingStep true l i 4 rfl ⟨⟨z0a, z0b⟩, z1, z2⟩ [(.int .i64 z0a), (.sl true true 1 0 (arr eI true z0b)), (.sl true true 1 0 (arr eI true z1)), (.sl true true 1 0 (arr eI true z2))] rfl
@[simp] def q30RewritingStep {z0a z0b z1 z2 l bs y} := @appT_1w _ eRewritingStep false l bs y 4 rfl ⟨⟨z0a, z0b⟩, z1, z2⟩ [(.int .i64 z0a), (.sl false false 1 1 (arr eI false z0b)), (.sl false false 1 1 (arr eI false z1)), (.sl false false 1 1 (arr eI false z2))] rfl
@[simp] def q33RewritingStep {z0a z0b z1 z2 l' bs y} := @appT_11 _ eRewritingStep false l' bs y 4 rfl ⟨⟨z0a, z0b⟩, z1, z2⟩ [(.int .i64 z0a), (.sl false false 1 1 (arr eI false z0b)), (.sl false false 1 1 (arr eI false z1)), (.sl false false 1 1 (arr eI false z2))] rfl
@[simp] def q32RewritingStep {z0a z0b z1 z2 bs y} := @appT_10 _ eRewritingStep false bs y 4 rfl ⟨⟨z0a, z0b⟩, z1, z2⟩ [(.int .i64 z0a), (.sl false false 1 1 (arr eI false z0b)), (.sl false false 1 1 (arr eI false z1)), (.sl false false 1 1 (arr eI false z2))] rfl
@[simp] def q31RewritingStep {z0a z0b z1 z2 l i} := @lay_w _ eRewritingStep false l i 4 rfl ⟨⟨z0a, z0b⟩, z1, z2⟩ [(.int .i64 z0a), (.sl false false 1 1 (arr eI false z0b)), (.sl false false 1 1 (arr eI false z1)), (.sl false false 1 1 (arr eI false z2))] rfl
@[simp] theorem q81Atom {l : List Atom} {z : (List Int)} (h : 0 < l.length) : layT (arr eAtom true l) 1 1 [(.sl true true 1 0 (arr eI true z))] = arr eAtom true (l.set 0 ⟨(l[0]?.getD default).Relation, z⟩) := q51Atom (i := 0) h
@[simp] theorem q91Atom {l : List Atom} {z : (List Int)} (h : 0 < l.length) : (arr eAtom true l).set 1 (.sl true true 1 0 (arr eI true z)) = arr eAtom true (l.set 0 ⟨(l[0]?.getD default).Relation, z⟩) := q61Atom (i := 0) h
@[simp] def q92Atom {z0 x0 x1 l bs y} := @appT_1w _ eAtom true l bs y 2 rfl ⟨z0, [x0, x1]⟩ [(.int .i64 z0), (.sl true true 1 0 [(.int .i64 x0), (.int .i64 x1)])] rfl
def f5 (code : (List Int)) : Option Bool :=
 some (decide ((code.length : Int) > 1048576))
def f18_0 (code : (List Int)) : Int × Int → Option ((Int × Int) ⊕ Int)
 | (h_1, i_2) =>
  (((if i_2 < (code.length : Int) then
  some (decide (i_2 < 4000))
  else
  some false) : Option (Bool))).bind fun x_3 =>
  if x_3 = true then
  (ix code i_2).bind fun v_7 =>
  some (.inl (band .i64 (w64 ((w64 ((w64 (h_1 * 131)) + (w64 v_7))) + 7)) 1073741823, w64 (i_2 + 1)))
  else
  some (.inr h_1)
def f18 (code : (List Int)) : Option L1Cur :=
 (iter (f18_0 code) (w64 (10101 + (code.length : Int)), 0)).bind fun h_11 =>
 some ({ b := code, i := 0, h := h_11 } : L1Cur)
def f63 (c : L1Cur) : Option (Int × L1Cur) :=
 (((if c.i < (c.b.length : Int) then
 (ix c.b c.i).bind fun v_4 =>
 some (w64 (c.i + 1), band .i64 (w64 ((band .i64 (bxor .i64 (sshr .i64 (w64 ((w64 (c.h * 6364136223846793005)) + 1442695040888963407)) 33) (sshr .i64 (w64 ((w64 (c.h * 6364136223846793005)) + 1442695040888963407)) 45)) 255) + (w64 v_4))) 255)
 else
 some (c.i, band .i64 (bxor .i64 (sshr .i64 (w64 ((w64 (c.h * 6364136223846793005)) + 1442695040888963407)) 33) (sshr .i64 (w64 ((w64 (c.h * 6364136223846793005)) + 1442695040888963407)) 45)) 255)) : Option (Int × Int))).bind fun (c_6, x_7) =>
 some (x_7, ({ b := c.b, i := c_6, h := w64 ((w64 (c.h * 6364136223846793005)) + 1442695040888963407) } : L1Cur))
def f20 (c : L1Cur) (n1 : Int) : Option (Int × L1Cur) :=
 if n1 ≤ 0 then
 some (0, c)
 else
 if n1 ≤ 256 then
 (f63 c).bind fun o3 =>
 (nz n1).bind fun z_5 =>
 some (o3.1.tmod n1, o3.2)
 else
 (f63 c).bind fun o7 =>
 (f63 o7.2).bind fun o9 =>
 (f63 o9.2).bind fun o11 =>
 (f63 o11.2).bind fun o13 =>
 (nz n1).bind fun z_15 =>
 some ((w64 ((w64 ((w64 ((w64 (o7.1 * 16777216)) + (w64 (o9.1 * 65536)))) + (w64 (o11.1 * 256)))) + o13.1)).tmod n1, o13.2)
def f67 (c : L1Cur) (list : (List Int)) : Option (Int × L1Cur) :=
 (f20 c (list.length : Int)).bind fun o1 =>
 (ix list o1.1).bind fun v_3 =>
 some (v_3, o1.2)
def f23 (c : L1Cur) : Option ((List Relation) × L1Cur) :=
 (f67 c ([1, 1, 2, 0])).bind fun o1 =>
 (f20 o1.2 2).bind fun o3 =>
 some ([({ Name := [114], Arity := 2, KeyLength := 1 } : Relation), ({ Name := [115], Arity := 2, KeyLength := 1 } : Relation), ({ Name := [116], Arity := 2, KeyLength := o1.1 } : Relation), ({ Name := [117], Arity := 3, KeyLength := w64 (1 + o3.1) } : Relation)], o3.2)
def f100_0 (l : (List Relation)) (val : Int) : (List Int) × Int × Int × Int × (List Int) → Option (((List Int) × Int × Int × Int × (List Int)) ⊕ ((List Int) × Int × Int × Int × (List Int)))
 | (c_3, c_4, c_5, f_6, f_7) =>
  (ix l f_6).bind fun v_8 =>
  if (f_7.length : Int) < v_8.Arity then
  (f20 ({ b := c_3, i := c_4, h := c_5 } : L1Cur) val).bind fun o11 =>
  (app 8 f_7 ([o11.1])).bind fun l_13 =>
  some (.inl (o11.2.b, o11.2.i, o11.2.h, f_6, l_13))
  else
  some (.inr (c_3, c_4, c_5, f_6, f_7))
def f100 (c : L1Cur) (l : (List Relation)) (val : Int) : Option (Fact × L1Cur) :=
 (f20 c (l.length : Int)).bind fun o1 =>
 (iter (f100_0 l val) (o1.2.b, o1.2.i, o1.2.h, o1.1, [])).bind fun (c_17, c_18, c_19, f_20, f_21) =>
 some (({ Relation := f_20, Values := f_21 } : Fact), ({ b := c_17, i := c_18, h := c_19 } : L1Cur))
def f142_0 (d : Database) : (List Relation) × (List Fact) × Int → Option (((List Relation) × (List Fact) × Int) ⊕ ((List Relation) × (List Fact)))
 | (x_3, x_4, i_5) =>
  if i_5 < (d.Facts.length : Int) then
  (ix d.Facts i_5).bind fun v_7 =>
  (app 8 ([]) v_7.Values).bind fun l_9 =>
  (app 32 x_4 ([({ Relation := v_7.Relation, Values := l_9 } : Fact)])).bind fun l_11 =>
  some (.inl (x_3, l_11, w64 (i_5 + 1)))
  else
  some (.inr (x_3, x_4))
def f142 (d : Database) : Option Database :=
 (app 32 ([]) d.Relations).bind fun l_1 =>
 (iter (f142_0 d) (l_1, [], 0)).bind fun (x_15, x_16) =>
 some ({ Relations := x_15, Facts := x_16 } : Database)
def f38 (x : Int) (low : Int) (high : Int) : Option Bool :=
 (((if x ≥ low then
 some (decide (x ≤ high))
 else
 some false) : Option (Bool))).bind fun x_1 =>
 some x_1
def f79 (s0 : Relation) : Option Bool :=
 (((if (s0.Name.length : Int) = 1 then
 (ix s0.Name 0).bind fun c_4 =>
 (((if (c_4.toNat : Int) ≥ 97 then
 (((if (c_4.toNat : Int) ≤ 122 then
 (f38 s0.Arity 1 3).bind fun o12 =>
 (((if o12 = true then
 (f38 s0.KeyLength 0 s0.Arity).bind fun o17 =>
 some o17
 else
 some false) : Option (Bool))).bind fun x_14 =>
 some x_14
 else
 some false) : Option (Bool))).bind fun x_9 =>
 some x_9
 else
 some false) : Option (Bool))).bind fun x_6 =>
 some x_6
 else
 some false) : Option (Bool))).bind fun x_1 =>
 some x_1
def f37_0 (l : (List Relation)) : Int → Option (Int ⊕ (Unit ⊕ Bool))
 | i_1 =>
  if i_1 < (l.length : Int) then
  (ix l i_1).bind fun v_3 =>
  (f79 v_3).bind fun o5 =>
  (((if ¬ (o5 = true) then
  some true
  else
  (((if i_1 > 0 then
  (ix l (w64 (i_1 - 1))).bind fun v_13 =>
  some (!(Op.bytesLess v_13.Name v_3.Name))
  else
  some false) : Option (Bool))).bind fun x_10 =>
  some x_10) : Option (Bool))).bind fun x_7 =>
  if x_7 = true then
  some (.inr (.inr false))
  else
  some (.inl (w64 (i_1 + 1)))
  else
  some (.inr (.inl ()))
def f37 (l : (List Relation)) : Option Bool :=
 (iter (f37_0 l) 0).bind fun o => match o with
 | .inl _ =>
 some (decide ((l.length : Int) ≤ 4))
 | .inr x_18 =>
 some x_18
def f42_0 (f : Fact) : Int → Option (Int ⊕ (Unit ⊕ Bool))
 | i_14 =>
  if i_14 < (f.Values.length : Int) then
  (ix f.Values i_14).bind fun v_16 =>
  (f38 v_16 0 9).bind fun o18 =>
  if ¬ (o18 = true) then
  some (.inr (.inr false))
  else
  some (.inl (w64 (i_14 + 1)))
  else
  some (.inr (.inl ()))
def f42 (l : (List Relation)) (f : Fact) : Option Bool :=
 (f37 l).bind fun o1 =>
 (((if ¬ (o1 = true) then
 some true
 else
 (f38 f.Relation 0 (w64 ((l.length : Int) - 1))).bind fun o6 =>
 (((if ¬ (o6 = true) then
 some true
 else
 (ix l f.Relation).bind fun v_11 =>
 some (decide ((f.Values.length : Int) ≠ v_11.Arity))) : Option (Bool))).bind fun x_8 =>
 some x_8) : Option (Bool))).bind fun x_3 =>
 if x_3 = true then
 some false
 else
 (iter (f42_0 f) 0).bind fun o => match o with
 | .inl _ =>
 some true
 | .inr x_23 =>
 some x_23
def f81_0 (a : (List Int)) (b : (List Int)) : Int → Option (Int ⊕ (Unit ⊕ Int))
 | i_1 =>
  (((if i_1 < (a.length : Int) then
  some (decide (i_1 < (b.length : Int)))
  else
  some false) : Option (Bool))).bind fun x_2 =>
  if x_2 = true then
  (ix a i_1).bind fun v_6 =>
  (ix b i_1).bind fun v_8 =>
  if v_6 < v_8 then
  some (.inr (.inr (-1)))
  else
  if v_6 > v_8 then
  some (.inr (.inr 1))
  else
  some (.inl (w64 (i_1 + 1)))
  else
  some (.inr (.inl ()))
def f81 (a : (List Int)) (b : (List Int)) : Option Int :=
 (iter (f81_0 a b) 0).bind fun o => match o with
 | .inl _ =>
 if (a.length : Int) < (b.length : Int) then
 some (-1)
 else
 if (a.length : Int) > (b.length : Int) then
 some 1
 else
 some 0
 | .inr x_14 =>
 some x_14
def f43 (a : Fact) (b : Fact) : Option Int :=
 if a.Relation < b.Relation then
 some (-1)
 else
 if a.Relation > b.Relation then
 some 1
 else
 (f81 a.Values b.Values).bind fun o3 =>
 some o3
def f11_0 (d : Database) : Int → Option (Int ⊕ (Unit ⊕ Bool))
 | i_1 =>
  if i_1 < (d.Facts.length : Int) then
  (ix d.Facts i_1).bind fun v_3 =>
  (f42 d.Relations v_3).bind fun o5 =>
  (((if ¬ (o5 = true) then
  some true
  else
  (((if i_1 > 0 then
  (ix d.Facts (w64 (i_1 - 1))).bind fun v_13 =>
  (f43 v_13 v_3).bind fun o15 =>
  some (decide (o15 ≥ 0))
  else
  some false) : Option (Bool))).bind fun x_10 =>
  some x_10) : Option (Bool))).bind fun x_7 =>
  if x_7 = true then
  some (.inr (.inr false))
  else
  some (.inl (w64 (i_1 + 1)))
  else
  some (.inr (.inl ()))
def f11 (d : Database) : Option Bool :=
 (iter (f11_0 d) 0).bind fun o => match o with
 | .inl _ =>
 (f37 d.Relations).bind fun o21 =>
 (((if o21 = true then
 some (decide ((d.Facts.length : Int) ≤ 14))
 else
 some false) : Option (Bool))).bind fun x_23 =>
 some x_23
 | .inr x_20 =>
 some x_20
def f175_0 (d : Database) (f : Fact) : Int → Option (Int ⊕ (Unit ⊕ Int))
 | i_1 =>
  if i_1 < (d.Facts.length : Int) then
  (ix d.Facts i_1).bind fun v_3 =>
  (f43 v_3 f).bind fun o5 =>
  if o5 = 0 then
  some (.inr (.inr i_1))
  else
  some (.inl (w64 (i_1 + 1)))
  else
  some (.inr (.inl ()))
def f175 (d : Database) (f : Fact) : Option Int :=
 (iter (f175_0 d f) 0).bind fun o => match o with
 | .inl _ =>
 some (-1)
 | .inr x_10 =>
 some x_10
def f143 (d : Database) (f : Fact) : Option Bool :=
 (f11 d).bind fun o1 =>
 (((if o1 = true then
 (f175 d f).bind fun o6 =>
 some (decide (o6 ≥ 0))
 else
 some false) : Option (Bool))).bind fun x_3 =>
 some x_3
def f99_0 (f : Fact) (o1 : Database) : Int → Option (Int ⊕ Int)
 | k_19 =>
  (((if k_19 < (o1.Facts.length : Int) then
  (ix o1.Facts k_19).bind fun v_23 =>
  (f43 v_23 f).bind fun o25 =>
  some (decide (o25 < 0))
  else
  some false) : Option (Bool))).bind fun x_20 =>
  if x_20 = true then
  some (.inl (w64 (k_19 + 1)))
  else
  some (.inr k_19)
def f99 (d : Database) (f : Fact) : Option (Database × Bool) :=
 (f142 d).bind fun o1 =>
 (f11 d).bind fun o3 =>
 (((if ¬ (o3 = true) then
 some true
 else
 (f42 d.Relations f).bind fun o8 =>
 (((if ¬ (o8 = true) then
 some true
 else
 (f143 d f).bind fun o13 =>
 (((if o13 = true then
 some true
 else
 some (decide ((d.Facts.length : Int) = 14))) : Option (Bool))).bind fun x_15 =>
 some x_15) : Option (Bool))).bind fun x_10 =>
 some x_10) : Option (Bool))).bind fun x_5 =>
 if x_5 = true then
 some (o1, false)
 else
 (iter (f99_0 f o1) 0).bind fun k_30 =>
 (cutL o1.Facts k_30 o1.Facts.length).bind fun l_31 =>
 (app 8 ([]) f.Values).bind fun l_33 =>
 (app 32 ([({ Relation := f.Relation, Values := l_33 } : Fact)]) l_31).bind fun l_35 =>
 (cutL o1.Facts 0 k_30).bind fun l_37 =>
 (app 32 ([]) l_37).bind fun l_39 =>
 (app 32 l_39 l_35).bind fun l_41 =>
 some (({ Relations := o1.Relations, Facts := l_41 } : Database), true)
def f60_0 (o3 : (Int × L1Cur)) : (List Int) × Int × Int × (List Relation) × (List Fact) × Int → Option (((List Int) × Int × Int × (List Relation) × (List Fact) × Int) ⊕ ((List Int) × Int × Int × (List Relation) × (List Fact)))
 | (c_7, c_8, c_9, d_10, d_11, n_12) =>
  if n_12 > 0 then
  (f100 ({ b := c_7, i := c_8, h := c_9 } : L1Cur) d_10 o3.1).bind fun o14 =>
  (f99 ({ Relations := d_10, Facts := d_11 } : Database) o14.1).bind fun o16 =>
  some (.inl (o14.2.b, o14.2.i, o14.2.h, o16.1.Relations, o16.1.Facts, w64 (n_12 - 1)))
  else
  some (.inr (c_7, c_8, c_9, d_10, d_11))
def f60 (c : L1Cur) : Option (Database × L1Cur) :=
 (f23 c).bind fun o1 =>
 (f67 o1.2 ([2, 2, 3, 3])).bind fun o3 =>
 (f20 o3.2 11).bind fun o5 =>
 (iter (f60_0 o3) (o5.2.b, o5.2.i, o5.2.h, o1.1, [], w64 (2 + o5.1))).bind fun (c_20, c_21, c_22, d_23, d_24) =>
 some (({ Relations := d_23, Facts := d_24 } : Database), ({ b := c_20, i := c_21, h := c_22 } : L1Cur))
def f61 (c : L1Cur) (l : (List Relation)) : Option (Fact × L1Cur) :=
 (f100 c l 4).bind fun o1 =>
 (f20 o1.2 10).bind fun o3 =>
 (((if o3.1 = 0 then
 (f20 o3.2 6).bind fun o8 =>
 some (o8.2.b, o8.2.i, o8.2.h, w64 (o8.1 - 1), o1.1.Values)
 else
 (((if o3.1 = 1 then
 (app 8 o1.1.Values ([1])).bind fun l_13 =>
 some (o3.2.b, o3.2.i, o3.2.h, l_13)
 else
 (((if o3.1 = 2 then
 (f67 o3.2 ([-1, 10, 9])).bind fun o18 =>
 (ix o1.1.Values 0).bind fun v_20 =>
 some (o18.2.b, o18.2.i, o18.2.h, (o1.1.Values.set (0 : Int).toNat o18.1))
 else
 some (o3.2.b, o3.2.i, o3.2.h, o1.1.Values)) : Option ((List Int) × Int × Int × (List Int)))).bind fun (c_23, c_24, c_25, f_26) =>
 some (c_23, c_24, c_25, f_26)) : Option ((List Int) × Int × Int × (List Int)))).bind fun (c_27, c_28, c_29, f_30) =>
 some (c_27, c_28, c_29, o1.1.Relation, f_30)) : Option ((List Int) × Int × Int × Int × (List Int)))).bind fun (c_31, c_32, c_33, f_34, f_35) =>
 some (({ Relation := f_34, Values := f_35 } : Fact), ({ b := c_31, i := c_32, h := c_33 } : L1Cur))
def f101 (c : L1Cur) (list : (List (List UInt8))) : Option ((List UInt8) × L1Cur) :=
 (f20 c (list.length : Int)).bind fun o1 =>
 (ix list o1.1).bind fun v_3 =>
 some (v_3, o1.2)
def f62 (c : L1Cur) : Option (Relation × L1Cur) :=
 (f101 c ([[114], [122], [97], [], [82], [97, 98]])).bind fun o1 =>
 (f20 o1.2 6).bind fun o3 =>
 (f20 o3.2 5).bind fun o5 =>
 some (({ Name := o1.1, Arity := w64 (o3.1 - 1), KeyLength := w64 (o5.1 - 1) } : Relation), o5.2)
def f19 (c : L1Cur) : Option (Database × L1Cur) :=
 (f60 c).bind fun o1 =>
 (f20 o1.2 14).bind fun o3 =>
 (((if o3.1 = 0 then
 (f61 o3.2 o1.1.Relations).bind fun o8 =>
 (app 32 o1.1.Facts ([o8.1])).bind fun l_10 =>
 some (o8.2.b, o8.2.i, o8.2.h, o1.1.Relations, l_10)
 else
 (((if o3.1 = 1 then
 (f20 o3.2 4).bind fun o15 =>
 (cutL o1.1.Relations 0 o15.1).bind fun l_17 =>
 some (o15.2.b, o15.2.i, o15.2.h, l_17, o1.1.Facts)
 else
 (((if o3.1 = 2 then
 (f20 o3.2 4).bind fun o22 =>
 (f62 o22.2).bind fun o24 =>
 (ix o1.1.Relations o22.1).bind fun v_26 =>
 some (o24.2.b, o24.2.i, o24.2.h, (o1.1.Relations.set o22.1.toNat o24.1))
 else
 some (o3.2.b, o3.2.i, o3.2.h, o1.1.Relations)) : Option ((List Int) × Int × Int × (List Relation)))).bind fun (c_29, c_30, c_31, d_32) =>
 some (c_29, c_30, c_31, d_32, o1.1.Facts)) : Option ((List Int) × Int × Int × (List Relation) × (List Fact)))).bind fun (c_33, c_34, c_35, d_36, d_37) =>
 some (c_33, c_34, c_35, d_36, d_37)) : Option ((List Int) × Int × Int × (List Relation) × (List Fact)))).bind fun (c_38, c_39, c_40, d_41, d_42) =>
 some (({ Relations := d_41, Facts := d_42 } : Database), ({ b := c_38, i := c_39, h := c_40 } : L1Cur))
def f21 (c : L1Cur) (n1 : Int) : Option (Bool × L1Cur) :=
 (f20 c n1).bind fun o1 =>
 some ((decide (o1.1 = 0)), o1.2)
def f105_0 (q : Query) : Int × (List Atom) × (List Int) × Int → Option ((Int × (List Atom) × (List Int) × Int) ⊕ (Int × (List Atom) × (List Int)))
 | (x_3, x_4, x_5, i_6) =>
  if i_6 < (q.Atoms.length : Int) then
  (ix q.Atoms i_6).bind fun v_8 =>
  (app 8 ([]) v_8.Terms).bind fun l_10 =>
  (app 32 x_4 ([({ Relation := v_8.Relation, Terms := l_10 } : Atom)])).bind fun l_12 =>
  some (.inl (x_3, l_12, x_5, w64 (i_6 + 1)))
  else
  some (.inr (x_3, x_4, x_5))
def f105 (q : Query) : Option Query :=
 (app 8 ([]) q.Free).bind fun l_1 =>
 (iter (f105_0 q) (q.VariableCount, [], l_1, 0)).bind fun (x_16, x_17, x_18) =>
 some ({ VariableCount := x_16, Atoms := x_17, Free := x_18 } : Query)
def f144_2 (name_12 : (List Int)) (v_19 : Int) : Int × Int → Option ((Int × Int) ⊕ Int)
 | (at_22, j_23) =>
  if j_23 < (name_12.length : Int) then
  (ix name_12 j_23).bind fun v_25 =>
  (((if v_25 = v_19 then
  some j_23
  else
  some at_22) : Option Int)).bind fun at_30 =>
  some (.inl (at_30, w64 (j_23 + 1)))
  else
  some (.inr at_22)
def f144_1 (i_7 : Int) : Int × (List Atom) × (List Int) × (List Int) × Int → Option ((Int × (List Atom) × (List Int) × (List Int) × Int) ⊕ (Int × (List Atom) × (List Int) × (List Int)))
 | (x_9, x_10, x_11, name_12, k_13) =>
  (ix x_10 i_7).bind fun v_14 =>
  if k_13 < (v_14.Terms.length : Int) then
  ((((ix v_14.Terms k_13).bind fun v_19 =>
  if v_19 < 0 then
  some (x_10, name_12)
  else
  (iter ((f144_2 name_12 v_19)) (-1, 0)).bind fun at_33 =>
  (((if at_33 < 0 then
  (app 8 name_12 ([v_19])).bind fun l_37 =>
  some (l_37, (name_12.length : Int))
  else
  some (name_12, at_33)) : Option ((List Int) × Int))).bind fun (name_39, at_40) =>
  some ((x_10.set i_7.toNat ({ Relation := v_14.Relation, Terms := (v_14.Terms.set k_13.toNat at_40) } : Atom)), name_39)) : Option ((List Atom) × (List Int)))).bind fun (x_43, name_44) =>
  some (.inl (x_9, x_43, x_11, name_44, w64 (k_13 + 1)))
  else
  some (.inr (x_9, x_10, x_11, name_12))
def f144_0 : Int × (List Atom) × (List Int) × (List Int) × Int → Option ((Int × (List Atom) × (List Int) × (List Int) × Int) ⊕ (Int × (List Atom) × (List Int) × (List Int)))
 | (x_3, x_4, x_5, name_6, i_7) =>
  if i_7 < (x_4.length : Int) then
  (iter (f144_1 i_7) (x_3, x_4, x_5, name_6, 0)).bind fun (x_47, x_48, x_49, name_50) =>
  some (.inl (x_47, x_48, x_49, name_50, w64 (i_7 + 1)))
  else
  some (.inr (x_3, x_4, x_5, name_6))
def f144 (q : Query) : Option Query :=
 (f105 q).bind fun o1 =>
 (iter f144_0 (o1.VariableCount, o1.Atoms, o1.Free, [], 0)).bind fun (x_53, x_54, x_55, name_56) =>
 some ({ VariableCount := (name_56.length : Int), Atoms := x_54, Free := x_55 } : Query)
def f102_1 (o3 : (Int × L1Cur)) : (List Int) × Int × Int × Int × (List Int) × Int → Option (((List Int) × Int × Int × Int × (List Int) × Int) ⊕ ((List Int) × Int × Int × Int × (List Int)))
 | (c_15, c_16, c_17, a_18, a_19, m_20) =>
  if m_20 > 0 then
  (f21 ({ b := c_15, i := c_16, h := c_17 } : L1Cur) 12).bind fun o22 =>
  (((if o22.1 = true then
  (f20 o22.2 2).bind fun o27 =>
  (app 8 a_19 ([w64 ((-1) - o27.1)])).bind fun l_29 =>
  some (o27.2.b, o27.2.i, o27.2.h, l_29)
  else
  (f20 o22.2 (w64 (1 + o3.1))).bind fun o31 =>
  (app 8 a_19 ([o31.1])).bind fun l_33 =>
  some (o31.2.b, o31.2.i, o31.2.h, l_33)) : Option ((List Int) × Int × Int × (List Int)))).bind fun (c_35, c_36, c_37, a_38) =>
  some (.inl (c_35, c_36, c_37, a_18, a_38, w64 (m_20 - 1)))
  else
  some (.inr (c_15, c_16, c_17, a_18, a_19))
def f102_0 (o1 : (Int × L1Cur)) (o3 : (Int × L1Cur)) (o5 : (Int × L1Cur)) : (List Int) × Int × Int × Int × (List Atom) × (List Int) × Int → Option (((List Int) × Int × Int × Int × (List Atom) × (List Int) × Int) ⊕ ((List Int) × Int × Int × Int × (List Atom) × (List Int)))
 | (c_7, c_8, c_9, q_10, q_11, q_12, i_13) =>
  if i_13 < (w64 (1 + o1.1)) then
  (iter ((f102_1 o3)) (c_7, c_8, c_9, (w64 (o5.1 + i_13)).tmod 4, [], w64 (2 + (w64 (((w64 (o5.1 + i_13)).tmod 4).tdiv 3))))).bind fun (c_41, c_42, c_43, a_44, a_45) =>
  (app 32 q_11 ([({ Relation := a_44, Terms := a_45 } : Atom)])).bind fun l_46 =>
  some (.inl (c_41, c_42, c_43, q_10, l_46, q_12, w64 (i_13 + 1)))
  else
  some (.inr (c_7, c_8, c_9, q_10, q_11, q_12))
def f102 (c : L1Cur) : Option (Query × L1Cur) :=
 (f20 c 3).bind fun o1 =>
 (f20 o1.2 4).bind fun o3 =>
 (f20 o3.2 4).bind fun o5 =>
 (iter (f102_0 o1 o3 o5) (o5.2.b, o5.2.i, o5.2.h, 0, [], [], 0)).bind fun (c_50, c_51, c_52, q_53, q_54, q_55) =>
 (f144 ({ VariableCount := q_53, Atoms := q_54, Free := q_55 } : Query)).bind fun o56 =>
 some (o56, ({ b := c_50, i := c_51, h := c_52 } : L1Cur))
def f108_0 (s0 : (List UInt8)) (sign : Int) : (List (List UInt8)) × Int × Int → Option (((List (List UInt8)) × Int × Int) ⊕ ((List (List UInt8)) × Int))
 | (out_1, from_2, i_3) =>
  if i_3 < (s0.length : Int) then
  (ix s0 i_3).bind fun c_5 =>
  (((if (c_5.toNat : Int) = sign then
  (cutL s0 from_2 i_3).bind fun l_10 =>
  (app 16 out_1 ([l_10])).bind fun l_12 =>
  some (l_12, w64 (i_3 + 1))
  else
  some (out_1, from_2)) : Option ((List (List UInt8)) × Int))).bind fun (out_14, from_15) =>
  some (.inl (out_14, from_15, w64 (i_3 + 1)))
  else
  some (.inr (out_1, from_2))
def f108 (s0 : (List UInt8)) (sign : Int) : Option (List (List UInt8)) :=
 (iter (f108_0 s0 sign) ([], 0, 0)).bind fun (out_18, from_19) =>
 (cutL s0 from_19 s0.length).bind fun l_20 =>
 (app 16 out_18 ([l_20])).bind fun l_22 =>
 some l_22
def f179 (t : Int) : Option (Int × Bool) :=
 (((if t ≥ 0 then
 some true
 else
 (f38 (w64 ((-1) - t)) 0 9).bind fun o4 =>
 some (decide (¬ (o4 = true)))) : Option (Bool))).bind fun x_1 =>
 if x_1 = true then
 some (0, false)
 else
 some (w64 ((-1) - t), true)
def f180_0 : Int × (List UInt8) → Option ((Int × (List UInt8)) ⊕ (List UInt8))
 | (n_2, out_3) =>
  if n_2 ≠ 0 then
  (((if (n_2.tmod 10) < 0 then
  some (w64 (-(n_2.tmod 10)))
  else
  some (n_2.tmod 10)) : Option Int)).bind fun d_8 =>
  (cat ([UInt8.ofNat (w8 (w64 (48 + d_8))).toNat]) out_3).bind fun s_9 =>
  some (.inl (w64 (n_2.tdiv 10), s_9))
  else
  some (.inr out_3)
def f180 (n0 : Int) : Option (List UInt8) :=
 if n0 = 0 then
 some ([48])
 else
 (iter (f180_0) (n0, [])).bind fun out_13 =>
 if n0 < 0 then
 (cat ([45]) out_13).bind fun s_15 =>
 some s_15
 else
 some out_13
def f152 (t : Int) : Option (List UInt8) :=
 (f179 t).bind fun o1 =>
 if o1.2 = true then
 (f180 o1.1).bind fun o4 =>
 some o4
 else
 (f38 t 0 3).bind fun o6 =>
 if ¬ (o6 = true) then
 some ([])
 else
 (cutL ([120, 121, 122, 119]) t (w64 (t + 1))).bind fun l_9 =>
 some l_9
def f109_0 (s0 : (List UInt8)) : Int → Option (Int ⊕ (Unit ⊕ (Int × Bool)))
 | t_1 =>
  if t_1 < 4 then
  (f152 t_1).bind fun o3 =>
  if o3 = s0 then
  some (.inr (.inr (t_1, true)))
  else
  some (.inl (w64 (t_1 + 1)))
  else
  some (.inr (.inl ()))
def f109 (s0 : (List UInt8)) : Option (Int × Bool) :=
 (iter (f109_0 s0) (-10)).bind fun o => match o with
 | .inl _ =>
 some (0, false)
 | .inr (x_8, x_9) =>
 some (x_8, x_9)
def f110_0 (l : (List Relation)) (name : (List UInt8)) : Int → Option (Int ⊕ (Unit ⊕ Int))
 | i_1 =>
  if i_1 < (l.length : Int) then
  (ix l i_1).bind fun v_3 =>
  if v_3.Name = name then
  some (.inr (.inr i_1))
  else
  some (.inl (w64 (i_1 + 1)))
  else
  some (.inr (.inl ()))
def f110 (l : (List Relation)) (name : (List UInt8)) : Option Int :=
 (iter (f110_0 l name) 0).bind fun o => match o with
 | .inl _ =>
 some (-1)
 | .inr x_8 =>
 some x_8
def f93_3 (q : Query) (i_17 : Int) (v_19 : Atom) : Int → Option (Int ⊕ (Unit ⊕ Bool))
 | k_29 =>
  if k_29 < i_17 then
  (ix q.Atoms k_29).bind fun v_31 =>
  if v_31.Relation = v_19.Relation then
  some (.inr (.inr false))
  else
  some (.inl (w64 (k_29 + 1)))
  else
  some (.inr (.inl ()))
def f93_4 (q : Query) (v_19 : Atom) : (List Bool) × Int → Option (((List Bool) × Int) ⊕ ((List Bool) ⊕ Bool))
 | (met_37, k_38) =>
  if k_38 < (v_19.Terms.length : Int) then
  (ix v_19.Terms k_38).bind fun v_40 =>
  (f38 v_40 (-10) (w64 (q.VariableCount - 1))).bind fun o42 =>
  if ¬ (o42 = true) then
  some (.inr (.inr false))
  else
  (((if v_40 ≥ 0 then
  (ix met_37 v_40).bind fun v_48 =>
  some (met_37.set v_40.toNat true)
  else
  some met_37) : Option (List Bool))).bind fun met_51 =>
  some (.inl (met_51, w64 (k_38 + 1)))
  else
  some (.inr (.inl met_37))
def f93_0 (l : (List Relation)) (q : Query) : (List Bool) × Int → Option (((List Bool) × Int) ⊕ ((List Bool) ⊕ Bool))
 | (met_16, i_17) =>
  if i_17 < (q.Atoms.length : Int) then
  (ix q.Atoms i_17).bind fun v_19 =>
  (f38 v_19.Relation 0 (w64 ((l.length : Int) - 1))).bind fun o21 =>
  (((if ¬ (o21 = true) then
  some true
  else
  (ix l v_19.Relation).bind fun v_26 =>
  some (decide ((v_19.Terms.length : Int) ≠ v_26.Arity))) : Option (Bool))).bind fun x_23 =>
  if x_23 = true then
  some (.inr (.inr false))
  else
  (iter ((f93_3 q i_17 v_19)) 0).bind fun o => match o with
  | .inl _ =>
  ((iter ((f93_4 q v_19)) (met_16, 0)).bind fun o => match o with
  | .inl met_54 =>
  some (.inl (met_54, w64 (i_17 + 1)))
  | .inr x_55 =>
  some (.inr (.inr x_55)))
  | .inr x_36 =>
  some (.inr (.inr x_36))
  else
  some (.inr (.inl met_16))
def f93_1 (q : Query) (met_58 : (List Bool)) : Int → Option (Int ⊕ (Unit ⊕ Bool))
 | v_60 =>
  if v_60 < q.VariableCount then
  (ix met_58 v_60).bind fun v_62 =>
  if ¬ (v_62 = true) then
  some (.inr (.inr false))
  else
  some (.inl (w64 (v_60 + 1)))
  else
  some (.inr (.inl ()))
def f93_2 (q : Query) : Int → Option (Int ⊕ (Unit ⊕ Bool))
 | i_68 =>
  if i_68 < (q.Free.length : Int) then
  (ix q.Free i_68).bind fun v_70 =>
  (f38 v_70 0 (w64 (q.VariableCount - 1))).bind fun o72 =>
  (((if ¬ (o72 = true) then
  some true
  else
  (((if i_68 > 0 then
  (ix q.Free (w64 (i_68 - 1))).bind fun v_80 =>
  some (decide (v_70 ≤ v_80))
  else
  some false) : Option (Bool))).bind fun x_77 =>
  some x_77) : Option (Bool))).bind fun x_74 =>
  if x_74 = true then
  some (.inr (.inr false))
  else
  some (.inl (w64 (i_68 + 1)))
  else
  some (.inr (.inl ()))
def f93 (l : (List Relation)) (q : Query) : Option Bool :=
 (f37 l).bind fun o1 =>
 (((if ¬ (o1 = true) then
 some true
 else
 (f38 q.VariableCount 0 4).bind fun o6 =>
 (((if ¬ (o6 = true) then
 some true
 else
 (f38 (q.Atoms.length : Int) 1 3).bind fun o11 =>
 some (decide (¬ (o11 = true)))) : Option (Bool))).bind fun x_8 =>
 some x_8) : Option (Bool))).bind fun x_3 =>
 if x_3 = true then
 some false
 else
 (mkl 1 4 false).bind fun l_14 =>
 (iter (f93_0 l q) (l_14, 0)).bind fun o => match o with
 | .inl met_58 =>
 ((iter (f93_1 q met_58) 0).bind fun o => match o with
 | .inl _ =>
 ((iter (f93_2 q) 0).bind fun o => match o with
 | .inl _ =>
 some true
 | .inr x_85 =>
 some x_85)
 | .inr x_67 =>
 some x_67)
 | .inr x_59 =>
 some x_59
def f153_0 (l : (List Relation)) (a : Atom) : (List UInt8) × Int → Option (((List UInt8) × Int) ⊕ (List UInt8))
 | (s_3, i_4) =>
  if i_4 < (a.Terms.length : Int) then
  (ix l a.Relation).bind fun v_6 =>
  (((if i_4 = v_6.KeyLength then
  (cat s_3 ([124])).bind fun s_11 =>
  some s_11
  else
  some s_3) : Option (List UInt8))).bind fun s_13 =>
  (ix a.Terms i_4).bind fun v_14 =>
  (f152 v_14).bind fun o16 =>
  (cat s_13 o16).bind fun s_18 =>
  some (.inl (s_18, w64 (i_4 + 1)))
  else
  some (.inr s_3)
def f153 (l : (List Relation)) (a : Atom) : Option (List UInt8) :=
 (ix l a.Relation).bind fun v_1 =>
 (iter (f153_0 l a) (v_1.Name, 0)).bind fun s_22 =>
 some s_22
def f111_0 (q : Query) : (List UInt8) × Int → Option (((List UInt8) × Int) ⊕ (List UInt8))
 | (s_4, i_5) =>
  if i_5 < (q.Free.length : Int) then
  (ix q.Free i_5).bind fun v_7 =>
  (f152 v_7).bind fun o9 =>
  (cat s_4 o9).bind fun s_11 =>
  some (.inl (s_11, w64 (i_5 + 1)))
  else
  some (.inr s_4)
def f111_1 (l : (List Relation)) (q : Query) : (List UInt8) × Int → Option (((List UInt8) × Int) ⊕ (List UInt8))
 | (s_18, i_19) =>
  if i_19 < (q.Atoms.length : Int) then
  (((if i_19 > 0 then
  (cat s_18 ([32])).bind fun s_24 =>
  some s_24
  else
  some s_18) : Option (List UInt8))).bind fun s_26 =>
  (ix q.Atoms i_19).bind fun v_27 =>
  (f153 l v_27).bind fun o29 =>
  (cat s_26 o29).bind fun s_31 =>
  some (.inl (s_31, w64 (i_19 + 1)))
  else
  some (.inr s_18)
def f111 (l : (List Relation)) (q : Query) : Option (List UInt8) :=
 (f93 l q).bind fun o1 =>
 if ¬ (o1 = true) then
 some ([])
 else
 (iter ((f111_0 q)) ([], 0)).bind fun s_15 =>
 (cat s_15 ([63])).bind fun s_16 =>
 (iter (f111_1 l q) (s_16, 0)).bind fun s_35 =>
 some s_35
def f66_0 (o1 : (List (List UInt8))) : Int × (List Atom) × (List Int) × Int → Option ((Int × (List Atom) × (List Int) × Int) ⊕ (Int × (List Atom) × (List Int)))
 | (q_4, q_5, q_6, i_7) =>
  (ix o1 0).bind fun v_8 =>
  if i_7 < (v_8.length : Int) then
  (cutL v_8 i_7 (w64 (i_7 + 1))).bind fun l_11 =>
  (f109 l_11).bind fun o13 =>
  (app 8 q_6 ([o13.1])).bind fun l_15 =>
  some (.inl (q_4, q_5, l_15, w64 (i_7 + 1)))
  else
  some (.inr (q_4, q_5, q_6))
def f66_2 (l : (List Relation)) (o24 : (List (List UInt8))) (i_29 : Int) : Int × (List Atom) × (List Int) × Int × (List Int) × Int → Option ((Int × (List Atom) × (List Int) × Int × (List Int) × Int) ⊕ (Int × (List Atom) × (List Int) × Int × (List Int)))
 | (q_31, q_32, q_33, a_34, a_35, k_36) =>
  (ix o24 i_29).bind fun v_37 =>
  if k_36 < (v_37.length : Int) then
  (((if k_36 = 0 then
  (cutL v_37 0 1).bind fun l_43 =>
  (f110 l l_43).bind fun o45 =>
  some (q_31, o45, a_35)
  else
  (ix v_37 k_36).bind fun c_47 =>
  if (c_47.toNat : Int) = 124 then
  some (q_31, a_34, a_35)
  else
  (cutL v_37 k_36 (w64 (k_36 + 1))).bind fun l_50 =>
  (f109 l_50).bind fun o52 =>
  (app 8 a_35 ([o52.1])).bind fun l_54 =>
  some (if w64 (o52.1 + 1) > q_31 then w64 (o52.1 + 1) else q_31, a_34, l_54)) : Option (Int × Int × (List Int)))).bind fun (q_56, a_57, a_58) =>
  some (.inl (q_56, q_32, q_33, a_57, a_58, w64 (k_36 + 1)))
  else
  some (.inr (q_31, q_32, q_33, a_34, a_35))
def f66_1 (l : (List Relation)) (o24 : (List (List UInt8))) : Int × (List Atom) × (List Int) × Int → Option ((Int × (List Atom) × (List Int) × Int) ⊕ (Int × (List Atom) × (List Int)))
 | (q_26, q_27, q_28, i_29) =>
  if i_29 < (o24.length : Int) then
  (iter ((f66_2 l o24 i_29)) (q_26, q_27, q_28, 0, [], 0)).bind fun (q_61, q_62, q_63, a_64, a_65) =>
  (app 32 q_62 ([({ Relation := a_64, Terms := a_65 } : Atom)])).bind fun l_66 =>
  some (.inl (q_61, l_66, q_63, w64 (i_29 + 1)))
  else
  some (.inr (q_26, q_27, q_28))
def f66 (l : (List Relation)) (s1 : (List UInt8)) : Option (Query × Bool) :=
 (f108 s1 63).bind fun o1 =>
 if (o1.length : Int) ≠ 2 then
 some (({ VariableCount := 0, Atoms := [], Free := [] } : Query), false)
 else
 (iter ((f66_0 o1)) (0, [], [], 0)).bind fun (q_19, q_20, q_21) =>
 (ix o1 1).bind fun v_22 =>
 (f108 v_22 32).bind fun o24 =>
 (iter ((f66_1 l o24)) (q_19, q_20, q_21, 0)).bind fun (q_70, q_71, q_72) =>
 (f111 l ({ VariableCount := q_70, Atoms := q_71, Free := q_72 } : Query)).bind fun o73 =>
 if o73 ≠ s1 then
 some (({ VariableCount := 0, Atoms := [], Free := [] } : Query), false)
 else
 some (({ VariableCount := q_70, Atoms := q_71, Free := q_72 } : Query), true)
def f103 (c : L1Cur) (l : (List Relation)) : Option (Query × L1Cur) :=
 (f101 c ([[63, 114, 120, 124, 121, 32, 115, 121, 124, 122], [63, 114, 120, 124, 121, 32, 115, 121, 124, 120], [63, 114, 120, 124, 121, 32, 115, 122, 124, 121], [63, 114, 120, 124, 121, 32, 115, 120, 124, 122], [63, 114, 120, 124, 49], [63, 114, 120, 124, 120], [63, 114, 120, 124, 121, 32, 115, 121, 124, 49], [63, 114, 120, 124, 121, 32, 115, 121, 124, 122, 32, 114], [63, 114, 120, 124, 121], [63, 114, 120, 124, 122, 32, 115, 121, 124, 122]])).bind fun o1 =>
 (f66 l o1.1).bind fun o3 =>
 (((if ¬ (o3.2 = true) then
 (f66 l ([63, 114, 120, 124, 121, 32, 115, 121, 124, 122])).bind fun o8 =>
 some (o8.1.VariableCount, o8.1.Atoms, o8.1.Free)
 else
 some (o3.1.VariableCount, o3.1.Atoms, o3.1.Free)) : Option (Int × (List Atom) × (List Int)))).bind fun (q_10, q_11, q_12) =>
 some (({ VariableCount := q_10, Atoms := q_11, Free := q_12 } : Query), o1.2)
def f64_0 : (List Int) × Int × Int × Int × (List Atom) × (List Int) × Int → Option (((List Int) × Int × Int × Int × (List Atom) × (List Int) × Int) ⊕ ((List Int) × Int × Int × Int × (List Atom) × (List Int)))
 | (c_21, c_22, c_23, q_24, q_25, q_26, v_27) =>
  if v_27 < q_24 then
  (f21 ({ b := c_21, i := c_22, h := c_23 } : L1Cur) 3).bind fun o29 =>
  (((if o29.1 = true then
  (app 8 q_26 ([v_27])).bind fun l_34 =>
  some l_34
  else
  some q_26) : Option (List Int))).bind fun q_36 =>
  some (.inl (o29.2.b, o29.2.i, o29.2.h, q_24, q_25, q_36, w64 (v_27 + 1)))
  else
  some (.inr (c_21, c_22, c_23, q_24, q_25, q_26))
def f64 (c : L1Cur) (l : (List Relation)) : Option (Query × L1Cur) :=
 (f102 c).bind fun o1 =>
 (f21 o1.2 3).bind fun o3 =>
 (((if o3.1 = true then
 (f103 o3.2 l).bind fun o8 =>
 some (o8.2.b, o8.2.i, o8.2.h, o8.1.VariableCount, o8.1.Atoms, o8.1.Free)
 else
 some (o3.2.b, o3.2.i, o3.2.h, o1.1.VariableCount, o1.1.Atoms, o1.1.Free)) : Option ((List Int) × Int × Int × Int × (List Atom) × (List Int)))).bind fun (c_10, c_11, c_12, q_13, q_14, q_15) =>
 (f21 ({ b := c_10, i := c_11, h := c_12 } : L1Cur) 4).bind fun o16 =>
 (((if o16.1 = true then
 (iter f64_0 (o16.2.b, o16.2.i, o16.2.h, q_13, q_14, q_15, 0)).bind fun (c_39, c_40, c_41, q_42, q_43, q_44) =>
 some (c_39, c_40, c_41, q_42, q_43, q_44)
 else
 some (o16.2.b, o16.2.i, o16.2.h, q_13, q_14, q_15)) : Option ((List Int) × Int × Int × Int × (List Atom) × (List Int)))).bind fun (c_45, c_46, c_47, q_48, q_49, q_50) =>
 some (({ VariableCount := q_48, Atoms := q_49, Free := q_50 } : Query), ({ b := c_45, i := c_46, h := c_47 } : L1Cur))
def f80_0 (l : (List Int)) (x : Int) : Int → Option (Int ⊕ (Unit ⊕ Bool))
 | i_1 =>
  if i_1 < (l.length : Int) then
  (ix l i_1).bind fun v_3 =>
  if v_3 = x then
  some (.inr (.inr true))
  else
  some (.inl (w64 (i_1 + 1)))
  else
  some (.inr (.inl ()))
def f80 (l : (List Int)) (x : Int) : Option Bool :=
 (iter (f80_0 l x) 0).bind fun o => match o with
 | .inl _ =>
 some false
 | .inr x_8 =>
 some x_8
def f41_0 (a : Atom) : (List Int) × Int → Option (((List Int) × Int) ⊕ (List Int))
 | (out_1, v_2) =>
  if v_2 < 4 then
  (f80 a.Terms v_2).bind fun o4 =>
  (((if o4 = true then
  (app 8 out_1 ([v_2])).bind fun l_9 =>
  some l_9
  else
  some out_1) : Option (List Int))).bind fun out_11 =>
  some (.inl (out_11, w64 (v_2 + 1)))
  else
  some (.inr out_1)
def f41 (a : Atom) : Option (List Int) :=
 (iter (f41_0 a) ([], 0)).bind fun out_14 =>
 some out_14
def f40 (l : (List Relation)) (a : Atom) : Option (List Int) :=
 (f38 a.Relation 0 (w64 ((l.length : Int) - 1))).bind fun o1 =>
 (((if ¬ (o1 = true) then
 some true
 else
 (ix l a.Relation).bind fun v_6 =>
 (f38 v_6.KeyLength 0 (a.Terms.length : Int)).bind fun o8 =>
 some (decide (¬ (o8 = true)))) : Option (Bool))).bind fun x_3 =>
 if x_3 = true then
 some ([])
 else
 (ix l a.Relation).bind fun v_11 =>
 (cutL a.Terms 0 v_11.KeyLength).bind fun l_13 =>
 (f41 ({ Relation := 0, Terms := l_13 } : Atom)).bind fun o15 =>
 some o15
def f151_0 (a : (List Int)) (b : (List Int)) : (List Int) × Int → Option (((List Int) × Int) ⊕ (List Int))
 | (out_1, v_2) =>
  if v_2 < 4 then
  (f80 a v_2).bind fun o4 =>
  (((if o4 = true then
  some true
  else
  (f80 b v_2).bind fun o9 =>
  some o9) : Option (Bool))).bind fun x_6 =>
  (((if x_6 = true then
  (app 8 out_1 ([v_2])).bind fun l_14 =>
  some l_14
  else
  some out_1) : Option (List Int))).bind fun out_16 =>
  some (.inl (out_16, w64 (v_2 + 1)))
  else
  some (.inr out_1)
def f151 (a : (List Int)) (b : (List Int)) : Option (List Int) :=
 (iter (f151_0 a b) ([], 0)).bind fun out_19 =>
 some out_19
def f39_0 (l : (List Int)) (want : (List Int)) : Int → Option (Int ⊕ (Unit ⊕ Bool))
 | i_1 =>
  if i_1 < (want.length : Int) then
  (ix want i_1).bind fun v_3 =>
  (f80 l v_3).bind fun o5 =>
  if ¬ (o5 = true) then
  some (.inr (.inr false))
  else
  some (.inl (w64 (i_1 + 1)))
  else
  some (.inr (.inl ()))
def f39 (l : (List Int)) (want : (List Int)) : Option Bool :=
 (iter (f39_0 l want) 0).bind fun o => match o with
 | .inl _ =>
 some true
 | .inr x_10 =>
 some x_10
def f188_1 (l : (List Relation)) (q : Query) (skip : Int) : (List Int) × Int → Option (((List Int) × Int) ⊕ (List Int))
 | (out_9, i_10) =>
  if i_10 < (q.Atoms.length : Int) then
  (((if i_10 ≠ skip then
  (ix q.Atoms i_10).bind fun v_15 =>
  (f40 l v_15).bind fun o17 =>
  (f39 out_9 o17).bind fun o19 =>
  some o19
  else
  some false) : Option (Bool))).bind fun x_12 =>
  (((if x_12 = true then
  (ix q.Atoms i_10).bind fun v_24 =>
  (f41 v_24).bind fun o26 =>
  (f151 out_9 o26).bind fun o28 =>
  some o28
  else
  some out_9) : Option (List Int))).bind fun out_30 =>
  some (.inl (out_30, w64 (i_10 + 1)))
  else
  some (.inr out_9)
def f188_0 (l : (List Relation)) (q : Query) (skip : Int) : (List Int) × Int → Option (((List Int) × Int) ⊕ (List Int))
 | (out_6, n_7) =>
  if n_7 < (q.Atoms.length : Int) then
  (iter ((f188_1 l q skip)) (out_6, 0)).bind fun out_33 =>
  some (.inl (out_33, w64 (n_7 + 1)))
  else
  some (.inr out_6)
def f188 (l : (List Relation)) (q : Query) (skip : Int) (vars : (List Int)) : Option (List Int) :=
 (f93 l q).bind fun o1 =>
 if ¬ (o1 = true) then
 some ([])
 else
 (f151 vars q.Free).bind fun o4 =>
 (iter (f188_0 l q skip) (o4, 0)).bind fun out_36 =>
 some out_36
def f187 (l : (List Relation)) (q : Query) (k : Int) : Option (List Int) :=
 (f93 l q).bind fun o1 =>
 (((if ¬ (o1 = true) then
 some true
 else
 (f38 k 0 (w64 ((q.Atoms.length : Int) - 1))).bind fun o6 =>
 some (decide (¬ (o6 = true)))) : Option (Bool))).bind fun x_3 =>
 if x_3 = true then
 some ([])
 else
 (ix q.Atoms k).bind fun v_9 =>
 (f40 l v_9).bind fun o11 =>
 (f188 l q k o11).bind fun o13 =>
 some o13
def f176_2 (out_14 : (List Int)) (o19 : (List Int)) : Bool × Int → Option ((Bool × Int) ⊕ Bool)
 | (met_21, j_22) =>
  if j_22 < (o19.length : Int) then
  (((if met_21 = true then
  some true
  else
  (ix o19 j_22).bind fun v_27 =>
  (f80 out_14 v_27).bind fun o29 =>
  some o29) : Option (Bool))).bind fun met_24 =>
  some (.inl (met_24, w64 (j_22 + 1)))
  else
  some (.inr met_21)
def f176_3 (o9 : (List Int)) (o19 : (List Int)) (met_33 : Bool) : (List Int) × Int → Option (((List Int) × Int) ⊕ (List Int))
 | (out_34, j_35) =>
  (((if j_35 < (o19.length : Int) then
  some met_33
  else
  some false) : Option (Bool))).bind fun x_36 =>
  if x_36 = true then
  (ix o19 j_35).bind fun v_40 =>
  (f80 o9 v_40).bind fun o42 =>
  (((if ¬ (o42 = true) then
  (f151 out_34 ([v_40])).bind fun o47 =>
  some o47
  else
  some out_34) : Option (List Int))).bind fun out_49 =>
  some (.inl (out_49, w64 (j_35 + 1)))
  else
  some (.inr out_34)
def f176_1 (q : Query) (k : Int) (o9 : (List Int)) : (List Int) × Int → Option (((List Int) × Int) ⊕ (List Int))
 | (out_14, i_15) =>
  if i_15 < (q.Atoms.length : Int) then
  (ix q.Atoms i_15).bind fun v_17 =>
  (f41 v_17).bind fun o19 =>
  (iter ((f176_2 out_14 o19)) ((decide (i_15 = k)), 0)).bind fun met_33 =>
  (iter ((f176_3 o9 o19 met_33)) (out_14, 0)).bind fun out_52 =>
  some (.inl (out_52, w64 (i_15 + 1)))
  else
  some (.inr out_14)
def f176_0 (q : Query) (k : Int) (o9 : (List Int)) : (List Int) × Int → Option (((List Int) × Int) ⊕ (List Int))
 | (out_11, n_12) =>
  if n_12 ≤ (q.Atoms.length : Int) then
  (iter ((f176_1 q k o9)) (out_11, 0)).bind fun out_55 =>
  some (.inl (out_55, w64 (n_12 + 1)))
  else
  some (.inr out_11)
def f176 (l : (List Relation)) (q : Query) (k : Int) : Option (List Int) :=
 (f93 l q).bind fun o1 =>
 (((if ¬ (o1 = true) then
 some true
 else
 (f38 k 0 (w64 ((q.Atoms.length : Int) - 1))).bind fun o6 =>
 some (decide (¬ (o6 = true)))) : Option (Bool))).bind fun x_3 =>
 if x_3 = true then
 some ([])
 else
 (f187 l q k).bind fun o9 =>
 (iter (f176_0 q k o9) ([], 0)).bind fun out_58 =>
 some out_58
def f145_0 (o17 : (List Int)) (o21 : (List Int)) : Int → Option (Int ⊕ (Unit ⊕ Bool))
 | j_23 =>
  if j_23 < (o21.length : Int) then
  (ix o21 j_23).bind fun v_25 =>
  (f80 o17 v_25).bind fun o27 =>
  if o27 = true then
  some (.inr (.inr true))
  else
  some (.inl (w64 (j_23 + 1)))
  else
  some (.inr (.inl ()))
def f145 (l : (List Relation)) (q : Query) (i : Int) (k : Int) : Option Bool :=
 (f93 l q).bind fun o1 =>
 (((if ¬ (o1 = true) then
 some true
 else
 (f38 i 0 (w64 ((q.Atoms.length : Int) - 1))).bind fun o6 =>
 (((if ¬ (o6 = true) then
 some true
 else
 (f38 k 0 (w64 ((q.Atoms.length : Int) - 1))).bind fun o11 =>
 (((if ¬ (o11 = true) then
 some true
 else
 some (decide (i = k))) : Option (Bool))).bind fun x_13 =>
 some x_13) : Option (Bool))).bind fun x_8 =>
 some x_8) : Option (Bool))).bind fun x_3 =>
 if x_3 = true then
 some false
 else
 (f176 l q i).bind fun o17 =>
 (ix q.Atoms k).bind fun v_19 =>
 (f41 v_19).bind fun o21 =>
 (iter (f145_0 o17 o21) 0).bind fun o => match o with
 | .inl _ =>
 some false
 | .inr x_32 =>
 some x_32
def f177 (l : (List Relation)) (q : Query) (from2 : (List Int)) (to : (List Int)) : Option Bool :=
 (f93 l q).bind fun o1 =>
 (((if o1 = true then
 (f188 l q (-1) from2).bind fun o6 =>
 (f39 o6 to).bind fun o8 =>
 some o8
 else
 some false) : Option (Bool))).bind fun x_3 =>
 some x_3
def f146 (l : (List Relation)) (q : Query) (i : Int) (k : Int) : Option Bool :=
 (f145 l q i k).bind fun o1 =>
 (((if o1 = true then
 (ix q.Atoms i).bind fun v_6 =>
 (ix q.Atoms k).bind fun v_8 =>
 (f40 l v_6).bind fun o10 =>
 (f40 l v_8).bind fun o12 =>
 (f177 l q o10 o12).bind fun o14 =>
 some o14
 else
 some false) : Option (Bool))).bind fun x_3 =>
 some x_3
def f147_2 (l : (List Relation)) (q : Query) (i : Int) (a_20 : Int) : (List Bool) × Int → Option (((List Bool) × Int) ⊕ (List Bool))
 | (met_22, b_23) =>
  if b_23 < (q.Atoms.length : Int) then
  (((if a_20 = i then
  (f145 l q a_20 b_23).bind fun o28 =>
  some o28
  else
  (ix met_22 a_20).bind fun v_30 =>
  (((if v_30 = true then
  (f145 l q a_20 b_23).bind fun o35 =>
  some o35
  else
  some false) : Option (Bool))).bind fun x_32 =>
  some x_32) : Option (Bool))).bind fun x_25 =>
  (((if x_25 = true then
  (ix met_22 b_23).bind fun v_40 =>
  some (met_22.set b_23.toNat true)
  else
  some met_22) : Option (List Bool))).bind fun met_43 =>
  some (.inl (met_43, w64 (b_23 + 1)))
  else
  some (.inr met_22)
def f147_1 (l : (List Relation)) (q : Query) (i : Int) : (List Bool) × Int → Option (((List Bool) × Int) ⊕ (List Bool))
 | (met_19, a_20) =>
  if a_20 < (q.Atoms.length : Int) then
  (iter ((f147_2 l q i a_20)) (met_19, 0)).bind fun met_46 =>
  some (.inl (met_46, w64 (a_20 + 1)))
  else
  some (.inr met_19)
def f147_0 (l : (List Relation)) (q : Query) (i : Int) : (List Bool) × Int → Option (((List Bool) × Int) ⊕ (List Bool))
 | (met_16, n_17) =>
  if n_17 ≤ (q.Atoms.length : Int) then
  (iter ((f147_1 l q i)) (met_16, 0)).bind fun met_49 =>
  some (.inl (met_49, w64 (n_17 + 1)))
  else
  some (.inr met_16)
def f147 (l : (List Relation)) (q : Query) (i : Int) (k : Int) : Option Bool :=
 (f93 l q).bind fun o1 =>
 (((if ¬ (o1 = true) then
 some true
 else
 (f38 i 0 (w64 ((q.Atoms.length : Int) - 1))).bind fun o6 =>
 (((if ¬ (o6 = true) then
 some true
 else
 (f38 k 0 (w64 ((q.Atoms.length : Int) - 1))).bind fun o11 =>
 some (decide (¬ (o11 = true)))) : Option (Bool))).bind fun x_8 =>
 some x_8) : Option (Bool))).bind fun x_3 =>
 if x_3 = true then
 some false
 else
 (mkl 1 (q.Atoms.length : Int) false).bind fun l_14 =>
 (iter ((f147_0 l q i)) (l_14, 0)).bind fun met_52 =>
 (ix met_52 k).bind fun v_53 =>
 some v_53
def f148_0 (l : (List Relation)) (q : Query) : Int → Option (Int ⊕ (Unit ⊕ Bool))
 | i_1 =>
  if i_1 < (q.Atoms.length : Int) then
  (f147 l q i_1 i_1).bind fun o3 =>
  if o3 = true then
  some (.inr (.inr true))
  else
  some (.inl (w64 (i_1 + 1)))
  else
  some (.inr (.inl ()))
def f148 (l : (List Relation)) (q : Query) : Option Bool :=
 (iter (f148_0 l q) 0).bind fun o => match o with
 | .inl _ =>
 some false
 | .inr x_8 =>
 some x_8
def f104_1 (l : (List Relation)) (q : Query) (i_4 : Int) : Int → Option (Int ⊕ (Unit ⊕ Int))
 | k_6 =>
  if k_6 < (q.Atoms.length : Int) then
  (f145 l q i_4 k_6).bind fun o8 =>
  (((if o8 = true then
  (f146 l q i_4 k_6).bind fun o13 =>
  (((if ¬ (o13 = true) then
  (f147 l q k_6 i_4).bind fun o18 =>
  some o18
  else
  some false) : Option (Bool))).bind fun x_15 =>
  some x_15
  else
  some false) : Option (Bool))).bind fun x_10 =>
  if x_10 = true then
  some (.inr (.inr 3))
  else
  some (.inl (w64 (k_6 + 1)))
  else
  some (.inr (.inl ()))
def f104_0 (l : (List Relation)) (q : Query) : Int → Option (Int ⊕ (Unit ⊕ Int))
 | i_4 =>
  if i_4 < (q.Atoms.length : Int) then
  (iter (f104_1 l q i_4) 0).bind fun o => match o with
  | .inl _ =>
  some (.inl (w64 (i_4 + 1)))
  | .inr x_23 =>
  some (.inr (.inr x_23))
  else
  some (.inr (.inl ()))
def f104 (l : (List Relation)) (q : Query) : Option Int :=
 (f93 l q).bind fun o1 =>
 if ¬ (o1 = true) then
 some 0
 else
 (iter (f104_0 l q) 0).bind fun o => match o with
 | .inl _ =>
 (f148 l q).bind fun o27 =>
 if o27 = true then
 some 2
 else
 some 1
 | .inr x_26 =>
 some x_26
def f178_0 (a : (List Int)) (b : (List Int)) (not : (List Int)) : Int → Option (Int ⊕ (Unit ⊕ Bool))
 | i_1 =>
  if i_1 < (a.length : Int) then
  (ix a i_1).bind fun v_3 =>
  (f80 b v_3).bind fun o5 =>
  (((if o5 = true then
  (f80 not v_3).bind fun o10 =>
  some (decide (¬ (o10 = true)))
  else
  some false) : Option (Bool))).bind fun x_7 =>
  if x_7 = true then
  some (.inr (.inr true))
  else
  some (.inl (w64 (i_1 + 1)))
  else
  some (.inr (.inl ()))
def f178 (a : (List Int)) (b : (List Int)) (not : (List Int)) : Option Bool :=
 (iter (f178_0 a b not) 0).bind fun o => match o with
 | .inl _ =>
 some false
 | .inr x_15 =>
 some x_15
def f149_2 (l : (List Relation)) (q : Query) (i : Int) : (List Int) × Int → Option (((List Int) × Int) ⊕ (List Int))
 | (plus_11, j_12) =>
  if j_12 < (q.Atoms.length : Int) then
  (((if j_12 ≠ i then
  (ix q.Atoms j_12).bind fun v_17 =>
  (f40 l v_17).bind fun o19 =>
  (f39 plus_11 o19).bind fun o21 =>
  some o21
  else
  some false) : Option (Bool))).bind fun x_14 =>
  (((if x_14 = true then
  (ix q.Atoms j_12).bind fun v_26 =>
  (f41 v_26).bind fun o28 =>
  (f151 plus_11 o28).bind fun o30 =>
  some o30
  else
  some plus_11) : Option (List Int))).bind fun plus_32 =>
  some (.inl (plus_32, w64 (j_12 + 1)))
  else
  some (.inr plus_11)
def f149_0 (l : (List Relation)) (q : Query) (i : Int) : (List Int) × Int → Option (((List Int) × Int) ⊕ (List Int))
 | (plus_8, n_9) =>
  if n_9 < (q.Atoms.length : Int) then
  (iter ((f149_2 l q i)) (plus_8, 0)).bind fun plus_35 =>
  some (.inl (plus_35, w64 (n_9 + 1)))
  else
  some (.inr plus_8)
def f149_4 (q : Query) (plus_38 : (List Int)) (a_43 : Int) : (List Int) × Int → Option (((List Int) × Int) ⊕ (List Int))
 | (met_45, b_46) =>
  if b_46 < (q.Atoms.length : Int) then
  (f80 met_45 a_43).bind fun o48 =>
  (((if o48 = true then
  (f80 met_45 b_46).bind fun o53 =>
  (((if ¬ (o53 = true) then
  (ix q.Atoms a_43).bind fun v_58 =>
  (ix q.Atoms b_46).bind fun v_60 =>
  (f41 v_58).bind fun o62 =>
  (f41 v_60).bind fun o64 =>
  (f178 o62 o64 plus_38).bind fun o66 =>
  some o66
  else
  some false) : Option (Bool))).bind fun x_55 =>
  some x_55
  else
  some false) : Option (Bool))).bind fun x_50 =>
  (((if x_50 = true then
  (app 8 met_45 ([b_46])).bind fun l_71 =>
  some l_71
  else
  some met_45) : Option (List Int))).bind fun met_73 =>
  some (.inl (met_73, w64 (b_46 + 1)))
  else
  some (.inr met_45)
def f149_3 (q : Query) (plus_38 : (List Int)) : (List Int) × Int → Option (((List Int) × Int) ⊕ (List Int))
 | (met_42, a_43) =>
  if a_43 < (q.Atoms.length : Int) then
  (iter ((f149_4 q plus_38 a_43)) (met_42, 0)).bind fun met_76 =>
  some (.inl (met_76, w64 (a_43 + 1)))
  else
  some (.inr met_42)
def f149_1 (q : Query) (plus_38 : (List Int)) : (List Int) × Int → Option (((List Int) × Int) ⊕ (List Int))
 | (met_39, n_40) =>
  if n_40 < (q.Atoms.length : Int) then
  (iter ((f149_3 q plus_38)) (met_39, 0)).bind fun met_79 =>
  some (.inl (met_79, w64 (n_40 + 1)))
  else
  some (.inr met_39)
def f149 (l : (List Relation)) (q : Query) (i : Int) (k : Int) : Option Bool :=
 if i = k then
 some false
 else
 (ix q.Atoms i).bind fun v_2 =>
 (f40 l v_2).bind fun o4 =>
 (f151 q.Free o4).bind fun o6 =>
 (iter ((f149_0 l q i)) (o6, 0)).bind fun plus_38 =>
 (iter ((f149_1 q plus_38)) ([i], 0)).bind fun met_82 =>
 (f80 met_82 k).bind fun o83 =>
 some o83
def f106_1 (l : (List Relation)) (q : Query) (k_1 : Int) : Bool × Int → Option ((Bool × Int) ⊕ Bool)
 | (is_3, i_4) =>
  if i_4 < (q.Atoms.length : Int) then
  (((if is_3 = true then
  some true
  else
  (f149 l q i_4 k_1).bind fun o9 =>
  some o9) : Option (Bool))).bind fun is_6 =>
  some (.inl (is_6, w64 (i_4 + 1)))
  else
  some (.inr is_3)
def f106_0 (l : (List Relation)) (q : Query) : Int → Option (Int ⊕ (Unit ⊕ Int))
 | k_1 =>
  if k_1 < (q.Atoms.length : Int) then
  (iter (f106_1 l q k_1) (false, 0)).bind fun is_13 =>
  if ¬ (is_13 = true) then
  some (.inr (.inr k_1))
  else
  some (.inl (w64 (k_1 + 1)))
  else
  some (.inr (.inl ()))
def f106 (l : (List Relation)) (q : Query) : Option Int :=
 (iter (f106_0 l q) 0).bind fun o => match o with
 | .inl _ =>
 some (-1)
 | .inr x_17 =>
 some x_17
def f150 (q : Query) (k : Int) : Option Query :=
 (f105 q).bind fun o1 =>
 (f38 k 0 (w64 ((q.Atoms.length : Int) - 1))).bind fun o3 =>
 (((if o3 = true then
 (cutL o1.Atoms 0 k).bind fun l_8 =>
 (cutL o1.Atoms (w64 (k + 1)) o1.Atoms.length).bind fun l_10 =>
 (app 32 ([]) l_8).bind fun l_12 =>
 (app 32 l_12 l_10).bind fun l_14 =>
 some (o1.VariableCount, l_14, o1.Free)
 else
 some (o1.VariableCount, o1.Atoms, o1.Free)) : Option (Int × (List Atom) × (List Int)))).bind fun (x_16, x_17, x_18) =>
 some ({ VariableCount := x_16, Atoms := x_17, Free := x_18 } : Query)
def f107 (q : Query) (k : Int) : Option Query :=
 (f150 q k).bind fun o1 =>
 (ix q.Atoms k).bind fun v_3 =>
 (f41 v_3).bind fun o5 =>
 (f151 q.Free o5).bind fun o7 =>
 some ({ VariableCount := o1.VariableCount, Atoms := o1.Atoms, Free := o7 } : Query)
def f65_1 (l : (List Relation)) (x_9 : (List Int)) (v_14 : Atom) : Int × (List Int) × (List Int) × (List Int) × Int → Option ((Int × (List Int) × (List Int) × (List Int) × Int) ⊕ (Int × (List Int) × (List Int) × (List Int)))
 | (v_18, v_19, v_20, v_21, j_22) =>
  if j_22 < 4 then
  ((((f80 x_9 j_22).bind fun o26 =>
  (((if o26 = true then
  some true
  else
  (f80 v_14.Terms j_22).bind fun o31 =>
  some (decide (¬ (o31 = true)))) : Option (Bool))).bind fun x_28 =>
  if x_28 = true then
  some (v_20, v_21)
  else
  (f40 l v_14).bind fun o34 =>
  (f80 o34 j_22).bind fun o36 =>
  (((if o36 = true then
  (app 8 v_20 ([j_22])).bind fun l_41 =>
  some (l_41, v_21)
  else
  (app 8 v_21 ([j_22])).bind fun l_43 =>
  some (v_20, l_43)) : Option ((List Int) × (List Int)))).bind fun (v_45, v_46) =>
  some (v_45, v_46)) : Option ((List Int) × (List Int)))).bind fun (v_47, v_48) =>
  some (.inl (v_18, v_19, v_47, v_48, w64 (j_22 + 1)))
  else
  some (.inr (v_18, v_19, v_20, v_21))
def f65_0 (l : (List Relation)) : (List RewritingStep) × Int × (List Atom) × (List Int) → Option (((List RewritingStep) × Int × (List Atom) × (List Int)) ⊕ ((List RewritingStep) ⊕ ((List RewritingStep) × Bool)))
 | (out_6, x_7, x_8, x_9) =>
  if (x_8.length : Int) > 0 then
  (f106 l ({ VariableCount := x_7, Atoms := x_8, Free := x_9 } : Query)).bind fun o11 =>
  if o11 < 0 then
  some (.inr (.inr ([], false)))
  else
  (ix x_8 o11).bind fun v_14 =>
  (app 8 ([]) v_14.Terms).bind fun l_16 =>
  (iter ((f65_1 l x_9 v_14)) (v_14.Relation, l_16, [], [], 0)).bind fun (v_51, v_52, v_53, v_54) =>
  (app 80 out_6 ([({ Atom := ({ Relation := v_51, Terms := v_52 } : Atom), Existential := v_53, Universal := v_54 } : RewritingStep)])).bind fun l_55 =>
  (f107 ({ VariableCount := x_7, Atoms := x_8, Free := x_9 } : Query) o11).bind fun o57 =>
  some (.inl (l_55, o57.VariableCount, o57.Atoms, o57.Free))
  else
  some (.inr (.inl out_6))
def f65 (l : (List Relation)) (q : Query) : Option ((List RewritingStep) × Bool) :=
 (f104 l q).bind fun o1 =>
 if o1 ≠ 1 then
 some ([], false)
 else
 (f105 q).bind fun o4 =>
 (iter (f65_0 l) ([], o4.VariableCount, o4.Atoms, o4.Free)).bind fun o => match o with
 | .inl out_61 =>
 some (out_61, true)
 | .inr (x_62, x_63) =>
 some (x_62, x_63)
def f22 (c : L1Cur) (l : (List Relation)) : Option ((List RewritingStep) × L1Cur) :=
 (f64 c l).bind fun o1 =>
 (f65 l o1.1).bind fun o3 =>
 (((if ¬ (o3.2 = true) then
 (f66 l ([63, 114, 120, 124, 121, 32, 115, 121, 124, 122])).bind fun o8 =>
 (f65 l o8.1).bind fun o10 =>
 some o10.1
 else
 some o3.1) : Option (List RewritingStep))).bind fun f_12 =>
 (((if (f_12.length : Int) > 0 then
 (f21 o1.2 8).bind fun o19 =>
 some (o19.2.b, o19.2.i, o19.2.h, o19.1)
 else
 some (o1.2.b, o1.2.i, o1.2.h, false)) : Option ((List Int) × Int × Int × Bool))).bind fun (c_13, c_14, c_15, x_16) =>
 (((if x_16 = true then
 (f20 ({ b := c_13, i := c_14, h := c_15 } : L1Cur) (f_12.length : Int)).bind fun o24 =>
 (f20 o24.2 4).bind fun o26 =>
 (((if o26.1 = 0 then
 (f20 o26.2 6).bind fun o31 =>
 (ix f_12 o24.1).bind fun v_33 =>
 some (o31.2.b, o31.2.i, o31.2.h, (f_12.set o24.1.toNat ({ Atom := ({ Relation := w64 (o31.1 - 1), Terms := v_33.Atom.Terms } : Atom), Existential := v_33.Existential, Universal := v_33.Universal } : RewritingStep)))
 else
 (((if o26.1 = 1 then
 (ix f_12 o24.1).bind fun v_39 =>
 (f67 o26.2 ([4, -11, 2])).bind fun o41 =>
 (ix v_39.Atom.Terms 0).bind fun v_43 =>
 some (o41.2.b, o41.2.i, o41.2.h, (f_12.set o24.1.toNat ({ Atom := ({ Relation := v_39.Atom.Relation, Terms := (v_39.Atom.Terms.set (0 : Int).toNat o41.1) } : Atom), Existential := v_39.Existential, Universal := v_39.Universal } : RewritingStep)))
 else
 (((if o26.1 = 2 then
 (ix f_12 o24.1).bind fun v_50 =>
 (f20 o26.2 5).bind fun o52 =>
 (app 8 v_50.Existential ([o52.1])).bind fun l_54 =>
 some (o52.2.b, o52.2.i, o52.2.h, (f_12.set o24.1.toNat ({ Atom := v_50.Atom, Existential := l_54, Universal := v_50.Universal } : RewritingStep)))
 else
 (ix f_12 o24.1).bind fun v_57 =>
 (f20 o26.2 5).bind fun o59 =>
 (app 8 v_57.Universal ([o59.1])).bind fun l_61 =>
 some (o59.2.b, o59.2.i, o59.2.h, (f_12.set o24.1.toNat ({ Atom := v_57.Atom, Existential := v_57.Existential, Universal := l_61 } : RewritingStep)))) : Option ((List Int) × Int × Int × (List RewritingStep)))).bind fun (c_64, c_65, c_66, f_67) =>
 some (c_64, c_65, c_66, f_67)) : Option ((List Int) × Int × Int × (List RewritingStep)))).bind fun (c_68, c_69, c_70, f_71) =>
 some (c_68, c_69, c_70, f_71)) : Option ((List Int) × Int × Int × (List RewritingStep)))).bind fun (c_72, c_73, c_74, f_75) =>
 some (c_72, c_73, c_74, f_75)
 else
 some (c_13, c_14, c_15, f_12)) : Option ((List Int) × Int × Int × (List RewritingStep)))).bind fun (c_76, c_77, c_78, f_79) =>
 some (f_79, ({ b := c_76, i := c_77, h := c_78 } : L1Cur))
def f6_0 : (List Int) × Int × Int × (List Int) × Int → Option (((List Int) × Int × Int × (List Int) × Int) ⊕ ((List Int) × Int × Int × (List Int)))
 | (c_7, c_8, c_9, vals_10, n_11) =>
  if n_11 > 0 then
  (f20 ({ b := c_7, i := c_8, h := c_9 } : L1Cur) 4).bind fun o13 =>
  (app 8 vals_10 ([w64 (o13.1 - 1)])).bind fun l_15 =>
  some (.inl (o13.2.b, o13.2.i, o13.2.h, l_15, w64 (n_11 - 1)))
  else
  some (.inr (c_7, c_8, c_9, vals_10))
def f6 (code : (List Int)) : Option (Database × (List RewritingStep) × (List Int)) :=
 (f18 code).bind fun o1 =>
 (f19 o1).bind fun o3 =>
 (f20 o3.2 6).bind fun o5 =>
 (iter (f6_0) (o5.2.b, o5.2.i, o5.2.h, [], o5.1)).bind fun (c_19, c_20, c_21, vals_22) =>
 (f21 ({ b := c_19, i := c_20, h := c_21 } : L1Cur) 2).bind fun o23 =>
 (((if o23.1 = true then
 some ([])
 else
 some vals_22) : Option (List Int))).bind fun vals_28 =>
 (f23 o23.2).bind fun o29 =>
 (f22 o29.2 o29.1).bind fun o31 =>
 some (o3.1, o31.1, vals_28)
def f31 (n0 : Int) (low : Int) (high : Int) : Option Bool :=
 (((if low ≤ n0 then
 some (decide (n0 ≤ high))
 else
 some false) : Option (Bool))).bind fun x_1 =>
 some x_1
def f74 (relation : Relation) : Option Bool :=
 (((if (relation.Name.length : Int) = 1 then
 (ix relation.Name 0).bind fun c_4 =>
 (((if (c_4.toNat : Int) ≥ 97 then
 (((if (c_4.toNat : Int) ≤ 122 then
 (f31 relation.Arity 1 3).bind fun o12 =>
 (((if o12 = true then
 (f31 relation.KeyLength 0 relation.Arity).bind fun o17 =>
 some o17
 else
 some false) : Option (Bool))).bind fun x_14 =>
 some x_14
 else
 some false) : Option (Bool))).bind fun x_9 =>
 some x_9
 else
 some false) : Option (Bool))).bind fun x_6 =>
 some x_6
 else
 some false) : Option (Bool))).bind fun x_1 =>
 some x_1
def f30_0 (relations : (List Relation)) : Int → Option (Int ⊕ (Unit ⊕ Bool))
 | x_1 =>
  if x_1 < (relations.length : Int) then
  (ix relations x_1).bind fun v_3 =>
  (f74 v_3).bind fun o5 =>
  (((if ¬ (o5 = true) then
  some true
  else
  (((if x_1 > 0 then
  (ix relations (w64 (x_1 - 1))).bind fun v_13 =>
  some (!(Op.bytesLess v_13.Name v_3.Name))
  else
  some false) : Option (Bool))).bind fun x_10 =>
  some x_10) : Option (Bool))).bind fun x_7 =>
  if x_7 = true then
  some (.inr (.inr false))
  else
  some (.inl (w64 (x_1 + 1)))
  else
  some (.inr (.inl ()))
def f30 (relations : (List Relation)) : Option Bool :=
 (iter (f30_0 relations) 0).bind fun o => match o with
 | .inl _ =>
 some (decide ((relations.length : Int) ≤ 4))
 | .inr x_18 =>
 some x_18
def f75_0 (s0 : (List Int)) (f : Int → Option Bool) : Int → Option (Int ⊕ (Unit ⊕ Int))
 | x_1 =>
  if x_1 < (s0.length : Int) then
  (ix s0 x_1).bind fun v_3 =>
  (f v_3).bind fun o5 =>
  if o5 = true then
  some (.inr (.inr x_1))
  else
  some (.inl (w64 (x_1 + 1)))
  else
  some (.inr (.inl ()))
def f75 (s0 : (List Int)) (f : Int → Option Bool) : Option Int :=
 (iter (f75_0 s0 f) 0).bind fun o => match o with
 | .inl _ =>
 some (-1)
 | .inr x_10 =>
 some x_10
def f32 (s0 : (List Int)) (f : Int → Option Bool) : Option Bool :=
 (f75 s0 f).bind fun o1 =>
 some (decide (o1 ≥ 0))
def f154 (v : Int) : Option Bool :=
 (f31 v 0 9).bind fun o1 =>
 some (decide (¬ (o1 = true)))
def f112 (list : (List Int)) : Option Bool :=
 (f32 list (fun x0 => f154 x0)).bind fun o1 =>
 some (decide (¬ (o1 = true)))
def f68 (relations : (List Relation)) (fact : Fact) : Option Bool :=
 (f31 fact.Relation 0 (w64 ((relations.length : Int) - 1))).bind fun o1 =>
 (((if o1 = true then
 (ix relations fact.Relation).bind fun v_6 =>
 (((if (fact.Values.length : Int) = v_6.Arity then
 (f112 fact.Values).bind fun o11 =>
 some o11
 else
 some false) : Option (Bool))).bind fun x_8 =>
 some x_8
 else
 some false) : Option (Bool))).bind fun x_3 =>
 some x_3
def f113 (a : Int) (b : Int) : Option Int :=
 if a < b then
 some (-1)
 else
 if a > b then
 some 1
 else
 some 0
def f181 (x : Int) : Option Bool :=
 some (decide (x ≠ x))
def f155 (x : Int) (y : Int) : Option Int :=
 (f181 x).bind fun o1 =>
 (f181 y).bind fun o3 =>
 if o1 = true then
 if o3 = true then
 some 0
 else
 some (-1)
 else
 if o3 = true then
 some 1
 else
 if x < y then
 some (-1)
 else
 if x > y then
 some 1
 else
 some 0
def f114_0 (s1 : (List Int)) (s2 : (List Int)) : Int → Option (Int ⊕ (Unit ⊕ Int))
 | x_1 =>
  if x_1 < (s1.length : Int) then
  (ix s1 x_1).bind fun v_3 =>
  if x_1 ≥ (s2.length : Int) then
  some (.inr (.inr 1))
  else
  (ix s2 x_1).bind fun v_6 =>
  (f155 v_3 v_6).bind fun o8 =>
  if o8 ≠ 0 then
  some (.inr (.inr o8))
  else
  some (.inl (w64 (x_1 + 1)))
  else
  some (.inr (.inl ()))
def f114 (s1 : (List Int)) (s2 : (List Int)) : Option Int :=
 (iter (f114_0 s1 s2) 0).bind fun o => match o with
 | .inl _ =>
 if (s1.length : Int) < (s2.length : Int) then
 some (-1)
 else
 some 0
 | .inr x_13 =>
 some x_13
def f69 (a : Fact) (b : Fact) : Option Int :=
 if a.Relation ≠ b.Relation then
 (f113 a.Relation b.Relation).bind fun o2 =>
 some o2
 else
 (f114 a.Values b.Values).bind fun o4 =>
 some o4
def f24_0 (db : Database) : Int → Option (Int ⊕ (Unit ⊕ Bool))
 | x_7 =>
  if x_7 < (db.Facts.length : Int) then
  (ix db.Facts x_7).bind fun v_9 =>
  (f68 db.Relations v_9).bind fun o11 =>
  (((if ¬ (o11 = true) then
  some true
  else
  (((if x_7 > 0 then
  (ix db.Facts (w64 (x_7 - 1))).bind fun v_19 =>
  (f69 v_19 v_9).bind fun o21 =>
  some (decide (o21 ≥ 0))
  else
  some false) : Option (Bool))).bind fun x_16 =>
  some x_16) : Option (Bool))).bind fun x_13 =>
  if x_13 = true then
  some (.inr (.inr false))
  else
  some (.inl (w64 (x_7 + 1)))
  else
  some (.inr (.inl ()))
def f24 (db : Database) : Option Bool :=
 (f30 db.Relations).bind fun o1 =>
 (((if ¬ (o1 = true) then
 some true
 else
 some (decide ((db.Facts.length : Int) > 14))) : Option (Bool))).bind fun x_3 =>
 if x_3 = true then
 some false
 else
 (iter (f24_0 db) 0).bind fun o => match o with
 | .inl _ =>
 some true
 | .inr x_26 =>
 some x_26
def f33 (t : Int) : Option Bool :=
 (f31 t (-10) 3).bind fun o1 =>
 some (decide (¬ (o1 = true)))
def f158 (n : Int) : Option Nat := growN 8 n
def f121_0 (slices : (List (List Int))) : Int × Int → Option ((Int × Int) ⊕ Int)
 | (size_1, x_2) =>
  if x_2 < (slices.length : Int) then
  (ix slices x_2).bind fun v_4 =>
  (((if (w64 (size_1 + (v_4.length : Int))) < 0 then
  none
  else
  some ()) : Option Unit)).bind fun _ =>
  some (.inl (w64 (size_1 + (v_4.length : Int)), w64 (x_2 + 1)))
  else
  some (.inr size_1)
def f121_1 (slices : (List (List Int))) : Nat × (List Int) × Int → Option ((Nat × (List Int) × Int) ⊕ (Nat × (List Int)))
 | (newslice_14, newslice_15, x_16) =>
  if x_16 < (slices.length : Int) then
  (ix slices x_16).bind fun v_18 =>
  (apps 8 newslice_15 newslice_14 v_18).bind fun l_20 =>
  some (.inl (l_20.2, l_20.1, w64 (x_16 + 1)))
  else
  some (.inr (newslice_14, newslice_15))
def f121 (slices : (List (List Int))) : Option (List Int) :=
 (iter (f121_0 slices) (0, 0)).bind fun size_11 =>
 (f158 size_11).bind fun o12 =>
 (iter (f121_1 slices) (o12, [], 0)).bind fun (newslice_24, newslice_25) =>
 (nsk newslice_24).bind fun _ =>
 some newslice_25
def f87 (l : List Int) : Option (List Int) := sortN l
def f122 (l : List Int) : Option (List Int) := compactN l
def f78 (a : (List Int)) (b : (List Int)) : Option (List Int) :=
 (f121 ([a, b])).bind fun o1 =>
 (f87 o1).bind fun o3 =>
 (f122 o3).bind fun o5 =>
 some o5
def f36_0 (atom : Atom) : (List Int) × Int → Option (((List Int) × Int) ⊕ (List Int))
 | (out_1, x_2) =>
  if x_2 < (atom.Terms.length : Int) then
  (ix atom.Terms x_2).bind fun v_4 =>
  (f31 v_4 0 3).bind fun o6 =>
  (((if o6 = true then
  (app 8 out_1 ([v_4])).bind fun l_11 =>
  some l_11
  else
  some out_1) : Option (List Int))).bind fun out_13 =>
  some (.inl (out_13, w64 (x_2 + 1)))
  else
  some (.inr out_1)
def f36 (atom : Atom) : Option (List Int) :=
 (iter (f36_0 atom) ([], 0)).bind fun out_16 =>
 (f78 out_16 ([] : (List Int))).bind fun o17 =>
 some o17
def f35 (relations : (List Relation)) (atom : Atom) : Option (List Int) :=
 (f31 atom.Relation 0 (w64 ((relations.length : Int) - 1))).bind fun o1 =>
 (((if ¬ (o1 = true) then
 some true
 else
 (ix relations atom.Relation).bind fun v_6 =>
 (f31 v_6.KeyLength 0 (atom.Terms.length : Int)).bind fun o8 =>
 some (decide (¬ (o8 = true)))) : Option (Bool))).bind fun x_3 =>
 if x_3 = true then
 some ([])
 else
 (ix relations atom.Relation).bind fun v_11 =>
 (cutL atom.Terms 0 v_11.KeyLength).bind fun l_13 =>
 (f36 ({ Relation := 0, Terms := l_13 } : Atom)).bind fun o15 =>
 some o15
def f120_0 (s0 : (List Int)) (v : Int) : Int → Option (Int ⊕ (Unit ⊕ Int))
 | x_1 =>
  if x_1 < (s0.length : Int) then
  (ix s0 x_1).bind fun v_3 =>
  if v = v_3 then
  some (.inr (.inr x_1))
  else
  some (.inl (w64 (x_1 + 1)))
  else
  some (.inr (.inl ()))
def f120 (s0 : (List Int)) (v : Int) : Option Int :=
 (iter (f120_0 s0 v) 0).bind fun o => match o with
 | .inl _ =>
 some (-1)
 | .inr x_8 =>
 some x_8
def f77 (s0 : (List Int)) (v : Int) : Option Bool :=
 (f120 s0 v).bind fun o1 =>
 some (decide (o1 ≥ 0))
def f76 (n0 : Int) (c : (List Int)) : Option Bool :=
 (f77 c n0).bind fun o1 =>
 some (decide (¬ (o1 = true)))
def f34 (a : (List Int)) (b : (List Int)) : Option Bool :=
 (f32 a (fun x0 => f76 x0 b)).bind fun o1 =>
 some (decide (¬ (o1 = true)))
def f9_0 (relations : (List Relation)) (rewriting : (List RewritingStep)) : Int → Option (Int ⊕ (Unit ⊕ Bool))
 | x_1 =>
  if x_1 < (rewriting.length : Int) then
  (ix rewriting x_1).bind fun v_3 =>
  (((if x_1 ≥ 3 then
  some true
  else
  (f30 relations).bind fun o8 =>
  (((if ¬ (o8 = true) then
  some true
  else
  (f31 v_3.Atom.Relation 0 (w64 ((relations.length : Int) - 1))).bind fun o13 =>
  (((if ¬ (o13 = true) then
  some true
  else
  (ix relations v_3.Atom.Relation).bind fun v_18 =>
  some (decide ((v_3.Atom.Terms.length : Int) ≠ v_18.Arity))) : Option (Bool))).bind fun x_15 =>
  some x_15) : Option (Bool))).bind fun x_10 =>
  some x_10) : Option (Bool))).bind fun x_5 =>
  if x_5 = true then
  some (.inr (.inr false))
  else
  (f32 v_3.Atom.Terms (fun x0 => f33 x0)).bind fun o21 =>
  if o21 = true then
  some (.inr (.inr false))
  else
  (f35 relations v_3.Atom).bind fun o24 =>
  (f34 v_3.Existential o24).bind fun o26 =>
  (((if ¬ (o26 = true) then
  some true
  else
  (f36 v_3.Atom).bind fun o31 =>
  (f34 v_3.Universal o31).bind fun o33 =>
  some (decide (¬ (o33 = true)))) : Option (Bool))).bind fun x_28 =>
  if x_28 = true then
  some (.inr (.inr false))
  else
  some (.inl (w64 (x_1 + 1)))
  else
  some (.inr (.inl ()))
def f9 (relations : (List Relation)) (rewriting : (List RewritingStep)) : Option Bool :=
 (iter (f9_0 relations rewriting) 0).bind fun o => match o with
 | .inl _ =>
 some true
 | .inr x_38 =>
 some x_38
def f157 (x : Int) (y : Int) : Option (Int × Int) :=
 some (IntKind.u64.wrap ((IntKind.u64.wrap ((IntKind.u64.wrap ((sshr .u64 x 32) * (sshr .u64 y 32))) + (sshr .u64 (IntKind.u64.wrap ((IntKind.u64.wrap ((sshr .u64 x 32) * (band .u64 y 4294967295))) + (sshr .u64 (IntKind.u64.wrap ((band .u64 x 4294967295) * (band .u64 y 4294967295))) 32))) 32))) + (sshr .u64 (IntKind.u64.wrap ((band .u64 (IntKind.u64.wrap ((IntKind.u64.wrap ((sshr .u64 x 32) * (band .u64 y 4294967295))) + (sshr .u64 (IntKind.u64.wrap ((band .u64 x 4294967295) * (band .u64 y 4294967295))) 32))) 4294967295) + (IntKind.u64.wrap ((band .u64 x 4294967295) * (sshr .u64 y 32))))) 32)), IntKind.u64.wrap (x * y))
def f115 (x : Int) (y : Int) : Option (Int × Int) :=
 (f157 x y).bind fun o1 =>
 some (o1.1, o1.2)
def f70_0 : (List Int) × Int → Option (((List Int) × Int) ⊕ (List Int))
 | (newslice_14, n_15) =>
  if n_15 < (newslice_14.length : Int) then
  (cutL newslice_14 0 n_15).bind fun z_17 =>
  some (.inl ((csL newslice_14 n_15.toNat), w64 (n_15 + (min n_15 ((newslice_14.length : Int) - n_15)))))
  else
  some (.inr newslice_14)
def f70 (x : (List Int)) (count : Int) : Option (List Int) :=
 (((if count < 0 then
 none
 else
 some ()) : Option Unit)).bind fun _ =>
 (f115 (IntKind.u64.wrap (x.length : Int)) (IntKind.u64.wrap count)).bind fun o4 =>
 (((if o4.1 > 0 then
 some true
 else
 some (decide (o4.2 > 9223372036854775807))) : Option (Bool))).bind fun x_6 =>
 (((if x_6 = true then
 none
 else
 some ()) : Option Unit)).bind fun _ =>
 (mkl 8 (w64 o4.2) 0).bind fun l_12 =>
 (iter f70_0 ((cpL l_12 x), ((min x.length l_12.length : Nat) : Int))).bind fun newslice_21 =>
 some newslice_21
def f25 (n0 : Int) : Option (List Int) :=
 (f70 ([-1]) n0).bind fun o1 =>
 some o1
def f119_0 (s1 : (List Int)) (s2 : (List Int)) : Int → Option (Int ⊕ (Unit ⊕ Bool))
 | x_2 =>
  if x_2 < (s1.length : Int) then
  (ix s1 x_2).bind fun v_4 =>
  (ix s2 x_2).bind fun v_6 =>
  if v_4 ≠ v_6 then
  some (.inr (.inr false))
  else
  some (.inl (w64 (x_2 + 1)))
  else
  some (.inr (.inl ()))
def f119 (s1 : (List Int)) (s2 : (List Int)) : Option Bool :=
 if (s1.length : Int) ≠ (s2.length : Int) then
 some false
 else
 (iter (f119_0 s1 s2) 0).bind fun o => match o with
 | .inl _ =>
 some true
 | .inr x_11 =>
 some x_11
def f72 (relations : (List Relation)) (a : Fact) (b : Fact) : Option Bool :=
 if a.Relation ≠ b.Relation then
 some false
 else
 (ix relations a.Relation).bind fun v_2 =>
 (cutL a.Values 0 v_2.KeyLength).bind fun l_4 =>
 (cutL b.Values 0 v_2.KeyLength).bind fun l_6 =>
 (f119 l_4 l_6).bind fun o8 =>
 some o8
def f27_0 (db : Database) : (List (List Int)) × Int → Option (((List (List Int)) × Int) ⊕ (List (List Int)))
 | (out_1, x_2) =>
  if x_2 < (db.Facts.length : Int) then
  (ix db.Facts x_2).bind fun v_4 =>
  (((if (w64 ((out_1.length : Int) - 1)) ≥ 0 then
  (ix out_1 (w64 ((out_1.length : Int) - 1))).bind fun v_9 =>
  (ix v_9 0).bind fun v_11 =>
  (ix db.Facts v_11).bind fun v_13 =>
  (f72 db.Relations v_13 v_4).bind fun o15 =>
  some o15
  else
  some false) : Option (Bool))).bind fun x_6 =>
  (((if x_6 = true then
  (ix out_1 (w64 ((out_1.length : Int) - 1))).bind fun v_20 =>
  (app 8 v_20 ([x_2])).bind fun l_22 =>
  some (out_1.set (w64 ((out_1.length : Int) - 1)).toNat l_22)
  else
  (app 24 out_1 ([[x_2]])).bind fun l_25 =>
  some l_25) : Option (List (List Int)))).bind fun out_27 =>
  some (.inl (out_27, w64 (x_2 + 1)))
  else
  some (.inr out_1)
def f27 (db : Database) : Option (List (List Int)) :=
 (iter (f27_0 db) ([], 0)).bind fun out_30 =>
 some out_30
def f116 (s0 : (List Int)) : Option (List Int) :=
 (app 8 ([]) s0).bind fun l_1 =>
 some l_1
def f117 (t : Int) : Option Bool :=
 some (decide (t ≥ 0))
def f118 (v : Int) : Option Int :=
 some (w64 ((-1) - v))
def f71_0 (terms : (List Int)) (from2 : (List Int)) : (List Int) × Int → Option (((List Int) × Int) ⊕ ((List Int) ⊕ ((List Int) × Bool)))
 | (out_3, x_4) =>
  if x_4 < (terms.length : Int) then
  (ix terms x_4).bind fun v_6 =>
  (f117 v_6).bind fun o8 =>
  (((if ¬ (o8 = true) then
  (ix from2 x_4).bind fun v_13 =>
  (f118 v_6).bind fun o15 =>
  if o15 ≠ v_13 then
  some (.inr ([], false))
  else
  some (.inl out_3)
  else
  (ix out_3 v_6).bind fun v_18 =>
  (((if v_18 < 0 then
  (ix from2 x_4).bind fun v_23 =>
  some (.inl (out_3.set v_6.toNat v_23))
  else
  (ix from2 x_4).bind fun v_26 =>
  if v_18 ≠ v_26 then
  some (.inr ([], false))
  else
  some (.inl out_3)) : Option ((List Int) ⊕ ((List Int) × Bool)))).bind fun o => match o with
  | .inl out_29 =>
  some (.inl out_29)
  | .inr (x_30, x_31) =>
  some (.inr (x_30, x_31))) : Option ((List Int) ⊕ ((List Int) × Bool)))).bind fun o => match o with
  | .inl out_32 =>
  some (.inl (out_32, w64 (x_4 + 1)))
  | .inr (x_33, x_34) =>
  some (.inr (.inr (x_33, x_34)))
  else
  some (.inr (.inl out_3))
def f71 (values : (List Int)) (terms : (List Int)) (from2 : (List Int)) : Option ((List Int) × Bool) :=
 (f116 values).bind fun o1 =>
 (iter (f71_0 terms from2) (o1, 0)).bind fun o => match o with
 | .inl out_37 =>
 some (out_37, true)
 | .inr (x_38, x_39) =>
 some (x_38, x_39)
def f26_1 (db : Database) (list : (List (List Int))) (rewriting : (List RewritingStep)) (rec : Database → (List (List Int)) → (List RewritingStep) → (List Int) → Option Bool) (v_2 : RewritingStep) (v_10 : (List Int)) (o21 : ((List Int) × Bool)) : Bool × Int → Option ((Bool × Int) ⊕ Bool)
 | (ok_23, i_24) =>
  (((if i_24 < (v_10.length : Int) then
  some ok_23
  else
  some false) : Option (Bool))).bind fun x_25 =>
  if x_25 = true then
  (ix v_10 i_24).bind fun v_29 =>
  (ix db.Facts v_29).bind fun v_31 =>
  (f71 o21.1 v_2.Atom.Terms v_31.Values).bind fun o33 =>
  (((if o33.2 = true then
  (cutL rewriting 1 rewriting.length).bind fun l_38 =>
  (rec db list l_38 o33.1).bind fun o40 =>
  some o40
  else
  some false) : Option (Bool))).bind fun ok_35 =>
  some (.inl (ok_35, w64 (i_24 + 1)))
  else
  some (.inr ok_23)
def f26_0 (db : Database) (list : (List (List Int))) (rewriting : (List RewritingStep)) (values : (List Int)) (rec : Database → (List (List Int)) → (List RewritingStep) → (List Int) → Option Bool) (v_2 : RewritingStep) (v_4 : Relation) : Int → Option (Int ⊕ (Unit ⊕ Bool))
 | x_6 =>
  if x_6 < (list.length : Int) then
  ((((ix list x_6).bind fun v_10 =>
  (ix v_10 0).bind fun v_12 =>
  (ix db.Facts v_12).bind fun v_14 =>
  if v_14.Relation ≠ v_2.Atom.Relation then
  some (.inl ())
  else
  (cutL v_2.Atom.Terms 0 v_4.KeyLength).bind fun l_17 =>
  (cutL v_14.Values 0 v_4.KeyLength).bind fun l_19 =>
  (f71 values l_17 l_19).bind fun o21 =>
  (iter ((f26_1 db list rewriting rec v_2 v_10 o21)) (o21.2, 0)).bind fun ok_44 =>
  if ok_44 = true then
  some (.inr true)
  else
  some (.inl ())) : Option (Unit ⊕ Bool))).bind fun o => match o with
  | .inl _ =>
  some (.inl (w64 (x_6 + 1)))
  | .inr x_46 =>
  some (.inr (.inr x_46))
  else
  some (.inr (.inl ()))
def f26 : Nat → Database → (List (List Int)) → (List RewritingStep) → (List Int) → Option Bool
 | 0 => fun _ _ _ _ => none
 | n + 1 => fun db list rewriting values =>
  if (rewriting.length : Int) = 0 then
  some true
  else
  (ix rewriting 0).bind fun v_2 =>
  (ix db.Relations v_2.Atom.Relation).bind fun v_4 =>
  (iter (f26_0 db list rewriting values (f26 n) v_2 v_4) 0).bind fun o => match o with
  | .inl _ =>
  some false
  | .inr x_49 =>
  some x_49
def f7 (db : Database) (rewriting : (List RewritingStep)) (values : (List Int)) : Option Bool :=
 (f24 db).bind fun o1 =>
 (((if ¬ (o1 = true) then
 some true
 else
 (f9 db.Relations rewriting).bind fun o6 =>
 (((if ¬ (o6 = true) then
 some true
 else
 some (decide ((values.length : Int) > 4))) : Option (Bool))).bind fun x_8 =>
 some x_8) : Option (Bool))).bind fun x_3 =>
 if x_3 = true then
 some false
 else
 (f25 4).bind fun o12 =>
 (nel o12).bind fun z_14 =>
 (f27 db).bind fun o16 =>
 (f26 64 db o16 rewriting (cpL o12 values)).bind fun o18 =>
 some o18
def f10_1 (v_3 : RewritingStep) : Int → Option (Int ⊕ (Unit ⊕ Bool))
 | k_18 =>
  if k_18 < (v_3.Atom.Terms.length : Int) then
  (ix v_3.Atom.Terms k_18).bind fun v_20 =>
  (f38 v_20 (-10) 3).bind fun o22 =>
  if ¬ (o22 = true) then
  some (.inr (.inr false))
  else
  some (.inl (w64 (k_18 + 1)))
  else
  some (.inr (.inl ()))
def f10_0 (l : (List Relation)) (f : (List RewritingStep)) : Int → Option (Int ⊕ (Unit ⊕ Bool))
 | i_1 =>
  if i_1 < (f.length : Int) then
  (ix f i_1).bind fun v_3 =>
  (f37 l).bind fun o5 =>
  (((if ¬ (o5 = true) then
  some true
  else
  (f38 v_3.Atom.Relation 0 (w64 ((l.length : Int) - 1))).bind fun o10 =>
  (((if ¬ (o10 = true) then
  some true
  else
  (ix l v_3.Atom.Relation).bind fun v_15 =>
  some (decide ((v_3.Atom.Terms.length : Int) ≠ v_15.Arity))) : Option (Bool))).bind fun x_12 =>
  some x_12) : Option (Bool))).bind fun x_7 =>
  if x_7 = true then
  some (.inr (.inr false))
  else
  (iter ((f10_1 v_3)) 0).bind fun o => match o with
  | .inl _ =>
  (f40 l v_3.Atom).bind fun o28 =>
  (f39 o28 v_3.Existential).bind fun o30 =>
  (((if ¬ (o30 = true) then
  some true
  else
  (f41 v_3.Atom).bind fun o35 =>
  (f39 o35 v_3.Universal).bind fun o37 =>
  some (decide (¬ (o37 = true)))) : Option (Bool))).bind fun x_32 =>
  if x_32 = true then
  some (.inr (.inr false))
  else
  some (.inl (w64 (i_1 + 1)))
  | .inr x_27 =>
  some (.inr (.inr x_27))
  else
  some (.inr (.inl ()))
def f10 (l : (List Relation)) (f : (List RewritingStep)) : Option Bool :=
 (iter (f10_0 l f) 0).bind fun o => match o with
 | .inl _ =>
 some (decide ((f.length : Int) ≤ 3))
 | .inr x_42 =>
 some x_42
def f28_0 (n0 : Int) : (List Int) → Option ((List Int) ⊕ (List Int))
 | l_1 =>
  if (l_1.length : Int) < n0 then
  (app 8 l_1 ([-1])).bind fun l_3 =>
  some (.inl l_3)
  else
  some (.inr l_1)
def f28 (n0 : Int) : Option (List Int) :=
 (iter (f28_0 n0) ([])).bind fun l_7 =>
 some l_7
def f174 (l : (List Relation)) (f : Fact) : Option (List Int) :=
 (f42 l f).bind fun o1 =>
 if ¬ (o1 = true) then
 some ([])
 else
 (ix l f.Relation).bind fun v_4 =>
 (cutL f.Values 0 v_4.KeyLength).bind fun l_6 =>
 (app 8 ([]) l_6).bind fun l_8 =>
 some l_8
def f140 (l : (List Relation)) (a : Fact) (b : Fact) : Option Bool :=
 (f42 l a).bind fun o1 =>
 (((if o1 = true then
 (f42 l b).bind fun o6 =>
 (((if o6 = true then
 (((if a.Relation = b.Relation then
 (f174 l a).bind fun o14 =>
 (f174 l b).bind fun o16 =>
 (f81 o14 o16).bind fun o18 =>
 some (decide (o18 = 0))
 else
 some false) : Option (Bool))).bind fun x_11 =>
 some x_11
 else
 some false) : Option (Bool))).bind fun x_8 =>
 some x_8
 else
 some false) : Option (Bool))).bind fun x_3 =>
 some x_3
def f97_0 (d : Database) (i : Int) : (List Int) × Int → Option (((List Int) × Int) ⊕ (List Int))
 | (out_1, k_2) =>
  (((if k_2 < (d.Facts.length : Int) then
  (f11 d).bind fun o6 =>
  (((if o6 = true then
  (f38 i 0 (w64 ((d.Facts.length : Int) - 1))).bind fun o11 =>
  some o11
  else
  some false) : Option (Bool))).bind fun x_8 =>
  some x_8
  else
  some false) : Option (Bool))).bind fun x_3 =>
  if x_3 = true then
  (ix d.Facts i).bind fun v_14 =>
  (ix d.Facts k_2).bind fun v_16 =>
  (f140 d.Relations v_14 v_16).bind fun o18 =>
  (((if o18 = true then
  (app 8 out_1 ([k_2])).bind fun l_23 =>
  some l_23
  else
  some out_1) : Option (List Int))).bind fun out_25 =>
  some (.inl (out_25, w64 (k_2 + 1)))
  else
  some (.inr out_1)
def f97 (d : Database) (i : Int) : Option (List Int) :=
 (iter (f97_0 d i) ([], 0)).bind fun out_28 =>
 some out_28
def f58_0 (d : Database) : (List (List Int)) × Int → Option (((List (List Int)) × Int) ⊕ (List (List Int)))
 | (out_1, i_2) =>
  (((if i_2 < (d.Facts.length : Int) then
  (f11 d).bind fun o6 =>
  some o6
  else
  some false) : Option (Bool))).bind fun x_3 =>
  if x_3 = true then
  (f97 d i_2).bind fun o9 =>
  (ix o9 0).bind fun v_11 =>
  (((if v_11 = i_2 then
  (app 24 out_1 ([o9])).bind fun l_16 =>
  some l_16
  else
  some out_1) : Option (List (List Int)))).bind fun out_18 =>
  some (.inl (out_18, w64 (i_2 + 1)))
  else
  some (.inr out_1)
def f58 (d : Database) : Option (List (List Int)) :=
 (iter (f58_0 d) ([], 0)).bind fun out_21 =>
 some out_21
def f73_0 (a : Atom) (f : Fact) : (List Int) × Int → Option (((List Int) × Int) ⊕ ((List Int) ⊕ ((List Int) × Bool)))
 | (x_7, i_8) =>
  if i_8 < (a.Terms.length : Int) then
  ((((ix a.Terms i_8).bind fun v_12 =>
  if v_12 < 0 then
  (ix f.Values i_8).bind fun v_15 =>
  if (w64 ((-1) - v_12)) ≠ v_15 then
  some (.inr (x_7, false))
  else
  some (.inl x_7)
  else
  (ix x_7 v_12).bind fun v_18 =>
  (((if v_18 ≥ 0 then
  (ix f.Values i_8).bind fun v_23 =>
  some (decide (v_18 ≠ v_23))
  else
  some false) : Option (Bool))).bind fun x_20 =>
  if x_20 = true then
  some (.inr (x_7, false))
  else
  (ix f.Values i_8).bind fun v_26 =>
  some (.inl (x_7.set v_12.toNat v_26))) : Option ((List Int) ⊕ ((List Int) × Bool)))).bind fun o => match o with
  | .inl x_29 =>
  some (.inl (x_29, w64 (i_8 + 1)))
  | .inr (x_30, x_31) =>
  some (.inr (.inr (x_30, x_31)))
  else
  some (.inr (.inl x_7))
def f73 (a : Atom) (f : Fact) (vals : (List Int)) : Option ((List Int) × Bool) :=
 (app 8 ([]) vals).bind fun l_1 =>
 (((if f.Relation ≠ a.Relation then
 some true
 else
 some (decide ((f.Values.length : Int) ≠ (a.Terms.length : Int)))) : Option (Bool))).bind fun x_3 =>
 if x_3 = true then
 some (l_1, false)
 else
 (iter (f73_0 a f) (l_1, 0)).bind fun o => match o with
 | .inl x_34 =>
 some (x_34, true)
 | .inr (x_35, x_36) =>
 some (x_35, x_36)
def f29_1 (d : Database) (f : (List RewritingStep)) (n2 : Int) (rec : Database → (List RewritingStep) → Int → (List Int) → Option Bool) (v_2 : RewritingStep) (o6 : (List (List Int))) (i_8 : Int) (o23 : ((List Int) × Bool)) : Bool × Int → Option ((Bool × Int) ⊕ Bool)
 | (is_25, k_26) =>
  (ix o6 i_8).bind fun v_27 =>
  (((if k_26 < (v_27.length : Int) then
  some is_25
  else
  some false) : Option (Bool))).bind fun x_29 =>
  if x_29 = true then
  (ix v_27 k_26).bind fun v_33 =>
  (ix d.Facts v_33).bind fun v_35 =>
  (f73 v_2.Atom v_35 o23.1).bind fun o37 =>
  (((if o37.2 = true then
  (rec d f (w64 (n2 + 1)) o37.1).bind fun o42 =>
  some o42
  else
  some false) : Option (Bool))).bind fun is_39 =>
  some (.inl (is_39, w64 (k_26 + 1)))
  else
  some (.inr is_25)
def f29_0 (d : Database) (f : (List RewritingStep)) (n2 : Int) (vals : (List Int)) (rec : Database → (List RewritingStep) → Int → (List Int) → Option Bool) (v_2 : RewritingStep) (v_4 : Relation) (o6 : (List (List Int))) : Int → Option (Int ⊕ (Unit ⊕ Bool))
 | i_8 =>
  if i_8 < (o6.length : Int) then
  ((((ix o6 i_8).bind fun v_12 =>
  (ix v_12 0).bind fun v_14 =>
  (ix d.Facts v_14).bind fun v_16 =>
  if v_16.Relation ≠ v_2.Atom.Relation then
  some (.inl ())
  else
  (cutL v_2.Atom.Terms 0 v_4.KeyLength).bind fun l_19 =>
  (cutL v_16.Values 0 v_4.KeyLength).bind fun l_21 =>
  (f73 ({ Relation := v_2.Atom.Relation, Terms := l_19 } : Atom) ({ Relation := v_2.Atom.Relation, Values := l_21 } : Fact) vals).bind fun o23 =>
  (iter ((f29_1 d f n2 rec v_2 o6 i_8 o23)) (o23.2, 0)).bind fun is_46 =>
  if is_46 = true then
  some (.inr true)
  else
  some (.inl ())) : Option (Unit ⊕ Bool))).bind fun o => match o with
  | .inl _ =>
  some (.inl (w64 (i_8 + 1)))
  | .inr x_48 =>
  some (.inr (.inr x_48))
  else
  some (.inr (.inl ()))
def f29 : Nat → Database → (List RewritingStep) → Int → (List Int) → Option Bool
 | 0 => fun _ _ _ _ => none
 | n + 1 => fun d f n2 vals =>
  if n2 = (f.length : Int) then
  some true
  else
  (ix f n2).bind fun v_2 =>
  (ix d.Relations v_2.Atom.Relation).bind fun v_4 =>
  (f58 d).bind fun o6 =>
  (iter (f29_0 d f n2 vals (f29 n) v_2 v_4 o6) 0).bind fun o => match o with
  | .inl _ =>
  some false
  | .inr x_51 =>
  some x_51
def f8_0 (vals : (List Int)) : (List Int) × Int → Option (((List Int) × Int) ⊕ (List Int))
 | (x_14, i_15) =>
  if i_15 < (vals.length : Int) then
  (ix vals i_15).bind fun v_17 =>
  (ix x_14 i_15).bind fun v_19 =>
  some (.inl ((x_14.set i_15.toNat (if v_17 > -1 then v_17 else -1)), w64 (i_15 + 1)))
  else
  some (.inr x_14)
def f8 (d : Database) (f : (List RewritingStep)) (vals : (List Int)) : Option Bool :=
 (f11 d).bind fun o1 =>
 (((if ¬ (o1 = true) then
 some true
 else
 (f10 d.Relations f).bind fun o6 =>
 (((if ¬ (o6 = true) then
 some true
 else
 some (decide ((vals.length : Int) > 4))) : Option (Bool))).bind fun x_8 =>
 some x_8) : Option (Bool))).bind fun x_3 =>
 if x_3 = true then
 some false
 else
 (f28 4).bind fun o12 =>
 (iter ((f8_0 vals)) (o12, 0)).bind fun x_24 =>
 (f29 64 d f 0 x_24).bind fun o25 =>
 some o25
def f3 (code : (List Int)) : Option Bool :=
 (f5 code).bind fun o1 =>
 if o1 = true then
 some true
 else
 (f6 code).bind fun o4 =>
 (f7 o4.1 o4.2.1 o4.2.2).bind fun o6 =>
 (f8 o4.1 o4.2.1 o4.2.2).bind fun o8 =>
 (((if (o6 != o8) = true then
 some true
 else
 (f9 o4.1.Relations o4.2.1).bind fun o13 =>
 (f10 o4.1.Relations o4.2.1).bind fun o15 =>
 some (o13 != o15)) : Option (Bool))).bind fun x_10 =>
 if x_10 = true then
 some false
 else
 (f7 o4.1 ([]) ([])).bind fun o18 =>
 (f11 o4.1).bind fun o20 =>
 (((if (o18 == o20) = true then
 (((if ¬ (o6 = true) then
 some true
 else
 (f11 o4.1).bind fun o28 =>
 some o28) : Option (Bool))).bind fun x_25 =>
 some x_25
 else
 some false) : Option (Bool))).bind fun x_22 =>
 some x_22
end
end Go.Proofs.YtamibblcpccjlaaGreatH
