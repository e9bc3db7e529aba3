import Derived.Test.YtamibblcpccjlaaGreatX4
set_option linter.unusedVariables false
set_option linter.unusedSimpArgs false
set_option linter.defProp false
set_option linter.unusedSectionVars false
set_option maxRecDepth 100000
namespace Go.Proofs.YtamibblcpccjlaaGreatH
open Go
noncomputable section
structure Relation where
 Name : (List UInt8)
 Arity : Int
 KeyLength : Int
 deriving DecidableEq, Inhabited
def eRelation : En Relation := ⟨3, fun _ a => [(.str a.Name), (.int .i64 a.Arity), (.int .i64 a.KeyLength)], fun b a => by cases b <;> rfl, by decide, fun b a => by cases b <;> simp [T.frz], fun a => by simp, fun a => by simp, fun b a => by cases b <;> simp⟩
@[simp] theorem eRelation_w : eRelation.w = 3 := rfl
@[simp] theorem eRelation_ct {a : Relation} : eRelation.c true a = [(.str a.Name), (.int .i64 a.Arity), (.int .i64 a.KeyLength)] := rfl
@[simp] theorem eRelation_cf {a : Relation} : eRelation.c false a = [(.str a.Name), (.int .i64 a.Arity), (.int .i64 a.KeyLength)] := rfl
@[simp] theorem arrRelation_len {b : Bool} {l : List Relation} : (arr eRelation b l).length = l.length * 3 := arr_len
@[simp] theorem eRelation_e (a : Relation) : Relation.mk a.Name a.Arity a.KeyLength = a := rfl
@[simp] def q0Relation {b l i o} := @arr_get2 _ eRelation b l i o 3 rfl
@[simp] def q1Relation {b l i} := @arr_get20 _ eRelation b l i 3 rfl
@[simp] def q2Relation {b l o} := @arr_get0 _ eRelation b l o 3 rfl
@[simp] def q3Relation {b l} := @arr_take0 _ eRelation b l 3 rfl
@[simp] def q4Relation {b l i o} := @arr_part _ eRelation b l i o 3 rfl
@[simp] def q5Relation {b l i o j} := @arr_part2 _ eRelation b l i o 3 j rfl
@[simp] def q6Relation {b l} := @arr_at2 _ eRelation b l 3 rfl
@[simp] def q7Relation {b l} := @arr_take2 _ eRelation b l 3 rfl
@[simp] def q8Relation {b l l' bs y} := @appT_w _ eRelation b l l' bs y 3 rfl
@[simp] def q10Relation {z0 z1 z2 n} := @rep_w _ eRelation true n ⟨z0, z1, z2⟩ [(.str z0), (.int .i64 z1), (.int .i64 z2)] rfl
@[simp] def q71Relation {b l} := @arr_tl _ eRelation b l 3 rfl
@[simp] def q70Relation {b l i} := @arr_tk _ eRelation b l i 3 rfl
@[simp] theorem q40Relation {b : Bool} {l' : List Relation} {bs : Nat} {y : Bool} (hb : bs ≠ 0) : appT 3 bs (.sl true y 3 0 []) (arr eRelation b l') = (app bs [] l').map fun v => .sl true y 3 0 (arr eRelation true v) := appT_w0 (E := eRelation) (b := b) rfl hb
@[simp] theorem q50Relation {l : List Relation} {i : Nat} {z : (List UInt8)} (h : i < l.length) : layT (arr eRelation true l) (i * 3) 1 [(.str z)] = arr eRelation true (l.set i ⟨z, (l[i]?.getD default).Arity, (l[i]?.getD default).KeyLength⟩) := by rw [List.getElem?_eq_getElem h]; exact lay_cell (E := eRelation) (b := true) (i := i) (o := 0) ⟨z, l[i].Arity, l[i].KeyLength⟩ (List.getElem?_eq_getElem h) (by decide) rfl
@[simp] theorem q60Relation {l : List Relation} {i : Nat} {z : (List UInt8)} (h : i < l.length) : (arr eRelation true l).set (i * 3) (.str z) = arr eRelation true (l.set i ⟨z, (l[i]?.getD default).Arity, (l[i]?.getD default).KeyLength⟩) := by rw [List.getElem?_eq_getElem h]; exact set_cell (E := eRelation) (b := true) (i := i) (o := 0) ⟨z, l[i].Arity, l[i].KeyLength⟩ (List.getElem?_eq_getElem h) (by decide) rfl
@[simp] theorem q51Relation {l : List Relation} {i : Nat} {z : Int} (h : i < l.length) : layT (arr eRelation true l) (i * 3 + 1) 1 [(.int .i64 z)] = arr eRelation true (l.set i ⟨(l[i]?.getD default).Name, z, (l[i]?.getD default).KeyLength⟩) := by rw [List.getElem?_eq_getElem h]; exact lay_cell (E := eRelation) (b := true) (i := i) (o := 1) ⟨l[i].Name, z, l[i].KeyLength⟩ (List.getElem?_eq_getElem h) (by decide) rfl
@[simp] theorem q61Relation {l : List Relation} {i : Nat} {z : Int} (h : i < l.length) : (arr eRelation true l).set (i * 3 + 1) (.int .i64 z) = arr eRelation true (l.set i ⟨(l[i]?.getD default).Name, z, (l[i]?.getD default).KeyLength⟩) := by rw [List.getElem?_eq_getElem h]; exact set_cell (E := eRelation) (b := true) (i := i) (o := 1) ⟨l[i].Name, z, l[i].KeyLength⟩ (List.getElem?_eq_getElem h) (by decide) rfl
@[simp] theorem q52Relation {l : List Relation} {i : Nat} {z : Int} (h : i < l.length) : layT (arr eRelation true l) (i * 3 + 2) 1 [(.int .i64 z)] = arr eRelation true (l.set i ⟨(l[i]?.getD default).Name, (l[i]?.getD default).Arity, z⟩) := by rw [List.getElem?_eq_getElem h]; exact lay_cell (E := eRelation) (b := true) (i := i) (o := 2) ⟨l[i].Name, l[i].Arity, z⟩ (List.getElem?_eq_getElem h) (by decide) rfl
@[simp] theorem q62Relation {l : List Relation} {i : Nat} {z : Int} (h : i < l.length) : (arr eRelation true l).set (i * 3 + 2) (.int .i64 z) = arr eRelation true (l.set i ⟨(l[i]?.getD default).Name, (l[i]?.getD default).Arity, z⟩) := by rw [List.getElem?_eq_getElem h]; exact set_cell (E := eRelation) (b := true) (i := i) (o := 2) ⟨l[i].Name, l[i].Arity, z⟩ (List.getElem?_eq_getElem h) (by decide) rfl
@[simp] def q20Relation {b z0 z1 z2 l bs y} := @appT_1w _ eRelation b l bs y 3 rfl ⟨z0, z1, z2⟩ [(.str z0), (.int .i64 z1), (.int .i64 z2)] rfl
@[simp] def q23Relation {b z0 z1 z2 l' bs y} := @appT_11 _ eRelation b l' bs y 3 rfl ⟨z0, z1, z2⟩ [(.str z0), (.int .i64 z1), (.int .i64 z2)] rfl
@[simp] def q22Relation {b z0 z1 z2 bs y} := @appT_10 _ eRelation b bs y 3 rfl ⟨z0, z1, z2⟩ [(.str z0), (.int .i64 z1), (.int .i64 z2)] rfl
@[simp] def q21Relation {b z0 z1 z2 l i} := @lay_w _ eRelation b l i 3 rfl ⟨z0, z1, z2⟩ [(.str z0), (.int .i64 z1), (.int .i64 z2)] rfl
structure Fact where
 Relation : Int
 Values : (List Int)
 deriving DecidableEq, Inhabited
def eFact : En Fact := ⟨2, fun b a => if b then [(.int .i64 a.Relation), (osl eI true a.Values)] else [(.int .i64 a.Relation), (ssl eI a.Values)], fun b a => by cases b <;> rfl, by decide, fun b a => by cases b <;> simp [T.frz], fun a => by simp, fun a => by simp, fun b a => by cases b <;> simp⟩
@[simp] theorem eFact_w : eFact.w = 2 := rfl
@[simp] theorem eFact_ct {a : Fact} : eFact.c true a = [(.int .i64 a.Relation), (osl eI true a.Values)] := rfl
@[simp] theorem eFact_cf {a : Fact} : eFact.c false a = [(.int .i64 a.Relation), (ssl eI a.Values)] := rfl
@[simp] theorem arrFact_len {b : Bool} {l : List Fact} : (arr eFact b l).length = l.length * 2 := arr_len
@[simp] theorem eFact_e (a : Fact) : Fact.mk a.Relation a.Values = a := rfl
@[simp] def q0Fact {b l i o} := @arr_get2 _ eFact b l i o 2 rfl
@[simp] def q1Fact {b l i} := @arr_get20 _ eFact b l i 2 rfl
@[simp] def q2Fact {b l o} := @arr_get0 _ eFact b l o 2 rfl
@[simp] def q3Fact {b l} := @arr_take0 _ eFact b l 2 rfl
@[simp] def q4Fact {b l i o} := @arr_part _ eFact b l i o 2 rfl
@[simp] def q5Fact {b l i o j} := @arr_part2 _ eFact b l i o 2 j rfl
@[simp] def q6Fact {b l} := @arr_at2 _ eFact b l 2 rfl
@[simp] def q7Fact {b l} := @arr_take2 _ eFact b l 2 rfl
@[simp] def q8Fact {b l l' bs y} := @appT_w _ eFact b l l' bs y 2 rfl
@[simp] def q10Fact {z0 z1 n} := @rep_w _ eFact true n ⟨z0, z1⟩ [(.int .i64 z0), (.sl true true 1 0 (arr eI true z1))] rfl
@[simp] def q71Fact {b l} := @arr_tl _ eFact b l 2 rfl
@[simp] def q70Fact {b l i} := @arr_tk _ eFact b l i 2 rfl
@[simp] def q40Fact {b l' bs y} := @appT_w0 _ eFact b l' bs y 2 rfl
@[simp] theorem q50Fact {l : List Fact} {i : Nat} {z : Int} (h : i < l.length) : layT (arr eFact true l) (i * 2) 1 [(.int .i64 z)] = arr eFact true (l.set i ⟨z, (l[i]?.getD default).Values⟩) := by rw [List.getElem?_eq_getElem h]; exact lay_cell (E := eFact) (b := true) (i := i) (o := 0) ⟨z, l[i].Values⟩ (List.getElem?_eq_getElem h) (by decide) rfl
@[simp] theorem q60Fact {l : List Fact} {i : Nat} {z : Int} (h : i < l.length) : (arr eFact true l).set (i * 2) (.int .i64 z) = arr eFact true (l.set i ⟨z, (l[i]?.getD default).Values⟩) := by rw [List.getElem?_eq_getElem h]; exact set_cell (E := eFact) (b := true) (i := i) (o := 0) ⟨z, l[i].Values⟩ (List.getElem?_eq_getElem h) (by decide) rfl
@[simp] theorem q51Fact {l : List Fact} {i : Nat} {z : (List Int)} (h : i < l.length) : layT (arr eFact true l) (i * 2 + 1) 1 [(.sl true true 1 0 (arr eI true z))] = arr eFact true (l.set i ⟨(l[i]?.getD default).Relation, z⟩) := by rw [List.getElem?_eq_getElem h]; exact lay_cell (E := eFact) (b := true) (i := i) (o := 1) ⟨l[i].Relation, z⟩ (List.getElem?_eq_getElem h) (by decide) rfl
@[simp] theorem q61Fact {l : List Fact} {i : Nat} {z : (List Int)} (h : i < l.length) : (arr eFact true l).set (i * 2 + 1) (.sl true true 1 0 (arr eI true z)) = arr eFact true (l.set i ⟨(l[i]?.getD default).Relation, z⟩) := by rw [List.getElem?_eq_getElem h]; exact set_cell (E := eFact) (b := true) (i := i) (o := 1) ⟨l[i].Relation, z⟩ (List.getElem?_eq_getElem h) (by decide) rfl
@[simp] def q20Fact {z0 z1 l bs y} := @appT_1w _ eFact true l bs y 2 rfl ⟨z0, z1⟩ [(.int .i64 z0), (.sl true true 1 0 (arr eI true z1))] rfl
@[simp] def q23Fact {z0 z1 l' bs y} := @appT_11 _ eFact true l' bs y 2 rfl ⟨z0, z1⟩ [(.int .i64 z0), (.sl true true 1 0 (arr eI true z1))] rfl
@[simp] def q22Fact {z0 z1 bs y} := @appT_10 _ eFact true bs y 2 rfl ⟨z0, z1⟩ [(.int .i64 z0), (.sl true true 1 0 (arr eI true z1))] rfl
@[simp] def q21Fact {z0 z1 l i} := @lay_w _ eFact true l i 2 rfl ⟨z0, z1⟩ [(.int .i64 z0), (.sl true true 1 0 (arr eI true z1))] rfl
@[simp] def q30Fact {z0 z1 l bs y} := @appT_1w _ eFact false l bs y 2 rfl ⟨z0, z1⟩ [(.int .i64 z0), (.sl false false 1 1 (arr eI false z1))] rfl
@[simp] def q33Fact {z0 z1 l' bs y} := @appT_11 _ eFact false l' bs y 2 rfl ⟨z0, z1⟩ [(.int .i64 z0), (.sl false false 1 1 (arr eI false z1))] rfl
@[simp] def q32Fact {z0 z1 bs y} := @appT_10 _ eFact false bs y 2 rfl ⟨z0, z1⟩ [(.int .i64 z0), (.sl false false 1 1 (arr eI false z1))] rfl
@[simp] def q31Fact {z0 z1 l i} := @lay_w _ eFact false l i 2 rfl ⟨z0, z1⟩ [(.int .i64 z0), (.sl false false 1 1 (arr eI false z1))] rfl
structure Atom where
 Relation : Int
 Terms : (List Int)
 deriving DecidableEq, Inhabited
def eAtom : En Atom := ⟨2, fun b a => if b then [(.int .i64 a.Relation), (osl eI true a.Terms)] else [(.int .i64 a.Relation), (ssl eI a.Terms)], fun b a => by cases b <;> rfl, by decide, fun b a => by cases b <;> simp [T.frz], fun a => by simp, fun a => by simp, fun b a => by cases b <;> simp⟩
@[simp] theorem eAtom_w : eAtom.w = 2 := rfl
@[simp] theorem eAtom_ct {a : Atom} : eAtom.c true a = [(.int .i64 a.Relation), (osl eI true a.Terms)] := rfl
@[simp] theorem eAtom_cf {a : Atom} : eAtom.c false a = [(.int .i64 a.Relation), (ssl eI a.Terms)] := rfl
@[simp] theorem arrAtom_len {b : Bool} {l : List Atom} : (arr eAtom b l).length = l.length * 2 := arr_len
@[simp] theorem eAtom_e (a : Atom) : Atom.mk a.Relation a.Terms = a := rfl
@[simp] def q0Atom {b l i o} := @arr_get2 _ eAtom b l i o 2 rfl
@[simp] def q1Atom {b l i} := @arr_get20 _ eAtom b l i 2 rfl
@[simp] def q2Atom {b l o} := @arr_get0 _ eAtom b l o 2 rfl
@[simp] def q3Atom {b l} := @arr_take0 _ eAtom b l 2 rfl
@[simp] def q4Atom {b l i o} := @arr_part _ eAtom b l i o 2 rfl
@[simp] def q5Atom {b l i o j} := @arr_part2 _ eAtom b l i o 2 j rfl
@[simp] def q6Atom {b l} := @arr_at2 _ eAtom b l 2 rfl
@[simp] def q7Atom {b l} := @arr_take2 _ eAtom b l 2 rfl
@[simp] def q8Atom {b l l' bs y} := @appT_w _ eAtom b l l' bs y 2 rfl
@[simp] def q10Atom {z0 z1 n} := @rep_w _ eAtom true n ⟨z0, z1⟩ [(.int .i64 z0), (.sl true true 1 0 (arr eI true z1))] rfl
@[simp] def q71Atom {b l} := @arr_tl _ eAtom b l 2 rfl
@[simp] def q70Atom {b l i} := @arr_tk _ eAtom b l i 2 rfl
@[simp] def q40Atom {b l' bs y} := @appT_w0 _ eAtom b l' bs y 2 rfl
@[simp] theorem q50Atom {l : List Atom} {i : Nat} {z : Int} (h : i < l.length) : layT (arr eAtom true l) (i * 2) 1 [(.int .i64 z)] = arr eAtom true (l.set i ⟨z, (l[i]?.getD default).Terms⟩) := by rw [List.getElem?_eq_getElem h]; exact lay_cell (E := eAtom) (b := true) (i := i) (o := 0) ⟨z, l[i].Terms⟩ (List.getElem?_eq_getElem h) (by decide) rfl
@[simp] theorem q60Atom {l : List Atom} {i : Nat} {z : Int} (h : i < l.length) : (arr eAtom true l).set (i * 2) (.int .i64 z) = arr eAtom true (l.set i ⟨z, (l[i]?.getD default).Terms⟩) := by rw [List.getElem?_eq_getElem h]; exact set_cell (E := eAtom) (b := true) (i := i) (o := 0) ⟨z, l[i].Terms⟩ (List.getElem?_eq_getElem h) (by decide) rfl
@[simp] theorem q51Atom {l : List Atom} {i : Nat} {z : (List Int)} (h : i < l.length) : layT (arr eAtom true l) (i * 2 + 1) 1 [(.sl true true 1 0 (arr eI true z))] = arr eAtom true (l.set i ⟨(l[i]?.getD default).Relation, z⟩) := by rw [List.getElem?_eq_getElem h]; exact lay_cell (E := eAtom) (b := true) (i := i) (o := 1) ⟨l[i].Relation, z⟩ (List.getElem?_eq_getElem h) (by decide) rfl
@[simp] theorem q61Atom {l : List Atom} {i : Nat} {z : (List Int)} (h : i < l.length) : (arr eAtom true l).set (i * 2 + 1) (.sl true true 1 0 (arr eI true z)) = arr eAtom true (l.set i ⟨(l[i]?.getD default).Relation, z⟩) := by rw [List.getElem?_eq_getElem h]; exact set_cell (E := eAtom) (b := true) (i := i) (o := 1) ⟨l[i].Relation, z⟩ (List.getElem?_eq_getElem h) (by decide) rfl
@[simp] def q20Atom {z0 z1 l bs y} := @appT_1w _ eAtom true l bs y 2 rfl ⟨z0, z1⟩ [(.int .i64 z0), (.sl true true 1 0 (arr eI true z1))] rfl
@[simp] def q23Atom {z0 z1 l' bs y} := @appT_11 _ eAtom true l' bs y 2 rfl ⟨z0, z1⟩ [(.int .i64 z0), (.sl true true 1 0 (arr eI true z1))] rfl
@[simp] def q22Atom {z0 z1 bs y} := @appT_10 _ eAtom true bs y 2 rfl ⟨z0, z1⟩ [(.int .i64 z0), (.sl true true 1 0 (arr eI true z1))] rfl
@[simp] def q21Atom {z0 z1 l i} := @lay_w _ eAtom true l i 2 rfl ⟨z0, z1⟩ [(.int .i64 z0), (.sl true true 1 0 (arr eI true z1))] rfl
@[simp] def q30Atom {z0 z1 l bs y} := @appT_1w _ eAtom false l bs y 2 rfl ⟨z0, z1⟩ [(.int .i64 z0), (.sl false false 1 1 (arr eI false z1))] rfl
@[simp] def q33Atom {z0 z1 l' bs y} := @appT_11 _ eAtom false l' bs y 2 rfl ⟨z0, z1⟩ [(.int .i64 z0), (.sl false false 1 1 (arr eI false z1))] rfl
@[simp] def q32Atom {z0 z1 bs y} := @appT_10 _ eAtom false bs y 2 rfl ⟨z0, z1⟩ [(.int .i64 z0), (.sl false false 1 1 (arr eI false z1))] rfl
@[simp] def q31Atom {z0 z1 l i} := @lay_w _ eAtom false l i 2 rfl ⟨z0, z1⟩ [(.int .i64 z0), (.sl false false 1 1 (arr eI false z1))] rfl
structure L1Cur where
 b : (List Int)
 i : Int
 h : Int
 deriving DecidableEq, Inhabited
def eL1Cur : En L1Cur := ⟨3, fun b a => if b then [(osl eU true a.b), (.int .i64 a.i), (.int .i64 a.h)] else [(ssl eU a.b), (.int .i64 a.i), (.int .i64 a.h)], fun b a => by cases b <;> rfl, by decide, fun b a => by cases b <;> simp [T.frz], fun a => by simp, fun a => by simp, fun b a => by cases b <;> simp⟩
@[simp] theorem eL1Cur_w : eL1Cur.w = 3 := rfl
@[simp] theorem eL1Cur_ct {a : L1Cur} : eL1Cur.c true a = [(osl eU true a.b), (.int .i64 a.i), (.int .i64 a.h)] := rfl
@[simp] theorem eL1Cur_cf {a : L1Cur} : eL1Cur.c false a = [(ssl eU a.b), (.int .i64 a.i), (.int .i64 a.h)] := rfl
@[simp] theorem eL1Cur_e (a : L1Cur) : L1Cur.mk a.b a.i a.h = a := rfl
structure Database where
 Relations : (List Relation)
 Facts : (List Fact)
 deriving DecidableEq, Inhabited
def eDatabase : En Database := ⟨2, fun b a => if b then [(osl eRelation true a.Relations), (osl eFact true a.Facts)] else [(ssl eRelation a.Relations), (ssl eFact a.Facts)], fun b a => by cases b <;> rfl, by decide, fun b a => by cases b <;> simp [T.frz], fun a => by simp, fun a => by simp, fun b a => by cases b <;> simp⟩
@[simp] theorem eDatabase_w : eDatabase.w = 2 := rfl
@[simp] theorem eDatabase_ct {a : Database} : eDatabase.c true a = [(osl eRelation true a.Relations), (osl eFact true a.Facts)] := rfl
@[simp] theorem eDatabase_cf {a : Database} : eDatabase.c false a = [(ssl eRelation a.Relations), (ssl eFact a.Facts)] := rfl
@[simp] theorem eDatabase_e (a : Database) : Database.mk a.Relations a.Facts = a := rfl
structure Query where
 VariableCount : Int
 Atoms : (List Atom)
 Free : (List Int)
 deriving DecidableEq, Inhabited
def eQuery : En Query := ⟨3, fun b a => if b then [(.int .i64 a.VariableCount), (osl eAtom true a.Atoms), (osl eI true a.Free)] else [(.int .i64 a.VariableCount), (ssl eAtom a.Atoms), (ssl eI a.Free)], fun b a => by cases b <;> rfl, by decide, fun b a => by cases b <;> simp [T.frz], fun a => by simp, fun a => by simp, fun b a => by cases b <;> simp⟩
@[simp] theorem eQuery_w : eQuery.w = 3 := rfl
@[simp] theorem eQuery_ct {a : Query} : eQuery.c true a = [(.int .i64 a.VariableCount), (osl eAtom true a.Atoms), (osl eI true a.Free)] := rfl
@[simp] theorem eQuery_cf {a : Query} : eQuery.c false a = [(.int .i64 a.VariableCount), (ssl eAtom a.Atoms), (ssl eI a.Free)] := rfl
@[simp] theorem eQuery_e (a : Query) : Query.mk a.VariableCount a.Atoms a.Free = a := rfl
structure DerivationStep where
 Facts : (List Int)
 Block : Int
 deriving DecidableEq, Inhabited
def eDerivationStep : En DerivationStep := ⟨2, fun b a => if b then [(osl eI true a.Facts), (.int .i64 a.Block)] else [(ssl eI a.Facts), (.int .i64 a.Block)], fun b a => by cases b <;> rfl, by decide, fun b a => by cases b <;> simp [T.frz], fun a => by simp, fun a => by simp, fun b a => by cases b <;> simp⟩
@[simp] theorem eDerivationStep_w : eDerivationStep.w = 2 := rfl
@[simp] theorem eDerivationStep_ct {a : DerivationStep} : eDerivationStep.c true a = [(osl eI true a.Facts), (.int .i64 a.Block)] := rfl
@[simp] theorem eDerivationStep_cf {a : DerivationStep} : eDerivationStep.c false a = [(ssl eI a.Facts), (.int .i64 a.Block)] := rfl
@[simp] theorem arrDerivationStep_len {b : Bool} {l : List DerivationStep} : (arr eDerivationStep b l).length = l.length * 2 := arr_len
@[simp] theorem eDerivationStep_e (a : DerivationStep) : DerivationStep.mk a.Facts a.Block = a := rfl
@[simp] def q0DerivationStep {b l i o} := @arr_get2 _ eDerivationStep b l i o 2 rfl
@[simp] def q1DerivationStep {b l i} := @arr_get20 _ eDerivationStep b l i 2 rfl
@[simp] def q2DerivationStep {b l o} := @arr_get0 _ eDerivationStep b l o 2 rfl
@[simp] def q3DerivationStep {b l} := @arr_take0 _ eDerivationStep b l 2 rfl
@[simp] def q4DerivationStep {b l i o} := @arr_part _ eDerivationStep b l i o 2 rfl
@[simp] def q5DerivationStep {b l i o j} := @arr_part2 _ eDerivationStep b l i o 2 j rfl
@[simp] def q6DerivationStep {b l} := @arr_at2 _ eDerivationStep b l 2 rfl
@[simp] def q7DerivationStep {b l} := @arr_take2 _ eDerivationStep b l 2 rfl
@[simp] def q8DerivationStep {b l l' bs y} := @appT_w _ eDerivationStep b l l' bs y 2 rfl
@[simp] def q10DerivationStep {z0 z1 n} := @rep_w _ eDerivationStep true n ⟨z0, z1⟩ [(.sl true true 1 0 (arr eI true z0)), (.int .i64 z1)] rfl
@[simp] def q71DerivationStep {b l} := @arr_tl _ eDerivationStep b l 2 rfl
@[simp] def q70DerivationStep {b l i} := @arr_tk _ eDerivationStep b l i 2 rfl
@[simp] def q40DerivationStep {b l' bs y} := @appT_w0 _ eDerivationStep b l' bs y 2 rfl
@[simp] theorem q50DerivationStep {l : List DerivationStep} {i : Nat} {z : (List Int)} (h : i < l.length) : layT (arr eDerivationStep true l) (i * 2) 1 [(.sl true true 1 0 (arr eI true z))] = arr eDerivationStep true (l.set i ⟨z, (l[i]?.getD default).Block⟩) := by rw [List.getElem?_eq_getElem h]; exact lay_cell (E := eDerivationStep) (b := true) (i := i) (o := 0) ⟨z, l[i].Block⟩ (List.getElem?_eq_getElem h) (by decide) rfl
@[simp] theorem q60DerivationStep {l : List DerivationStep} {i : Nat} {z : (List Int)} (h : i < l.length) : (arr eDerivationStep true l).set (i * 2) (.sl true true 1 0 (arr eI true z)) = arr eDerivationStep true (l.set i ⟨z, (l[i]?.getD default).Block⟩) := by rw [List.getElem?_eq_getElem h]; exact set_cell (E := eDerivationStep) (b := true) (i := i) (o := 0) ⟨z, l[i].Block⟩ (List.getElem?_eq_getElem h) (by decide) rfl
@[simp] theorem q51DerivationStep {l : List DerivationStep} {i : Nat} {z : Int} (h : i < l.length) : layT (arr eDerivationStep true l) (i * 2 + 1) 1 [(.int .i64 z)] = arr eDerivationStep true (l.set i ⟨(l[i]?.getD default).Facts, z⟩) := by rw [List.getElem?_eq_getElem h]; exact lay_cell (E := eDerivationStep) (b := true) (i := i) (o := 1) ⟨l[i].Facts, z⟩ (List.getElem?_eq_getElem h) (by decide) rfl
@[simp] theorem q61DerivationStep {l : List DerivationStep} {i : Nat} {z : Int} (h : i < l.length) : (arr eDerivationStep true l).set (i * 2 + 1) (.int .i64 z) = arr eDerivationStep true (l.set i ⟨(l[i]?.getD default).Facts, z⟩) := by rw [List.getElem?_eq_getElem h]; exact set_cell (E := eDerivationStep) (b := true) (i := i) (o := 1) ⟨l[i].Facts, z⟩ (List.getElem?_eq_getElem h) (by decide) rfl
@[simp] def q20DerivationStep {z0 z1 l bs y} := @appT_1w _ eDerivationStep true l bs y 2 rfl ⟨z0, z1⟩ [(.sl true true 1 0 (arr eI true z0)), (.int .i64 z1)] rfl
@[simp] def q23DerivationStep {z0 z1 l' bs y} := @appT_11 _ eDerivationStep true l' bs y 2 rfl ⟨z0, z1⟩ [(.sl true true 1 0 (arr eI true z0)), (.int .i64 z1)] rfl
@[simp] def q22DerivationStep {z0 z1 bs y} := @appT_10 _ eDerivationStep true bs y 2 rfl ⟨z0, z1⟩ [(.sl true true 1 0 (arr eI true z0)), (.int .i64 z1)] rfl
@[simp] def q21DerivationStep {z0 z1 l i} := @lay_w _ eDerivationStep true l i 2 rfl ⟨z0, z1⟩ [(.sl true true 1 0 (arr eI true z0)), (.int .i64 z1)] rfl
@[simp] def q30DerivationStep {z0 z1 l bs y} := @appT_1w _ eDerivationStep false l bs y 2 rfl ⟨z0, z1⟩ [(.sl false false 1 1 (arr eI false z0)), (.int .i64 z1)] rfl
@[simp] def q33DerivationStep {z0 z1 l' bs y} := @appT_11 _ eDerivationStep false l' bs y 2 rfl ⟨z0, z1⟩ [(.sl false false 1 1 (arr eI false z0)), (.int .i64 z1)] rfl
@[simp] def q32DerivationStep {z0 z1 bs y} := @appT_10 _ eDerivationStep false bs y 2 rfl ⟨z0, z1⟩ [(.sl false false 1 1 (arr eI false z0)), (.int .i64 z1)] rfl
@[simp] def q31DerivationStep {z0 z1 l i} := @lay_w _ eDerivationStep false l i 2 rfl ⟨z0, z1⟩ [(.sl false false 1 1 (arr eI false z0)), (.int .i64 z1)] rfl
structure Embedding where
 Values : (List Int)
 Facts : (List Int)
 deriving DecidableEq, Inhabited
def eEmbedding : En Embedding := ⟨2, fun b a => if b then [(osl eI true a.Values), (osl eI true a.Facts)] else [(ssl eI a.Values), (ssl eI a.Facts)], fun b a => by cases b <;> rfl, by decide, fun b a => by cases b <;> simp [T.frz], fun a => by simp, fun a => by simp, fun b a => by cases b <;> simp⟩
@[simp] theorem eEmbedding_w : eEmbedding.w = 2 := rfl
@[simp] theorem eEmbedding_ct {a : Embedding} : eEmbedding.c true a = [(osl eI true a.Values), (osl eI true a.Facts)] := rfl
@[simp] theorem eEmbedding_cf {a : Embedding} : eEmbedding.c false a = [(ssl eI a.Values), (ssl eI a.Facts)] := rfl
@[simp] theorem arrEmbedding_len {b : Bool} {l : List Embedding} : (arr eEmbedding b l).length = l.length * 2 := arr_len
@[simp] theorem eEmbedding_e (a : Embedding) : Embedding.mk a.Values a.Facts = a := rfl
@[simp] def q0Embedding {b l i o} := @arr_get2 _ eEmbedding b l i o 2 rfl
@[simp] def q1Embedding {b l i} := @arr_get20 _ eEmbedding b l i 2 rfl
@[simp] def q2Embedding {b l o} := @arr_get0 _ eEmbedding b l o 2 rfl
@[simp] def q3Embedding {b l} := @arr_take0 _ eEmbedding b l 2 rfl
@[simp] def q4Embedding {b l i o} := @arr_part _ eEmbedding b l i o 2 rfl
@[simp] def q5Embedding {b l i o j} := @arr_part2 _ eEmbedding b l i o 2 j rfl
@[simp] def q6Embedding {b l} := @arr_at2 _ eEmbedding b l 2 rfl
@[simp] def q7Embedding {b l} := @arr_take2 _ eEmbedding b l 2 rfl
@[simp] def q8Embedding {b l l' bs y} := @appT_w _ eEmbedding b l l' bs y 2 rfl
@[simp] def q10Embedding {z0 z1 n} := @rep_w _ eEmbedding true n ⟨z0, z1⟩ [(.sl true true 1 0 (arr eI true z0)), (.sl true true 1 0 (arr eI true z1))] rfl
@[simp] def q71Embedding {b l} := @arr_tl _ eEmbedding b l 2 rfl
@[simp] def q70Embedding {b l i} := @arr_tk _ eEmbedding b l i 2 rfl
@[simp] def q40Embedding {b l' bs y} := @appT_w0 _ eEmbedding b l' bs y 2 rfl
@[simp] theorem q50Embedding {l : List Embedding} {i : Nat} {z : (List Int)} (h : i < l.length) : layT (arr eEmbedding true l) (i * 2) 1 [(.sl true true 1 0 (arr eI true z))] = arr eEmbedding true (l.set i ⟨z, (l[i]?.getD default).Facts⟩) := by rw [List.getElem?_eq_getElem h]; exact lay_cell (E := eEmbedding) (b := true) (i := i) (o := 0) ⟨z, l[i].Facts⟩ (List.getElem?_eq_getElem h) (by decide) rfl
@[simp] theorem q60Embedding {l : List Embedding} {i : Nat} {z : (List Int)} (h : i < l.length) : (arr eEmbedding true l).set (i * 2) (.sl true true 1 0 (arr eI true z)) = arr eEmbedding true (l.set i ⟨z, (l[i]?.getD default).Facts⟩) := by rw [List.getElem?_eq_getElem h]; exact set_cell (E := eEmbedding) (b := true) (i := i) (o := 0) ⟨z, l[i].Facts⟩ (List.getElem?_eq_getElem h) (by decide) rfl
@[simp] theorem q51Embedding {l : List Embedding} {i : Nat} {z : (List Int)} (h : i < l.length) : layT (arr eEmbedding true l) (i * 2 + 1) 1 [(.sl true true 1 0 (arr eI true z))] = arr eEmbedding true (l.set i ⟨(l[i]?.getD default).Values, z⟩) := by rw [List.getElem?_eq_getElem h]; exact lay_cell (E := eEmbedding) (b := true) (i := i) (o := 1) ⟨l[i].Values, z⟩ (List.getElem?_eq_getElem h) (by decide) rfl
@[simp] theorem q61Embedding {l : List Embedding} {i : Nat} {z : (List Int)} (h : i < l.length) : (arr eEmbedding true l).set (i * 2 + 1) (.sl true true 1 0 (arr eI true z)) = arr eEmbedding true (l.set i ⟨(l[i]?.getD default).Values, z⟩) := by rw [List.getElem?_eq_getElem h]; exact set_cell (E := eEmbedding) (b := true) (i := i) (o := 1) ⟨l[i].Values, z⟩ (List.getElem?_eq_getElem h) (by decide) rfl
@[simp] def q20Embedding {z0 z1 l bs y} := @appT_1w _ eEmbedding true l bs y 2 rfl ⟨z0, z1⟩ [(.sl true true 1 0 (arr eI true z0)), (.sl true true 1 0 (arr eI true z1))] rfl
@[simp] def q23Embedding {z0 z1 l' bs y} := @appT_11 _ eEmbedding true l' bs y 2 rfl ⟨z0, z1⟩ [(.sl true true 1 0 (arr eI true z0)), (.sl true true 1 0 (arr eI true z1))] rfl
@[simp] def q22Embedding {z0 z1 bs y} := @appT_10 _ eEmbedding true bs y 2 rfl ⟨z0, z1⟩ [(.sl true true 1 0 (arr eI true z0)), (.sl true true 1 0 (arr eI true z1))] rfl
@[simp] def q21Embedding {z0 z1 l i} := @lay_w _ eEmbedding true l i 2 rfl ⟨z0, z1⟩ [(.sl true true 1 0 (arr eI true z0)), (.sl true true 1 0 (arr eI true z1))] rfl
@[simp] def q30Embedding {z0 z1 l bs y} := @appT_1w _ eEmbedding false l bs y 2 rfl ⟨z0, z1⟩ [(.sl false false 1 1 (arr eI false z0)), (.sl false false 1 1 (arr eI false z1))] rfl
@[simp] def q33Embedding {z0 z1 l' bs y} := @appT_11 _ eEmbedding false l' bs y 2 rfl ⟨z0, z1⟩ [(.sl false false 1 1 (arr eI false z0)), (.sl false false 1 1 (arr eI false z1))] rfl
@[simp] def q32Embedding {z0 z1 bs y} := @appT_10 _ eEmbedding false bs y 2 rfl ⟨z0, z1⟩ [(.sl false false 1 1 (arr eI false z0)), (.sl false false 1 1 (arr eI false z1))] rfl
@[simp] def q31Embedding {z0 z1 l i} := @lay_w _ eEmbedding false l i 2 rfl ⟨z0, z1⟩ [(.sl false false 1 1 (arr eI false z0)), (.sl false false 1 1 (arr eI false z1))] rfl
structure ConflictEdge where
 A : Int
 B : Int
 deriving DecidableEq, Inhabited
def eConflictEdge : En ConflictEdge := ⟨2, fun _ a => [(.int .i64 a.A), (.int .i64 a.B)], fun b a => by cases b <;> rfl, by decide, fun b a => by cases b <;> simp [T.frz], fun a => by simp, fun a => by simp, fun b a => by cases b <;> simp⟩
@[simp] theorem eConflictEdge_w : eConflictEdge.w = 2 := rfl
@[simp] theorem eConflictEdge_ct {a : ConflictEdge} : eConflictEdge.c true a = [(.int .i64 a.A), (.int .i64 a.B)] := rfl
@[simp] theorem eConflictEdge_cf {a : ConflictEdge} : eConflictEdge.c false a = [(.int .i64 a.A), (.int .i64 a.B)] := rfl
@[simp] theorem arrConflictEdge_len {b : Bool} {l : List ConflictEdge} : (arr eConflictEdge b l).length = l.length * 2 := arr_len
@[simp] theorem eConflictEdge_e (a : ConflictEdge) : ConflictEdge.mk a.A a.B = a := rfl
@[simp] def q0ConflictEdge {b l i o} := @arr_get2 _ eConflictEdge b l i o 2 rfl
@[simp] def q1ConflictEdge {b l i} := @arr_get20 _ eConflictEdge b l i 2 rfl
@[simp] def q2ConflictEdge {b l o} := @arr_get0 _ eConflictEdge b l o 2 rfl
@[simp] def q3ConflictEdge {b l} := @arr_take0 _ eConflictEdge b l 2 rfl
@[simp] def q4ConflictEdge {b l i o} := @arr_part _ eConflictEdge b l i o 2 rfl
@[simp] def q5ConflictEdge {b l i o j} := @arr_part2 _ eConflictEdge b l i o 2 j rfl
@[simp] def q6ConflictEdge {b l} := @arr_at2 _ eConflictEdge b l 2 rfl
@[simp] def q7ConflictEdge {b l} := @arr_take2 _ eConflictEdge b l 2 rfl
@[simp] def q8ConflictEdge {b l l' bs y} := @appT_w _ eConflictEdge b l l' bs y 2 rfl
@[simp] def q10ConflictEdge {z0 z1 n} := @rep_w _ eConflictEdge true n ⟨z0, z1⟩ [(.int .i64 z0), (.int .i64 z1)] rfl
@[simp] def q71ConflictEdge {b l} := @arr_tl _ eConflictEdge b l 2 rfl
@[simp] def q70ConflictEdge {b l i} := @arr_tk _ eConflictEdge b l i 2 rfl
@[simp] theorem q40ConflictEdge {b : Bool} {l' : List ConflictEdge} {bs : Nat} {y : Bool} (hb : bs ≠ 0) : appT 2 bs (.sl true y 2 0 []) (arr eConflictEdge b l') = (app bs [] l').map fun v => .sl true y 2 0 (arr eConflictEdge true v) := appT_w0 (E := eConflictEdge) (b := b) rfl hb
@[simp] theorem q50ConflictEdge {l : List ConflictEdge} {i : Nat} {z : Int} (h : i < l.length) : layT (arr eConflictEdge true l) (i * 2) 1 [(.int .i64 z)] = arr eConflictEdge true (l.set i ⟨z, (l[i]?.getD default).B⟩) := by rw [List.getElem?_eq_getElem h]; exact lay_cell (E := eConflictEdge) (b := true) (i := i) (o := 0) ⟨z, l[i].B⟩ (List.getElem?_eq_getElem h) (by decide) rfl
@[simp] theorem q60ConflictEdge {l : List ConflictEdge} {i : Nat} {z : Int} (h : i < l.length) : (arr eConflictEdge true l).set (i * 2) (.int .i64 z) = arr eConflictEdge true (l.set i ⟨z, (l[i]?.getD default).B⟩) := by rw [List.getElem?_eq_getElem h]; exact set_cell (E := eConflictEdge) (b := true) (i := i) (o := 0) ⟨z, l[i].B⟩ (List.getElem?_eq_getElem h) (by decide) rfl
@[simp] theorem q51ConflictEdge {l : List ConflictEdge} {i : Nat} {z : Int} (h : i < l.length) : layT (arr eConflictEdge true l) (i * 2 + 1) 1 [(.int .i64 z)] = arr eConflictEdge true (l.set i ⟨(l[i]?.getD default).A, z⟩) := by rw [List.getElem?_eq_getElem h]; exact lay_cell (E := eConflictEdge) (b := true) (i := i) (o := 1) ⟨l[i].A, z⟩ (List.getElem?_eq_getElem h) (by decide) rfl
@[simp] theorem q61ConflictEdge {l : List ConflictEdge} {i : Nat} {z : Int} (h : i < l.length) : (arr eConflictEdge true l).set (i * 2 + 1) (.int .i64 z) = arr eConflictEdge true (l.set i ⟨(l[i]?.getD default).A, z⟩) := by rw [List.getElem?_eq_getElem h]; exact set_cell (E := eConflictEdge) (b := true) (i := i) (o := 1) ⟨l[i].A, z⟩ (List.getElem?_eq_getElem h) (by decide) rfl
@[simp] def q20ConflictEdge {b z0 z1 l bs y} := @appT_1w _ eConflictEdge b l bs y 2 rfl ⟨z0, z1⟩ [(.int .i64 z0), (.int .i64 z1)] rfl
@[simp] def q23ConflictEdge {b z0 z1 l' bs y} := @appT_11 _ eConflictEdge b l' bs y 2 rfl ⟨z0, z1⟩ [(.int .i64 z0), (.int .i64 z1)] rfl
@[simp] def q22ConflictEdge {b z0 z1 bs y} := @appT_10 _ eConflictEdge b bs y 2 rfl ⟨z0, z1⟩ [(.int .i64 z0), (.int .i64 z1)] rfl
@[simp] def q21ConflictEdge {b z0 z1 l i} := @lay_w _ eConflictEdge b l i 2 rfl ⟨z0, z1⟩ [(.int .i64 z0), (.int .i64 z1)] rfl
@[simp] theorem q81Atom {l : List Atom} {z : (List Int)} (h : 0 < l.length) : layT (arr eAtom true l) 1 1 [(.sl true true 1 0 (arr eI true z))] = arr eAtom true (l.set 0 ⟨(l[0]?.getD default).Relation, z⟩) := q51Atom (i := 0) h
@[simp] theorem q91Atom {l : List Atom} {z : (List Int)} (h : 0 < l.length) : (arr eAtom true l).set 1 (.sl true true 1 0 (arr eI true z)) = arr eAtom true (l.set 0 ⟨(l[0]?.getD default).Relation, z⟩) := q61Atom (i := 0) h
@[simp] def q92Atom {z0 x0 x1 l bs y} := @appT_1w _ eAtom true l bs y 2 rfl ⟨z0, [x0, x1]⟩ [(.int .i64 z0), (.sl true true 1 0 [(.int .i64 x0), (.int .i64 x1)])] rfl
def f5 (code : (List Int)) : Option Bool :=
 some (decide ((code.length : Int) > 1048576))
def f18_0 (code : (List Int)) : Int × Int -> Option ((Int × Int) ⊕ Int)
 | (h_1, i_2) =>
  (((if i_2 < (code.length : Int) then
  some (decide (i_2 < 4000))
  else
  some false) : Option (Bool))).bind fun x_3 =>
  if x_3 = true then
  (ix code i_2).bind fun v_7 =>
  some (.inl (band .i64 (w64 ((w64 ((w64 (h_1 * 131)) + (w64 v_7))) + 7)) 1073741823, w64 (i_2 + 1)))
  else
  some (.inr h_1)
def f18 (code : (List Int)) : Option L1Cur :=
 (iter (f18_0 code) (w64 (10101 + (code.length : Int)), 0)).bind fun h_11 =>
 some ({ b := code, i := 0, h := h_11 } : L1Cur)
def f63 (c : L1Cur) : Option (Int × L1Cur) :=
 (((if c.i < (c.b.length : Int) then
 (ix c.b c.i).bind fun v_4 =>
 some (w64 (c.i + 1), band .i64 (w64 ((band .i64 (bxor .i64 (sshr .i64 (w64 ((w64 (c.h * 6364136223846793005)) + 1442695040888963407)) 33) (sshr .i64 (w64 ((w64 (c.h * 6364136223846793005)) + 1442695040888963407)) 45)) 255) + (w64 v_4))) 255)
 else
 some (c.i, band .i64 (bxor .i64 (sshr .i64 (w64 ((w64 (c.h * 6364136223846793005)) + 1442695040888963407)) 33) (sshr .i64 (w64 ((w64 (c.h * 6364136223846793005)) + 1442695040888963407)) 45)) 255)) : Option (Int × Int))).bind fun (c_6, x_7) =>
 some (x_7, ({ b := c.b, i := c_6, h := w64 ((w64 (c.h * 6364136223846793005)) + 1442695040888963407) } : L1Cur))
def f20 (c : L1Cur) (n1 : Int) : Option (Int × L1Cur) :=
 if n1 <= 0 then
 some (0, c)
 else
 if n1 <= 256 then
 (f63 c).bind fun o3 =>
 (nz n1).bind fun z_5 =>
 some (o3.1.tmod n1, o3.2)
 else
 (f63 c).bind fun o7 =>
 (f63 o7.2).bind fun o9 =>
 (f63 o9.2).bind fun o11 =>
 (f63 o11.2).bind fun o13 =>
 (nz n1).bind fun z_15 =>
 some ((w64 ((w64 ((w64 ((w64 (o7.1 * 16777216)) + (w64 (o9.1 * 65536)))) + (w64 (o11.1 * 256)))) + o13.1)).tmod n1, o13.2)
def f67 (c : L1Cur) (list : (List Int)) : Option (Int × L1Cur) :=
 (f20 c (list.length : Int)).bind fun o1 =>
 (ix list o1.1).bind fun v_3 =>
 some (v_3, o1.2)
def f23 (c : L1Cur) : Option ((List Relation) × L1Cur) :=
 (f67 c ([1, 1, 2, 0])).bind fun o1 =>
 (f20 o1.2 2).bind fun o3 =>
 some ([({ Name := [114], Arity := 2, KeyLength := 1 } : Relation), ({ Name := [115], Arity := 2, KeyLength := 1 } : Relation), ({ Name := [116], Arity := 2, KeyLength := o1.1 } : Relation), ({ Name := [117], Arity := 3, KeyLength := w64 (1 + o3.1) } : Relation)], o3.2)
def f100_0 (l : (List Relation)) (val : Int) : (List Int) × Int × Int × Int × (List Int) -> Option (((List Int) × Int × Int × Int × (List Int)) ⊕ ((List Int) × Int × Int × Int × (List Int)))
 | (c_3, c_4, c_5, f_6, f_7) =>
  (ix l f_6).bind fun v_8 =>
  if (f_7.length : Int) < v_8.Arity then
  (f20 ({ b := c_3, i := c_4, h := c_5 } : L1Cur) val).bind fun o11 =>
  (app 8 f_7 ([o11.1])).bind fun l_13 =>
  some (.inl (o11.2.b, o11.2.i, o11.2.h, f_6, l_13))
  else
  some (.inr (c_3, c_4, c_5, f_6, f_7))
def f100 (c : L1Cur) (l : (List Relation)) (val : Int) : Option (Fact × L1Cur) :=
 (f20 c (l.length : Int)).bind fun o1 =>
 (iter (f100_0 l val) (o1.2.b, o1.2.i, o1.2.h, o1.1, [])).bind fun (c_17, c_18, c_19, f_20, f_21) =>
 some (({ Relation := f_20, Values := f_21 } : Fact), ({ b := c_17, i := c_18, h := c_19 } : L1Cur))
def f142_0 (d : Database) : (List Relation) × (List Fact) × Int -> Option (((List Relation) × (List Fact) × Int) ⊕ ((List Relation) × (List Fact)))
 | (x_3, x_4, i_5) =>
  if i_5 < (d.Facts.length : Int) then
  (ix d.Facts i_5).bind fun v_7 =>
  (app 8 ([]) v_7.Values).bind fun l_9 =>
  (app 32 x_4 ([({ Relation := v_7.Relation, Values := l_9 } : Fact)])).bind fun l_11 =>
  some (.inl (x_3, l_11, w64 (i_5 + 1)))
  else
  some (.inr (x_3, x_4))
def f142 (d : Database) : Option Database :=
 (app 32 ([]) d.Relations).bind fun l_1 =>
 (iter (f142_0 d) (l_1, [], 0)).bind fun (x_15, x_16) =>
 some ({ Relations := x_15, Facts := x_16 } : Database)
def f38 (x : Int) (low : Int) (high : Int) : Option Bool :=
 (((if x >= low then
 some (decide (x <= high))
 else
 some false) : Option (Bool))).bind fun x_1 =>
 some x_1
def f79 (s0 : Relation) : Option Bool :=
 (((if (s0.Name.length : Int) = 1 then
 (ix s0.Name 0).bind fun c_4 =>
 (((if (c_4.toNat : Int) >= 97 then
 (((if (c_4.toNat : Int) <= 122 then
 (f38 s0.Arity 1 3).bind fun o12 =>
 (((if o12 = true then
 (f38 s0.KeyLength 0 s0.Arity).bind fun o17 =>
 some o17
 else
 some false) : Option (Bool))).bind fun x_14 =>
 some x_14
 else
 some false) : Option (Bool))).bind fun x_9 =>
 some x_9
 else
 some false) : Option (Bool))).bind fun x_6 =>
 some x_6
 else
 some false) : Option (Bool))).bind fun x_1 =>
 some x_1
def f37_0 (l : (List Relation)) : Int -> Option (Int ⊕ (Unit ⊕ Bool))
 | i_1 =>
  if i_1 < (l.length : Int) then
  (ix l i_1).bind fun v_3 =>
  (f79 v_3).bind fun o5 =>
  (((if ¬ (o5 = true) then
  some true
  else
  (((if i_1 > 0 then
  (ix l (w64 (i_1 - 1))).bind fun v_13 =>
  some (!(Op.bytesLess v_13.Name v_3.Name))
  else
  some false) : Option (Bool))).bind fun x_10 =>
  some x_10) : Option (Bool))).bind fun x_7 =>
  if x_7 = true then
  some (.inr (.inr false))
  else
  some (.inl (w64 (i_1 + 1)))
  else
  some (.inr (.inl ()))
def f37 (l : (List Relation)) : Option Bool :=
 (iter (f37_0 l) 0).bind fun o => match o with
 | .inl _ =>
 some (decide ((l.length : Int) <= 4))
 | .inr x_18 =>
 some x_18
def f42_0 (f : Fact) : Int -> Option (Int ⊕ (Unit ⊕ Bool))
 | i_14 =>
  if i_14 < (f.Values.length : Int) then
  (ix f.Values i_14).bind fun v_16 =>
  (f38 v_16 0 9).bind fun o18 =>
  if ¬ (o18 = true) then
  some (.inr (.inr false))
  else
  some (.inl (w64 (i_14 + 1)))
  else
  some (.inr (.inl ()))
def f42 (l : (List Relation)) (f : Fact) : Option Bool :=
 (f37 l).bind fun o1 =>
 (((if ¬ (o1 = true) then
 some true
 else
 (f38 f.Relation 0 (w64 ((l.length : Int) - 1))).bind fun o6 =>
 (((if ¬ (o6 = true) then
 some true
 else
 (ix l f.Relation).bind fun v_11 =>
 some (decide ((f.Values.length : Int) ≠ v_11.Arity))) : Option (Bool))).bind fun x_8 =>
 some x_8) : Option (Bool))).bind fun x_3 =>
 if x_3 = true then
 some false
 else
 (iter (f42_0 f) 0).bind fun o => match o with
 | .inl _ =>
 some true
 | .inr x_23 =>
 some x_23
def f81_0 (a : (List Int)) (b : (List Int)) : Int -> Option (Int ⊕ (Unit ⊕ Int))
 | i_1 =>
  (((if i_1 < (a.length : Int) then
  some (decide (i_1 < (b.length : Int)))
  else
  some false) : Option (Bool))).bind fun x_2 =>
  if x_2 = true then
  (ix a i_1).bind fun v_6 =>
  (ix b i_1).bind fun v_8 =>
  if v_6 < v_8 then
  some (.inr (.inr (-1)))
  else
  if v_6 > v_8 then
  some (.inr (.inr 1))
  else
  some (.inl (w64 (i_1 + 1)))
  else
  some (.inr (.inl ()))
def f81 (a : (List Int)) (b : (List Int)) : Option Int :=
 (iter (f81_0 a b) 0).bind fun o => match o with
 | .inl _ =>
 if (a.length : Int) < (b.length : Int) then
 some (-1)
 else
 if (a.length : Int) > (b.length : Int) then
 some 1
 else
 some 0
 | .inr x_14 =>
 some x_14
def f43 (a : Fact) (b : Fact) : Option Int :=
 if a.Relation < b.Relation then
 some (-1)
 else
 if a.Relation > b.Relation then
 some 1
 else
 (f81 a.Values b.Values).bind fun o3 =>
 some o3
def f11_0 (d : Database) : Int -> Option (Int ⊕ (Unit ⊕ Bool))
 | i_1 =>
  if i_1 < (d.Facts.length : Int) then
  (ix d.Facts i_1).bind fun v_3 =>
  (f42 d.Relations v_3).bind fun o5 =>
  (((if ¬ (o5 = true) then
  some true
  else
  (((if i_1 > 0 then
  (ix d.Facts (w64 (i_1 - 1))).bind fun v_13 =>
  (f43 v_13 v_3).bind fun o15 =>
  some (decide (o15 >= 0))
  else
  some false) : Option (Bool))).bind fun x_10 =>
  some x_10) : Option (Bool))).bind fun x_7 =>
  if x_7 = true then
  some (.inr (.inr false))
  else
  some (.inl (w64 (i_1 + 1)))
  else
  some (.inr (.inl ()))
def f11 (d : Database) : Option Bool :=
 (iter (f11_0 d) 0).bind fun o => match o with
 | .inl _ =>
 (f37 d.Relations).bind fun o21 =>
 (((if o21 = true then
 some (decide ((d.Facts.length : Int) <= 14))
 else
 some false) : Option (Bool))).bind fun x_23 =>
 some x_23
 | .inr x_20 =>
 some x_20
def f175_0 (d : Database) (f : Fact) : Int -> Option (Int ⊕ (Unit ⊕ Int))
 | i_1 =>
  if i_1 < (d.Facts.length : Int) then
  (ix d.Facts i_1).bind fun v_3 =>
  (f43 v_3 f).bind fun o5 =>
  if o5 = 0 then
  some (.inr (.inr i_1))
  else
  some (.inl (w64 (i_1 + 1)))
  else
  some (.inr (.inl ()))
def f175 (d : Database) (f : Fact) : Option Int :=
 (iter (f175_0 d f) 0).bind fun o => match o with
 | .inl _ =>
 some (-1)
 | .inr x_10 =>
 some x_10
def f143 (d : Database) (f : Fact) : Option Bool :=
 (f11 d).bind fun o1 =>
 (((if o1 = true then
 (f175 d f).bind fun o6 =>
 some (decide (o6 >= 0))
 else
 some false) : Option (Bool))).bind fun x_3 =>
 some x_3
def f99_0 (f : Fact) (o1 : Database) : Int -> Option (Int ⊕ Int)
 | k_19 =>
  (((if k_19 < (o1.Facts.length : Int) then
  (ix o1.Facts k_19).bind fun v_23 =>
  (f43 v_23 f).bind fun o25 =>
  some (decide (o25 < 0))
  else
  some false) : Option (Bool))).bind fun x_20 =>
  if x_20 = true then
  some (.inl (w64 (k_19 + 1)))
  else
  some (.inr k_19)
def f99 (d : Database) (f : Fact) : Option (Database × Bool) :=
 (f142 d).bind fun o1 =>
 (f11 d).bind fun o3 =>
 (((if ¬ (o3 = true) then
 some true
 else
 (f42 d.Relations f).bind fun o8 =>
 (((if ¬ (o8 = true) then
 some true
 else
 (f143 d f).bind fun o13 =>
 (((if o13 = true then
 some true
 else
 some (decide ((d.Facts.length : Int) = 14))) : Option (Bool))).bind fun x_15 =>
 some x_15) : Option (Bool))).bind fun x_10 =>
 some x_10) : Option (Bool))).bind fun x_5 =>
 if x_5 = true then
 some (o1, false)
 else
 (iter (f99_0 f o1) 0).bind fun k_30 =>
 (cutL o1.Facts k_30 o1.Facts.length).bind fun l_31 =>
 (app 8 ([]) f.Values).bind fun l_33 =>
 (app 32 ([({ Relation := f.Relation, Values := l_33 } : Fact)]) l_31).bind fun l_35 =>
 (cutL o1.Facts 0 k_30).bind fun l_37 =>
 (app 32 ([]) l_37).bind fun l_39 =>
 (app 32 l_39 l_35).bind fun l_41 =>
 some (({ Relations := o1.Relations, Facts := l_41 } : Database), true)
def f60_0 (o3 : (Int × L1Cur)) : (List Int) × Int × Int × (List Relation) × (List Fact) × Int -> Option (((List Int) × Int × Int × (List Relation) × (List Fact) × Int) ⊕ ((List Int) × Int × Int × (List Relation) × (List Fact)))
 | (c_7, c_8, c_9, d_10, d_11, n_12) =>
  if n_12 > 0 then
  (f100 ({ b := c_7, i := c_8, h := c_9 } : L1Cur) d_10 o3.1).bind fun o14 =>
  (f99 ({ Relations := d_10, Facts := d_11 } : Database) o14.1).bind fun o16 =>
  some (.inl (o14.2.b, o14.2.i, o14.2.h, o16.1.Relations, o16.1.Facts, w64 (n_12 - 1)))
  else
  some (.inr (c_7, c_8, c_9, d_10, d_11))
def f60 (c : L1Cur) : Option (Database × L1Cur) :=
 (f23 c).bind fun o1 =>
 (f67 o1.2 ([2, 2, 3, 3])).bind fun o3 =>
 (f20 o3.2 11).bind fun o5 =>
 (iter (f60_0 o3) (o5.2.b, o5.2.i, o5.2.h, o1.1, [], w64 (2 + o5.1))).bind fun (c_20, c_21, c_22, d_23, d_24) =>
 some (({ Relations := d_23, Facts := d_24 } : Database), ({ b := c_20, i := c_21, h := c_22 } : L1Cur))
def f123_0 : (List Relation) × (List Fact) -> Option (((List Relation) × (List Fact)) ⊕ ((List Relation) × (List Fact)))
 | (d_3, d_4) =>
  if (d_4.length : Int) > 9 then
  (cutL d_4 0 (w64 ((d_4.length : Int) - 1))).bind fun l_6 =>
  some (.inl (d_3, l_6))
  else
  some (.inr (d_3, d_4))
def f123 (c : L1Cur) : Option (Database × L1Cur) :=
 (f60 c).bind fun o1 =>
 (iter (f123_0) (o1.1.Relations, o1.1.Facts)).bind fun (d_10, d_11) =>
 some (({ Relations := d_10, Facts := d_11 } : Database), o1.2)
def f21 (c : L1Cur) (n1 : Int) : Option (Bool × L1Cur) :=
 (f20 c n1).bind fun o1 =>
 some ((decide (o1.1 = 0)), o1.2)
def f105_0 (q : Query) : Int × (List Atom) × (List Int) × Int -> Option ((Int × (List Atom) × (List Int) × Int) ⊕ (Int × (List Atom) × (List Int)))
 | (x_3, x_4, x_5, i_6) =>
  if i_6 < (q.Atoms.length : Int) then
  (ix q.Atoms i_6).bind fun v_8 =>
  (app 8 ([]) v_8.Terms).bind fun l_10 =>
  (app 32 x_4 ([({ Relation := v_8.Relation, Terms := l_10 } : Atom)])).bind fun l_12 =>
  some (.inl (x_3, l_12, x_5, w64 (i_6 + 1)))
  else
  some (.inr (x_3, x_4, x_5))
def f105 (q : Query) : Option Query :=
 (app 8 ([]) q.Free).bind fun l_1 =>
 (iter (f105_0 q) (q.VariableCount, [], l_1, 0)).bind fun (x_16, x_17, x_18) =>
 some ({ VariableCount := x_16, Atoms := x_17, Free := x_18 } : Query)
def f144_2 (name_12 : (List Int)) (v_19 : Int) : Int × Int -> Option ((Int × Int) ⊕ Int)
 | (at_22, j_23) =>
  if j_23 < (name_12.length : Int) then
  (ix name_12 j_23).bind fun v_25 =>
  (((if v_25 = v_19 then
  some j_23
  else
  some at_22) : Option Int)).bind fun at_30 =>
  some (.inl (at_30, w64 (j_23 + 1)))
  else
  some (.inr at_22)
def f144_1 (i_7 : Int) : Int × (List Atom) × (List Int) × (List Int) × Int -> Option ((Int × (List Atom) × (List Int) × (List Int) × Int) ⊕ (Int × (List Atom) × (List Int) × (List Int)))
 | (x_9, x_10, x_11, name_12, k_13) =>
  (ix x_10 i_7).bind fun v_14 =>
  if k_13 < (v_14.Terms.length : Int) then
  ((((ix v_14.Terms k_13).bind fun v_19 =>
  if v_19 < 0 then
  some (x_10, name_12)
  else
  (iter ((f144_2 name_12 v_19)) (-1, 0)).bind fun at_33 =>
  (((if at_33 < 0 then
  (app 8 name_12 ([v_19])).bind fun l_37 =>
  some (l_37, (name_12.length : Int))
  else
  some (name_12, at_33)) : Option ((List Int) × Int))).bind fun (name_39, at_40) =>
  some ((x_10.set i_7.toNat ({ Relation := v_14.Relation, Terms := (v_14.Terms.set k_13.toNat at_40) } : Atom)), name_39)) : Option ((List Atom) × (List Int)))).bind fun (x_43, name_44) =>
  some (.inl (x_9, x_43, x_11, name_44, w64 (k_13 + 1)))
  else
  some (.inr (x_9, x_10, x_11, name_12))
def f144_0 : Int × (List Atom) × (List Int) × (List Int) × Int -> Option ((Int × (List Atom) × (List Int) × (List Int) × Int) ⊕ (Int × (List Atom) × (List Int) × (List Int)))
 | (x_3, x_4, x_5, name_6, i_7) =>
  if i_7 < (x_4.length : Int) then
  (iter (f144_1 i_7) (x_3, x_4, x_5, name_6, 0)).bind fun (x_47, x_48, x_49, name_50) =>
  some (.inl (x_47, x_48, x_49, name_50, w64 (i_7 + 1)))
  else
  some (.inr (x_3, x_4, x_5, name_6))
def f144 (q : Query) : Option Query :=
 (f105 q).bind fun o1 =>
 (iter f144_0 (o1.VariableCount, o1.Atoms, o1.Free, [], 0)).bind fun (x_53, x_54, x_55, name_56) =>
 some ({ VariableCount := (name_56.length : Int), Atoms := x_54, Free := x_55 } : Query)
def f102_1 (o3 : (Int × L1Cur)) : (List Int) × Int × Int × Int × (List Int) × Int -> Option (((List Int) × Int × Int × Int × (List Int) × Int) ⊕ ((List Int) × Int × Int × Int × (List Int)))
 | (c_15, c_16, c_17, a_18, a_19, m_20) =>
  if m_20 > 0 then
  (f21 ({ b := c_15, i := c_16, h := c_17 } : L1Cur) 12).bind fun o22 =>
  (((if o22.1 = true then
  (f20 o22.2 2).bind fun o27 =>
  (app 8 a_19 ([w64 ((-1) - o27.1)])).bind fun l_29 =>
  some (o27.2.b, o27.2.i, o27.2.h, l_29)
  else
  (f20 o22.2 (w64 (1 + o3.1))).bind fun o31 =>
  (app 8 a_19 ([o31.1])).bind fun l_33 =>
  some (o31.2.b, o31.2.i, o31.2.h, l_33)) : Option ((List Int) × Int × Int × (List Int)))).bind fun (c_35, c_36, c_37, a_38) =>
  some (.inl (c_35, c_36, c_37, a_18, a_38, w64 (m_20 - 1)))
  else
  some (.inr (c_15, c_16, c_17, a_18, a_19))
def f102_0 (o1 : (Int × L1Cur)) (o3 : (Int × L1Cur)) (o5 : (Int × L1Cur)) : (List Int) × Int × Int × Int × (List Atom) × (List Int) × Int -> Option (((List Int) × Int × Int × Int × (List Atom) × (List Int) × Int) ⊕ ((List Int) × Int × Int × Int × (List Atom) × (List Int)))
 | (c_7, c_8, c_9, q_10, q_11, q_12, i_13) =>
  if i_13 < (w64 (1 + o1.1)) then
  (iter ((f102_1 o3)) (c_7, c_8, c_9, (w64 (o5.1 + i_13)).tmod 4, [], w64 (2 + (w64 (((w64 (o5.1 + i_13)).tmod 4).tdiv 3))))).bind fun (c_41, c_42, c_43, a_44, a_45) =>
  (app 32 q_11 ([({ Relation := a_44, Terms := a_45 } : Atom)])).bind fun l_46 =>
  some (.inl (c_41, c_42, c_43, q_10, l_46, q_12, w64 (i_13 + 1)))
  else
  some (.inr (c_7, c_8, c_9, q_10, q_11, q_12))
def f102 (c : L1Cur) : Option (Query × L1Cur) :=
 (f20 c 3).bind fun o1 =>
 (f20 o1.2 4).bind fun o3 =>
 (f20 o3.2 4).bind fun o5 =>
 (iter (f102_0 o1 o3 o5) (o5.2.b, o5.2.i, o5.2.h, 0, [], [], 0)).bind fun (c_50, c_51, c_52, q_53, q_54, q_55) =>
 (f144 ({ VariableCount := q_53, Atoms := q_54, Free := q_55 } : Query)).bind fun o56 =>
 some (o56, ({ b := c_50, i := c_51, h := c_52 } : L1Cur))
def f101 (c : L1Cur) (list : (List (List UInt8))) : Option ((List UInt8) × L1Cur) :=
 (f20 c (list.length : Int)).bind fun o1 =>
 (ix list o1.1).bind fun v_3 =>
 some (v_3, o1.2)
def f108_0 (s0 : (List UInt8)) (sign : Int) : (List (List UInt8)) × Int × Int -> Option (((List (List UInt8)) × Int × Int) ⊕ ((List (List UInt8)) × Int))
 | (out_1, from_2, i_3) =>
  if i_3 < (s0.length : Int) then
  (ix s0 i_3).bind fun c_5 =>
  (((if (c_5.toNat : Int) = sign then
  (cutL s0 from_2 i_3).bind fun l_10 =>
  (app 16 out_1 ([l_10])).bind fun l_12 =>
  some (l_12, w64 (i_3 + 1))
  else
  some (out_1, from_2)) : Option ((List (List UInt8)) × Int))).bind fun (out_14, from_15) =>
  some (.inl (out_14, from_15, w64 (i_3 + 1)))
  else
  some (.inr (out_1, from_2))
def f108 (s0 : (List UInt8)) (sign : Int) : Option (List (List UInt8)) :=
 (iter (f108_0 s0 sign) ([], 0, 0)).bind fun (out_18, from_19) =>
 (cutL s0 from_19 s0.length).bind fun l_20 =>
 (app 16 out_18 ([l_20])).bind fun l_22 =>
 some l_22
def f179 (t : Int) : Option (Int × Bool) :=
 (((if t >= 0 then
 some true
 else
 (f38 (w64 ((-1) - t)) 0 9).bind fun o4 =>
 some (decide (¬ (o4 = true)))) : Option (Bool))).bind fun x_1 =>
 if x_1 = true then
 some (0, false)
 else
 some (w64 ((-1) - t), true)
def f180_0 : Int × (List UInt8) -> Option ((Int × (List UInt8)) ⊕ (List UInt8))
 | (n_2, out_3) =>
  if n_2 ≠ 0 then
  (((if (n_2.tmod 10) < 0 then
  some (w64 (-(n_2.tmod 10)))
  else
  some (n_2.tmod 10)) : Option Int)).bind fun d_8 =>
  (cat ([UInt8.ofNat (w8 (w64 (48 + d_8))).toNat]) out_3).bind fun s_9 =>
  some (.inl (w64 (n_2.tdiv 10), s_9))
  else
  some (.inr out_3)
def f180 (n0 : Int) : Option (List UInt8) :=
 if n0 = 0 then
 some ([48])
 else
 (iter (f180_0) (n0, [])).bind fun out_13 =>
 if n0 < 0 then
 (cat ([45]) out_13).bind fun s_15 =>
 some s_15
 else
 some out_13
def f152 (t : Int) : Option (List UInt8) :=
 (f179 t).bind fun o1 =>
 if o1.2 = true then
 (f180 o1.1).bind fun o4 =>
 some o4
 else
 (f38 t 0 3).bind fun o6 =>
 if ¬ (o6 = true) then
 some ([])
 else
 (cutL ([120, 121, 122, 119]) t (w64 (t + 1))).bind fun l_9 =>
 some l_9
def f109_0 (s0 : (List UInt8)) : Int -> Option (Int ⊕ (Unit ⊕ (Int × Bool)))
 | t_1 =>
  if t_1 < 4 then
  (f152 t_1).bind fun o3 =>
  if o3 = s0 then
  some (.inr (.inr (t_1, true)))
  else
  some (.inl (w64 (t_1 + 1)))
  else
  some (.inr (.inl ()))
def f109 (s0 : (List UInt8)) : Option (Int × Bool) :=
 (iter (f109_0 s0) (-10)).bind fun o => match o with
 | .inl _ =>
 some (0, false)
 | .inr (x_8, x_9) =>
 some (x_8, x_9)
def f110_0 (l : (List Relation)) (name : (List UInt8)) : Int -> Option (Int ⊕ (Unit ⊕ Int))
 | i_1 =>
  if i_1 < (l.length : Int) then
  (ix l i_1).bind fun v_3 =>
  if v_3.Name = name then
  some (.inr (.inr i_1))
  else
  some (.inl (w64 (i_1 + 1)))
  else
  some (.inr (.inl ()))
def f110 (l : (List Relation)) (name : (List UInt8)) : Option Int :=
 (iter (f110_0 l name) 0).bind fun o => match o with
 | .inl _ =>
 some (-1)
 | .inr x_8 =>
 some x_8
def f93_3 (q : Query) (i_17 : Int) (v_19 : Atom) : Int -> Option (Int ⊕ (Unit ⊕ Bool))
 | k_29 =>
  if k_29 < i_17 then
  (ix q.Atoms k_29).bind fun v_31 =>
  if v_31.Relation = v_19.Relation then
  some (.inr (.inr false))
  else
  some (.inl (w64 (k_29 + 1)))
  else
  some (.inr (.inl ()))
def f93_4 (q : Query) (v_19 : Atom) : (List Bool) × Int -> Option (((List Bool) × Int) ⊕ ((List Bool) ⊕ Bool))
 | (met_37, k_38) =>
  if k_38 < (v_19.Terms.length : Int) then
  (ix v_19.Terms k_38).bind fun v_40 =>
  (f38 v_40 (-10) (w64 (q.VariableCount - 1))).bind fun o42 =>
  if ¬ (o42 = true) then
  some (.inr (.inr false))
  else
  (((if v_40 >= 0 then
  (ix met_37 v_40).bind fun v_48 =>
  some (met_37.set v_40.toNat true)
  else
  some met_37) : Option (List Bool))).bind fun met_51 =>
  some (.inl (met_51, w64 (k_38 + 1)))
  else
  some (.inr (.inl met_37))
def f93_0 (l : (List Relation)) (q : Query) : (List Bool) × Int -> Option (((List Bool) × Int) ⊕ ((List Bool) ⊕ Bool))
 | (met_16, i_17) =>
  if i_17 < (q.Atoms.length : Int) then
  (ix q.Atoms i_17).bind fun v_19 =>
  (f38 v_19.Relation 0 (w64 ((l.length : Int) - 1))).bind fun o21 =>
  (((if ¬ (o21 = true) then
  some true
  else
  (ix l v_19.Relation).bind fun v_26 =>
  some (decide ((v_19.Terms.length : Int) ≠ v_26.Arity))) : Option (Bool))).bind fun x_23 =>
  if x_23 = true then
  some (.inr (.inr false))
  else
  (iter ((f93_3 q i_17 v_19)) 0).bind fun o => match o with
  | .inl _ =>
  ((iter ((f93_4 q v_19)) (met_16, 0)).bind fun o => match o with
  | .inl met_54 =>
  some (.inl (met_54, w64 (i_17 + 1)))
  | .inr x_55 =>
  some (.inr (.inr x_55)))
  | .inr x_36 =>
  some (.inr (.inr x_36))
  else
  some (.inr (.inl met_16))
def f93_1 (q : Query) (met_58 : (List Bool)) : Int -> Option (Int ⊕ (Unit ⊕ Bool))
 | v_60 =>
  if v_60 < q.VariableCount then
  (ix met_58 v_60).bind fun v_62 =>
  if ¬ (v_62 = true) then
  some (.inr (.inr false))
  else
  some (.inl (w64 (v_60 + 1)))
  else
  some (.inr (.inl ()))
def f93_2 (q : Query) : Int -> Option (Int ⊕ (Unit ⊕ Bool))
 | i_68 =>
  if i_68 < (q.Free.length : Int) then
  (ix q.Free i_68).bind fun v_70 =>
  (f38 v_70 0 (w64 (q.VariableCount - 1))).bind fun o72 =>
  (((if ¬ (o72 = true) then
  some true
  else
  (((if i_68 > 0 then
  (ix q.Free (w64 (i_68 - 1))).bind fun v_80 =>
  some (decide (v_70 <= v_80))
  else
  some false) : Option (Bool))).bind fun x_77 =>
  some x_77) : Option (Bool))).bind fun x_74 =>
  if x_74 = true then
  some (.inr (.inr false))
  else
  some (.inl (w64 (i_68 + 1)))
  else
  some (.inr (.inl ()))
def f93 (l : (List Relation)) (q : Query) : Option Bool :=
 (f37 l).bind fun o1 =>
 (((if ¬ (o1 = true) then
 some true
 else
 (f38 q.VariableCount 0 4).bind fun o6 =>
 (((if ¬ (o6 = true) then
 some true
 else
 (f38 (q.Atoms.length : Int) 1 3).bind fun o11 =>
 some (decide (¬ (o11 = true)))) : Option (Bool))).bind fun x_8 =>
 some x_8) : Option (Bool))).bind fun x_3 =>
 if x_3 = true then
 some false
 else
 (mkl 1 4 false).bind fun l_14 =>
 (iter (f93_0 l q) (l_14, 0)).bind fun o => match o with
 | .inl met_58 =>
 ((iter (f93_1 q met_58) 0).bind fun o => match o with
 | .inl _ =>
 ((iter (f93_2 q) 0).bind fun o => match o with
 | .inl _ =>
 some true
 | .inr x_85 =>
 some x_85)
 | .inr x_67 =>
 some x_67)
 | .inr x_59 =>
 some x_59
def f153_0 (l : (List Relation)) (a : Atom) : (List UInt8) × Int -> Option (((List UInt8) × Int) ⊕ (List UInt8))
 | (s_3, i_4) =>
  if i_4 < (a.Terms.length : Int) then
  (ix l a.Relation).bind fun v_6 =>
  (((if i_4 = v_6.KeyLength then
  (cat s_3 ([124])).bind fun s_11 =>
  some s_11
  else
  some s_3) : Option (List UInt8))).bind fun s_13 =>
  (ix a.Terms i_4).bind fun v_14 =>
  (f152 v_14).bind fun o16 =>
  (cat s_13 o16).bind fun s_18 =>
  some (.inl (s_18, w64 (i_4 + 1)))
  else
  some (.inr s_3)
def f153 (l : (List Relation)) (a : Atom) : Option (List UInt8) :=
 (ix l a.Relation).bind fun v_1 =>
 (iter (f153_0 l a) (v_1.Name, 0)).bind fun s_22 =>
 some s_22
def f111_0 (q : Query) : (List UInt8) × Int -> Option (((List UInt8) × Int) ⊕ (List UInt8))
 | (s_4, i_5) =>
  if i_5 < (q.Free.length : Int) then
  (ix q.Free i_5).bind fun v_7 =>
  (f152 v_7).bind fun o9 =>
  (cat s_4 o9).bind fun s_11 =>
  some (.inl (s_11, w64 (i_5 + 1)))
  else
  some (.inr s_4)
def f111_1 (l : (List Relation)) (q : Query) : (List UInt8) × Int -> Option (((List UInt8) × Int) ⊕ (List UInt8))
 | (s_18, i_19) =>
  if i_19 < (q.Atoms.length : Int) then
  (((if i_19 > 0 then
  (cat s_18 ([32])).bind fun s_24 =>
  some s_24
  else
  some s_18) : Option (List UInt8))).bind fun s_26 =>
  (ix q.Atoms i_19).bind fun v_27 =>
  (f153 l v_27).bind fun o29 =>
  (cat s_26 o29).bind fun s_31 =>
  some (.inl (s_31, w64 (i_19 + 1)))
  else
  some (.inr s_18)
def f111 (l : (List Relation)) (q : Query) : Option (List UInt8) :=
 (f93 l q).bind fun o1 =>
 if ¬ (o1 = true) then
 some ([])
 else
 (iter ((f111_0 q)) ([], 0)).bind fun s_15 =>
 (cat s_15 ([63])).bind fun s_16 =>
 (iter (f111_1 l q) (s_16, 0)).bind fun s_35 =>
 some s_35
def f66_0 (o1 : (List (List UInt8))) : Int × (List Atom) × (List Int) × Int -> Option ((Int × (List Atom) × (List Int) × Int) ⊕ (Int × (List Atom) × (List Int)))
 | (q_4, q_5, q_6, i_7) =>
  (ix o1 0).bind fun v_8 =>
  if i_7 < (v_8.length : Int) then
  (cutL v_8 i_7 (w64 (i_7 + 1))).bind fun l_11 =>
  (f109 l_11).bind fun o13 =>
  (app 8 q_6 ([o13.1])).bind fun l_15 =>
  some (.inl (q_4, q_5, l_15, w64 (i_7 + 1)))
  else
  some (.inr (q_4, q_5, q_6))
def f66_2 (l : (List Relation)) (o24 : (List (List UInt8))) (i_29 : Int) : Int × (List Atom) × (List Int) × Int × (List Int) × Int -> Option ((Int × (List Atom) × (List Int) × Int × (List Int) × Int) ⊕ (Int × (List Atom) × (List Int) × Int × (List Int)))
 | (q_31, q_32, q_33, a_34, a_35, k_36) =>
  (ix o24 i_29).bind fun v_37 =>
  if k_36 < (v_37.length : Int) then
  (((if k_36 = 0 then
  (cutL v_37 0 1).bind fun l_43 =>
  (f110 l l_43).bind fun o45 =>
  some (q_31, o45, a_35)
  else
  (ix v_37 k_36).bind fun c_47 =>
  if (c_47.toNat : Int) = 124 then
  some (q_31, a_34, a_35)
  else
  (cutL v_37 k_36 (w64 (k_36 + 1))).bind fun l_50 =>
  (f109 l_50).bind fun o52 =>
  (app 8 a_35 ([o52.1])).bind fun l_54 =>
  some (if w64 (o52.1 + 1) > q_31 then w64 (o52.1 + 1) else q_31, a_34, l_54)) : Option (Int × Int × (List Int)))).bind fun (q_56, a_57, a_58) =>
  some (.inl (q_56, q_32, q_33, a_57, a_58, w64 (k_36 + 1)))
  else
  some (.inr (q_31, q_32, q_33, a_34, a_35))
def f66_1 (l : (List Relation)) (o24 : (List (List UInt8))) : Int × (List Atom) × (List Int) × Int -> Option ((Int × (List Atom) × (List Int) × Int) ⊕ (Int × (List Atom) × (List Int)))
 | (q_26, q_27, q_28, i_29) =>
  if i_29 < (o24.length : Int) then
  (iter ((f66_2 l o24 i_29)) (q_26, q_27, q_28, 0, [], 0)).bind fun (q_61, q_62, q_63, a_64, a_65) =>
  (app 32 q_62 ([({ Relation := a_64, Terms := a_65 } : Atom)])).bind fun l_66 =>
  some (.inl (q_61, l_66, q_63, w64 (i_29 + 1)))
  else
  some (.inr (q_26, q_27, q_28))
def f66 (l : (List Relation)) (s1 : (List UInt8)) : Option (Query × Bool) :=
 (f108 s1 63).bind fun o1 =>
 if (o1.length : Int) ≠ 2 then
 some (({ VariableCount := 0, Atoms := [], Free := [] } : Query), false)
 else
 (iter ((f66_0 o1)) (0, [], [], 0)).bind fun (q_19, q_20, q_21) =>
 (ix o1 1).bind fun v_22 =>
 (f108 v_22 32).bind fun o24 =>
 (iter ((f66_1 l o24)) (q_19, q_20, q_21, 0)).bind fun (q_70, q_71, q_72) =>
 (f111 l ({ VariableCount := q_70, Atoms := q_71, Free := q_72 } : Query)).bind fun o73 =>
 if o73 ≠ s1 then
 some (({ VariableCount := 0, Atoms := [], Free := [] } : Query), false)
 else
 some (({ VariableCount := q_70, Atoms := q_71, Free := q_72 } : Query), true)
def f103 (c : L1Cur) (l : (List Relation)) : Option (Query × L1Cur) :=
 (f101 c ([[63, 114, 120, 124, 121, 32, 115, 121, 124, 122], [63, 114, 120, 124, 121, 32, 115, 121, 124, 120], [63, 114, 120, 124, 121, 32, 115, 122, 124, 121], [63, 114, 120, 124, 121, 32, 115, 120, 124, 122], [63, 114, 120, 124, 49], [63, 114, 120, 124, 120], [63, 114, 120, 124, 121, 32, 115, 121, 124, 49], [63, 114, 120, 124, 121, 32, 115, 121, 124, 122, 32, 114], [63, 114, 120, 124, 121], [63, 114, 120, 124, 122, 32, 115, 121, 124, 122]])).bind fun o1 =>
 (f66 l o1.1).bind fun o3 =>
 (((if ¬ (o3.2 = true) then
 (f66 l ([63, 114, 120, 124, 121, 32, 115, 121, 124, 122])).bind fun o8 =>
 some (o8.1.VariableCount, o8.1.Atoms, o8.1.Free)
 else
 some (o3.1.VariableCount, o3.1.Atoms, o3.1.Free)) : Option (Int × (List Atom) × (List Int)))).bind fun (q_10, q_11, q_12) =>
 some (({ VariableCount := q_10, Atoms := q_11, Free := q_12 } : Query), o1.2)
def f64_0 : (List Int) × Int × Int × Int × (List Atom) × (List Int) × Int -> Option (((List Int) × Int × Int × Int × (List Atom) × (List Int) × Int) ⊕ ((List Int) × Int × Int × Int × (List Atom) × (List Int)))
 | (c_21, c_22, c_23, q_24, q_25, q_26, v_27) =>
  if v_27 < q_24 then
  (f21 ({ b := c_21, i := c_22, h := c_23 } : L1Cur) 3).bind fun o29 =>
  (((if o29.1 = true then
  (app 8 q_26 ([v_27])).bind fun l_34 =>
  some l_34
  else
  some q_26) : Option (List Int))).bind fun q_36 =>
  some (.inl (o29.2.b, o29.2.i, o29.2.h, q_24, q_25, q_36, w64 (v_27 + 1)))
  else
  some (.inr (c_21, c_22, c_23, q_24, q_25, q_26))
def f64 (c : L1Cur) (l : (List Relation)) : Option (Query × L1Cur) :=
 (f102 c).bind fun o1 =>
 (f21 o1.2 3).bind fun o3 =>
 (((if o3.1 = true then
 (f103 o3.2 l).bind fun o8 =>
 some (o8.2.b, o8.2.i, o8.2.h, o8.1.VariableCount, o8.1.Atoms, o8.1.Free)
 else
 some (o3.2.b, o3.2.i, o3.2.h, o1.1.VariableCount, o1.1.Atoms, o1.1.Free)) : Option ((List Int) × Int × Int × Int × (List Atom) × (List Int)))).bind fun (c_10, c_11, c_12, q_13, q_14, q_15) =>
 (f21 ({ b := c_10, i := c_11, h := c_12 } : L1Cur) 4).bind fun o16 =>
 (((if o16.1 = true then
 (iter f64_0 (o16.2.b, o16.2.i, o16.2.h, q_13, q_14, q_15, 0)).bind fun (c_39, c_40, c_41, q_42, q_43, q_44) =>
 some (c_39, c_40, c_41, q_42, q_43, q_44)
 else
 some (o16.2.b, o16.2.i, o16.2.h, q_13, q_14, q_15)) : Option ((List Int) × Int × Int × Int × (List Atom) × (List Int)))).bind fun (c_45, c_46, c_47, q_48, q_49, q_50) =>
 some (({ VariableCount := q_48, Atoms := q_49, Free := q_50 } : Query), ({ b := c_45, i := c_46, h := c_47 } : L1Cur))
def f124 (c : L1Cur) (l : (List Relation)) : Option (Query × L1Cur) :=
 (f64 c l).bind fun o1 =>
 (f20 o1.2 14).bind fun o3 =>
 (((if o3.1 = 0 then
 (f67 o3.2 ([-1, w64 (o1.1.VariableCount + 1), 5])).bind fun o8 =>
 some (o8.2.b, o8.2.i, o8.2.h, o8.1, o1.1.Atoms, o1.1.Free)
 else
 (((if o3.1 = 1 then
 (f20 o3.2 6).bind fun o13 =>
 (app 32 o1.1.Atoms ([({ Relation := w64 (o13.1 - 1), Terms := [0, 0] } : Atom)])).bind fun l_15 =>
 some (o13.2.b, o13.2.i, o13.2.h, l_15, o1.1.Free)
 else
 (((if o3.1 = 2 then
 (ix o1.1.Atoms 0).bind fun v_20 =>
 (f67 o3.2 ([-11, 4, 3])).bind fun o22 =>
 (ix v_20.Terms 0).bind fun v_24 =>
 some (o22.2.b, o22.2.i, o22.2.h, (o1.1.Atoms.set (0 : Int).toNat ({ Relation := v_20.Relation, Terms := (v_20.Terms.set (0 : Int).toNat o22.1) } : Atom)), o1.1.Free)
 else
 (((if o3.1 = 3 then
 (f20 o3.2 5).bind fun o31 =>
 (app 8 o1.1.Free ([o31.1])).bind fun l_33 =>
 some (o31.2.b, o31.2.i, o31.2.h, l_33)
 else
 some (o3.2.b, o3.2.i, o3.2.h, o1.1.Free)) : Option ((List Int) × Int × Int × (List Int)))).bind fun (c_35, c_36, c_37, q_38) =>
 some (c_35, c_36, c_37, o1.1.Atoms, q_38)) : Option ((List Int) × Int × Int × (List Atom) × (List Int)))).bind fun (c_39, c_40, c_41, q_42, q_43) =>
 some (c_39, c_40, c_41, q_42, q_43)) : Option ((List Int) × Int × Int × (List Atom) × (List Int)))).bind fun (c_44, c_45, c_46, q_47, q_48) =>
 some (c_44, c_45, c_46, o1.1.VariableCount, q_47, q_48)) : Option ((List Int) × Int × Int × Int × (List Atom) × (List Int)))).bind fun (c_49, c_50, c_51, q_52, q_53, q_54) =>
 some (({ VariableCount := q_52, Atoms := q_53, Free := q_54 } : Query), ({ b := c_49, i := c_50, h := c_51 } : L1Cur))
def f82 (code : (List Int)) : Option (L1Cur × Database × Query) :=
 (f18 code).bind fun o1 =>
 (f123 o1).bind fun o3 =>
 (f64 o3.2 o3.1.Relations).bind fun o5 =>
 (f21 o5.2 20).bind fun o7 =>
 (((if o7.1 = true then
 (f124 o7.2 o3.1.Relations).bind fun o12 =>
 some (o12.2.b, o12.2.i, o12.2.h, o12.1.VariableCount, o12.1.Atoms, o12.1.Free)
 else
 some (o7.2.b, o7.2.i, o7.2.h, o5.1.VariableCount, o5.1.Atoms, o5.1.Free)) : Option ((List Int) × Int × Int × Int × (List Atom) × (List Int)))).bind fun (c_14, c_15, c_16, q_17, q_18, q_19) =>
 some (({ b := c_14, i := c_15, h := c_16 } : L1Cur), o3.1, ({ VariableCount := q_17, Atoms := q_18, Free := q_19 } : Query))
def f44_0 : (List Relation) × (List Fact) -> Option (((List Relation) × (List Fact)) ⊕ ((List Relation) × (List Fact)))
 | (d_3, d_4) =>
  if (d_4.length : Int) > 7 then
  (cutL d_4 0 (w64 ((d_4.length : Int) - 1))).bind fun l_6 =>
  some (.inl (d_3, l_6))
  else
  some (.inr (d_3, d_4))
def f44 (code : (List Int)) : Option (L1Cur × Database × Query) :=
 (f82 code).bind fun o1 =>
 (iter (f44_0) (o1.2.1.Relations, o1.2.1.Facts)).bind fun (d_10, d_11) =>
 some (o1.1, ({ Relations := d_10, Facts := d_11 } : Database), o1.2.2)
def f56 (d : Database) (q : Query) : Option Bool :=
 (f11 d).bind fun o1 =>
 (((if o1 = true then
 (f93 d.Relations q).bind fun o6 =>
 some o6
 else
 some false) : Option (Bool))).bind fun x_3 =>
 some x_3
def f173_0 (d : Database) (l : (List Int)) : Int -> Option (Int ⊕ (Unit ⊕ Bool))
 | i_1 =>
  if i_1 < (l.length : Int) then
  (ix l i_1).bind fun v_3 =>
  (f38 v_3 0 (w64 ((d.Facts.length : Int) - 1))).bind fun o5 =>
  (((if ¬ (o5 = true) then
  some true
  else
  (((if i_1 > 0 then
  (ix l (w64 (i_1 - 1))).bind fun v_13 =>
  some (decide (v_3 <= v_13))
  else
  some false) : Option (Bool))).bind fun x_10 =>
  some x_10) : Option (Bool))).bind fun x_7 =>
  if x_7 = true then
  some (.inr (.inr false))
  else
  some (.inl (w64 (i_1 + 1)))
  else
  some (.inr (.inl ()))
def f173 (d : Database) (l : (List Int)) : Option Bool :=
 (iter (f173_0 d l) 0).bind fun o => match o with
 | .inl _ =>
 some true
 | .inr x_18 =>
 some x_18
def f138_0 (d : Database) (l : (List Int)) : (List Relation) × (List Fact) × Int -> Option (((List Relation) × (List Fact) × Int) ⊕ ((List Relation) × (List Fact)))
 | (x_11, x_12, i_13) =>
  if i_13 < (l.length : Int) then
  (ix l i_13).bind fun v_15 =>
  (ix d.Facts v_15).bind fun v_17 =>
  (app 8 ([]) v_17.Values).bind fun l_19 =>
  (app 32 x_12 ([({ Relation := v_17.Relation, Values := l_19 } : Fact)])).bind fun l_21 =>
  some (.inl (x_11, l_21, w64 (i_13 + 1)))
  else
  some (.inr (x_11, x_12))
def f138 (d : Database) (l : (List Int)) : Option (Database × Bool) :=
 (f11 d).bind fun o1 =>
 (((if ¬ (o1 = true) then
 some true
 else
 (f173 d l).bind fun o6 =>
 some (decide (¬ (o6 = true)))) : Option (Bool))).bind fun x_3 =>
 if x_3 = true then
 some (({ Relations := [], Facts := [] } : Database), false)
 else
 (app 32 ([]) d.Relations).bind fun l_9 =>
 (iter (f138_0 d l) (l_9, [], 0)).bind fun (x_25, x_26) =>
 some (({ Relations := x_25, Facts := x_26 } : Database), true)
def f174 (l : (List Relation)) (f : Fact) : Option (List Int) :=
 (f42 l f).bind fun o1 =>
 if ¬ (o1 = true) then
 some ([])
 else
 (ix l f.Relation).bind fun v_4 =>
 (cutL f.Values 0 v_4.KeyLength).bind fun l_6 =>
 (app 8 ([]) l_6).bind fun l_8 =>
 some l_8
def f140 (l : (List Relation)) (a : Fact) (b : Fact) : Option Bool :=
 (f42 l a).bind fun o1 =>
 (((if o1 = true then
 (f42 l b).bind fun o6 =>
 (((if o6 = true then
 (((if a.Relation = b.Relation then
 (f174 l a).bind fun o14 =>
 (f174 l b).bind fun o16 =>
 (f81 o14 o16).bind fun o18 =>
 some (decide (o18 = 0))
 else
 some false) : Option (Bool))).bind fun x_11 =>
 some x_11
 else
 some false) : Option (Bool))).bind fun x_8 =>
 some x_8
 else
 some false) : Option (Bool))).bind fun x_3 =>
 some x_3
def f97_0 (d : Database) (i : Int) : (List Int) × Int -> Option (((List Int) × Int) ⊕ (List Int))
 | (out_1, k_2) =>
  (((if k_2 < (d.Facts.length : Int) then
  (f11 d).bind fun o6 =>
  (((if o6 = true then
  (f38 i 0 (w64 ((d.Facts.length : Int) - 1))).bind fun o11 =>
  some o11
  else
  some false) : Option (Bool))).bind fun x_8 =>
  some x_8
  else
  some false) : Option (Bool))).bind fun x_3 =>
  if x_3 = true then
  (ix d.Facts i).bind fun v_14 =>
  (ix d.Facts k_2).bind fun v_16 =>
  (f140 d.Relations v_14 v_16).bind fun o18 =>
  (((if o18 = true then
  (app 8 out_1 ([k_2])).bind fun l_23 =>
  some l_23
  else
  some out_1) : Option (List Int))).bind fun out_25 =>
  some (.inl (out_25, w64 (k_2 + 1)))
  else
  some (.inr out_1)
def f97 (d : Database) (i : Int) : Option (List Int) :=
 (iter (f97_0 d i) ([], 0)).bind fun out_28 =>
 some out_28
def f58_0 (d : Database) : (List (List Int)) × Int -> Option (((List (List Int)) × Int) ⊕ (List (List Int)))
 | (out_1, i_2) =>
  (((if i_2 < (d.Facts.length : Int) then
  (f11 d).bind fun o6 =>
  some o6
  else
  some false) : Option (Bool))).bind fun x_3 =>
  if x_3 = true then
  (f97 d i_2).bind fun o9 =>
  (ix o9 0).bind fun v_11 =>
  (((if v_11 = i_2 then
  (app 24 out_1 ([o9])).bind fun l_16 =>
  some l_16
  else
  some out_1) : Option (List (List Int)))).bind fun out_18 =>
  some (.inl (out_18, w64 (i_2 + 1)))
  else
  some (.inr out_1)
def f58 (d : Database) : Option (List (List Int)) :=
 (iter (f58_0 d) ([], 0)).bind fun out_21 =>
 some out_21
def f139 (d : Database) : Option Bool :=
 (f11 d).bind fun o1 =>
 (((if o1 = true then
 (f58 d).bind fun o6 =>
 some (decide ((o6.length : Int) = (d.Facts.length : Int)))
 else
 some false) : Option (Bool))).bind fun x_3 =>
 some x_3
def f96 (d : Database) (l : (List Int)) : Option Bool :=
 (f138 d l).bind fun o1 =>
 (((if o1.2 = true then
 (f139 o1.1).bind fun o6 =>
 some o6
 else
 some false) : Option (Bool))).bind fun x_3 =>
 some x_3
def f159_2 (d : Database) (last_12 : (List (List Int))) (i_16 : Int) : (List (List Int)) × Int -> Option (((List (List Int)) × Int) ⊕ (List (List Int)))
 | (more_26, x_27) =>
  if x_27 < (d.Facts.length : Int) then
  (ix last_12 i_16).bind fun v_29 =>
  (app 8 ([]) v_29).bind fun l_31 =>
  (app 8 l_31 ([x_27])).bind fun l_33 =>
  (f96 d l_33).bind fun o35 =>
  (((if o35 = true then
  (app 24 more_26 ([l_33])).bind fun l_40 =>
  some l_40
  else
  some more_26) : Option (List (List Int)))).bind fun more_42 =>
  some (.inl (more_42, w64 (x_27 + 1)))
  else
  some (.inr more_26)
def f159_1 (d : Database) (last_12 : (List (List Int))) : (List (List Int)) × Int -> Option (((List (List Int)) × Int) ⊕ (List (List Int)))
 | (more_15, i_16) =>
  if i_16 < (last_12.length : Int) then
  (ix last_12 i_16).bind fun v_18 =>
  (((if (v_18.length : Int) > 0 then
  (ix v_18 (w64 ((v_18.length : Int) - 1))).bind fun v_23 =>
  some (w64 (v_23 + 1))
  else
  some 0) : Option Int)).bind fun from_25 =>
  (iter ((f159_2 d last_12 i_16)) (more_15, from_25)).bind fun more_45 =>
  some (.inl (more_45, w64 (i_16 + 1)))
  else
  some (.inr more_15)
def f159_0 (d : Database) (k : Int) : (List (List Int)) × (List (List Int)) × Int -> Option (((List (List Int)) × (List (List Int)) × Int) ⊕ (List (List Int)))
 | (out_11, last_12, n_13) =>
  if n_13 < k then
  (iter ((f159_1 d last_12)) ([], 0)).bind fun more_48 =>
  (app 24 out_11 more_48).bind fun l_49 =>
  some (.inl (l_49, more_48, w64 (n_13 + 1)))
  else
  some (.inr out_11)
def f159 (d : Database) (k : Int) : Option (List (List Int)) :=
 (f11 d).bind fun o1 =>
 (((if ¬ (o1 = true) then
 some true
 else
 (f38 k 0 3).bind fun o6 =>
 some (decide (¬ (o6 = true)))) : Option (Bool))).bind fun x_3 =>
 if x_3 = true then
 some ([])
 else
 (app 24 ([]) ([[]])).bind fun l_9 =>
 (iter (f159_0 d k) (l_9, [[]], 0)).bind fun out_53 =>
 some out_53
def f28_0 (n0 : Int) : (List Int) -> Option ((List Int) ⊕ (List Int))
 | l_1 =>
  if (l_1.length : Int) < n0 then
  (app 8 l_1 ([-1])).bind fun l_3 =>
  some (.inl l_3)
  else
  some (.inr l_1)
def f28 (n0 : Int) : Option (List Int) :=
 (iter (f28_0 n0) ([])).bind fun l_7 =>
 some l_7
def f73_0 (a : Atom) (f : Fact) : (List Int) × Int -> Option (((List Int) × Int) ⊕ ((List Int) ⊕ ((List Int) × Bool)))
 | (x_7, i_8) =>
  if i_8 < (a.Terms.length : Int) then
  ((((ix a.Terms i_8).bind fun v_12 =>
  if v_12 < 0 then
  (ix f.Values i_8).bind fun v_15 =>
  if (w64 ((-1) - v_12)) ≠ v_15 then
  some (.inr (x_7, false))
  else
  some (.inl x_7)
  else
  (ix x_7 v_12).bind fun v_18 =>
  (((if v_18 >= 0 then
  (ix f.Values i_8).bind fun v_23 =>
  some (decide (v_18 ≠ v_23))
  else
  some false) : Option (Bool))).bind fun x_20 =>
  if x_20 = true then
  some (.inr (x_7, false))
  else
  (ix f.Values i_8).bind fun v_26 =>
  some (.inl (x_7.set v_12.toNat v_26))) : Option ((List Int) ⊕ ((List Int) × Bool)))).bind fun o => match o with
  | .inl x_29 =>
  some (.inl (x_29, w64 (i_8 + 1)))
  | .inr (x_30, x_31) =>
  some (.inr (.inr (x_30, x_31)))
  else
  some (.inr (.inl x_7))
def f73 (a : Atom) (f : Fact) (vals : (List Int)) : Option ((List Int) × Bool) :=
 (app 8 ([]) vals).bind fun l_1 =>
 (((if f.Relation ≠ a.Relation then
 some true
 else
 some (decide ((f.Values.length : Int) ≠ (a.Terms.length : Int)))) : Option (Bool))).bind fun x_3 =>
 if x_3 = true then
 some (l_1, false)
 else
 (iter (f73_0 a f) (l_1, 0)).bind fun o => match o with
 | .inl x_34 =>
 some (x_34, true)
 | .inr (x_35, x_36) =>
 some (x_35, x_36)
def f137_0 (d : Database) (q : Query) (k : Int) (vals : (List Int)) (facts : (List Int)) (rec : Database -> Query -> Int -> (List Int) -> (List Int) -> Option (List Embedding)) : (List Embedding) × Int -> Option (((List Embedding) × Int) ⊕ (List Embedding))
 | (out_6, i_7) =>
  if i_7 < (d.Facts.length : Int) then
  (ix q.Atoms k).bind fun v_9 =>
  (ix d.Facts i_7).bind fun v_11 =>
  (f73 v_9 v_11 vals).bind fun o13 =>
  (((if o13.2 = true then
  (app 8 ([]) facts).bind fun l_18 =>
  (app 8 l_18 ([i_7])).bind fun l_20 =>
  (rec d q (w64 (k + 1)) o13.1 l_20).bind fun o22 =>
  (app 48 out_6 o22).bind fun l_24 =>
  some l_24
  else
  some out_6) : Option (List Embedding))).bind fun out_26 =>
  some (.inl (out_26, w64 (i_7 + 1)))
  else
  some (.inr out_6)
def f137 : Nat -> Database -> Query -> Int -> (List Int) -> (List Int) -> Option (List Embedding)
 | 0 => fun _ _ _ _ _ => none
 | n + 1 => fun d q k vals facts =>
  if k = (q.Atoms.length : Int) then
  (app 8 ([]) vals).bind fun l_2 =>
  (app 8 ([]) facts).bind fun l_4 =>
  some ([({ Values := l_2, Facts := l_4 } : Embedding)])
  else
  (iter (f137_0 d q k vals facts (f137 n)) ([], 0)).bind fun out_29 =>
  some out_29
def f94 (d : Database) (q : Query) : Option (List Embedding) :=
 (f56 d q).bind fun o1 =>
 if ¬ (o1 = true) then
 some ([])
 else
 (f28 q.VariableCount).bind fun o4 =>
 (f137 64 d q 0 o4 ([])).bind fun o6 =>
 some o6
def f95_1 (l : (List Int)) (out_1 : (List Int)) (i_2 : Int) : Int -> Option (Int ⊕ Int)
 | k_4 =>
  (((if k_4 > 0 then
  (ix out_1 (w64 (k_4 - 1))).bind fun v_8 =>
  (ix l i_2).bind fun v_10 =>
  some (decide (v_8 > v_10))
  else
  some false) : Option (Bool))).bind fun x_5 =>
  if x_5 = true then
  some (.inl (w64 (k_4 - 1)))
  else
  some (.inr k_4)
def f95_0 (l : (List Int)) : (List Int) × Int -> Option (((List Int) × Int) ⊕ (List Int))
 | (out_1, i_2) =>
  if i_2 < (l.length : Int) then
  (iter (f95_1 l out_1 i_2) (out_1.length : Int)).bind fun k_15 =>
  (cutL out_1 0 k_15).bind fun l_16 =>
  (ix l i_2).bind fun v_18 =>
  (cutL out_1 k_15 out_1.length).bind fun l_20 =>
  (app 8 ([]) l_16).bind fun l_22 =>
  (app 8 l_22 ([v_18])).bind fun l_24 =>
  (app 8 l_24 l_20).bind fun l_26 =>
  some (.inl (l_26, w64 (i_2 + 1)))
  else
  some (.inr out_1)
def f95 (l : (List Int)) : Option (List Int) :=
 (iter (f95_0 l) ([], 0)).bind fun out_30 =>
 some out_30
def f57_0 (d : Database) (o1 : (List Embedding)) : (List (List Int)) × Int -> Option (((List (List Int)) × Int) ⊕ (List (List Int)))
 | (out_3, i_4) =>
  if i_4 < (o1.length : Int) then
  (ix o1 i_4).bind fun v_6 =>
  (f95 v_6.Facts).bind fun o8 =>
  (f96 d o8).bind fun o10 =>
  (((if o10 = true then
  (app 24 out_3 ([o8])).bind fun l_15 =>
  some l_15
  else
  some out_3) : Option (List (List Int)))).bind fun out_17 =>
  some (.inl (out_17, w64 (i_4 + 1)))
  else
  some (.inr out_3)
def f57 (d : Database) (q : Query) : Option (List (List Int)) :=
 (f94 d q).bind fun o1 =>
 (iter (f57_0 d o1) ([], 0)).bind fun out_20 =>
 some out_20
def f80_0 (l : (List Int)) (x : Int) : Int -> Option (Int ⊕ (Unit ⊕ Bool))
 | i_1 =>
  if i_1 < (l.length : Int) then
  (ix l i_1).bind fun v_3 =>
  if v_3 = x then
  some (.inr (.inr true))
  else
  some (.inl (w64 (i_1 + 1)))
  else
  some (.inr (.inl ()))
def f80 (l : (List Int)) (x : Int) : Option Bool :=
 (iter (f80_0 l x) 0).bind fun o => match o with
 | .inl _ =>
 some false
 | .inr x_8 =>
 some x_8
def f141_1 (l : (List (List Int))) (s1 : (List Int)) (i_1 : Int) : Bool × Int -> Option ((Bool × Int) ⊕ Bool)
 | (all_3, k_4) =>
  (ix l i_1).bind fun v_5 =>
  if k_4 < (v_5.length : Int) then
  (((if all_3 = true then
  (ix v_5 k_4).bind fun v_11 =>
  (f80 s1 v_11).bind fun o13 =>
  some o13
  else
  some false) : Option (Bool))).bind fun all_8 =>
  some (.inl (all_8, w64 (k_4 + 1)))
  else
  some (.inr all_3)
def f141_0 (l : (List (List Int))) (s1 : (List Int)) : Int -> Option (Int ⊕ (Unit ⊕ Bool))
 | i_1 =>
  if i_1 < (l.length : Int) then
  (iter (f141_1 l s1 i_1) (true, 0)).bind fun all_17 =>
  if all_17 = true then
  some (.inr (.inr true))
  else
  some (.inl (w64 (i_1 + 1)))
  else
  some (.inr (.inl ()))
def f141 (l : (List (List Int))) (s1 : (List Int)) : Option Bool :=
 (iter (f141_0 l s1) 0).bind fun o => match o with
 | .inl _ =>
 some false
 | .inr x_21 =>
 some x_21
def f98 (l : (List (List Int))) (s1 : (List Int)) : Option Bool :=
 (f141 l s1).bind fun o1 =>
 some o1
def f127_1 (blocks : (List (List Int))) (s2 : (List Int)) (i_1 : Int) : Bool × Int -> Option ((Bool × Int) ⊕ Bool)
 | (is_3, k_4) =>
  (ix blocks i_1).bind fun v_5 =>
  if k_4 < (v_5.length : Int) then
  (((if is_3 = true then
  (ix v_5 k_4).bind fun v_11 =>
  (f80 s2 v_11).bind fun o13 =>
  some (decide (¬ (o13 = true)))
  else
  some false) : Option (Bool))).bind fun is_8 =>
  some (.inl (is_8, w64 (k_4 + 1)))
  else
  some (.inr is_3)
def f127_2 (l : (List (List Int))) (blocks : (List (List Int))) (s2 : (List Int)) (i_1 : Int) : Bool × Int -> Option ((Bool × Int) ⊕ Bool)
 | (is_18, k_19) =>
  (ix blocks i_1).bind fun v_20 =>
  (((if k_19 < (v_20.length : Int) then
  some is_18
  else
  some false) : Option (Bool))).bind fun x_22 =>
  if x_22 = true then
  (ix v_20 k_19).bind fun v_26 =>
  (app 8 ([]) s2).bind fun l_28 =>
  (app 8 l_28 ([v_26])).bind fun l_30 =>
  (f98 l l_30).bind fun o32 =>
  some (.inl (o32, w64 (k_19 + 1)))
  else
  some (.inr is_18)
def f127_0 (l : (List (List Int))) (blocks : (List (List Int))) (s2 : (List Int)) : Int -> Option (Int ⊕ (Unit ⊕ Int))
 | i_1 =>
  if i_1 < (blocks.length : Int) then
  (iter ((f127_1 blocks s2 i_1)) (true, 0)).bind fun is_17 =>
  (iter (f127_2 l blocks s2 i_1) (is_17, 0)).bind fun is_36 =>
  if is_36 = true then
  some (.inr (.inr i_1))
  else
  some (.inl (w64 (i_1 + 1)))
  else
  some (.inr (.inl ()))
def f127 (l : (List (List Int))) (blocks : (List (List Int))) (s2 : (List Int)) : Option Int :=
 (iter (f127_0 l blocks s2) 0).bind fun o => match o with
 | .inl _ =>
 some (-1)
 | .inr x_40 =>
 some x_40
def f126_0 (o4 : (List (List Int))) (o6 : (List (List Int))) : (List (List Int)) × (List Bool) × Int -> Option (((List (List Int)) × (List Bool) × Int) ⊕ ((List (List Int)) × (List Bool)))
 | (out_10, known_11, i_12) =>
  if i_12 < (o4.length : Int) then
  (ix o4 i_12).bind fun v_14 =>
  (f98 o6 v_14).bind fun o16 =>
  (((if o16 = true then
  (ix known_11 i_12).bind fun v_21 =>
  (app 24 out_10 ([v_14])).bind fun l_24 =>
  some (l_24, (known_11.set i_12.toNat true))
  else
  some (out_10, known_11)) : Option ((List (List Int)) × (List Bool)))).bind fun (out_26, known_27) =>
  some (.inl (out_26, known_27, w64 (i_12 + 1)))
  else
  some (.inr (out_10, known_11))
def f126_2 (o4 : (List (List Int))) (o32 : (List (List Int))) : (List (List Int)) × (List Bool) × Bool × Int -> Option (((List (List Int)) × (List Bool) × Bool × Int) ⊕ ((List (List Int)) × (List Bool) × Bool))
 | (out_38, known_39, more_40, i_41) =>
  if i_41 < (o4.length : Int) then
  (ix known_39 i_41).bind fun v_43 =>
  (((if ¬ (v_43 = true) then
  (ix o4 i_41).bind fun v_48 =>
  (f127 out_38 o32 v_48).bind fun o50 =>
  some (decide (o50 >= 0))
  else
  some false) : Option (Bool))).bind fun x_45 =>
  (((if x_45 = true then
  (ix o4 i_41).bind fun v_56 =>
  (app 24 out_38 ([v_56])).bind fun l_58 =>
  some (l_58, (known_39.set i_41.toNat true), true)
  else
  some (out_38, known_39, more_40)) : Option ((List (List Int)) × (List Bool) × Bool))).bind fun (out_60, known_61, more_62) =>
  some (.inl (out_60, known_61, more_62, w64 (i_41 + 1)))
  else
  some (.inr (out_38, known_39, more_40))
def f126_1 (o4 : (List (List Int))) (o32 : (List (List Int))) : (List (List Int)) × (List Bool) × Bool -> Option (((List (List Int)) × (List Bool) × Bool) ⊕ (List (List Int)))
 | (out_34, known_35, more_36) =>
  if more_36 = true then
  (iter (f126_2 o4 o32) (out_34, known_35, false, 0)).bind fun (out_65, known_66, more_67) =>
  some (.inl (out_65, known_66, more_67))
  else
  some (.inr out_34)
def f126 (d : Database) (q : Query) : Option (List (List Int)) :=
 (f56 d q).bind fun o1 =>
 if ¬ (o1 = true) then
 some ([])
 else
 (f159 d (q.Atoms.length : Int)).bind fun o4 =>
 (f57 d q).bind fun o6 =>
 (mkl 1 (o4.length : Int) false).bind fun l_8 =>
 (iter ((f126_0 o4 o6)) ([], l_8, 0)).bind fun (out_30, known_31) =>
 (f58 d).bind fun o32 =>
 (iter (f126_1 o4 o32) (out_30, known_31, true)).bind fun out_70 =>
 some out_70
def f125 (d : Database) (q : Query) : Option Bool :=
 (f126 d q).bind fun o1 =>
 (f98 o1 ([])).bind fun o3 =>
 some o3
def f83_0 (o4 : (List (List Int))) (o6 : (List (List Int))) (o8 : (List (List Int))) : (List DerivationStep) × Int -> Option (((List DerivationStep) × Int) ⊕ ((List DerivationStep) ⊕ ((List DerivationStep) × Bool)))
 | (out_10, i_11) =>
  if i_11 < (o4.length : Int) then
  (ix o4 i_11).bind fun v_13 =>
  (f98 o6 v_13).bind fun o15 =>
  (((if ¬ (o15 = true) then
  (cutL o4 0 i_11).bind fun l_20 =>
  (f127 l_20 o8 v_13).bind fun o22 =>
  some o22
  else
  some (-1)) : Option Int)).bind fun k_24 =>
  (app 8 ([]) v_13).bind fun l_25 =>
  (app 32 out_10 ([({ Facts := l_25, Block := k_24 } : DerivationStep)])).bind fun l_27 =>
  if (v_13.length : Int) = 0 then
  some (.inr (.inr (l_27, true)))
  else
  some (.inl (l_27, w64 (i_11 + 1)))
  else
  some (.inr (.inl out_10))
def f83 (d : Database) (q : Query) : Option ((List DerivationStep) × Bool) :=
 (f125 d q).bind fun o1 =>
 if ¬ (o1 = true) then
 some ([], false)
 else
 (f126 d q).bind fun o4 =>
 (f57 d q).bind fun o6 =>
 (f58 d).bind fun o8 =>
 (iter (f83_0 o4 o6 o8) ([], 0)).bind fun o => match o with
 | .inl out_32 =>
 some (out_32, false)
 | .inr (x_33, x_34) =>
 some (x_33, x_34)
def f160_0 (l : (List ConflictEdge)) (s1 : (List Int)) : Int -> Option (Int ⊕ (Unit ⊕ Bool))
 | i_1 =>
  if i_1 < (l.length : Int) then
  (ix l i_1).bind fun v_3 =>
  (f80 s1 v_3.A).bind fun o5 =>
  (((if o5 = true then
  (f80 s1 v_3.B).bind fun o10 =>
  some o10
  else
  some false) : Option (Bool))).bind fun x_7 =>
  if x_7 = true then
  some (.inr (.inr false))
  else
  some (.inl (w64 (i_1 + 1)))
  else
  some (.inr (.inl ()))
def f160 (l : (List ConflictEdge)) (s1 : (List Int)) : Option Bool :=
 (iter (f160_0 l s1) 0).bind fun o => match o with
 | .inl _ =>
 some true
 | .inr x_15 =>
 some x_15
def f128 (l : (List ConflictEdge)) (s1 : (List Int)) (x : Int) : Option Bool :=
 (f80 s1 x).bind fun o1 =>
 (((if ¬ (o1 = true) then
 (app 8 ([]) s1).bind fun l_6 =>
 (app 8 l_6 ([x])).bind fun l_8 =>
 (f160 l l_8).bind fun o10 =>
 some o10
 else
 some false) : Option (Bool))).bind fun x_3 =>
 some x_3
def f84_0 (n1 : Int) (l : (List ConflictEdge)) : (List Int) × Int × Int × (List Int) × Int -> Option (((List Int) × Int × Int × (List Int) × Int) ⊕ ((List Int) × Int × Int × (List Int)))
 | (c_1, c_2, c_3, s_4, x_5) =>
  if x_5 < n1 then
  (f21 ({ b := c_1, i := c_2, h := c_3 } : L1Cur) 2).bind fun o7 =>
  (((if o7.1 = true then
  (f21 o7.2 8).bind fun o15 =>
  (((if o15.1 = true then
  some true
  else
  (f128 l s_4 x_5).bind fun o20 =>
  some o20) : Option (Bool))).bind fun x_17 =>
  some (o15.2.b, o15.2.i, o15.2.h, x_17)
  else
  some (o7.2.b, o7.2.i, o7.2.h, false)) : Option ((List Int) × Int × Int × Bool))).bind fun (c_9, c_10, c_11, x_12) =>
  (((if x_12 = true then
  (app 8 s_4 ([x_5])).bind fun l_25 =>
  some l_25
  else
  some s_4) : Option (List Int))).bind fun s_27 =>
  some (.inl (c_9, c_10, c_11, s_27, w64 (x_5 + 1)))
  else
  some (.inr (c_1, c_2, c_3, s_4))
def f84 (c : L1Cur) (n1 : Int) (l : (List ConflictEdge)) : Option ((List Int) × L1Cur) :=
 (iter (f84_0 n1 l) (c.b, c.i, c.h, [], 0)).bind fun (c_30, c_31, c_32, s_33) =>
 (f21 ({ b := c_30, i := c_31, h := c_32 } : L1Cur) 12).bind fun o34 =>
 if o34.1 = true then
 (app 8 s_33 ([n1])).bind fun l_37 =>
 some (l_37, o34.2)
 else
 some (s_33, o34.2)
def f45 (c : L1Cur) (d : Database) (q : Query) : Option ((List DerivationStep) × L1Cur) :=
 (f83 d q).bind fun o1 =>
 if (o1.1.length : Int) = 0 then
 (f84 c (d.Facts.length : Int) ([] : (List ConflictEdge))).bind fun o4 =>
 (f20 o4.2 4).bind fun o6 =>
 some ([({ Facts := o4.1, Block := w64 (o6.1 - 1) } : DerivationStep)], o6.2)
 else
 (f20 c (o1.1.length : Int)).bind fun o8 =>
 (f20 o8.2 6).bind fun o10 =>
 (((if o10.1 = 0 then
 (f20 o10.2 7).bind fun o15 =>
 (ix o1.1 o8.1).bind fun v_17 =>
 some (o15.2.b, o15.2.i, o15.2.h, (o1.1.set o8.1.toNat ({ Facts := v_17.Facts, Block := w64 (o15.1 - 1) } : DerivationStep)))
 else
 (((if o10.1 = 1 then
 (f84 o10.2 (d.Facts.length : Int) ([] : (List ConflictEdge))).bind fun o23 =>
 (ix o1.1 o8.1).bind fun v_25 =>
 some (o23.2.b, o23.2.i, o23.2.h, (o1.1.set o8.1.toNat ({ Facts := o23.1, Block := v_25.Block } : DerivationStep)))
 else
 (((if o10.1 = 2 then
 (dlk 32 o1.1 o8.1).bind fun z_31 =>
 some (o1.1.eraseIdx o8.1.toNat)
 else
 some o1.1) : Option (List DerivationStep))).bind fun l_33 =>
 some (o10.2.b, o10.2.i, o10.2.h, l_33)) : Option ((List Int) × Int × Int × (List DerivationStep)))).bind fun (c_34, c_35, c_36, l_37) =>
 some (c_34, c_35, c_36, l_37)) : Option ((List Int) × Int × Int × (List DerivationStep)))).bind fun (c_38, c_39, c_40, l_41) =>
 some (l_41, ({ b := c_38, i := c_39, h := c_40 } : L1Cur))
def f12_0 : (List Relation) × (List Fact) -> Option (((List Relation) × (List Fact)) ⊕ ((List Relation) × (List Fact)))
 | (d_3, d_4) =>
  if (d_4.length : Int) > 5 then
  (cutL d_4 0 (w64 ((d_4.length : Int) - 1))).bind fun l_6 =>
  some (.inl (d_3, l_6))
  else
  some (.inr (d_3, d_4))
def f12 (code : (List Int)) : Option (Database × Query × (List DerivationStep)) :=
 (f44 code).bind fun o1 =>
 (iter (f12_0) (o1.2.1.Relations, o1.2.1.Facts)).bind fun (d_10, d_11) =>
 (f45 o1.1 ({ Relations := d_10, Facts := d_11 } : Database) o1.2.2).bind fun o12 =>
 some (({ Relations := d_10, Facts := d_11 } : Database), o1.2.2, o12.1)
def f46_0 (steps : (List DerivationStep)) : (List DerivationStep) × Int -> Option (((List DerivationStep) × Int) ⊕ (List DerivationStep))
 | (out_1, x_2) =>
  if x_2 < (steps.length : Int) then
  (ix steps x_2).bind fun v_4 =>
  (app 8 ([]) v_4.Facts).bind fun l_6 =>
  (app 32 out_1 ([({ Facts := l_6, Block := v_4.Block } : DerivationStep)])).bind fun l_8 =>
  some (.inl (l_8, w64 (x_2 + 1)))
  else
  some (.inr out_1)
def f46 (steps : (List DerivationStep)) : Option (List DerivationStep) :=
 (iter (f46_0 steps) ([], 0)).bind fun out_12 =>
 some out_12
def f31 (n0 : Int) (low : Int) (high : Int) : Option Bool :=
 (((if low <= n0 then
 some (decide (n0 <= high))
 else
 some false) : Option (Bool))).bind fun x_1 =>
 some x_1
def f74 (relation : Relation) : Option Bool :=
 (((if (relation.Name.length : Int) = 1 then
 (ix relation.Name 0).bind fun c_4 =>
 (((if (c_4.toNat : Int) >= 97 then
 (((if (c_4.toNat : Int) <= 122 then
 (f31 relation.Arity 1 3).bind fun o12 =>
 (((if o12 = true then
 (f31 relation.KeyLength 0 relation.Arity).bind fun o17 =>
 some o17
 else
 some false) : Option (Bool))).bind fun x_14 =>
 some x_14
 else
 some false) : Option (Bool))).bind fun x_9 =>
 some x_9
 else
 some false) : Option (Bool))).bind fun x_6 =>
 some x_6
 else
 some false) : Option (Bool))).bind fun x_1 =>
 some x_1
def f30_0 (relations : (List Relation)) : Int -> Option (Int ⊕ (Unit ⊕ Bool))
 | x_1 =>
  if x_1 < (relations.length : Int) then
  (ix relations x_1).bind fun v_3 =>
  (f74 v_3).bind fun o5 =>
  (((if ¬ (o5 = true) then
  some true
  else
  (((if x_1 > 0 then
  (ix relations (w64 (x_1 - 1))).bind fun v_13 =>
  some (!(Op.bytesLess v_13.Name v_3.Name))
  else
  some false) : Option (Bool))).bind fun x_10 =>
  some x_10) : Option (Bool))).bind fun x_7 =>
  if x_7 = true then
  some (.inr (.inr false))
  else
  some (.inl (w64 (x_1 + 1)))
  else
  some (.inr (.inl ()))
def f30 (relations : (List Relation)) : Option Bool :=
 (iter (f30_0 relations) 0).bind fun o => match o with
 | .inl _ =>
 some (decide ((relations.length : Int) <= 4))
 | .inr x_18 =>
 some x_18
def f75_0 (s0 : (List Int)) (f : Int -> Option Bool) : Int -> Option (Int ⊕ (Unit ⊕ Int))
 | x_1 =>
  if x_1 < (s0.length : Int) then
  (ix s0 x_1).bind fun v_3 =>
  (f v_3).bind fun o5 =>
  if o5 = true then
  some (.inr (.inr x_1))
  else
  some (.inl (w64 (x_1 + 1)))
  else
  some (.inr (.inl ()))
def f75 (s0 : (List Int)) (f : Int -> Option Bool) : Option Int :=
 (iter (f75_0 s0 f) 0).bind fun o => match o with
 | .inl _ =>
 some (-1)
 | .inr x_10 =>
 some x_10
def f32 (s0 : (List Int)) (f : Int -> Option Bool) : Option Bool :=
 (f75 s0 f).bind fun o1 =>
 some (decide (o1 >= 0))
def f154 (v : Int) : Option Bool :=
 (f31 v 0 9).bind fun o1 =>
 some (decide (¬ (o1 = true)))
def f112 (list : (List Int)) : Option Bool :=
 (f32 list (fun x0 => f154 x0)).bind fun o1 =>
 some (decide (¬ (o1 = true)))
def f68 (relations : (List Relation)) (fact : Fact) : Option Bool :=
 (f31 fact.Relation 0 (w64 ((relations.length : Int) - 1))).bind fun o1 =>
 (((if o1 = true then
 (ix relations fact.Relation).bind fun v_6 =>
 (((if (fact.Values.length : Int) = v_6.Arity then
 (f112 fact.Values).bind fun o11 =>
 some o11
 else
 some false) : Option (Bool))).bind fun x_8 =>
 some x_8
 else
 some false) : Option (Bool))).bind fun x_3 =>
 some x_3
def f113 (a : Int) (b : Int) : Option Int :=
 if a < b then
 some (-1)
 else
 if a > b then
 some 1
 else
 some 0
def f181 (x : Int) : Option Bool :=
 some (decide (x ≠ x))
def f155 (x : Int) (y : Int) : Option Int :=
 (f181 x).bind fun o1 =>
 (f181 y).bind fun o3 =>
 if o1 = true then
 if o3 = true then
 some 0
 else
 some (-1)
 else
 if o3 = true then
 some 1
 else
 if x < y then
 some (-1)
 else
 if x > y then
 some 1
 else
 some 0
def f114_0 (s1 : (List Int)) (s2 : (List Int)) : Int -> Option (Int ⊕ (Unit ⊕ Int))
 | x_1 =>
  if x_1 < (s1.length : Int) then
  (ix s1 x_1).bind fun v_3 =>
  if x_1 >= (s2.length : Int) then
  some (.inr (.inr 1))
  else
  (ix s2 x_1).bind fun v_6 =>
  (f155 v_3 v_6).bind fun o8 =>
  if o8 ≠ 0 then
  some (.inr (.inr o8))
  else
  some (.inl (w64 (x_1 + 1)))
  else
  some (.inr (.inl ()))
def f114 (s1 : (List Int)) (s2 : (List Int)) : Option Int :=
 (iter (f114_0 s1 s2) 0).bind fun o => match o with
 | .inl _ =>
 if (s1.length : Int) < (s2.length : Int) then
 some (-1)
 else
 some 0
 | .inr x_13 =>
 some x_13
def f69 (a : Fact) (b : Fact) : Option Int :=
 if a.Relation ≠ b.Relation then
 (f113 a.Relation b.Relation).bind fun o2 =>
 some o2
 else
 (f114 a.Values b.Values).bind fun o4 =>
 some o4
def f24_0 (db : Database) : Int -> Option (Int ⊕ (Unit ⊕ Bool))
 | x_7 =>
  if x_7 < (db.Facts.length : Int) then
  (ix db.Facts x_7).bind fun v_9 =>
  (f68 db.Relations v_9).bind fun o11 =>
  (((if ¬ (o11 = true) then
  some true
  else
  (((if x_7 > 0 then
  (ix db.Facts (w64 (x_7 - 1))).bind fun v_19 =>
  (f69 v_19 v_9).bind fun o21 =>
  some (decide (o21 >= 0))
  else
  some false) : Option (Bool))).bind fun x_16 =>
  some x_16) : Option (Bool))).bind fun x_13 =>
  if x_13 = true then
  some (.inr (.inr false))
  else
  some (.inl (w64 (x_7 + 1)))
  else
  some (.inr (.inl ()))
def f24 (db : Database) : Option Bool :=
 (f30 db.Relations).bind fun o1 =>
 (((if ¬ (o1 = true) then
 some true
 else
 some (decide ((db.Facts.length : Int) > 14))) : Option (Bool))).bind fun x_3 =>
 if x_3 = true then
 some false
 else
 (iter (f24_0 db) 0).bind fun o => match o with
 | .inl _ =>
 some true
 | .inr x_26 =>
 some x_26
def f129_0 (indices : (List Int)) (n1 : Int) : Int -> Option (Int ⊕ (Unit ⊕ Bool))
 | x_1 =>
  if x_1 < (indices.length : Int) then
  (ix indices x_1).bind fun v_3 =>
  (f31 v_3 0 (w64 (n1 - 1))).bind fun o5 =>
  (((if ¬ (o5 = true) then
  some true
  else
  (((if x_1 > 0 then
  (ix indices (w64 (x_1 - 1))).bind fun v_13 =>
  some (decide (v_13 >= v_3))
  else
  some false) : Option (Bool))).bind fun x_10 =>
  some x_10) : Option (Bool))).bind fun x_7 =>
  if x_7 = true then
  some (.inr (.inr false))
  else
  some (.inl (w64 (x_1 + 1)))
  else
  some (.inr (.inl ()))
def f129 (indices : (List Int)) (n1 : Int) : Option Bool :=
 (iter (f129_0 indices n1) 0).bind fun o => match o with
 | .inl _ =>
 some true
 | .inr x_18 =>
 some x_18
def f161_0 (s0 : (List Atom)) (f : Atom -> Option Bool) : Int -> Option (Int ⊕ (Unit ⊕ Int))
 | x_1 =>
  if x_1 < (s0.length : Int) then
  (ix s0 x_1).bind fun v_3 =>
  (f v_3).bind fun o5 =>
  if o5 = true then
  some (.inr (.inr x_1))
  else
  some (.inl (w64 (x_1 + 1)))
  else
  some (.inr (.inl ()))
def f161 (s0 : (List Atom)) (f : Atom -> Option Bool) : Option Int :=
 (iter (f161_0 s0 f) 0).bind fun o => match o with
 | .inl _ =>
 some (-1)
 | .inr x_10 =>
 some x_10
def f130 (s0 : (List Atom)) (f : Atom -> Option Bool) : Option Bool :=
 (f161 s0 f).bind fun o1 =>
 some (decide (o1 >= 0))
def f131 (own : Atom) (c : Atom) : Option Bool :=
 some (decide (own.Relation = c.Relation))
def f158 (n : Int) : Option Nat := growN 8 n
def f121_0 (slices : (List (List Int))) : Int × Int -> Option ((Int × Int) ⊕ Int)
 | (size_1, x_2) =>
  if x_2 < (slices.length : Int) then
  (ix slices x_2).bind fun v_4 =>
  (((if (w64 (size_1 + (v_4.length : Int))) < 0 then
  none
  else
  some ()) : Option Unit)).bind fun _ =>
  some (.inl (w64 (size_1 + (v_4.length : Int)), w64 (x_2 + 1)))
  else
  some (.inr size_1)
def f121_1 (slices : (List (List Int))) : Nat × (List Int) × Int -> Option ((Nat × (List Int) × Int) ⊕ (Nat × (List Int)))
 | (newslice_14, newslice_15, x_16) =>
  if x_16 < (slices.length : Int) then
  (ix slices x_16).bind fun v_18 =>
  (apps 8 newslice_15 newslice_14 v_18).bind fun l_20 =>
  some (.inl (l_20.2, l_20.1, w64 (x_16 + 1)))
  else
  some (.inr (newslice_14, newslice_15))
def f121 (slices : (List (List Int))) : Option (List Int) :=
 (iter (f121_0 slices) (0, 0)).bind fun size_11 =>
 (f158 size_11).bind fun o12 =>
 (iter (f121_1 slices) (o12, [], 0)).bind fun (newslice_24, newslice_25) =>
 (nsk newslice_24).bind fun _ =>
 some newslice_25
def f87 (l : List Int) : Option (List Int) := sortN l
def f122 (l : List Int) : Option (List Int) := compactN l
def f78 (a : (List Int)) (b : (List Int)) : Option (List Int) :=
 (f121 ([a, b])).bind fun o1 =>
 (f87 o1).bind fun o3 =>
 (f122 o3).bind fun o5 =>
 some o5
def f36_0 (atom : Atom) : (List Int) × Int -> Option (((List Int) × Int) ⊕ (List Int))
 | (out_1, x_2) =>
  if x_2 < (atom.Terms.length : Int) then
  (ix atom.Terms x_2).bind fun v_4 =>
  (f31 v_4 0 3).bind fun o6 =>
  (((if o6 = true then
  (app 8 out_1 ([v_4])).bind fun l_11 =>
  some l_11
  else
  some out_1) : Option (List Int))).bind fun out_13 =>
  some (.inl (out_13, w64 (x_2 + 1)))
  else
  some (.inr out_1)
def f36 (atom : Atom) : Option (List Int) :=
 (iter (f36_0 atom) ([], 0)).bind fun out_16 =>
 (f78 out_16 ([] : (List Int))).bind fun o17 =>
 some o17
def f85_1 (query : Query) (v_22 : Atom) : Int -> Option (Int ⊕ (Unit ⊕ Bool))
 | x_39 =>
  if x_39 < (v_22.Terms.length : Int) then
  (ix v_22.Terms x_39).bind fun v_41 =>
  (f31 v_41 (-10) (w64 (query.VariableCount - 1))).bind fun o43 =>
  if ¬ (o43 = true) then
  some (.inr (.inr false))
  else
  some (.inl (w64 (x_39 + 1)))
  else
  some (.inr (.inl ()))
def f85_0 (relations : (List Relation)) (query : Query) : (List Int) × Int -> Option (((List Int) × Int) ⊕ ((List Int) ⊕ Bool))
 | (occurring_19, x_20) =>
  if x_20 < (query.Atoms.length : Int) then
  (ix query.Atoms x_20).bind fun v_22 =>
  (f31 v_22.Relation 0 (w64 ((relations.length : Int) - 1))).bind fun o24 =>
  (((if ¬ (o24 = true) then
  some true
  else
  (ix relations v_22.Relation).bind fun v_29 =>
  (((if (v_22.Terms.length : Int) ≠ v_29.Arity then
  some true
  else
  (cutL query.Atoms 0 x_20).bind fun l_34 =>
  (f130 l_34 (fun x0 => f131 x0 v_22)).bind fun o36 =>
  some o36) : Option (Bool))).bind fun x_31 =>
  some x_31) : Option (Bool))).bind fun x_26 =>
  if x_26 = true then
  some (.inr (.inr false))
  else
  (iter ((f85_1 query v_22)) 0).bind fun o => match o with
  | .inl _ =>
  (f36 v_22).bind fun o49 =>
  (f78 occurring_19 o49).bind fun o51 =>
  some (.inl (o51, w64 (x_20 + 1)))
  | .inr x_48 =>
  some (.inr (.inr x_48))
  else
  some (.inr (.inl occurring_19))
def f85 (relations : (List Relation)) (query : Query) : Option Bool :=
 (f30 relations).bind fun o1 =>
 (((if ¬ (o1 = true) then
 some true
 else
 (f31 query.VariableCount 0 4).bind fun o6 =>
 (((if ¬ (o6 = true) then
 some true
 else
 (f31 (query.Atoms.length : Int) 1 3).bind fun o11 =>
 (((if ¬ (o11 = true) then
 some true
 else
 (f129 query.Free query.VariableCount).bind fun o16 =>
 some (decide (¬ (o16 = true)))) : Option (Bool))).bind fun x_13 =>
 some x_13) : Option (Bool))).bind fun x_8 =>
 some x_8) : Option (Bool))).bind fun x_3 =>
 if x_3 = true then
 some false
 else
 (iter (f85_0 relations query) ([], 0)).bind fun o => match o with
 | .inl occurring_55 =>
 some (decide ((occurring_55.length : Int) = query.VariableCount))
 | .inr x_56 =>
 some x_56
def f50 (db : Database) (query : Query) : Option Bool :=
 (f24 db).bind fun o1 =>
 (((if o1 = true then
 (f85 db.Relations query).bind fun o6 =>
 some o6
 else
 some false) : Option (Bool))).bind fun x_3 =>
 some x_3
def f157 (x : Int) (y : Int) : Option (Int × Int) :=
 some (IntKind.u64.wrap ((IntKind.u64.wrap ((IntKind.u64.wrap ((sshr .u64 x 32) * (sshr .u64 y 32))) + (sshr .u64 (IntKind.u64.wrap ((IntKind.u64.wrap ((sshr .u64 x 32) * (band .u64 y 4294967295))) + (sshr .u64 (IntKind.u64.wrap ((band .u64 x 4294967295) * (band .u64 y 4294967295))) 32))) 32))) + (sshr .u64 (IntKind.u64.wrap ((band .u64 (IntKind.u64.wrap ((IntKind.u64.wrap ((sshr .u64 x 32) * (band .u64 y 4294967295))) + (sshr .u64 (IntKind.u64.wrap ((band .u64 x 4294967295) * (band .u64 y 4294967295))) 32))) 4294967295) + (IntKind.u64.wrap ((band .u64 x 4294967295) * (sshr .u64 y 32))))) 32)), IntKind.u64.wrap (x * y))
def f115 (x : Int) (y : Int) : Option (Int × Int) :=
 (f157 x y).bind fun o1 =>
 some (o1.1, o1.2)
def f70_0 : (List Int) × Int -> Option (((List Int) × Int) ⊕ (List Int))
 | (newslice_14, n_15) =>
  if n_15 < (newslice_14.length : Int) then
  (cutL newslice_14 0 n_15).bind fun z_17 =>
  some (.inl ((csL newslice_14 n_15.toNat), w64 (n_15 + (min n_15 ((newslice_14.length : Int) - n_15)))))
  else
  some (.inr newslice_14)
def f70 (x : (List Int)) (count : Int) : Option (List Int) :=
 (((if count < 0 then
 none
 else
 some ()) : Option Unit)).bind fun _ =>
 (f115 (IntKind.u64.wrap (x.length : Int)) (IntKind.u64.wrap count)).bind fun o4 =>
 (((if o4.1 > 0 then
 some true
 else
 some (decide (o4.2 > 9223372036854775807))) : Option (Bool))).bind fun x_6 =>
 (((if x_6 = true then
 none
 else
 some ()) : Option Unit)).bind fun _ =>
 (mkl 8 (w64 o4.2) 0).bind fun l_12 =>
 (iter f70_0 ((cpL l_12 x), ((min x.length l_12.length : Nat) : Int))).bind fun newslice_21 =>
 some newslice_21
def f25 (n0 : Int) : Option (List Int) :=
 (f70 ([-1]) n0).bind fun o1 =>
 some o1
def f116 (s0 : (List Int)) : Option (List Int) :=
 (app 8 ([]) s0).bind fun l_1 =>
 some l_1
def f117 (t : Int) : Option Bool :=
 some (decide (t >= 0))
def f118 (v : Int) : Option Int :=
 some (w64 ((-1) - v))
def f71_0 (terms : (List Int)) (from2 : (List Int)) : (List Int) × Int -> Option (((List Int) × Int) ⊕ ((List Int) ⊕ ((List Int) × Bool)))
 | (out_3, x_4) =>
  if x_4 < (terms.length : Int) then
  (ix terms x_4).bind fun v_6 =>
  (f117 v_6).bind fun o8 =>
  (((if ¬ (o8 = true) then
  (ix from2 x_4).bind fun v_13 =>
  (f118 v_6).bind fun o15 =>
  if o15 ≠ v_13 then
  some (.inr ([], false))
  else
  some (.inl out_3)
  else
  (ix out_3 v_6).bind fun v_18 =>
  (((if v_18 < 0 then
  (ix from2 x_4).bind fun v_23 =>
  some (.inl (out_3.set v_6.toNat v_23))
  else
  (ix from2 x_4).bind fun v_26 =>
  if v_18 ≠ v_26 then
  some (.inr ([], false))
  else
  some (.inl out_3)) : Option ((List Int) ⊕ ((List Int) × Bool)))).bind fun o => match o with
  | .inl out_29 =>
  some (.inl out_29)
  | .inr (x_30, x_31) =>
  some (.inr (x_30, x_31))) : Option ((List Int) ⊕ ((List Int) × Bool)))).bind fun o => match o with
  | .inl out_32 =>
  some (.inl (out_32, w64 (x_4 + 1)))
  | .inr (x_33, x_34) =>
  some (.inr (.inr (x_33, x_34)))
  else
  some (.inr (.inl out_3))
def f71 (values : (List Int)) (terms : (List Int)) (from2 : (List Int)) : Option ((List Int) × Bool) :=
 (f116 values).bind fun o1 =>
 (iter (f71_0 terms from2) (o1, 0)).bind fun o => match o with
 | .inl out_37 =>
 some (out_37, true)
 | .inr (x_38, x_39) =>
 some (x_38, x_39)
def f132_0 (values : (List Int)) (facts : (List Int)) (c : Query) (c4 : Database) (rec : (List Int) -> (List Int) -> Query -> (List Embedding) -> Database -> Option (List Embedding)) (v_8 : Atom) : (List Embedding) × Int -> Option (((List Embedding) × Int) ⊕ (List Embedding))
 | (x_10, x_11) =>
  if x_11 < (c4.Facts.length : Int) then
  ((((ix c4.Facts x_11).bind fun v_15 =>
  if v_15.Relation ≠ v_8.Relation then
  some x_10
  else
  (f71 values v_8.Terms v_15.Values).bind fun o18 =>
  (((if o18.2 = true then
  (f116 facts).bind fun o23 =>
  (app 8 o23 ([x_11])).bind fun l_25 =>
  ((rec o18.1 l_25 c x_10 c4)).bind fun o27 =>
  some o27
  else
  some x_10) : Option (List Embedding))).bind fun x_29 =>
  some x_29) : Option (List Embedding))).bind fun x_30 =>
  some (.inl (x_30, w64 (x_11 + 1)))
  else
  some (.inr x_10)
def f132 : Nat -> (List Int) -> (List Int) -> Query -> (List Embedding) -> Database -> Option (List Embedding)
 | 0 => fun _ _ _ _ _ => none
 | n + 1 => fun values facts c c3 c4 =>
  if (facts.length : Int) = (c.Atoms.length : Int) then
  (f116 values).bind fun o2 =>
  (f116 facts).bind fun o4 =>
  (app 48 c3 ([({ Values := o2, Facts := o4 } : Embedding)])).bind fun l_6 =>
  some l_6
  else
  (ix c.Atoms (facts.length : Int)).bind fun v_8 =>
  (iter ((f132_0 values facts c c4 (f132 n) v_8)) (c3, 0)).bind fun x_33 =>
  some x_33
def f86 (db : Database) (query : Query) : Option (List Embedding) :=
 (f50 db query).bind fun o1 =>
 if ¬ (o1 = true) then
 some ([])
 else
 (f25 query.VariableCount).bind fun o4 =>
 ((f132 64 o4 ([] : (List Int)) query ([]) db)).bind fun o6 =>
 some o6
def f51_0 (o11 : (List Embedding)) : (List (List Int)) × Nat × Int -> Option (((List (List Int)) × Nat × Int) ⊕ (List (List Int)))
 | (out, k, x) =>
  if x < (o11.length : Int) then
  (ml o11 k x).bind fun v =>
  (f87 v.Facts).bind fun s =>
  (app 24 out ([s])).bind fun l =>
  some (.inl (l, k + 1, w64 (x + 1)))
  else
  some (.inr out)
def f51 (db : Database) (query : Query) : Option (List (List Int)) :=
 (f86 db query).bind fun o11 =>
 (iter (f51_0 o11) ([], 0, 0)).bind fun out =>
 some out
def f119_0 (s1 : (List Int)) (s2 : (List Int)) : Int -> Option (Int ⊕ (Unit ⊕ Bool))
 | x_2 =>
  if x_2 < (s1.length : Int) then
  (ix s1 x_2).bind fun v_4 =>
  (ix s2 x_2).bind fun v_6 =>
  if v_4 ≠ v_6 then
  some (.inr (.inr false))
  else
  some (.inl (w64 (x_2 + 1)))
  else
  some (.inr (.inl ()))
def f119 (s1 : (List Int)) (s2 : (List Int)) : Option Bool :=
 if (s1.length : Int) ≠ (s2.length : Int) then
 some false
 else
 (iter (f119_0 s1 s2) 0).bind fun o => match o with
 | .inl _ =>
 some true
 | .inr x_11 =>
 some x_11
def f72 (relations : (List Relation)) (a : Fact) (b : Fact) : Option Bool :=
 if a.Relation ≠ b.Relation then
 some false
 else
 (ix relations a.Relation).bind fun v_2 =>
 (cutL a.Values 0 v_2.KeyLength).bind fun l_4 =>
 (cutL b.Values 0 v_2.KeyLength).bind fun l_6 =>
 (f119 l_4 l_6).bind fun o8 =>
 some o8
def f27_0 (db : Database) : (List (List Int)) × Int -> Option (((List (List Int)) × Int) ⊕ (List (List Int)))
 | (out_1, x_2) =>
  if x_2 < (db.Facts.length : Int) then
  (ix db.Facts x_2).bind fun v_4 =>
  (((if (w64 ((out_1.length : Int) - 1)) >= 0 then
  (ix out_1 (w64 ((out_1.length : Int) - 1))).bind fun v_9 =>
  (ix v_9 0).bind fun v_11 =>
  (ix db.Facts v_11).bind fun v_13 =>
  (f72 db.Relations v_13 v_4).bind fun o15 =>
  some o15
  else
  some false) : Option (Bool))).bind fun x_6 =>
  (((if x_6 = true then
  (ix out_1 (w64 ((out_1.length : Int) - 1))).bind fun v_20 =>
  (app 8 v_20 ([x_2])).bind fun l_22 =>
  some (out_1.set (w64 ((out_1.length : Int) - 1)).toNat l_22)
  else
  (app 24 out_1 ([[x_2]])).bind fun l_25 =>
  some l_25) : Option (List (List Int)))).bind fun out_27 =>
  some (.inl (out_27, w64 (x_2 + 1)))
  else
  some (.inr out_1)
def f27 (db : Database) : Option (List (List Int)) :=
 (iter (f27_0 db) ([], 0)).bind fun out_30 =>
 some out_30
def f135_0 (db : Database) : (List Relation) × (List Fact) × Int -> Option (((List Relation) × (List Fact) × Int) ⊕ ((List Relation) × (List Fact)))
 | (out_3, out_4, x_5) =>
  if x_5 < (db.Facts.length : Int) then
  (ix db.Facts x_5).bind fun v_7 =>
  (app 8 ([]) v_7.Values).bind fun l_9 =>
  (app 32 out_4 ([({ Relation := v_7.Relation, Values := l_9 } : Fact)])).bind fun l_11 =>
  some (.inl (out_3, l_11, w64 (x_5 + 1)))
  else
  some (.inr (out_3, out_4))
def f135 (db : Database) : Option Database :=
 (app 32 ([]) db.Relations).bind fun l_1 =>
 (iter (f135_0 db) (l_1, [], 0)).bind fun (out_15, out_16) =>
 some ({ Relations := out_15, Facts := out_16 } : Database)
def f88_0 (indices : (List Int)) : (List Fact) × (List Relation) × (List Fact) × Int -> Option (((List Fact) × (List Relation) × (List Fact) × Int) ⊕ ((List Relation) × (List Fact)))
 | (all_11, out_12, out_13, x_14) =>
  if x_14 < (indices.length : Int) then
  (ix indices x_14).bind fun v_16 =>
  (ix all_11 v_16).bind fun v_18 =>
  (app 32 out_13 ([v_18])).bind fun l_20 =>
  some (.inl (all_11, out_12, l_20, w64 (x_14 + 1)))
  else
  some (.inr (out_12, out_13))
def f88 (db : Database) (indices : (List Int)) : Option (Database × Bool) :=
 (f24 db).bind fun o1 =>
 (((if ¬ (o1 = true) then
 some true
 else
 (f129 indices (db.Facts.length : Int)).bind fun o6 =>
 some (decide (¬ (o6 = true)))) : Option (Bool))).bind fun x_3 =>
 if x_3 = true then
 some (({ Relations := [], Facts := [] } : Database), false)
 else
 (f135 db).bind fun o9 =>
 (iter (f88_0 indices) (o9.Facts, o9.Relations, [], 0)).bind fun (out_24, out_25) =>
 some (({ Relations := out_24, Facts := out_25 } : Database), true)
def f89 (db : Database) : Option Bool :=
 (f24 db).bind fun o1 =>
 (((if o1 = true then
 (f27 db).bind fun o6 =>
 some (decide ((o6.length : Int) = (db.Facts.length : Int)))
 else
 some false) : Option (Bool))).bind fun x_3 =>
 some x_3
def f52 (db : Database) (indices : (List Int)) : Option Bool :=
 (f88 db indices).bind fun o1 =>
 (((if o1.2 = true then
 (f89 o1.1).bind fun o6 =>
 some o6
 else
 some false) : Option (Bool))).bind fun x_3 =>
 some x_3
def f136_0 (s0 : (List (List Int))) (f : (List Int) -> Option Bool) : Int -> Option (Int ⊕ (Unit ⊕ Int))
 | x_1 =>
  if x_1 < (s0.length : Int) then
  (ix s0 x_1).bind fun v_3 =>
  (f v_3).bind fun o5 =>
  if o5 = true then
  some (.inr (.inr x_1))
  else
  some (.inl (w64 (x_1 + 1)))
  else
  some (.inr (.inl ()))
def f136 (s0 : (List (List Int))) (f : (List Int) -> Option Bool) : Option Int :=
 (iter (f136_0 s0 f) 0).bind fun o => match o with
 | .inl _ =>
 some (-1)
 | .inr x_10 =>
 some x_10
def f90 (s0 : (List (List Int))) (f : (List Int) -> Option Bool) : Option Bool :=
 (f136 s0 f).bind fun o1 =>
 some (decide (o1 >= 0))
def f120_0 (s0 : (List Int)) (v : Int) : Int -> Option (Int ⊕ (Unit ⊕ Int))
 | x_1 =>
  if x_1 < (s0.length : Int) then
  (ix s0 x_1).bind fun v_3 =>
  if v = v_3 then
  some (.inr (.inr x_1))
  else
  some (.inl (w64 (x_1 + 1)))
  else
  some (.inr (.inl ()))
def f120 (s0 : (List Int)) (v : Int) : Option Int :=
 (iter (f120_0 s0 v) 0).bind fun o => match o with
 | .inl _ =>
 some (-1)
 | .inr x_8 =>
 some x_8
def f77 (s0 : (List Int)) (v : Int) : Option Bool :=
 (f120 s0 v).bind fun o1 =>
 some (decide (o1 >= 0))
def f76 (n0 : Int) (c : (List Int)) : Option Bool :=
 (f77 c n0).bind fun o1 =>
 some (decide (¬ (o1 = true)))
def f34 (a : (List Int)) (b : (List Int)) : Option Bool :=
 (f32 a (fun x0 => f76 x0 b)).bind fun o1 =>
 some (decide (¬ (o1 = true)))
def f91 (own : (List Int)) (c : (List Int)) : Option Bool :=
 (f34 own c).bind fun o1 =>
 some o1
def f53 (sets : (List (List Int))) (set1 : (List Int)) : Option Bool :=
 (f90 sets (fun x0 => f91 x0 set1)).bind fun o1 =>
 some o1
def f55_0 (steps : (List DerivationStep)) : (List (List Int)) × Int -> Option (((List (List Int)) × Int) ⊕ (List (List Int)))
 | (out_1, x_2) =>
  if x_2 < (steps.length : Int) then
  (ix steps x_2).bind fun v_4 =>
  (app 24 out_1 ([v_4.Facts])).bind fun l_6 =>
  some (.inl (l_6, w64 (x_2 + 1)))
  else
  some (.inr out_1)
def f55 (steps : (List DerivationStep)) : Option (List (List Int)) :=
 (iter (f55_0 steps) ([], 0)).bind fun out_10 =>
 some out_10
def f92 (set0 : (List Int)) (fact : Int) : Option (List Int) :=
 (f78 set0 ([fact])).bind fun o1 =>
 some o1
def f54_0 (known : (List (List Int))) (set1 : (List Int)) (block : (List Int)) : Int -> Option (Int ⊕ (Unit ⊕ Bool))
 | x_1 =>
  if x_1 < (block.length : Int) then
  (ix block x_1).bind fun v_3 =>
  (f77 set1 v_3).bind fun o5 =>
  (((if o5 = true then
  some true
  else
  (f92 set1 v_3).bind fun o10 =>
  (f53 known o10).bind fun o12 =>
  some (decide (¬ (o12 = true)))) : Option (Bool))).bind fun x_7 =>
  if x_7 = true then
  some (.inr (.inr false))
  else
  some (.inl (w64 (x_1 + 1)))
  else
  some (.inr (.inl ()))
def f54 (known : (List (List Int))) (set1 : (List Int)) (block : (List Int)) : Option Bool :=
 (iter (f54_0 known set1 block) 0).bind fun o => match o with
 | .inl _ =>
 some true
 | .inr x_17 =>
 some x_17
def f16_0 (db : Database) (derivation : (List DerivationStep)) (o7 : (List (List Int))) (o9 : (List (List Int))) : Int -> Option (Int ⊕ (Unit ⊕ Bool))
 | x_11 =>
  if x_11 < (derivation.length : Int) then
  (ix derivation x_11).bind fun v_13 =>
  (f52 db v_13.Facts).bind fun o15 =>
  if ¬ (o15 = true) then
  some (.inr (.inr false))
  else
  (((if v_13.Block = (-1) then
  (f53 o7 v_13.Facts).bind fun o21 =>
  if ¬ (o21 = true) then
  some (.inr false)
  else
  some (.inl ())
  else
  (f31 v_13.Block 0 (w64 ((o9.length : Int) - 1))).bind fun o24 =>
  (((if ¬ (o24 = true) then
  some true
  else
  (cutL derivation 0 x_11).bind fun l_29 =>
  (ix o9 v_13.Block).bind fun v_31 =>
  (f55 l_29).bind fun o33 =>
  (f54 o33 v_13.Facts v_31).bind fun o35 =>
  some (decide (¬ (o35 = true)))) : Option (Bool))).bind fun x_26 =>
  if x_26 = true then
  some (.inr false)
  else
  some (.inl ())) : Option (Unit ⊕ Bool))).bind fun o => match o with
  | .inl _ =>
  some (.inl (w64 (x_11 + 1)))
  | .inr x_38 =>
  some (.inr (.inr x_38))
  else
  some (.inr (.inl ()))
def f16 (db : Database) (query : Query) (derivation : (List DerivationStep)) : Option Bool :=
 (f50 db query).bind fun o1 =>
 (((if ¬ (o1 = true) then
 some true
 else
 some (decide ((derivation.length : Int) = 0))) : Option (Bool))).bind fun x_3 =>
 if x_3 = true then
 some false
 else
 (f51 db query).bind fun o7 =>
 (f27 db).bind fun o9 =>
 (iter (f16_0 db derivation o7 o9) 0).bind fun o => match o with
 | .inl _ =>
 (ix derivation (w64 ((derivation.length : Int) - 1))).bind fun v_42 =>
 some (decide ((v_42.Facts.length : Int) = 0))
 | .inr x_41 =>
 some x_41
def f48 (s0 : (List DerivationStep)) : Option (List DerivationStep) :=
 (app 32 ([]) s0).bind fun l_1 =>
 some l_1
def f47 (a0 : (List DerivationStep)) (a1 : Int) (a2 : Int) : Option (List DerivationStep) := delN 32 a0 a1 a2
def f13_0 (db : Database) (query : Query) : (List DerivationStep) × Int -> Option (((List DerivationStep) × Int) ⊕ (List DerivationStep))
 | (out_6, i_7) =>
  if i_7 >= 0 then
  (f48 out_6).bind fun o9 =>
  (f47 o9 i_7 (w64 (i_7 + 1))).bind fun o11 =>
  (f16 db query o11).bind fun o13 =>
  (((if o13 = true then
  some o11
  else
  some out_6) : Option (List DerivationStep))).bind fun out_18 =>
  some (.inl (out_18, w64 (i_7 - 1)))
  else
  some (.inr out_6)
def f13 (db : Database) (query : Query) (derivation : (List DerivationStep)) : Option (List DerivationStep) :=
 (f46 derivation).bind fun o1 =>
 (f16 db query derivation).bind fun o3 =>
 if ¬ (o3 = true) then
 some o1
 else
 (iter (f13_0 db query) (o1, w64 ((o1.length : Int) - 2))).bind fun out_21 =>
 some out_21
def f49_0 (l : (List DerivationStep)) : (List DerivationStep) × Int -> Option (((List DerivationStep) × Int) ⊕ (List DerivationStep))
 | (out_1, i_2) =>
  if i_2 < (l.length : Int) then
  (ix l i_2).bind fun v_4 =>
  (app 8 ([]) v_4.Facts).bind fun l_6 =>
  (app 32 out_1 ([({ Facts := l_6, Block := v_4.Block } : DerivationStep)])).bind fun l_8 =>
  some (.inl (l_8, w64 (i_2 + 1)))
  else
  some (.inr out_1)
def f49 (l : (List DerivationStep)) : Option (List DerivationStep) :=
 (iter (f49_0 l) ([], 0)).bind fun out_12 =>
 some out_12
def f59_0 (l : (List DerivationStep)) (i : Int) : (List (List Int)) × Int -> Option (((List (List Int)) × Int) ⊕ (List (List Int)))
 | (sets_14, k_15) =>
  if k_15 < i then
  (ix l k_15).bind fun v_17 =>
  (app 24 sets_14 ([v_17.Facts])).bind fun l_19 =>
  some (.inl (l_19, w64 (k_15 + 1)))
  else
  some (.inr sets_14)
def f59_1 (v_1 : DerivationStep) (v_12 : (List Int)) (sets_23 : (List (List Int))) : Int -> Option (Int ⊕ (Unit ⊕ Bool))
 | k_24 =>
  if k_24 < (v_12.length : Int) then
  (ix v_12 k_24).bind fun v_26 =>
  (f80 v_1.Facts v_26).bind fun o28 =>
  (((if o28 = true then
  some true
  else
  (app 8 ([]) v_1.Facts).bind fun l_33 =>
  (app 8 l_33 ([v_26])).bind fun l_35 =>
  (f98 sets_23 l_35).bind fun o37 =>
  some (decide (¬ (o37 = true)))) : Option (Bool))).bind fun x_30 =>
  if x_30 = true then
  some (.inr (.inr false))
  else
  some (.inl (w64 (k_24 + 1)))
  else
  some (.inr (.inl ()))
def f59 (d : Database) (need : (List (List Int))) (blocks : (List (List Int))) (l : (List DerivationStep)) (i : Int) : Option Bool :=
 (ix l i).bind fun v_1 =>
 (f96 d v_1.Facts).bind fun o3 =>
 if ¬ (o3 = true) then
 some false
 else
 if v_1.Block = (-1) then
 (f98 need v_1.Facts).bind fun o7 =>
 some o7
 else
 (f38 v_1.Block 0 (w64 ((blocks.length : Int) - 1))).bind fun o9 =>
 if ¬ (o9 = true) then
 some false
 else
 (ix blocks v_1.Block).bind fun v_12 =>
 (iter ((f59_0 l i)) ([], 0)).bind fun sets_23 =>
 (iter ((f59_1 v_1 v_12 sets_23)) 0).bind fun o => match o with
 | .inl _ =>
 some true
 | .inr x_42 =>
 some x_42
def f17_0 (d : Database) (l : (List DerivationStep)) (o12 : (List (List Int))) (o14 : (List (List Int))) : Int -> Option (Int ⊕ (Unit ⊕ Bool))
 | i_16 =>
  if i_16 < (l.length : Int) then
  (f59 d o12 o14 l i_16).bind fun o18 =>
  if ¬ (o18 = true) then
  some (.inr (.inr false))
  else
  some (.inl (w64 (i_16 + 1)))
  else
  some (.inr (.inl ()))
def f17 (d : Database) (q : Query) (l : (List DerivationStep)) : Option Bool :=
 (f56 d q).bind fun o1 =>
 (((if ¬ (o1 = true) then
 some true
 else
 (((if (l.length : Int) = 0 then
 some true
 else
 (ix l (w64 ((l.length : Int) - 1))).bind fun v_9 =>
 some (decide ((v_9.Facts.length : Int) > 0))) : Option (Bool))).bind fun x_6 =>
 some x_6) : Option (Bool))).bind fun x_3 =>
 if x_3 = true then
 some false
 else
 (f57 d q).bind fun o12 =>
 (f58 d).bind fun o14 =>
 (iter (f17_0 d l o12 o14) 0).bind fun o => match o with
 | .inl _ =>
 some true
 | .inr x_23 =>
 some x_23
def f14_0 (d : Database) (q : Query) : (List DerivationStep) × Int -> Option (((List DerivationStep) × Int) ⊕ (List DerivationStep))
 | (out_6, i_7) =>
  if i_7 >= 0 then
  (cutL out_6 0 i_7).bind fun l_9 =>
  (cutL out_6 (w64 (i_7 + 1)) out_6.length).bind fun l_11 =>
  (app 32 ([]) l_9).bind fun l_13 =>
  (app 32 l_13 l_11).bind fun l_15 =>
  (f17 d q l_15).bind fun o17 =>
  (((if o17 = true then
  some l_15
  else
  some out_6) : Option (List DerivationStep))).bind fun out_22 =>
  some (.inl (out_22, w64 (i_7 - 1)))
  else
  some (.inr out_6)
def f14 (d : Database) (q : Query) (l : (List DerivationStep)) : Option (List DerivationStep) :=
 (f49 l).bind fun o1 =>
 (f17 d q l).bind fun o3 =>
 if ¬ (o3 = true) then
 some o1
 else
 (iter (f14_0 d q) (o1, w64 ((o1.length : Int) - 2))).bind fun out_25 =>
 some out_25
def f15_0 (a : (List Int)) (b : (List Int)) : Int -> Option (Int ⊕ (Unit ⊕ Bool))
 | i_2 =>
  if i_2 < (a.length : Int) then
  (ix a i_2).bind fun v_4 =>
  (ix b i_2).bind fun v_6 =>
  if v_4 ≠ v_6 then
  some (.inr (.inr false))
  else
  some (.inl (w64 (i_2 + 1)))
  else
  some (.inr (.inl ()))
def f15 (a : (List Int)) (b : (List Int)) : Option Bool :=
 if (a.length : Int) ≠ (b.length : Int) then
 some false
 else
 (iter (f15_0 a b) 0).bind fun o => match o with
 | .inl _ =>
 some true
 | .inr x_11 =>
 some x_11
def f4_0 (o6 : (List DerivationStep)) (o8 : (List DerivationStep)) : Int -> Option (Int ⊕ (Unit ⊕ Bool))
 | i_14 =>
  if i_14 < (o6.length : Int) then
  (ix o6 i_14).bind fun v_16 =>
  (ix o8 i_14).bind fun v_18 =>
  (((if v_16.Block ≠ v_18.Block then
  some true
  else
  (f15 v_16.Facts v_18.Facts).bind fun o23 =>
  some (decide (¬ (o23 = true)))) : Option (Bool))).bind fun x_20 =>
  if x_20 = true then
  some (.inr (.inr false))
  else
  some (.inl (w64 (i_14 + 1)))
  else
  some (.inr (.inl ()))
def f4 (code : (List Int)) : Option Bool :=
 (f5 code).bind fun o1 =>
 if o1 = true then
 some true
 else
 (f12 code).bind fun o4 =>
 (f13 o4.1 o4.2.1 o4.2.2).bind fun o6 =>
 (f14 o4.1 o4.2.1 o4.2.2).bind fun o8 =>
 (((if (o6.length : Int) ≠ (o8.length : Int) then
 some true
 else
 some (decide ((o6.length : Int) > (o4.2.2.length : Int)))) : Option (Bool))).bind fun x_10 =>
 if x_10 = true then
 some false
 else
 (iter ((f4_0 o6 o8)) 0).bind fun o => match o with
 | .inl _ =>
 (f16 o4.1 o4.2.1 o6).bind fun o29 =>
 (f17 o4.1 o4.2.1 o4.2.2).bind fun o31 =>
 some (o29 == o31)
 | .inr x_28 =>
 some x_28
end
end Go.Proofs.YtamibblcpccjlaaGreatH
