import Derived.Test.YtbpdhmbdpjafeaaGreatX3
set_option linter.unusedVariables false
set_option linter.unusedSimpArgs false
set_option linter.defProp false
set_option linter.unusedSectionVars false
set_option maxRecDepth 100000
namespace Go.Proofs.YtbpdhmbdpjafeaaGreatH
open Go
noncomputable section
structure Relation where
 Name : (List UInt8)
 Arity : Int
 KeyLength : Int
 deriving DecidableEq, Inhabited
def eRelation : En Relation := ⟨3, fun _ a => [(.str a.Name), (.int .i64 a.Arity), (.int .i64 a.KeyLength)], fun b a => by cases b <;> rfl, by decide, fun b a => by cases b <;> simp [T.frz], fun a => by simp, fun a => by simp, fun b a => by cases b <;> simp⟩
@[simp] theorem eRelation_w : eRelation.w = 3 := rfl
@[simp] theorem eRelation_ct {a : Relation} : eRelation.c true a = [(.str a.Name), (.int .i64 a.Arity), (.int .i64 a.KeyLength)] := rfl
@[simp] theorem eRelation_cf {a : Relation} : eRelation.c false a = [(.str a.Name), (.int .i64 a.Arity), (.int .i64 a.KeyLength)] := rfl
@[simp] theorem arrRelation_len {b : Bool} {l : List Relation} : (arr eRelation b l).length = l.length * 3 := arr_len
@[simp] theorem eRelation_e (a : Relation) : Relation.mk a.Name a.Arity a.KeyLength = a := rfl
@[simp] def q0Relation {b l i o} := @arr_get2 _ eRelation b l i o 3 rfl
@[simp] def q1Relation {b l i} := @arr_get20 _ eRelation b l i 3 rfl
@[simp] def q2Relation {b l o} := @arr_get0 _ eRelation b l o 3 rfl
@[simp] def q3Relation {b l} := @arr_take0 _ eRelation b l 3 rfl
@[simp] def q4Relation {b l i o} := @arr_part _ eRelation b l i o 3 rfl
@[simp] def q5Relation {b l i o j} := @arr_part2 _ eRelation b l i o 3 j rfl
@[simp] def q6Relation {b l} := @arr_at2 _ eRelation b l 3 rfl
@[simp] def q7Relation {b l} := @arr_take2 _ eRelation b l 3 rfl
@[simp] def q8Relation {b l l' bs y} := @appT_w _ eRelation b l l' bs y 3 rfl
@[simp] def q10Relation {z0 z1 z2 n} := @rep_w _ eRelation true n ⟨z0, z1, z2⟩ [(.str z0), (.int .i64 z1), (.int .i64 z2)] rfl
@[simp] def q71Relation {b l} := @arr_tl _ eRelation b l 3 rfl
@[simp] def q70Relation {b l i} := @arr_tk _ eRelation b l i 3 rfl
@[simp] theorem q40Relation {b : Bool} {l' : List Relation} {bs : Nat} {y : Bool} (hb : bs ≠ 0) : appT 3 bs (.sl true y 3 0 []) (arr eRelation b l') = (app bs [] l').map fun v => .sl true y 3 0 (arr eRelation true v) := appT_w0 (E := eRelation) (b := b) rfl hb
@[simp] theorem q50Relation {l : List Relation} {i : Nat} {z : (List UInt8)} (h : i < l.length) : layT (arr eRelation true l) (i * 3) 1 [(.str z)] = arr eRelation true (l.set i ⟨z, (l[i]?.getD default).Arity, (l[i]?.getD default).KeyLength⟩) := by rw [List.getElem?_eq_getElem h]; exact lay_cell (E := eRelation) (b := true) (i := i) (o := 0) ⟨z, l[i].Arity, l[i].KeyLength⟩ (List.getElem?_eq_getElem h) (by decide) rfl
@[simp] theorem q60Relation {l : List Relation} {i : Nat} {z : (List UInt8)} (h : i < l.length) : (arr eRelation true l).set (i * 3) (.str z) = arr eRelation true (l.set i ⟨z, (l[i]?.getD default).Arity, (l[i]?.getD default).KeyLength⟩) := by rw [List.getElem?_eq_getElem h]; exact set_cell (E := eRelation) (b := true) (i := i) (o := 0) ⟨z, l[i].Arity, l[i].KeyLength⟩ (List.getElem?_eq_getElem h) (by decide) rfl
@[simp] theorem q51Relation {l : List Relation} {i : Nat} {z : Int} (h : i < l.length) : layT (arr eRelation true l) (i * 3 + 1) 1 [(.int .i64 z)] = arr eRelation true (l.set i ⟨(l[i]?.getD default).Name, z, (l[i]?.getD default).KeyLength⟩) := by rw [List.getElem?_eq_getElem h]; exact lay_cell (E := eRelation) (b := true) (i := i) (o := 1) ⟨l[i].Name, z, l[i].KeyLength⟩ (List.getElem?_eq_getElem h) (by decide) rfl
@[simp] theorem q61Relation {l : List Relation} {i : Nat} {z : Int} (h : i < l.length) : (arr eRelation true l).set (i * 3 + 1) (.int .i64 z) = arr eRelation true (l.set i ⟨(l[i]?.getD default).Name, z, (l[i]?.getD default).KeyLength⟩) := by rw [List.getElem?_eq_getElem h]; exact set_cell (E := eRelation) (b := true) (i := i) (o := 1) ⟨l[i].Name, z, l[i].KeyLength⟩ (List.getElem?_eq_getElem h) (by decide) rfl
@[simp] theorem q52Relation {l : List Relation} {i : Nat} {z : Int} (h : i < l.length) : layT (arr eRelation true l) (i * 3 + 2) 1 [(.int .i64 z)] = arr eRelation true (l.set i ⟨(l[i]?.getD default).Name, (l[i]?.getD default).Arity, z⟩) := by rw [List.getElem?_eq_getElem h]; exact lay_cell (E := eRelation) (b := true) (i := i) (o := 2) ⟨l[i].Name, l[i].Arity, z⟩ (List.getElem?_eq_getElem h) (by decide) rfl
@[simp] theorem q62Relation {l : List Relation} {i : Nat} {z : Int} (h : i < l.length) : (arr eRelation true l).set (i * 3 + 2) (.int .i64 z) = arr eRelation true (l.set i ⟨(l[i]?.getD default).Name, (l[i]?.getD default).Arity, z⟩) := by rw [List.getElem?_eq_getElem h]; exact set_cell (E := eRelation) (b := true) (i := i) (o := 2) ⟨l[i].Name, l[i].Arity, z⟩ (List.getElem?_eq_getElem h) (by decide) rfl
@[simp] def q20Relation {b z0 z1 z2 l bs y} := @appT_1w _ eRelation b l bs y 3 rfl ⟨z0, z1, z2⟩ [(.str z0), (.int .i64 z1), (.int .i64 z2)] rfl
@[simp] def q23Relation {b z0 z1 z2 l' bs y} := @appT_11 _ eRelation b l' bs y 3 rfl ⟨z0, z1, z2⟩ [(.str z0), (.int .i64 z1), (.int .i64 z2)] rfl
@[simp] def q22Relation {b z0 z1 z2 bs y} := @appT_10 _ eRelation b bs y 3 rfl ⟨z0, z1, z2⟩ [(.str z0), (.int .i64 z1), (.int .i64 z2)] rfl
@[simp] def q21Relation {b z0 z1 z2 l i} := @lay_w _ eRelation b l i 3 rfl ⟨z0, z1, z2⟩ [(.str z0), (.int .i64 z1), (.int .i64 z2)] rfl
structure Fact where
 Relation : Int
 Values : (List Int)
 deriving DecidableEq, Inhabited
def eFact : En Fact := ⟨2, fun b a => if b then [(.int .i64 a.Relation), (osl eI true a.Values)] else [(.int .i64 a.Relation), (ssl eI a.Values)], fun b a => by cases b <;> rfl, by decide, fun b a => by cases b <;> simp [T.frz], fun a => by simp, fun a => by simp, fun b a => by cases b <;> simp⟩
@[simp] theorem eFact_w : eFact.w = 2 := rfl
@[simp] theorem eFact_ct {a : Fact} : eFact.c true a = [(.int .i64 a.Relation), (osl eI true a.Values)] := rfl
@[simp] theorem eFact_cf {a : Fact} : eFact.c false a = [(.int .i64 a.Relation), (ssl eI a.Values)] := rfl
@[simp] theorem arrFact_len {b : Bool} {l : List Fact} : (arr eFact b l).length = l.length * 2 := arr_len
@[simp] theorem eFact_e (a : Fact) : Fact.mk a.Relation a.Values = a := rfl
@[simp] def q0Fact {b l i o} := @arr_get2 _ eFact b l i o 2 rfl
@[simp] def q1Fact {b l i} := @arr_get20 _ eFact b l i 2 rfl
@[simp] def q2Fact {b l o} := @arr_get0 _ eFact b l o 2 rfl
@[simp] def q3Fact {b l} := @arr_take0 _ eFact b l 2 rfl
@[simp] def q4Fact {b l i o} := @arr_part _ eFact b l i o 2 rfl
@[simp] def q5Fact {b l i o j} := @arr_part2 _ eFact b l i o 2 j rfl
@[simp] def q6Fact {b l} := @arr_at2 _ eFact b l 2 rfl
@[simp] def q7Fact {b l} := @arr_take2 _ eFact b l 2 rfl
@[simp] def q8Fact {b l l' bs y} := @appT_w _ eFact b l l' bs y 2 rfl
@[simp] def q10Fact {z0 z1 n} := @rep_w _ eFact true n ⟨z0, z1⟩ [(.int .i64 z0), (.sl true true 1 0 (arr eI true z1))] rfl
@[simp] def q71Fact {b l} := @arr_tl _ eFact b l 2 rfl
@[simp] def q70Fact {b l i} := @arr_tk _ eFact b l i 2 rfl
@[simp] def q40Fact {b l' bs y} := @appT_w0 _ eFact b l' bs y 2 rfl
@[simp] theorem q50Fact {l : List Fact} {i : Nat} {z : Int} (h : i < l.length) : layT (arr eFact true l) (i * 2) 1 [(.int .i64 z)] = arr eFact true (l.set i ⟨z, (l[i]?.getD default).Values⟩) := by rw [List.getElem?_eq_getElem h]; exact lay_cell (E := eFact) (b := true) (i := i) (o := 0) ⟨z, l[i].Values⟩ (List.getElem?_eq_getElem h) (by decide) rfl
@[simp] theorem q60Fact {l : List Fact} {i : Nat} {z : Int} (h : i < l.length) : (arr eFact true l).set (i * 2) (.int .i64 z) = arr eFact true (l.set i ⟨z, (l[i]?.getD default).Values⟩) := by rw [List.getElem?_eq_getElem h]; exact set_cell (E := eFact) (b := true) (i := i) (o := 0) ⟨z, l[i].Values⟩ (List.getElem?_eq_getElem h) (by decide) rfl
@[simp] theorem q51Fact {l : List Fact} {i : Nat} {z : (List Int)} (h : i < l.length) : layT (arr eFact true l) (i * 2 + 1) 1 [(.sl true true 1 0 (arr eI true z))] = arr eFact true (l.set i ⟨(l[i]?.getD default).Relation, z⟩) := by rw [List.getElem?_eq_getElem h]; exact lay_cell (E := eFact) (b := true) (i := i) (o := 1) ⟨l[i].Relation, z⟩ (List.getElem?_eq_getElem h) (by decide) rfl
@[simp] theorem q61Fact {l : List Fact} {i : Nat} {z : (List Int)} (h : i < l.length) : (arr eFact true l).set (i * 2 + 1) (.sl true true 1 0 (arr eI true z)) = arr eFact true (l.set i ⟨(l[i]?.getD default).Relation, z⟩) := by rw [List.getElem?_eq_getElem h]; exact set_cell (E := eFact) (b := true) (i := i) (o := 1) ⟨l[i].Relation, z⟩ (List.getElem?_eq_getElem h) (by decide) rfl
@[simp] def q20Fact {z0 z1 l bs y} := @appT_1w _ eFact true l bs y 2 rfl ⟨z0, z1⟩ [(.int .i64 z0), (.sl true true 1 0 (arr eI true z1))] rfl
@[simp] def q23Fact {z0 z1 l' bs y} := @appT_11 _ eFact true l' bs y 2 rfl ⟨z0, z1⟩ [(.int .i64 z0), (.sl true true 1 0 (arr eI true z1))] rfl
@[simp] def q22Fact {z0 z1 bs y} := @appT_10 _ eFact true bs y 2 rfl ⟨z0, z1⟩ [(.int .i64 z0), (.sl true true 1 0 (arr eI true z1))] rfl
@[simp] def q21Fact {z0 z1 l i} := @lay_w _ eFact true l i 2 rfl ⟨z0, z1⟩ [(.int .i64 z0), (.sl true true 1 0 (arr eI true z1))] rfl
@[simp] def q30Fact {z0 z1 l bs y} := @appT_1w _ eFact false l bs y 2 rfl ⟨z0, z1⟩ [(.int .i64 z0), (.sl false false 1 1 (arr eI false z1))] rfl
@[simp] def q33Fact {z0 z1 l' bs y} := @appT_11 _ eFact false l' bs y 2 rfl ⟨z0, z1⟩ [(.int .i64 z0), (.sl false false 1 1 (arr eI false z1))] rfl
@[simp] def q32Fact {z0 z1 bs y} := @appT_10 _ eFact false bs y 2 rfl ⟨z0, z1⟩ [(.int .i64 z0), (.sl false false 1 1 (arr eI false z1))] rfl
@[simp] def q31Fact {z0 z1 l i} := @lay_w _ eFact false l i 2 rfl ⟨z0, z1⟩ [(.int .i64 z0), (.sl false false 1 1 (arr eI false z1))] rfl
structure Database where
 Relations : (List Relation)
 Facts : (List Fact)
 deriving DecidableEq, Inhabited
def eDatabase : En Database := ⟨2, fun b a => if b then [(osl eRelation true a.Relations), (osl eFact true a.Facts)] else [(ssl eRelation a.Relations), (ssl eFact a.Facts)], fun b a => by cases b <;> rfl, by decide, fun b a => by cases b <;> simp [T.frz], fun a => by simp, fun a => by simp, fun b a => by cases b <;> simp⟩
@[simp] theorem eDatabase_w : eDatabase.w = 2 := rfl
@[simp] theorem eDatabase_ct {a : Database} : eDatabase.c true a = [(osl eRelation true a.Relations), (osl eFact true a.Facts)] := rfl
@[simp] theorem eDatabase_cf {a : Database} : eDatabase.c false a = [(ssl eRelation a.Relations), (ssl eFact a.Facts)] := rfl
@[simp] theorem eDatabase_e (a : Database) : Database.mk a.Relations a.Facts = a := rfl
structure Atom where
 Relation : Int
 Terms : (List Int)
 deriving DecidableEq, Inhabited
def eAtom : En Atom := ⟨2, fun b a => if b then [(.int .i64 a.Relation), (osl eI true a.Terms)] else [(.int .i64 a.Relation), (ssl eI a.Terms)], fun b a => by cases b <;> rfl, by decide, fun b a => by cases b <;> simp [T.frz], fun a => by simp, fun a => by simp, fun b a => by cases b <;> simp⟩
@[simp] theorem eAtom_w : eAtom.w = 2 := rfl
@[simp] theorem eAtom_ct {a : Atom} : eAtom.c true a = [(.int .i64 a.Relation), (osl eI true a.Terms)] := rfl
@[simp] theorem eAtom_cf {a : Atom} : eAtom.c false a = [(.int .i64 a.Relation), (ssl eI a.Terms)] := rfl
@[simp] theorem arrAtom_len {b : Bool} {l : List Atom} : (arr eAtom b l).length = l.length * 2 := arr_len
@[simp] theorem eAtom_e (a : Atom) : Atom.mk a.Relation a.Terms = a := rfl
@[simp] def q0Atom {b l i o} := @arr_get2 _ eAtom b l i o 2 rfl
@[simp] def q1Atom {b l i} := @arr_get20 _ eAtom b l i 2 rfl
@[simp] def q2Atom {b l o} := @arr_get0 _ eAtom b l o 2 rfl
@[simp] def q3Atom {b l} := @arr_take0 _ eAtom b l 2 rfl
@[simp] def q4Atom {b l i o} := @arr_part _ eAtom b l i o 2 rfl
@[simp] def q5Atom {b l i o j} := @arr_part2 _ eAtom b l i o 2 j rfl
@[simp] def q6Atom {b l} := @arr_at2 _ eAtom b l 2 rfl
@[simp] def q7Atom {b l} := @arr_take2 _ eAtom b l 2 rfl
@[simp] def q8Atom {b l l' bs y} := @appT_w _ eAtom b l l' bs y 2 rfl
@[simp] def q10Atom {z0 z1 n} := @rep_w _ eAtom true n ⟨z0, z1⟩ [(.int .i64 z0), (.sl true true 1 0 (arr eI true z1))] rfl
@[simp] def q71Atom {b l} := @arr_tl _ eAtom b l 2 rfl
@[simp] def q70Atom {b l i} := @arr_tk _ eAtom b l i 2 rfl
@[simp] def q40Atom {b l' bs y} := @appT_w0 _ eAtom b l' bs y 2 rfl
@[simp] theorem q50Atom {l : List Atom} {i : Nat} {z : Int} (h : i < l.length) : layT (arr eAtom true l) (i * 2) 1 [(.int .i64 z)] = arr eAtom true (l.set i ⟨z, (l[i]?.getD default).Terms⟩) := by rw [List.getElem?_eq_getElem h]; exact lay_cell (E := eAtom) (b := true) (i := i) (o := 0) ⟨z, l[i].Terms⟩ (List.getElem?_eq_getElem h) (by decide) rfl
@[simp] theorem q60Atom {l : List Atom} {i : Nat} {z : Int} (h : i < l.length) : (arr eAtom true l).set (i * 2) (.int .i64 z) = arr eAtom true (l.set i ⟨z, (l[i]?.getD default).Terms⟩) := by rw [List.getElem?_eq_getElem h]; exact set_cell (E := eAtom) (b := true) (i := i) (o := 0) ⟨z, l[i].Terms⟩ (List.getElem?_eq_getElem h) (by decide) rfl
@[simp] theorem q51Atom {l : List Atom} {i : Nat} {z : (List Int)} (h : i < l.length) : layT (arr eAtom true l) (i * 2 + 1) 1 [(.sl true true 1 0 (arr eI true z))] = arr eAtom true (l.set i ⟨(l[i]?.getD default).Relation, z⟩) := by rw [List.getElem?_eq_getElem h]; exact lay_cell (E := eAtom) (b := true) (i := i) (o := 1) ⟨l[i].Relation, z⟩ (List.getElem?_eq_getElem h) (by decide) rfl
@[simp] theorem q61Atom {l : List Atom} {i : Nat} {z : (List Int)} (h : i < l.length) : (arr eAtom true l).set (i * 2 + 1) (.sl true true 1 0 (arr eI true z)) = arr eAtom true (l.set i ⟨(l[i]?.getD default).Relation, z⟩) := by rw [List.getElem?_eq_getElem h]; exact set_cell (E := eAtom) (b := true) (i := i) (o := 1) ⟨l[i].Relation, z⟩ (List.getElem?_eq_getElem h) (by decide) rfl
@[simp] def q20Atom {z0 z1 l bs y} := @appT_1w _ eAtom true l bs y 2 rfl ⟨z0, z1⟩ [(.int .i64 z0), (.sl true true 1 0 (arr eI true z1))] rfl
@[simp] def q23Atom {z0 z1 l' bs y} := @appT_11 _ eAtom true l' bs y 2 rfl ⟨z0, z1⟩ [(.int .i64 z0), (.sl true true 1 0 (arr eI true z1))] rfl
@[simp] def q22Atom {z0 z1 bs y} := @appT_10 _ eAtom true bs y 2 rfl ⟨z0, z1⟩ [(.int .i64 z0), (.sl true true 1 0 (arr eI true z1))] rfl
@[simp] def q21Atom {z0 z1 l i} := @lay_w _ eAtom true l i 2 rfl ⟨z0, z1⟩ [(.int .i64 z0), (.sl true true 1 0 (arr eI true z1))] rfl
@[simp] def q30Atom {z0 z1 l bs y} := @appT_1w _ eAtom false l bs y 2 rfl ⟨z0, z1⟩ [(.int .i64 z0), (.sl false false 1 1 (arr eI false z1))] rfl
@[simp] def q33Atom {z0 z1 l' bs y} := @appT_11 _ eAtom false l' bs y 2 rfl ⟨z0, z1⟩ [(.int .i64 z0), (.sl false false 1 1 (arr eI false z1))] rfl
@[simp] def q32Atom {z0 z1 bs y} := @appT_10 _ eAtom false bs y 2 rfl ⟨z0, z1⟩ [(.int .i64 z0), (.sl false false 1 1 (arr eI false z1))] rfl
@[simp] def q31Atom {z0 z1 l i} := @lay_w _ eAtom false l i 2 rfl ⟨z0, z1⟩ [(.int .i64 z0), (.sl false false 1 1 (arr eI false z1))] rfl
structure Query where
 VariableCount : Int
 Atoms : (List Atom)
 Free : (List Int)
 deriving DecidableEq, Inhabited
def eQuery : En Query := ⟨3, fun b a => if b then [(.int .i64 a.VariableCount), (osl eAtom true a.Atoms), (osl eI true a.Free)] else [(.int .i64 a.VariableCount), (ssl eAtom a.Atoms), (ssl eI a.Free)], fun b a => by cases b <;> rfl, by decide, fun b a => by cases b <;> simp [T.frz], fun a => by simp, fun a => by simp, fun b a => by cases b <;> simp⟩
@[simp] theorem eQuery_w : eQuery.w = 3 := rfl
@[simp] theorem eQuery_ct {a : Query} : eQuery.c true a = [(.int .i64 a.VariableCount), (osl eAtom true a.Atoms), (osl eI true a.Free)] := rfl
@[simp] theorem eQuery_cf {a : Query} : eQuery.c false a = [(.int .i64 a.VariableCount), (ssl eAtom a.Atoms), (ssl eI a.Free)] := rfl
@[simp] theorem eQuery_e (a : Query) : Query.mk a.VariableCount a.Atoms a.Free = a := rfl
structure Embedding where
 Values : (List Int)
 Facts : (List Int)
 deriving DecidableEq, Inhabited
def eEmbedding : En Embedding := ⟨2, fun b a => if b then [(osl eI true a.Values), (osl eI true a.Facts)] else [(ssl eI a.Values), (ssl eI a.Facts)], fun b a => by cases b <;> rfl, by decide, fun b a => by cases b <;> simp [T.frz], fun a => by simp, fun a => by simp, fun b a => by cases b <;> simp⟩
@[simp] theorem eEmbedding_w : eEmbedding.w = 2 := rfl
@[simp] theorem eEmbedding_ct {a : Embedding} : eEmbedding.c true a = [(osl eI true a.Values), (osl eI true a.Facts)] := rfl
@[simp] theorem eEmbedding_cf {a : Embedding} : eEmbedding.c false a = [(ssl eI a.Values), (ssl eI a.Facts)] := rfl
@[simp] theorem arrEmbedding_len {b : Bool} {l : List Embedding} : (arr eEmbedding b l).length = l.length * 2 := arr_len
@[simp] theorem eEmbedding_e (a : Embedding) : Embedding.mk a.Values a.Facts = a := rfl
@[simp] def q0Embedding {b l i o} := @arr_get2 _ eEmbedding b l i o 2 rfl
@[simp] def q1Embedding {b l i} := @arr_get20 _ eEmbedding b l i 2 rfl
@[simp] def q2Embedding {b l o} := @arr_get0 _ eEmbedding b l o 2 rfl
@[simp] def q3Embedding {b l} := @arr_take0 _ eEmbedding b l 2 rfl
@[simp] def q4Embedding {b l i o} := @arr_part _ eEmbedding b l i o 2 rfl
@[simp] def q5Embedding {b l i o j} := @arr_part2 _ eEmbedding b l i o 2 j rfl
@[simp] def q6Embedding {b l} := @arr_at2 _ eEmbedding b l 2 rfl
@[simp] def q7Embedding {b l} := @arr_take2 _ eEmbedding b l 2 rfl
@[simp] def q8Embedding {b l l' bs y} := @appT_w _ eEmbedding b l l' bs y 2 rfl
@[simp] def q10Embedding {z0 z1 n} := @rep_w _ eEmbedding true n ⟨z0, z1⟩ [(.sl true true 1 0 (arr eI true z0)), (.sl true true 1 0 (arr eI true z1))] rfl
@[simp] def q71Embedding {b l} := @arr_tl _ eEmbedding b l 2 rfl
@[simp] def q70Embedding {b l i} := @arr_tk _ eEmbedding b l i 2 rfl
@[simp] def q40Embedding {b l' bs y} := @appT_w0 _ eEmbedding b l' bs y 2 rfl
@[simp] theorem q50Embedding {l : List Embedding} {i : Nat} {z : (List Int)} (h : i < l.length) : layT (arr eEmbedding true l) (i * 2) 1 [(.sl true true 1 0 (arr eI true z))] = arr eEmbedding true (l.set i ⟨z, (l[i]?.getD default).Facts⟩) := by rw [List.getElem?_eq_getElem h]; exact lay_cell (E := eEmbedding) (b := true) (i := i) (o := 0) ⟨z, l[i].Facts⟩ (List.getElem?_eq_getElem h) (by decide) rfl
@[simp] theorem q60Embedding {l : List Embedding} {i : Nat} {z : (List Int)} (h : i < l.length) : (arr eEmbedding true l).set (i * 2) (.sl true true 1 0 (arr eI true z)) = arr eEmbedding true (l.set i ⟨z, (l[i]?.getD default).Facts⟩) := by rw [List.getElem?_eq_getElem h]; exact set_cell (E := eEmbedding) (b := true) (i := i) (o := 0) ⟨z, l[i].Facts⟩ (List.getElem?_eq_getElem h) (by decide) rfl
@[simp] theorem q51Embedding {l : List Embedding} {i : Nat} {z : (List Int)} (h : i < l.length) : layT (arr eEmbedding true l) (i * 2 + 1) 1 [(.sl true true 1 0 (arr eI true z))] = arr eEmbedding true (l.set i ⟨(l[i]?.getD default).Values, z⟩) := by rw [List.getElem?_eq_getElem h]; exact lay_cell (E := eEmbedding) (b := true) (i := i) (o := 1) ⟨l[i].Values, z⟩ (List.getElem?_eq_getElem h) (by decide) rfl
@[simp] theorem q61Embedding {l : List Embedding} {i : Nat} {z : (List Int)} (h : i < l.length) : (arr eEmbedding true l).set (i * 2 + 1) (.sl true true 1 0 (arr eI true z)) = arr eEmbedding true (l.set i ⟨(l[i]?.getD default).Values, z⟩) := by rw [List.getElem?_eq_getElem h]; exact set_cell (E := eEmbedding) (b := true) (i := i) (o := 1) ⟨l[i].Values, z⟩ (List.getElem?_eq_getElem h) (by decide) rfl
@[simp] def q20Embedding {z0 z1 l bs y} := @appT_1w _ eEmbedding true l bs y 2 rfl ⟨z0, z1⟩ [(.sl true true 1 0 (arr eI true z0)), (.sl true true 1 0 (arr eI true z1))] rfl
@[simp] def q23Embedding {z0 z1 l' bs y} := @appT_11 _ eEmbedding true l' bs y 2 rfl ⟨z0, z1⟩ [(.sl true true 1 0 (arr eI true z0)), (.sl true true 1 0 (arr eI true z1))] rfl
@[simp] def q22Embedding {z0 z1 bs y} := @appT_10 _ eEmbedding true bs y 2 rfl ⟨z0, z1⟩ [(.sl true true 1 0 (arr eI true z0)), (.sl true true 1 0 (arr eI true z1))] rfl
@[simp] def q21Embedding {z0 z1 l i} := @lay_w _ eEmbedding true l i 2 rfl ⟨z0, z1⟩ [(.sl true true 1 0 (arr eI true z0)), (.sl true true 1 0 (arr eI true z1))] rfl
@[simp] def q30Embedding {z0 z1 l bs y} := @appT_1w _ eEmbedding false l bs y 2 rfl ⟨z0, z1⟩ [(.sl false false 1 1 (arr eI false z0)), (.sl false false 1 1 (arr eI false z1))] rfl
@[simp] def q33Embedding {z0 z1 l' bs y} := @appT_11 _ eEmbedding false l' bs y 2 rfl ⟨z0, z1⟩ [(.sl false false 1 1 (arr eI false z0)), (.sl false false 1 1 (arr eI false z1))] rfl
@[simp] def q32Embedding {z0 z1 bs y} := @appT_10 _ eEmbedding false bs y 2 rfl ⟨z0, z1⟩ [(.sl false false 1 1 (arr eI false z0)), (.sl false false 1 1 (arr eI false z1))] rfl
@[simp] def q31Embedding {z0 z1 l i} := @lay_w _ eEmbedding false l i 2 rfl ⟨z0, z1⟩ [(.sl false false 1 1 (arr eI false z0)), (.sl false false 1 1 (arr eI false z1))] rfl
structure L22State where
 n : Int
 l : (List (List Int))
 proof : (List (List Int))
 model : (List Bool)
 deriving DecidableEq, Inhabited
def eL22State : En L22State := ⟨4, fun b a => if b then [(.int .i64 a.n), (osl (eL eI) true a.l), (osl (eL eI) true a.proof), (osl eB true a.model)] else [(.int .i64 a.n), (ssl (eL eI) a.l), (ssl (eL eI) a.proof), (ssl eB a.model)], fun b a => by cases b <;> rfl, by decide, fun b a => by cases b <;> simp [T.frz], fun a => by simp, fun a => by simp, fun b a => by cases b <;> simp⟩
@[simp] theorem eL22State_w : eL22State.w = 4 := rfl
@[simp] theorem eL22State_ct {a : L22State} : eL22State.c true a = [(.int .i64 a.n), (osl (eL eI) true a.l), (osl (eL eI) true a.proof), (osl eB true a.model)] := rfl
@[simp] theorem eL22State_cf {a : L22State} : eL22State.c false a = [(.int .i64 a.n), (ssl (eL eI) a.l), (ssl (eL eI) a.proof), (ssl eB a.model)] := rfl
@[simp] theorem eL22State_e (a : L22State) : L22State.mk a.n a.l a.proof a.model = a := rfl
structure Solver where
 n : Int
 clauses : (List (List Int))
 learned : (List (List Int))
 deriving DecidableEq, Inhabited
def eSolver : En Solver := ⟨3, fun b a => if b then [(.int .i64 a.n), (osl (eL eI) true a.clauses), (osl (eL eI) true a.learned)] else [(.int .i64 a.n), (ssl (eL eI) a.clauses), (ssl (eL eI) a.learned)], fun b a => by cases b <;> rfl, by decide, fun b a => by cases b <;> simp [T.frz], fun a => by simp, fun a => by simp, fun b a => by cases b <;> simp⟩
@[simp] theorem eSolver_w : eSolver.w = 3 := rfl
@[simp] theorem eSolver_ct {a : Solver} : eSolver.c true a = [(.int .i64 a.n), (osl (eL eI) true a.clauses), (osl (eL eI) true a.learned)] := rfl
@[simp] theorem eSolver_cf {a : Solver} : eSolver.c false a = [(.int .i64 a.n), (ssl (eL eI) a.clauses), (ssl (eL eI) a.learned)] := rfl
@[simp] theorem eSolver_e (a : Solver) : Solver.mk a.n a.clauses a.learned = a := rfl
@[simp] theorem q81Atom {l : List Atom} {z : (List Int)} (h : 0 < l.length) : layT (arr eAtom true l) 1 1 [(.sl true true 1 0 (arr eI true z))] = arr eAtom true (l.set 0 ⟨(l[0]?.getD default).Relation, z⟩) := q51Atom (i := 0) h
@[simp] theorem q91Atom {l : List Atom} {z : (List Int)} (h : 0 < l.length) : (arr eAtom true l).set 1 (.sl true true 1 0 (arr eI true z)) = arr eAtom true (l.set 0 ⟨(l[0]?.getD default).Relation, z⟩) := q61Atom (i := 0) h
@[simp] def q92Atom {z0 x0 x1 l bs y} := @appT_1w _ eAtom true l bs y 2 rfl ⟨z0, [x0, x1]⟩ [(.int .i64 z0), (.sl true true 1 0 [(.int .i64 x0), (.int .i64 x1)])] rfl
def f44 (a : Relation) (left : Int) : Option Int :=
 if (w64 (left - (a.Name.length : Int))) < 0 then
 some (-1)
 else
 some (w64 (left - (a.Name.length : Int)))
def f20_0 (a : (List Relation)) : Int × Int -> Option ((Int × Int) ⊕ (Int ⊕ Int))
 | (left_2, i_3) =>
  if i_3 < (a.length : Int) then
  (ix a i_3).bind fun v_5 =>
  (f44 v_5 left_2).bind fun o7 =>
  if o7 < 0 then
  some (.inr (.inr (-1)))
  else
  some (.inl (o7, w64 (i_3 + 1)))
  else
  some (.inr (.inl left_2))
def f20 (a : (List Relation)) (left : Int) : Option Int :=
 if (w64 (left - (a.length : Int))) < 0 then
 some (-1)
 else
 (iter (f20_0 a) (w64 (left - (a.length : Int)), 0)).bind fun o => match o with
 | .inl left_12 =>
 some left_12
 | .inr x_13 =>
 some x_13
def f23 (a : (List Int)) (left : Int) : Option Int :=
 if (w64 (left - (a.length : Int))) < 0 then
 some (-1)
 else
 some (w64 (left - (a.length : Int)))
def f45 (a : Fact) (left : Int) : Option Int :=
 (f23 a.Values left).bind fun o1 =>
 if o1 < 0 then
 some (-1)
 else
 some o1
def f21_0 (a : (List Fact)) : Int × Int -> Option ((Int × Int) ⊕ (Int ⊕ Int))
 | (left_2, i_3) =>
  if i_3 < (a.length : Int) then
  (ix a i_3).bind fun v_5 =>
  (f45 v_5 left_2).bind fun o7 =>
  if o7 < 0 then
  some (.inr (.inr (-1)))
  else
  some (.inl (o7, w64 (i_3 + 1)))
  else
  some (.inr (.inl left_2))
def f21 (a : (List Fact)) (left : Int) : Option Int :=
 if (w64 (left - (a.length : Int))) < 0 then
 some (-1)
 else
 (iter (f21_0 a) (w64 (left - (a.length : Int)), 0)).bind fun o => match o with
 | .inl left_12 =>
 some left_12
 | .inr x_13 =>
 some x_13
def f4 (a : Database) (left : Int) : Option Int :=
 (f20 a.Relations left).bind fun o1 =>
 if o1 < 0 then
 some (-1)
 else
 (f21 a.Facts o1).bind fun o4 =>
 if o4 < 0 then
 some (-1)
 else
 some o4
def f46 (a : Atom) (left : Int) : Option Int :=
 (f23 a.Terms left).bind fun o1 =>
 if o1 < 0 then
 some (-1)
 else
 some o1
def f22_0 (a : (List Atom)) : Int × Int -> Option ((Int × Int) ⊕ (Int ⊕ Int))
 | (left_2, i_3) =>
  if i_3 < (a.length : Int) then
  (ix a i_3).bind fun v_5 =>
  (f46 v_5 left_2).bind fun o7 =>
  if o7 < 0 then
  some (.inr (.inr (-1)))
  else
  some (.inl (o7, w64 (i_3 + 1)))
  else
  some (.inr (.inl left_2))
def f22 (a : (List Atom)) (left : Int) : Option Int :=
 if (w64 (left - (a.length : Int))) < 0 then
 some (-1)
 else
 (iter (f22_0 a) (w64 (left - (a.length : Int)), 0)).bind fun o => match o with
 | .inl left_12 =>
 some left_12
 | .inr x_13 =>
 some x_13
def f5 (a : Query) (left : Int) : Option Int :=
 (f22 a.Atoms left).bind fun o1 =>
 if o1 < 0 then
 some (-1)
 else
 (f23 a.Free o1).bind fun o4 =>
 if o4 < 0 then
 some (-1)
 else
 some o4
def f56 (a : Relation) : Option Relation :=
 some a
def f29_0 (a : (List Relation)) : (List Relation) × Int -> Option (((List Relation) × Int) ⊕ (List Relation))
 | (out_3, i_4) =>
  if i_4 < (a.length : Int) then
  (ix a i_4).bind fun v_6 =>
  (f56 v_6).bind fun o8 =>
  (ix out_3 i_4).bind fun v_10 =>
  some (.inl ((out_3.set i_4.toNat o8), w64 (i_4 + 1)))
  else
  some (.inr out_3)
def f29 (a : (List Relation)) : Option (List Relation) :=
 (mkl 32 (a.length : Int) ({ Name := [], Arity := 0, KeyLength := 0 } : Relation)).bind fun l_1 =>
 (iter (f29_0 a) (l_1, 0)).bind fun out_15 =>
 some out_15
def f32_0 (a : (List Int)) : (List Int) × Int -> Option (((List Int) × Int) ⊕ (List Int))
 | (out_3, i_4) =>
  if i_4 < (a.length : Int) then
  (ix a i_4).bind fun v_6 =>
  (ix out_3 i_4).bind fun v_8 =>
  some (.inl ((out_3.set i_4.toNat v_6), w64 (i_4 + 1)))
  else
  some (.inr out_3)
def f32 (a : (List Int)) : Option (List Int) :=
 (mkl 8 (a.length : Int) 0).bind fun l_1 =>
 (iter (f32_0 a) (l_1, 0)).bind fun out_13 =>
 some out_13
def f57 (a : Fact) : Option Fact :=
 (f32 a.Values).bind fun o1 =>
 some ({ Relation := a.Relation, Values := o1 } : Fact)
def f30_0 (a : (List Fact)) : (List Fact) × Int -> Option (((List Fact) × Int) ⊕ (List Fact))
 | (out_3, i_4) =>
  if i_4 < (a.length : Int) then
  (ix a i_4).bind fun v_6 =>
  (f57 v_6).bind fun o8 =>
  (ix out_3 i_4).bind fun v_10 =>
  some (.inl ((out_3.set i_4.toNat o8), w64 (i_4 + 1)))
  else
  some (.inr out_3)
def f30 (a : (List Fact)) : Option (List Fact) :=
 (mkl 32 (a.length : Int) (({ Relation := 0, Values := [] } : Fact) : Fact)).bind fun l_1 =>
 (iter (f30_0 a) (l_1, 0)).bind fun out_15 =>
 some out_15
def f7 (a : Database) : Option Database :=
 (f29 a.Relations).bind fun o1 =>
 (f30 a.Facts).bind fun o3 =>
 some ({ Relations := o1, Facts := o3 } : Database)
def f58 (a : Atom) : Option Atom :=
 (f32 a.Terms).bind fun o1 =>
 some ({ Relation := a.Relation, Terms := o1 } : Atom)
def f31_0 (a : (List Atom)) : (List Atom) × Int -> Option (((List Atom) × Int) ⊕ (List Atom))
 | (out_3, i_4) =>
  if i_4 < (a.length : Int) then
  (ix a i_4).bind fun v_6 =>
  (f58 v_6).bind fun o8 =>
  (ix out_3 i_4).bind fun v_10 =>
  some (.inl ((out_3.set i_4.toNat o8), w64 (i_4 + 1)))
  else
  some (.inr out_3)
def f31 (a : (List Atom)) : Option (List Atom) :=
 (mkl 32 (a.length : Int) (({ Relation := 0, Terms := [] } : Atom) : Atom)).bind fun l_1 =>
 (iter (f31_0 a) (l_1, 0)).bind fun out_15 =>
 some out_15
def f8 (a : Query) : Option Query :=
 (f31 a.Atoms).bind fun o1 =>
 (f32 a.Free).bind fun o3 =>
 some ({ VariableCount := a.VariableCount, Atoms := o1, Free := o3 } : Query)
def f80 (x : Int) (low : Int) (high : Int) : Option Bool :=
 (((if x >= low then
 some (decide (x <= high))
 else
 some false) : Option (Bool))).bind fun x_1 =>
 some x_1
def f107 (s0 : Relation) : Option Bool :=
 (((if (s0.Name.length : Int) = 1 then
 (ix s0.Name 0).bind fun c_4 =>
 (((if (c_4.toNat : Int) >= 97 then
 (((if (c_4.toNat : Int) <= 122 then
 (f80 s0.Arity 1 3).bind fun o12 =>
 (((if o12 = true then
 (f80 s0.KeyLength 0 s0.Arity).bind fun o17 =>
 some o17
 else
 some false) : Option (Bool))).bind fun x_14 =>
 some x_14
 else
 some false) : Option (Bool))).bind fun x_9 =>
 some x_9
 else
 some false) : Option (Bool))).bind fun x_6 =>
 some x_6
 else
 some false) : Option (Bool))).bind fun x_1 =>
 some x_1
def f79_0 (l : (List Relation)) : Int -> Option (Int ⊕ (Unit ⊕ Bool))
 | i_1 =>
  if i_1 < (l.length : Int) then
  (ix l i_1).bind fun v_3 =>
  (f107 v_3).bind fun o5 =>
  (((if ¬ (o5 = true) then
  some true
  else
  (((if i_1 > 0 then
  (ix l (w64 (i_1 - 1))).bind fun v_13 =>
  some (!(Op.bytesLess v_13.Name v_3.Name))
  else
  some false) : Option (Bool))).bind fun x_10 =>
  some x_10) : Option (Bool))).bind fun x_7 =>
  if x_7 = true then
  some (.inr (.inr false))
  else
  some (.inl (w64 (i_1 + 1)))
  else
  some (.inr (.inl ()))
def f79 (l : (List Relation)) : Option Bool :=
 (iter (f79_0 l) 0).bind fun o => match o with
 | .inl _ =>
 some (decide ((l.length : Int) <= 4))
 | .inr x_18 =>
 some x_18
def f77_0 (f : Fact) : Int -> Option (Int ⊕ (Unit ⊕ Bool))
 | i_14 =>
  if i_14 < (f.Values.length : Int) then
  (ix f.Values i_14).bind fun v_16 =>
  (f80 v_16 0 9).bind fun o18 =>
  if ¬ (o18 = true) then
  some (.inr (.inr false))
  else
  some (.inl (w64 (i_14 + 1)))
  else
  some (.inr (.inl ()))
def f77 (l : (List Relation)) (f : Fact) : Option Bool :=
 (f79 l).bind fun o1 =>
 (((if ¬ (o1 = true) then
 some true
 else
 (f80 f.Relation 0 (w64 ((l.length : Int) - 1))).bind fun o6 =>
 (((if ¬ (o6 = true) then
 some true
 else
 (ix l f.Relation).bind fun v_11 =>
 some (decide ((f.Values.length : Int) ≠ v_11.Arity))) : Option (Bool))).bind fun x_8 =>
 some x_8) : Option (Bool))).bind fun x_3 =>
 if x_3 = true then
 some false
 else
 (iter (f77_0 f) 0).bind fun o => match o with
 | .inl _ =>
 some true
 | .inr x_23 =>
 some x_23
def f106_0 (a : (List Int)) (b : (List Int)) : Int -> Option (Int ⊕ (Unit ⊕ Int))
 | i_1 =>
  (((if i_1 < (a.length : Int) then
  some (decide (i_1 < (b.length : Int)))
  else
  some false) : Option (Bool))).bind fun x_2 =>
  if x_2 = true then
  (ix a i_1).bind fun v_6 =>
  (ix b i_1).bind fun v_8 =>
  if v_6 < v_8 then
  some (.inr (.inr (-1)))
  else
  if v_6 > v_8 then
  some (.inr (.inr 1))
  else
  some (.inl (w64 (i_1 + 1)))
  else
  some (.inr (.inl ()))
def f106 (a : (List Int)) (b : (List Int)) : Option Int :=
 (iter (f106_0 a b) 0).bind fun o => match o with
 | .inl _ =>
 if (a.length : Int) < (b.length : Int) then
 some (-1)
 else
 if (a.length : Int) > (b.length : Int) then
 some 1
 else
 some 0
 | .inr x_14 =>
 some x_14
def f78 (a : Fact) (b : Fact) : Option Int :=
 if a.Relation < b.Relation then
 some (-1)
 else
 if a.Relation > b.Relation then
 some 1
 else
 (f106 a.Values b.Values).bind fun o3 =>
 some o3
def f49_0 (d : Database) : Int -> Option (Int ⊕ (Unit ⊕ Bool))
 | i_1 =>
  if i_1 < (d.Facts.length : Int) then
  (ix d.Facts i_1).bind fun v_3 =>
  (f77 d.Relations v_3).bind fun o5 =>
  (((if ¬ (o5 = true) then
  some true
  else
  (((if i_1 > 0 then
  (ix d.Facts (w64 (i_1 - 1))).bind fun v_13 =>
  (f78 v_13 v_3).bind fun o15 =>
  some (decide (o15 >= 0))
  else
  some false) : Option (Bool))).bind fun x_10 =>
  some x_10) : Option (Bool))).bind fun x_7 =>
  if x_7 = true then
  some (.inr (.inr false))
  else
  some (.inl (w64 (i_1 + 1)))
  else
  some (.inr (.inl ()))
def f49 (d : Database) : Option Bool :=
 (iter (f49_0 d) 0).bind fun o => match o with
 | .inl _ =>
 (f79 d.Relations).bind fun o21 =>
 (((if o21 = true then
 some (decide ((d.Facts.length : Int) <= 14))
 else
 some false) : Option (Bool))).bind fun x_23 =>
 some x_23
 | .inr x_20 =>
 some x_20
def f50_3 (q : Query) (i_17 : Int) (v_19 : Atom) : Int -> Option (Int ⊕ (Unit ⊕ Bool))
 | k_29 =>
  if k_29 < i_17 then
  (ix q.Atoms k_29).bind fun v_31 =>
  if v_31.Relation = v_19.Relation then
  some (.inr (.inr false))
  else
  some (.inl (w64 (k_29 + 1)))
  else
  some (.inr (.inl ()))
def f50_4 (q : Query) (v_19 : Atom) : (List Bool) × Int -> Option (((List Bool) × Int) ⊕ ((List Bool) ⊕ Bool))
 | (met_37, k_38) =>
  if k_38 < (v_19.Terms.length : Int) then
  (ix v_19.Terms k_38).bind fun v_40 =>
  (f80 v_40 (-10) (w64 (q.VariableCount - 1))).bind fun o42 =>
  if ¬ (o42 = true) then
  some (.inr (.inr false))
  else
  (((if v_40 >= 0 then
  (ix met_37 v_40).bind fun v_48 =>
  some (met_37.set v_40.toNat true)
  else
  some met_37) : Option (List Bool))).bind fun met_51 =>
  some (.inl (met_51, w64 (k_38 + 1)))
  else
  some (.inr (.inl met_37))
def f50_0 (l : (List Relation)) (q : Query) : (List Bool) × Int -> Option (((List Bool) × Int) ⊕ ((List Bool) ⊕ Bool))
 | (met_16, i_17) =>
  if i_17 < (q.Atoms.length : Int) then
  (ix q.Atoms i_17).bind fun v_19 =>
  (f80 v_19.Relation 0 (w64 ((l.length : Int) - 1))).bind fun o21 =>
  (((if ¬ (o21 = true) then
  some true
  else
  (ix l v_19.Relation).bind fun v_26 =>
  some (decide ((v_19.Terms.length : Int) ≠ v_26.Arity))) : Option (Bool))).bind fun x_23 =>
  if x_23 = true then
  some (.inr (.inr false))
  else
  (iter ((f50_3 q i_17 v_19)) 0).bind fun o => match o with
  | .inl _ =>
  ((iter ((f50_4 q v_19)) (met_16, 0)).bind fun o => match o with
  | .inl met_54 =>
  some (.inl (met_54, w64 (i_17 + 1)))
  | .inr x_55 =>
  some (.inr (.inr x_55)))
  | .inr x_36 =>
  some (.inr (.inr x_36))
  else
  some (.inr (.inl met_16))
def f50_1 (q : Query) (met_58 : (List Bool)) : Int -> Option (Int ⊕ (Unit ⊕ Bool))
 | v_60 =>
  if v_60 < q.VariableCount then
  (ix met_58 v_60).bind fun v_62 =>
  if ¬ (v_62 = true) then
  some (.inr (.inr false))
  else
  some (.inl (w64 (v_60 + 1)))
  else
  some (.inr (.inl ()))
def f50_2 (q : Query) : Int -> Option (Int ⊕ (Unit ⊕ Bool))
 | i_68 =>
  if i_68 < (q.Free.length : Int) then
  (ix q.Free i_68).bind fun v_70 =>
  (f80 v_70 0 (w64 (q.VariableCount - 1))).bind fun o72 =>
  (((if ¬ (o72 = true) then
  some true
  else
  (((if i_68 > 0 then
  (ix q.Free (w64 (i_68 - 1))).bind fun v_80 =>
  some (decide (v_70 <= v_80))
  else
  some false) : Option (Bool))).bind fun x_77 =>
  some x_77) : Option (Bool))).bind fun x_74 =>
  if x_74 = true then
  some (.inr (.inr false))
  else
  some (.inl (w64 (i_68 + 1)))
  else
  some (.inr (.inl ()))
def f50 (l : (List Relation)) (q : Query) : Option Bool :=
 (f79 l).bind fun o1 =>
 (((if ¬ (o1 = true) then
 some true
 else
 (f80 q.VariableCount 0 4).bind fun o6 =>
 (((if ¬ (o6 = true) then
 some true
 else
 (f80 (q.Atoms.length : Int) 1 3).bind fun o11 =>
 some (decide (¬ (o11 = true)))) : Option (Bool))).bind fun x_8 =>
 some x_8) : Option (Bool))).bind fun x_3 =>
 if x_3 = true then
 some false
 else
 (mkl 1 4 false).bind fun l_14 =>
 (iter (f50_0 l q) (l_14, 0)).bind fun o => match o with
 | .inl met_58 =>
 ((iter (f50_1 q met_58) 0).bind fun o => match o with
 | .inl _ =>
 ((iter (f50_2 q) 0).bind fun o => match o with
 | .inl _ =>
 some true
 | .inr x_85 =>
 some x_85)
 | .inr x_67 =>
 some x_67)
 | .inr x_59 =>
 some x_59
def f25 (d : Database) (q : Query) : Option Bool :=
 (f49 d).bind fun o1 =>
 (((if o1 = true then
 (f50 d.Relations q).bind fun o6 =>
 some o6
 else
 some false) : Option (Bool))).bind fun x_3 =>
 some x_3
def f131 (l : (List Relation)) (f : Fact) : Option (List Int) :=
 (f77 l f).bind fun o1 =>
 if ¬ (o1 = true) then
 some ([])
 else
 (ix l f.Relation).bind fun v_4 =>
 (cutL f.Values 0 v_4.KeyLength).bind fun l_6 =>
 (app 8 ([]) l_6).bind fun l_8 =>
 some l_8
def f101 (l : (List Relation)) (a : Fact) (b : Fact) : Option Bool :=
 (f77 l a).bind fun o1 =>
 (((if o1 = true then
 (f77 l b).bind fun o6 =>
 (((if o6 = true then
 (((if a.Relation = b.Relation then
 (f131 l a).bind fun o14 =>
 (f131 l b).bind fun o16 =>
 (f106 o14 o16).bind fun o18 =>
 some (decide (o18 = 0))
 else
 some false) : Option (Bool))).bind fun x_11 =>
 some x_11
 else
 some false) : Option (Bool))).bind fun x_8 =>
 some x_8
 else
 some false) : Option (Bool))).bind fun x_3 =>
 some x_3
def f74_0 (d : Database) (i : Int) : (List Int) × Int -> Option (((List Int) × Int) ⊕ (List Int))
 | (out_1, k_2) =>
  (((if k_2 < (d.Facts.length : Int) then
  (f49 d).bind fun o6 =>
  (((if o6 = true then
  (f80 i 0 (w64 ((d.Facts.length : Int) - 1))).bind fun o11 =>
  some o11
  else
  some false) : Option (Bool))).bind fun x_8 =>
  some x_8
  else
  some false) : Option (Bool))).bind fun x_3 =>
  if x_3 = true then
  (ix d.Facts i).bind fun v_14 =>
  (ix d.Facts k_2).bind fun v_16 =>
  (f101 d.Relations v_14 v_16).bind fun o18 =>
  (((if o18 = true then
  (app 8 out_1 ([k_2])).bind fun l_23 =>
  some l_23
  else
  some out_1) : Option (List Int))).bind fun out_25 =>
  some (.inl (out_25, w64 (k_2 + 1)))
  else
  some (.inr out_1)
def f74 (d : Database) (i : Int) : Option (List Int) :=
 (iter (f74_0 d i) ([], 0)).bind fun out_28 =>
 some out_28
def f47_0 (d : Database) : (List (List Int)) × Int -> Option (((List (List Int)) × Int) ⊕ (List (List Int)))
 | (out_1, i_2) =>
  (((if i_2 < (d.Facts.length : Int) then
  (f49 d).bind fun o6 =>
  some o6
  else
  some false) : Option (Bool))).bind fun x_3 =>
  if x_3 = true then
  (f74 d i_2).bind fun o9 =>
  (ix o9 0).bind fun v_11 =>
  (((if v_11 = i_2 then
  (app 24 out_1 ([o9])).bind fun l_16 =>
  some l_16
  else
  some out_1) : Option (List (List Int)))).bind fun out_18 =>
  some (.inl (out_18, w64 (i_2 + 1)))
  else
  some (.inr out_1)
def f47 (d : Database) : Option (List (List Int)) :=
 (iter (f47_0 d) ([], 0)).bind fun out_21 =>
 some out_21
def f103_0 (n0 : Int) : (List Int) -> Option ((List Int) ⊕ (List Int))
 | l_1 =>
  if (l_1.length : Int) < n0 then
  (app 8 l_1 ([-1])).bind fun l_3 =>
  some (.inl l_3)
  else
  some (.inr l_1)
def f103 (n0 : Int) : Option (List Int) :=
 (iter (f103_0 n0) ([])).bind fun l_7 =>
 some l_7
def f132_0 (a : Atom) (f : Fact) : (List Int) × Int -> Option (((List Int) × Int) ⊕ ((List Int) ⊕ ((List Int) × Bool)))
 | (x_7, i_8) =>
  if i_8 < (a.Terms.length : Int) then
  ((((ix a.Terms i_8).bind fun v_12 =>
  if v_12 < 0 then
  (ix f.Values i_8).bind fun v_15 =>
  if (w64 ((-1) - v_12)) ≠ v_15 then
  some (.inr (x_7, false))
  else
  some (.inl x_7)
  else
  (ix x_7 v_12).bind fun v_18 =>
  (((if v_18 >= 0 then
  (ix f.Values i_8).bind fun v_23 =>
  some (decide (v_18 ≠ v_23))
  else
  some false) : Option (Bool))).bind fun x_20 =>
  if x_20 = true then
  some (.inr (x_7, false))
  else
  (ix f.Values i_8).bind fun v_26 =>
  some (.inl (x_7.set v_12.toNat v_26))) : Option ((List Int) ⊕ ((List Int) × Bool)))).bind fun o => match o with
  | .inl x_29 =>
  some (.inl (x_29, w64 (i_8 + 1)))
  | .inr (x_30, x_31) =>
  some (.inr (.inr (x_30, x_31)))
  else
  some (.inr (.inl x_7))
def f132 (a : Atom) (f : Fact) (vals : (List Int)) : Option ((List Int) × Bool) :=
 (app 8 ([]) vals).bind fun l_1 =>
 (((if f.Relation ≠ a.Relation then
 some true
 else
 some (decide ((f.Values.length : Int) ≠ (a.Terms.length : Int)))) : Option (Bool))).bind fun x_3 =>
 if x_3 = true then
 some (l_1, false)
 else
 (iter (f132_0 a f) (l_1, 0)).bind fun o => match o with
 | .inl x_34 =>
 some (x_34, true)
 | .inr (x_35, x_36) =>
 some (x_35, x_36)
def f102_0 (d : Database) (q : Query) (k : Int) (vals : (List Int)) (facts : (List Int)) (rec : Database -> Query -> Int -> (List Int) -> (List Int) -> Option (List Embedding)) : (List Embedding) × Int -> Option (((List Embedding) × Int) ⊕ (List Embedding))
 | (out_6, i_7) =>
  if i_7 < (d.Facts.length : Int) then
  (ix q.Atoms k).bind fun v_9 =>
  (ix d.Facts i_7).bind fun v_11 =>
  (f132 v_9 v_11 vals).bind fun o13 =>
  (((if o13.2 = true then
  (app 8 ([]) facts).bind fun l_18 =>
  (app 8 l_18 ([i_7])).bind fun l_20 =>
  (rec d q (w64 (k + 1)) o13.1 l_20).bind fun o22 =>
  (app 48 out_6 o22).bind fun l_24 =>
  some l_24
  else
  some out_6) : Option (List Embedding))).bind fun out_26 =>
  some (.inl (out_26, w64 (i_7 + 1)))
  else
  some (.inr out_6)
def f102 : Nat -> Database -> Query -> Int -> (List Int) -> (List Int) -> Option (List Embedding)
 | 0 => fun _ _ _ _ _ => none
 | n + 1 => fun d q k vals facts =>
  if k = (q.Atoms.length : Int) then
  (app 8 ([]) vals).bind fun l_2 =>
  (app 8 ([]) facts).bind fun l_4 =>
  some ([({ Values := l_2, Facts := l_4 } : Embedding)])
  else
  (iter (f102_0 d q k vals facts (f102 n)) ([], 0)).bind fun out_29 =>
  some out_29
def f75 (d : Database) (q : Query) : Option (List Embedding) :=
 (f25 d q).bind fun o1 =>
 if ¬ (o1 = true) then
 some ([])
 else
 (f103 q.VariableCount).bind fun o4 =>
 (f102 64 d q 0 o4 ([])).bind fun o6 =>
 some o6
def f55_1 (l : (List Int)) (out_1 : (List Int)) (i_2 : Int) : Int -> Option (Int ⊕ Int)
 | k_4 =>
  (((if k_4 > 0 then
  (ix out_1 (w64 (k_4 - 1))).bind fun v_8 =>
  (ix l i_2).bind fun v_10 =>
  some (decide (v_8 > v_10))
  else
  some false) : Option (Bool))).bind fun x_5 =>
  if x_5 = true then
  some (.inl (w64 (k_4 - 1)))
  else
  some (.inr k_4)
def f55_0 (l : (List Int)) : (List Int) × Int -> Option (((List Int) × Int) ⊕ (List Int))
 | (out_1, i_2) =>
  if i_2 < (l.length : Int) then
  (iter (f55_1 l out_1 i_2) (out_1.length : Int)).bind fun k_15 =>
  (cutL out_1 0 k_15).bind fun l_16 =>
  (ix l i_2).bind fun v_18 =>
  (cutL out_1 k_15 out_1.length).bind fun l_20 =>
  (app 8 ([]) l_16).bind fun l_22 =>
  (app 8 l_22 ([v_18])).bind fun l_24 =>
  (app 8 l_24 l_20).bind fun l_26 =>
  some (.inl (l_26, w64 (i_2 + 1)))
  else
  some (.inr out_1)
def f55 (l : (List Int)) : Option (List Int) :=
 (iter (f55_0 l) ([], 0)).bind fun out_30 =>
 some out_30
def f53_0 (d : Database) (l : (List Int)) : Int -> Option (Int ⊕ (Unit ⊕ Bool))
 | i_1 =>
  if i_1 < (l.length : Int) then
  (ix l i_1).bind fun v_3 =>
  (f80 v_3 0 (w64 ((d.Facts.length : Int) - 1))).bind fun o5 =>
  (((if ¬ (o5 = true) then
  some true
  else
  (((if i_1 > 0 then
  (ix l (w64 (i_1 - 1))).bind fun v_13 =>
  some (decide (v_3 <= v_13))
  else
  some false) : Option (Bool))).bind fun x_10 =>
  some x_10) : Option (Bool))).bind fun x_7 =>
  if x_7 = true then
  some (.inr (.inr false))
  else
  some (.inl (w64 (i_1 + 1)))
  else
  some (.inr (.inl ()))
def f53 (d : Database) (l : (List Int)) : Option Bool :=
 (iter (f53_0 d l) 0).bind fun o => match o with
 | .inl _ =>
 some true
 | .inr x_18 =>
 some x_18
def f104_0 (d : Database) (l : (List Int)) : (List Relation) × (List Fact) × Int -> Option (((List Relation) × (List Fact) × Int) ⊕ ((List Relation) × (List Fact)))
 | (x_11, x_12, i_13) =>
  if i_13 < (l.length : Int) then
  (ix l i_13).bind fun v_15 =>
  (ix d.Facts v_15).bind fun v_17 =>
  (app 8 ([]) v_17.Values).bind fun l_19 =>
  (app 32 x_12 ([({ Relation := v_17.Relation, Values := l_19 } : Fact)])).bind fun l_21 =>
  some (.inl (x_11, l_21, w64 (i_13 + 1)))
  else
  some (.inr (x_11, x_12))
def f104 (d : Database) (l : (List Int)) : Option (Database × Bool) :=
 (f49 d).bind fun o1 =>
 (((if ¬ (o1 = true) then
 some true
 else
 (f53 d l).bind fun o6 =>
 some (decide (¬ (o6 = true)))) : Option (Bool))).bind fun x_3 =>
 if x_3 = true then
 some (({ Relations := [], Facts := [] } : Database), false)
 else
 (app 32 ([]) d.Relations).bind fun l_9 =>
 (iter (f104_0 d l) (l_9, [], 0)).bind fun (x_25, x_26) =>
 some (({ Relations := x_25, Facts := x_26 } : Database), true)
def f105 (d : Database) : Option Bool :=
 (f49 d).bind fun o1 =>
 (((if o1 = true then
 (f47 d).bind fun o6 =>
 some (decide ((o6.length : Int) = (d.Facts.length : Int)))
 else
 some false) : Option (Bool))).bind fun x_3 =>
 some x_3
def f76 (d : Database) (l : (List Int)) : Option Bool :=
 (f104 d l).bind fun o1 =>
 (((if o1.2 = true then
 (f105 o1.1).bind fun o6 =>
 some o6
 else
 some false) : Option (Bool))).bind fun x_3 =>
 some x_3
def f48_0 (d : Database) (o1 : (List Embedding)) : (List (List Int)) × Int -> Option (((List (List Int)) × Int) ⊕ (List (List Int)))
 | (out_3, i_4) =>
  if i_4 < (o1.length : Int) then
  (ix o1 i_4).bind fun v_6 =>
  (f55 v_6.Facts).bind fun o8 =>
  (f76 d o8).bind fun o10 =>
  (((if o10 = true then
  (app 24 out_3 ([o8])).bind fun l_15 =>
  some l_15
  else
  some out_3) : Option (List (List Int)))).bind fun out_17 =>
  some (.inl (out_17, w64 (i_4 + 1)))
  else
  some (.inr out_3)
def f48 (d : Database) (q : Query) : Option (List (List Int)) :=
 (f75 d q).bind fun o1 =>
 (iter (f48_0 d o1) ([], 0)).bind fun out_20 =>
 some out_20
def f24_2 (o4 : (List (List Int))) (i_7 : Int) : (List Int) × Int -> Option (((List Int) × Int) ⊕ (List Int))
 | (c_9, k_10) =>
  (ix o4 i_7).bind fun v_11 =>
  if k_10 < (v_11.length : Int) then
  (ix v_11 k_10).bind fun v_14 =>
  (app 8 c_9 ([w64 (v_14 + 1)])).bind fun l_16 =>
  some (.inl (l_16, w64 (k_10 + 1)))
  else
  some (.inr c_9)
def f24_0 (o4 : (List (List Int))) : (List (List Int)) × Int -> Option (((List (List Int)) × Int) ⊕ (List (List Int)))
 | (out_6, i_7) =>
  if i_7 < (o4.length : Int) then
  (iter ((f24_2 o4 i_7)) ([], 0)).bind fun c_20 =>
  (app 24 out_6 ([c_20])).bind fun l_21 =>
  some (.inl (l_21, w64 (i_7 + 1)))
  else
  some (.inr out_6)
def f24_3 (o26 : (List (List Int))) (i_29 : Int) : (List Int) × Int -> Option (((List Int) × Int) ⊕ (List Int))
 | (c_31, k_32) =>
  (ix o26 i_29).bind fun v_33 =>
  if k_32 < (v_33.length : Int) then
  (ix v_33 k_32).bind fun v_36 =>
  (app 8 c_31 ([w64 ((-1) - v_36)])).bind fun l_38 =>
  some (.inl (l_38, w64 (k_32 + 1)))
  else
  some (.inr c_31)
def f24_1 (o26 : (List (List Int))) : (List (List Int)) × Int -> Option (((List (List Int)) × Int) ⊕ (List (List Int)))
 | (out_28, i_29) =>
  if i_29 < (o26.length : Int) then
  (iter ((f24_3 o26 i_29)) ([], 0)).bind fun c_42 =>
  (app 24 out_28 ([c_42])).bind fun l_43 =>
  some (.inl (l_43, w64 (i_29 + 1)))
  else
  some (.inr out_28)
def f24 (d : Database) (q : Query) : Option (List (List Int)) :=
 (f25 d q).bind fun o1 =>
 if ¬ (o1 = true) then
 some ([])
 else
 (f47 d).bind fun o4 =>
 (iter ((f24_0 o4)) ([], 0)).bind fun out_25 =>
 (f48 d q).bind fun o26 =>
 (iter (f24_1 o26) (out_25, 0)).bind fun out_47 =>
 some out_47
def f81_1 (c : (List Int)) (i_1 : Int) : Int -> Option (Int ⊕ (Unit ⊕ Bool))
 | k_15 =>
  if k_15 < i_1 then
  (ix c k_15).bind fun v_17 =>
  (ix c i_1).bind fun v_19 =>
  (((if v_17 = v_19 then
  some true
  else
  some (decide (v_17 = (w64 (-v_19))))) : Option (Bool))).bind fun x_21 =>
  if x_21 = true then
  some (.inr (.inr false))
  else
  some (.inl (w64 (k_15 + 1)))
  else
  some (.inr (.inl ()))
def f81_0 (n0 : Int) (c : (List Int)) : Int -> Option (Int ⊕ (Unit ⊕ Bool))
 | i_1 =>
  if i_1 < (c.length : Int) then
  (ix c i_1).bind fun v_3 =>
  (((if v_3 < 0 then
  some (decide (v_3 >= (w64 (-n0))))
  else
  some false) : Option (Bool))).bind fun x_5 =>
  (((if x_5 = true then
  some (w64 (-v_3))
  else
  some (if 0 > v_3 then 0 else v_3)) : Option Int)).bind fun v_11 =>
  (f80 v_11 1 n0).bind fun o12 =>
  if ¬ (o12 = true) then
  some (.inr (.inr false))
  else
  (iter ((f81_1 c i_1)) 0).bind fun o => match o with
  | .inl _ =>
  some (.inl (w64 (i_1 + 1)))
  | .inr x_27 =>
  some (.inr (.inr x_27))
  else
  some (.inr (.inl ()))
def f81 (n0 : Int) (c : (List Int)) : Option Bool :=
 (iter (f81_0 n0 c) 0).bind fun o => match o with
 | .inl _ =>
 some true
 | .inr x_30 =>
 some x_30
def f51_0 (n0 : Int) (l : (List (List Int))) : Int -> Option (Int ⊕ (Unit ⊕ Bool))
 | i_1 =>
  if i_1 < (l.length : Int) then
  (ix l i_1).bind fun v_3 =>
  (f81 n0 v_3).bind fun o5 =>
  if ¬ (o5 = true) then
  some (.inr (.inr false))
  else
  some (.inl (w64 (i_1 + 1)))
  else
  some (.inr (.inl ()))
def f51 (n0 : Int) (l : (List (List Int))) : Option Bool :=
 (iter (f51_0 n0 l) 0).bind fun o => match o with
 | .inl _ =>
 (f80 n0 0 14).bind fun o11 =>
 (((if o11 = true then
 some (decide ((l.length : Int) <= 400))
 else
 some false) : Option (Bool))).bind fun x_13 =>
 some x_13
 | .inr x_10 =>
 some x_10
def f54_0 (l : (List Int)) (x : Int) : Int -> Option (Int ⊕ (Unit ⊕ Bool))
 | i_1 =>
  if i_1 < (l.length : Int) then
  (ix l i_1).bind fun v_3 =>
  if v_3 = x then
  some (.inr (.inr true))
  else
  some (.inl (w64 (i_1 + 1)))
  else
  some (.inr (.inl ()))
def f54 (l : (List Int)) (x : Int) : Option Bool :=
 (iter (f54_0 l x) 0).bind fun o => match o with
 | .inl _ =>
 some false
 | .inr x_8 =>
 some x_8
def f108_0 (c : (List Int)) (set1 : (List Int)) : (List Int) × Int -> Option (((List Int) × Int) ⊕ ((List Int) ⊕ ((List Int) × Bool)))
 | (out_1, i_2) =>
  if i_2 < (c.length : Int) then
  (ix c i_2).bind fun v_4 =>
  (f54 set1 v_4).bind fun o6 =>
  if o6 = true then
  some (.inr (.inr (out_1, true)))
  else
  (f54 set1 (w64 (-v_4))).bind fun o9 =>
  (((if ¬ (o9 = true) then
  (app 8 out_1 ([v_4])).bind fun l_14 =>
  some l_14
  else
  some out_1) : Option (List Int))).bind fun out_16 =>
  some (.inl (out_16, w64 (i_2 + 1)))
  else
  some (.inr (.inl out_1))
def f108 (c : (List Int)) (set1 : (List Int)) : Option ((List Int) × Bool) :=
 (iter (f108_0 c set1) ([], 0)).bind fun o => match o with
 | .inl out_19 =>
 some (out_19, false)
 | .inr (x_20, x_21) =>
 some (x_20, x_21)
def f82_1 (l : (List (List Int))) : (List Int) × Bool × Int -> Option (((List Int) × Bool × Int) ⊕ (((List Int) × Bool) ⊕ ((List Int) × Bool)))
 | (out_6, more_7, i_8) =>
  (((if i_8 < (l.length : Int) then
  some (decide (¬ (more_7 = true)))
  else
  some false) : Option (Bool))).bind fun x_9 =>
  if x_9 = true then
  ((((ix l i_8).bind fun v_15 =>
  (f108 v_15 out_6).bind fun o17 =>
  if o17.2 = true then
  some (.inl (out_6, more_7))
  else
  if (o17.1.length : Int) = 0 then
  some (.inr (out_6, true))
  else
  (((if (o17.1.length : Int) = 1 then
  (ix o17.1 0).bind fun v_24 =>
  (app 8 out_6 ([v_24])).bind fun l_26 =>
  some (l_26, true)
  else
  some (out_6, more_7)) : Option ((List Int) × Bool))).bind fun (out_28, more_29) =>
  some (.inl (out_28, more_29))) : Option (((List Int) × Bool) ⊕ ((List Int) × Bool)))).bind fun o => match o with
  | .inl (out_30, more_31) =>
  some (.inl (out_30, more_31, w64 (i_8 + 1)))
  | .inr (x_32, x_33) =>
  some (.inr (.inr (x_32, x_33)))
  else
  some (.inr (.inl (out_6, more_7)))
def f82_0 (l : (List (List Int))) : (List Int) × Bool -> Option (((List Int) × Bool) ⊕ ((List Int) ⊕ ((List Int) × Bool)))
 | (out_3, more_4) =>
  if more_4 = true then
  (iter (f82_1 l) (out_3, false, 0)).bind fun o => match o with
  | .inl (out_36, more_37) =>
  some (.inl (out_36, more_37))
  | .inr (x_38, x_39) =>
  some (.inr (.inr (x_38, x_39)))
  else
  some (.inr (.inl out_3))
def f82 (l : (List (List Int))) (set1 : (List Int)) : Option ((List Int) × Bool) :=
 (app 8 ([]) set1).bind fun l_1 =>
 (iter (f82_0 l) (l_1, true)).bind fun o => match o with
 | .inl out_42 =>
 some (out_42, false)
 | .inr (x_43, x_44) =>
 some (x_43, x_44)
def f109_0 (l : (List Int)) : (List Int) × Int -> Option (((List Int) × Int) ⊕ (List Int))
 | (out_1, i_2) =>
  if i_2 < (l.length : Int) then
  (ix l i_2).bind fun v_4 =>
  (app 8 out_1 ([w64 (-v_4)])).bind fun l_6 =>
  some (.inl (l_6, w64 (i_2 + 1)))
  else
  some (.inr out_1)
def f109 (l : (List Int)) : Option (List Int) :=
 (iter (f109_0 l) ([], 0)).bind fun out_10 =>
 some out_10
def f83 (t : L22State) (signs : (List Int)) : Option L22State :=
 (f109 signs).bind fun o1 =>
 (app 24 t.l ([o1])).bind fun l_3 =>
 (app 24 t.proof ([o1])).bind fun l_5 =>
 some ({ n := t.n, l := l_3, proof := l_5, model := t.model } : L22State)
def f52_0 (t : L22State) (signs : (List Int)) (rec : L22State -> (List Int) -> Option (Bool × L22State)) (o1 : ((List Int) × Bool)) : Int -> Option (Int ⊕ (Unit ⊕ (Int × (List (List Int)) × (List (List Int)) × (List Bool) × Bool)))
 | v_6 =>
  if v_6 <= t.n then
  (f54 o1.1 v_6).bind fun o8 =>
  (((if o8 = true then
  some true
  else
  (f54 o1.1 (w64 (-v_6))).bind fun o13 =>
  some o13) : Option (Bool))).bind fun x_10 =>
  if x_10 = true then
  some (.inl (w64 (v_6 + 1)))
  else
  (app 8 ([]) signs).bind fun l_16 =>
  (app 8 l_16 ([v_6])).bind fun l_18 =>
  (rec t l_18).bind fun o20 =>
  (((if o20.1 = true then
  some (o20.2.n, o20.2.l, o20.2.proof, o20.2.model, true)
  else
  (app 8 l_16 ([w64 (-v_6)])).bind fun l_29 =>
  (rec o20.2 l_29).bind fun o31 =>
  some (o31.2.n, o31.2.l, o31.2.proof, o31.2.model, o31.1)) : Option (Int × (List (List Int)) × (List (List Int)) × (List Bool) × Bool))).bind fun (t_22, t_23, t_24, t_25, x_26) =>
  if x_26 = true then
  some (.inr (.inr (t_22, t_23, t_24, t_25, true)))
  else
  (f83 ({ n := t_22, l := t_23, proof := t_24, model := t_25 } : L22State) signs).bind fun o34 =>
  some (.inr (.inr (o34.n, o34.l, o34.proof, o34.model, false)))
  else
  some (.inr (.inl ()))
def f52_1 (o1 : ((List Int) × Bool)) : Int × (List (List Int)) × (List (List Int)) × (List Bool) × Int -> Option ((Int × (List (List Int)) × (List (List Int)) × (List Bool) × Int) ⊕ (Int × (List (List Int)) × (List (List Int)) × (List Bool)))
 | (t_43, t_44, t_45, t_46, v_47) =>
  if v_47 <= t_43 then
  (f54 o1.1 v_47).bind fun o49 =>
  (app 1 t_46 ([o49])).bind fun l_51 =>
  some (.inl (t_43, t_44, t_45, l_51, w64 (v_47 + 1)))
  else
  some (.inr (t_43, t_44, t_45, t_46))
def f52 : Nat -> L22State -> (List Int) -> Option (Bool × L22State)
 | 0 => fun _ _ => none
 | n + 1 => fun t signs =>
  (f82 t.l signs).bind fun o1 =>
  if o1.2 = true then
  (f83 t signs).bind fun o4 =>
  some (false, o4)
  else
  (iter (f52_0 t signs (f52 n) o1) 1).bind fun o => match o with
  | .inl _ =>
  (iter (f52_1 o1) (t.n, t.l, t.proof, t.model, 1)).bind fun (t_55, t_56, t_57, t_58) =>
  some (true, ({ n := t_55, l := t_56, proof := t_57, model := t_58 } : L22State))
  | .inr (t_38, t_39, t_40, t_41, x_42) =>
  some (x_42, ({ n := t_38, l := t_39, proof := t_40, model := t_41 } : L22State))
def f26 (n0 : Int) (l : (List (List Int))) : Option ((List Bool) × (List (List Int)) × Bool) :=
 (f51 n0 l).bind fun o1 =>
 if ¬ (o1 = true) then
 some ([], [], false)
 else
 (app 24 ([]) l).bind fun l_4 =>
 (f52 64 ({ n := n0, l := l_4, proof := [], model := [] } : L22State) ([])).bind fun o6 =>
 if o6.1 = true then
 some (o6.2.model, [], true)
 else
 some ([], o6.2.proof, false)
def f28_0 (m : (List Bool)) : (List Int) × Int -> Option (((List Int) × Int) ⊕ (List Int))
 | (out_1, i_2) =>
  if i_2 < (m.length : Int) then
  (ix m i_2).bind fun v_4 =>
  (((if v_4 = true then
  (app 8 out_1 ([i_2])).bind fun l_9 =>
  some l_9
  else
  some out_1) : Option (List Int))).bind fun out_11 =>
  some (.inl (out_11, w64 (i_2 + 1)))
  else
  some (.inr out_1)
def f28 (m : (List Bool)) : Option (List Int) :=
 (iter (f28_0 m) ([], 0)).bind fun out_14 =>
 some out_14
def f27_1 (s1 : (List Int)) (o9 : (List (List Int))) (i_12 : Int) : (List Int) × Bool × Int -> Option (((List Int) × Bool × Int) ⊕ ((List Int) × Bool))
 | (out_14, met_15, k_16) =>
  (ix o9 i_12).bind fun v_17 =>
  (((if k_16 < (v_17.length : Int) then
  some (decide (¬ (met_15 = true)))
  else
  some false) : Option (Bool))).bind fun x_19 =>
  if x_19 = true then
  (ix v_17 k_16).bind fun v_23 =>
  (f54 s1 v_23).bind fun o25 =>
  (((if o25 = true then
  (app 8 out_14 ([v_23])).bind fun l_30 =>
  some (l_30, true)
  else
  some (out_14, met_15)) : Option ((List Int) × Bool))).bind fun (out_32, met_33) =>
  some (.inl (out_32, met_33, w64 (k_16 + 1)))
  else
  some (.inr (out_14, met_15))
def f27_0 (s1 : (List Int)) (o9 : (List (List Int))) : (List Int) × Int -> Option (((List Int) × Int) ⊕ ((List Int) ⊕ ((List Int) × Bool)))
 | (out_11, i_12) =>
  if i_12 < (o9.length : Int) then
  (iter (f27_1 s1 o9 i_12) (out_11, false, 0)).bind fun (out_36, met_37) =>
  if ¬ (met_37 = true) then
  some (.inr (.inr ([], false)))
  else
  some (.inl (out_36, w64 (i_12 + 1)))
  else
  some (.inr (.inl out_11))
def f27 (d : Database) (s1 : (List Int)) : Option ((List Int) × Bool) :=
 (f49 d).bind fun o1 =>
 (((if ¬ (o1 = true) then
 some true
 else
 (f53 d s1).bind fun o6 =>
 some (decide (¬ (o6 = true)))) : Option (Bool))).bind fun x_3 =>
 if x_3 = true then
 some ([], false)
 else
 (f47 d).bind fun o9 =>
 (iter (f27_0 s1 o9) ([], 0)).bind fun o => match o with
 | .inl out_41 =>
 (f55 out_41).bind fun o44 =>
 some (o44, true)
 | .inr (x_42, x_43) =>
 some (x_42, x_43)
def f6 (d : Database) (q : Query) : Option ((List Int) × (List (List Int)) × Bool) :=
 (f24 d q).bind fun o1 =>
 (f25 d q).bind fun o3 =>
 (((if ¬ (o3 = true) then
 some true
 else
 some (decide ((o1.length : Int) > 400))) : Option (Bool))).bind fun x_5 =>
 if x_5 = true then
 some ([], [], false)
 else
 (f26 (d.Facts.length : Int) o1).bind fun o9 =>
 if ¬ (o9.2.2 = true) then
 some ([], o9.2.1, true)
 else
 (f28 o9.1).bind fun o12 =>
 (f27 d o12).bind fun o14 =>
 some (o14.1, [], false)
def f90 (n0 : Int) (low : Int) (high : Int) : Option Bool :=
 (((if low <= n0 then
 some (decide (n0 <= high))
 else
 some false) : Option (Bool))).bind fun x_1 =>
 some x_1
def f116 (relation : Relation) : Option Bool :=
 (((if (relation.Name.length : Int) = 1 then
 (ix relation.Name 0).bind fun c_4 =>
 (((if (c_4.toNat : Int) >= 97 then
 (((if (c_4.toNat : Int) <= 122 then
 (f90 relation.Arity 1 3).bind fun o12 =>
 (((if o12 = true then
 (f90 relation.KeyLength 0 relation.Arity).bind fun o17 =>
 some o17
 else
 some false) : Option (Bool))).bind fun x_14 =>
 some x_14
 else
 some false) : Option (Bool))).bind fun x_9 =>
 some x_9
 else
 some false) : Option (Bool))).bind fun x_6 =>
 some x_6
 else
 some false) : Option (Bool))).bind fun x_1 =>
 some x_1
def f87_0 (relations : (List Relation)) : Int -> Option (Int ⊕ (Unit ⊕ Bool))
 | x_1 =>
  if x_1 < (relations.length : Int) then
  (ix relations x_1).bind fun v_3 =>
  (f116 v_3).bind fun o5 =>
  (((if ¬ (o5 = true) then
  some true
  else
  (((if x_1 > 0 then
  (ix relations (w64 (x_1 - 1))).bind fun v_13 =>
  some (!(Op.bytesLess v_13.Name v_3.Name))
  else
  some false) : Option (Bool))).bind fun x_10 =>
  some x_10) : Option (Bool))).bind fun x_7 =>
  if x_7 = true then
  some (.inr (.inr false))
  else
  some (.inl (w64 (x_1 + 1)))
  else
  some (.inr (.inl ()))
def f87 (relations : (List Relation)) : Option Bool :=
 (iter (f87_0 relations) 0).bind fun o => match o with
 | .inl _ =>
 some (decide ((relations.length : Int) <= 4))
 | .inr x_18 =>
 some x_18
def f67_0 (s0 : (List Int)) (f : Int -> Option Bool) : Int -> Option (Int ⊕ (Unit ⊕ Int))
 | x_1 =>
  if x_1 < (s0.length : Int) then
  (ix s0 x_1).bind fun v_3 =>
  (f v_3).bind fun o5 =>
  if o5 = true then
  some (.inr (.inr x_1))
  else
  some (.inl (w64 (x_1 + 1)))
  else
  some (.inr (.inl ()))
def f67 (s0 : (List Int)) (f : Int -> Option Bool) : Option Int :=
 (iter (f67_0 s0 f) 0).bind fun o => match o with
 | .inl _ =>
 some (-1)
 | .inr x_10 =>
 some x_10
def f126 (s0 : (List Int)) (f : Int -> Option Bool) : Option Bool :=
 (f67 s0 f).bind fun o1 =>
 some (decide (o1 >= 0))
def f147 (v : Int) : Option Bool :=
 (f90 v 0 9).bind fun o1 =>
 some (decide (¬ (o1 = true)))
def f117 (list : (List Int)) : Option Bool :=
 (f126 list (fun x0 => f147 x0)).bind fun o1 =>
 some (decide (¬ (o1 = true)))
def f88 (relations : (List Relation)) (fact : Fact) : Option Bool :=
 (f90 fact.Relation 0 (w64 ((relations.length : Int) - 1))).bind fun o1 =>
 (((if o1 = true then
 (ix relations fact.Relation).bind fun v_6 =>
 (((if (fact.Values.length : Int) = v_6.Arity then
 (f117 fact.Values).bind fun o11 =>
 some o11
 else
 some false) : Option (Bool))).bind fun x_8 =>
 some x_8
 else
 some false) : Option (Bool))).bind fun x_3 =>
 some x_3
def f118 (a : Int) (b : Int) : Option Int :=
 if a < b then
 some (-1)
 else
 if a > b then
 some 1
 else
 some 0
def f157 (x : Int) : Option Bool :=
 some (decide (x ≠ x))
def f148 (x : Int) (y : Int) : Option Int :=
 (f157 x).bind fun o1 =>
 (f157 y).bind fun o3 =>
 if o1 = true then
 if o3 = true then
 some 0
 else
 some (-1)
 else
 if o3 = true then
 some 1
 else
 if x < y then
 some (-1)
 else
 if x > y then
 some 1
 else
 some 0
def f119_0 (s1 : (List Int)) (s2 : (List Int)) : Int -> Option (Int ⊕ (Unit ⊕ Int))
 | x_1 =>
  if x_1 < (s1.length : Int) then
  (ix s1 x_1).bind fun v_3 =>
  if x_1 >= (s2.length : Int) then
  some (.inr (.inr 1))
  else
  (ix s2 x_1).bind fun v_6 =>
  (f148 v_3 v_6).bind fun o8 =>
  if o8 ≠ 0 then
  some (.inr (.inr o8))
  else
  some (.inl (w64 (x_1 + 1)))
  else
  some (.inr (.inl ()))
def f119 (s1 : (List Int)) (s2 : (List Int)) : Option Int :=
 (iter (f119_0 s1 s2) 0).bind fun o => match o with
 | .inl _ =>
 if (s1.length : Int) < (s2.length : Int) then
 some (-1)
 else
 some 0
 | .inr x_13 =>
 some x_13
def f89 (a : Fact) (b : Fact) : Option Int :=
 if a.Relation ≠ b.Relation then
 (f118 a.Relation b.Relation).bind fun o2 =>
 some o2
 else
 (f119 a.Values b.Values).bind fun o4 =>
 some o4
def f62_0 (db : Database) : Int -> Option (Int ⊕ (Unit ⊕ Bool))
 | x_7 =>
  if x_7 < (db.Facts.length : Int) then
  (ix db.Facts x_7).bind fun v_9 =>
  (f88 db.Relations v_9).bind fun o11 =>
  (((if ¬ (o11 = true) then
  some true
  else
  (((if x_7 > 0 then
  (ix db.Facts (w64 (x_7 - 1))).bind fun v_19 =>
  (f89 v_19 v_9).bind fun o21 =>
  some (decide (o21 >= 0))
  else
  some false) : Option (Bool))).bind fun x_16 =>
  some x_16) : Option (Bool))).bind fun x_13 =>
  if x_13 = true then
  some (.inr (.inr false))
  else
  some (.inl (w64 (x_7 + 1)))
  else
  some (.inr (.inl ()))
def f62 (db : Database) : Option Bool :=
 (f87 db.Relations).bind fun o1 =>
 (((if ¬ (o1 = true) then
 some true
 else
 some (decide ((db.Facts.length : Int) > 14))) : Option (Bool))).bind fun x_3 =>
 if x_3 = true then
 some false
 else
 (iter (f62_0 db) 0).bind fun o => match o with
 | .inl _ =>
 some true
 | .inr x_26 =>
 some x_26
def f66_0 (indices : (List Int)) (n1 : Int) : Int -> Option (Int ⊕ (Unit ⊕ Bool))
 | x_1 =>
  if x_1 < (indices.length : Int) then
  (ix indices x_1).bind fun v_3 =>
  (f90 v_3 0 (w64 (n1 - 1))).bind fun o5 =>
  (((if ¬ (o5 = true) then
  some true
  else
  (((if x_1 > 0 then
  (ix indices (w64 (x_1 - 1))).bind fun v_13 =>
  some (decide (v_13 >= v_3))
  else
  some false) : Option (Bool))).bind fun x_10 =>
  some x_10) : Option (Bool))).bind fun x_7 =>
  if x_7 = true then
  some (.inr (.inr false))
  else
  some (.inl (w64 (x_1 + 1)))
  else
  some (.inr (.inl ()))
def f66 (indices : (List Int)) (n1 : Int) : Option Bool :=
 (iter (f66_0 indices n1) 0).bind fun o => match o with
 | .inl _ =>
 some true
 | .inr x_18 =>
 some x_18
def f120_0 (s0 : (List Atom)) (f : Atom -> Option Bool) : Int -> Option (Int ⊕ (Unit ⊕ Int))
 | x_1 =>
  if x_1 < (s0.length : Int) then
  (ix s0 x_1).bind fun v_3 =>
  (f v_3).bind fun o5 =>
  if o5 = true then
  some (.inr (.inr x_1))
  else
  some (.inl (w64 (x_1 + 1)))
  else
  some (.inr (.inl ()))
def f120 (s0 : (List Atom)) (f : Atom -> Option Bool) : Option Int :=
 (iter (f120_0 s0 f) 0).bind fun o => match o with
 | .inl _ =>
 some (-1)
 | .inr x_10 =>
 some x_10
def f91 (s0 : (List Atom)) (f : Atom -> Option Bool) : Option Bool :=
 (f120 s0 f).bind fun o1 =>
 some (decide (o1 >= 0))
def f92 (own : Atom) (c : Atom) : Option Bool :=
 some (decide (own.Relation = c.Relation))
def f149 (n : Int) : Option Nat := growN 8 n
def f121_0 (slices : (List (List Int))) : Int × Int -> Option ((Int × Int) ⊕ Int)
 | (size_1, x_2) =>
  if x_2 < (slices.length : Int) then
  (ix slices x_2).bind fun v_4 =>
  (((if (w64 (size_1 + (v_4.length : Int))) < 0 then
  none
  else
  some ()) : Option Unit)).bind fun _ =>
  some (.inl (w64 (size_1 + (v_4.length : Int)), w64 (x_2 + 1)))
  else
  some (.inr size_1)
def f121_1 (slices : (List (List Int))) : Nat × (List Int) × Int -> Option ((Nat × (List Int) × Int) ⊕ (Nat × (List Int)))
 | (newslice_14, newslice_15, x_16) =>
  if x_16 < (slices.length : Int) then
  (ix slices x_16).bind fun v_18 =>
  (apps 8 newslice_15 newslice_14 v_18).bind fun l_20 =>
  some (.inl (l_20.2, l_20.1, w64 (x_16 + 1)))
  else
  some (.inr (newslice_14, newslice_15))
def f121 (slices : (List (List Int))) : Option (List Int) :=
 (iter (f121_0 slices) (0, 0)).bind fun size_11 =>
 (f149 size_11).bind fun o12 =>
 (iter (f121_1 slices) (o12, [], 0)).bind fun (newslice_24, newslice_25) =>
 (nsk newslice_24).bind fun _ =>
 some newslice_25
def f86 (l : List Int) : Option (List Int) := sortN l
def f122 (l : List Int) : Option (List Int) := compactN l
def f93 (a : (List Int)) (b : (List Int)) : Option (List Int) :=
 (f121 ([a, b])).bind fun o1 =>
 (f86 o1).bind fun o3 =>
 (f122 o3).bind fun o5 =>
 some o5
def f94_0 (atom : Atom) : (List Int) × Int -> Option (((List Int) × Int) ⊕ (List Int))
 | (out_1, x_2) =>
  if x_2 < (atom.Terms.length : Int) then
  (ix atom.Terms x_2).bind fun v_4 =>
  (f90 v_4 0 3).bind fun o6 =>
  (((if o6 = true then
  (app 8 out_1 ([v_4])).bind fun l_11 =>
  some l_11
  else
  some out_1) : Option (List Int))).bind fun out_13 =>
  some (.inl (out_13, w64 (x_2 + 1)))
  else
  some (.inr out_1)
def f94 (atom : Atom) : Option (List Int) :=
 (iter (f94_0 atom) ([], 0)).bind fun out_16 =>
 (f93 out_16 ([] : (List Int))).bind fun o17 =>
 some o17
def f63_1 (query : Query) (v_22 : Atom) : Int -> Option (Int ⊕ (Unit ⊕ Bool))
 | x_39 =>
  if x_39 < (v_22.Terms.length : Int) then
  (ix v_22.Terms x_39).bind fun v_41 =>
  (f90 v_41 (-10) (w64 (query.VariableCount - 1))).bind fun o43 =>
  if ¬ (o43 = true) then
  some (.inr (.inr false))
  else
  some (.inl (w64 (x_39 + 1)))
  else
  some (.inr (.inl ()))
def f63_0 (relations : (List Relation)) (query : Query) : (List Int) × Int -> Option (((List Int) × Int) ⊕ ((List Int) ⊕ Bool))
 | (occurring_19, x_20) =>
  if x_20 < (query.Atoms.length : Int) then
  (ix query.Atoms x_20).bind fun v_22 =>
  (f90 v_22.Relation 0 (w64 ((relations.length : Int) - 1))).bind fun o24 =>
  (((if ¬ (o24 = true) then
  some true
  else
  (ix relations v_22.Relation).bind fun v_29 =>
  (((if (v_22.Terms.length : Int) ≠ v_29.Arity then
  some true
  else
  (cutL query.Atoms 0 x_20).bind fun l_34 =>
  (f91 l_34 (fun x0 => f92 x0 v_22)).bind fun o36 =>
  some o36) : Option (Bool))).bind fun x_31 =>
  some x_31) : Option (Bool))).bind fun x_26 =>
  if x_26 = true then
  some (.inr (.inr false))
  else
  (iter ((f63_1 query v_22)) 0).bind fun o => match o with
  | .inl _ =>
  (f94 v_22).bind fun o49 =>
  (f93 occurring_19 o49).bind fun o51 =>
  some (.inl (o51, w64 (x_20 + 1)))
  | .inr x_48 =>
  some (.inr (.inr x_48))
  else
  some (.inr (.inl occurring_19))
def f63 (relations : (List Relation)) (query : Query) : Option Bool :=
 (f87 relations).bind fun o1 =>
 (((if ¬ (o1 = true) then
 some true
 else
 (f90 query.VariableCount 0 4).bind fun o6 =>
 (((if ¬ (o6 = true) then
 some true
 else
 (f90 (query.Atoms.length : Int) 1 3).bind fun o11 =>
 (((if ¬ (o11 = true) then
 some true
 else
 (f66 query.Free query.VariableCount).bind fun o16 =>
 some (decide (¬ (o16 = true)))) : Option (Bool))).bind fun x_13 =>
 some x_13) : Option (Bool))).bind fun x_8 =>
 some x_8) : Option (Bool))).bind fun x_3 =>
 if x_3 = true then
 some false
 else
 (iter (f63_0 relations query) ([], 0)).bind fun o => match o with
 | .inl occurring_55 =>
 some (decide ((occurring_55.length : Int) = query.VariableCount))
 | .inr x_56 =>
 some x_56
def f34 (db : Database) (query : Query) : Option Bool :=
 (f62 db).bind fun o1 =>
 (((if o1 = true then
 (f63 db.Relations query).bind fun o6 =>
 some o6
 else
 some false) : Option (Bool))).bind fun x_3 =>
 some x_3
def f110_0 (s1 : (List Int)) (s2 : (List Int)) : Int -> Option (Int ⊕ (Unit ⊕ Bool))
 | x_2 =>
  if x_2 < (s1.length : Int) then
  (ix s1 x_2).bind fun v_4 =>
  (ix s2 x_2).bind fun v_6 =>
  if v_4 ≠ v_6 then
  some (.inr (.inr false))
  else
  some (.inl (w64 (x_2 + 1)))
  else
  some (.inr (.inl ()))
def f110 (s1 : (List Int)) (s2 : (List Int)) : Option Bool :=
 if (s1.length : Int) ≠ (s2.length : Int) then
 some false
 else
 (iter (f110_0 s1 s2) 0).bind fun o => match o with
 | .inl _ =>
 some true
 | .inr x_11 =>
 some x_11
def f84 (relations : (List Relation)) (a : Fact) (b : Fact) : Option Bool :=
 if a.Relation ≠ b.Relation then
 some false
 else
 (ix relations a.Relation).bind fun v_2 =>
 (cutL a.Values 0 v_2.KeyLength).bind fun l_4 =>
 (cutL b.Values 0 v_2.KeyLength).bind fun l_6 =>
 (f110 l_4 l_6).bind fun o8 =>
 some o8
def f59_0 (db : Database) : (List (List Int)) × Int -> Option (((List (List Int)) × Int) ⊕ (List (List Int)))
 | (out_1, x_2) =>
  if x_2 < (db.Facts.length : Int) then
  (ix db.Facts x_2).bind fun v_4 =>
  (((if (w64 ((out_1.length : Int) - 1)) >= 0 then
  (ix out_1 (w64 ((out_1.length : Int) - 1))).bind fun v_9 =>
  (ix v_9 0).bind fun v_11 =>
  (ix db.Facts v_11).bind fun v_13 =>
  (f84 db.Relations v_13 v_4).bind fun o15 =>
  some o15
  else
  some false) : Option (Bool))).bind fun x_6 =>
  (((if x_6 = true then
  (ix out_1 (w64 ((out_1.length : Int) - 1))).bind fun v_20 =>
  (app 8 v_20 ([x_2])).bind fun l_22 =>
  some (out_1.set (w64 ((out_1.length : Int) - 1)).toNat l_22)
  else
  (app 24 out_1 ([[x_2]])).bind fun l_25 =>
  some l_25) : Option (List (List Int)))).bind fun out_27 =>
  some (.inl (out_27, w64 (x_2 + 1)))
  else
  some (.inr out_1)
def f59 (db : Database) : Option (List (List Int)) :=
 (iter (f59_0 db) ([], 0)).bind fun out_30 =>
 some out_30
def f60_0 (facts : (List Int)) (sign : Int) : (List Int) × Int -> Option (((List Int) × Int) ⊕ (List Int))
 | (out_1, x_2) =>
  if x_2 < (facts.length : Int) then
  (ix facts x_2).bind fun v_4 =>
  (app 8 out_1 ([w64 (sign * (w64 (v_4 + 1)))])).bind fun l_6 =>
  some (.inl (l_6, w64 (x_2 + 1)))
  else
  some (.inr out_1)
def f60 (facts : (List Int)) (sign : Int) : Option (List Int) :=
 (iter (f60_0 facts sign) ([], 0)).bind fun out_10 =>
 some out_10
def f159 (x : Int) (y : Int) : Option (Int × Int) :=
 some (IntKind.u64.wrap ((IntKind.u64.wrap ((IntKind.u64.wrap ((sshr .u64 x 32) * (sshr .u64 y 32))) + (sshr .u64 (IntKind.u64.wrap ((IntKind.u64.wrap ((sshr .u64 x 32) * (band .u64 y 4294967295))) + (sshr .u64 (IntKind.u64.wrap ((band .u64 x 4294967295) * (band .u64 y 4294967295))) 32))) 32))) + (sshr .u64 (IntKind.u64.wrap ((band .u64 (IntKind.u64.wrap ((IntKind.u64.wrap ((sshr .u64 x 32) * (band .u64 y 4294967295))) + (sshr .u64 (IntKind.u64.wrap ((band .u64 x 4294967295) * (band .u64 y 4294967295))) 32))) 4294967295) + (IntKind.u64.wrap ((band .u64 x 4294967295) * (sshr .u64 y 32))))) 32)), IntKind.u64.wrap (x * y))
def f151 (x : Int) (y : Int) : Option (Int × Int) :=
 (f159 x y).bind fun o1 =>
 some (o1.1, o1.2)
def f135_0 : (List Int) × Int -> Option (((List Int) × Int) ⊕ (List Int))
 | (newslice_14, n_15) =>
  if n_15 < (newslice_14.length : Int) then
  (cutL newslice_14 0 n_15).bind fun z_17 =>
  some (.inl ((csL newslice_14 n_15.toNat), w64 (n_15 + (min n_15 ((newslice_14.length : Int) - n_15)))))
  else
  some (.inr newslice_14)
def f135 (x : (List Int)) (count : Int) : Option (List Int) :=
 (((if count < 0 then
 none
 else
 some ()) : Option Unit)).bind fun _ =>
 (f151 (IntKind.u64.wrap (x.length : Int)) (IntKind.u64.wrap count)).bind fun o4 =>
 (((if o4.1 > 0 then
 some true
 else
 some (decide (o4.2 > 9223372036854775807))) : Option (Bool))).bind fun x_6 =>
 (((if x_6 = true then
 none
 else
 some ()) : Option Unit)).bind fun _ =>
 (mkl 8 (w64 o4.2) 0).bind fun l_12 =>
 (iter f135_0 ((cpL l_12 x), ((min x.length l_12.length : Nat) : Int))).bind fun newslice_21 =>
 some newslice_21
def f113 (n0 : Int) : Option (List Int) :=
 (f135 ([-1]) n0).bind fun o1 =>
 some o1
def f99 (s0 : (List Int)) : Option (List Int) :=
 (app 8 ([]) s0).bind fun l_1 =>
 some l_1
def f133 (t : Int) : Option Bool :=
 some (decide (t >= 0))
def f134 (v : Int) : Option Int :=
 some (w64 ((-1) - v))
def f112_0 (terms : (List Int)) (from2 : (List Int)) : (List Int) × Int -> Option (((List Int) × Int) ⊕ ((List Int) ⊕ ((List Int) × Bool)))
 | (out_3, x_4) =>
  if x_4 < (terms.length : Int) then
  (ix terms x_4).bind fun v_6 =>
  (f133 v_6).bind fun o8 =>
  (((if ¬ (o8 = true) then
  (ix from2 x_4).bind fun v_13 =>
  (f134 v_6).bind fun o15 =>
  if o15 ≠ v_13 then
  some (.inr ([], false))
  else
  some (.inl out_3)
  else
  (ix out_3 v_6).bind fun v_18 =>
  (((if v_18 < 0 then
  (ix from2 x_4).bind fun v_23 =>
  some (.inl (out_3.set v_6.toNat v_23))
  else
  (ix from2 x_4).bind fun v_26 =>
  if v_18 ≠ v_26 then
  some (.inr ([], false))
  else
  some (.inl out_3)) : Option ((List Int) ⊕ ((List Int) × Bool)))).bind fun o => match o with
  | .inl out_29 =>
  some (.inl out_29)
  | .inr (x_30, x_31) =>
  some (.inr (x_30, x_31))) : Option ((List Int) ⊕ ((List Int) × Bool)))).bind fun o => match o with
  | .inl out_32 =>
  some (.inl (out_32, w64 (x_4 + 1)))
  | .inr (x_33, x_34) =>
  some (.inr (.inr (x_33, x_34)))
  else
  some (.inr (.inl out_3))
def f112 (values : (List Int)) (terms : (List Int)) (from2 : (List Int)) : Option ((List Int) × Bool) :=
 (f99 values).bind fun o1 =>
 (iter (f112_0 terms from2) (o1, 0)).bind fun o => match o with
 | .inl out_37 =>
 some (out_37, true)
 | .inr (x_38, x_39) =>
 some (x_38, x_39)
def f111_0 (values : (List Int)) (facts : (List Int)) (c : Query) (c4 : Database) (rec : (List Int) -> (List Int) -> Query -> (List Embedding) -> Database -> Option (List Embedding)) (v_8 : Atom) : (List Embedding) × Int -> Option (((List Embedding) × Int) ⊕ (List Embedding))
 | (x_10, x_11) =>
  if x_11 < (c4.Facts.length : Int) then
  ((((ix c4.Facts x_11).bind fun v_15 =>
  if v_15.Relation ≠ v_8.Relation then
  some x_10
  else
  (f112 values v_8.Terms v_15.Values).bind fun o18 =>
  (((if o18.2 = true then
  (f99 facts).bind fun o23 =>
  (app 8 o23 ([x_11])).bind fun l_25 =>
  ((rec o18.1 l_25 c x_10 c4)).bind fun o27 =>
  some o27
  else
  some x_10) : Option (List Embedding))).bind fun x_29 =>
  some x_29) : Option (List Embedding))).bind fun x_30 =>
  some (.inl (x_30, w64 (x_11 + 1)))
  else
  some (.inr x_10)
def f111 : Nat -> (List Int) -> (List Int) -> Query -> (List Embedding) -> Database -> Option (List Embedding)
 | 0 => fun _ _ _ _ _ => none
 | n + 1 => fun values facts c c3 c4 =>
  if (facts.length : Int) = (c.Atoms.length : Int) then
  (f99 values).bind fun o2 =>
  (f99 facts).bind fun o4 =>
  (app 48 c3 ([({ Values := o2, Facts := o4 } : Embedding)])).bind fun l_6 =>
  some l_6
  else
  (ix c.Atoms (facts.length : Int)).bind fun v_8 =>
  (iter ((f111_0 values facts c c4 (f111 n) v_8)) (c3, 0)).bind fun x_33 =>
  some x_33
def f85 (db : Database) (query : Query) : Option (List Embedding) :=
 (f34 db query).bind fun o1 =>
 if ¬ (o1 = true) then
 some ([])
 else
 (f113 query.VariableCount).bind fun o4 =>
 ((f111 64 o4 ([] : (List Int)) query ([]) db)).bind fun o6 =>
 some o6
def f61_0 (o11 : (List Embedding)) : (List (List Int)) × Nat × Int -> Option (((List (List Int)) × Nat × Int) ⊕ (List (List Int)))
 | (out, k, x) =>
  if x < (o11.length : Int) then
  (ml o11 k x).bind fun v =>
  (f86 v.Facts).bind fun s =>
  (app 24 out ([s])).bind fun l =>
  some (.inl (l, k + 1, w64 (x + 1)))
  else
  some (.inr out)
def f61 (db : Database) (query : Query) : Option (List (List Int)) :=
 (f85 db query).bind fun o11 =>
 (iter (f61_0 o11) ([], 0, 0)).bind fun out =>
 some out
def f33_0 (o4 : (List (List Int))) : (List (List Int)) × Int -> Option (((List (List Int)) × Int) ⊕ (List (List Int)))
 | (out_6, x_7) =>
  if x_7 < (o4.length : Int) then
  (ix o4 x_7).bind fun v_9 =>
  (f60 v_9 1).bind fun o11 =>
  (app 24 out_6 ([o11])).bind fun l_13 =>
  some (.inl (l_13, w64 (x_7 + 1)))
  else
  some (.inr out_6)
def f33_1 (o18 : (List (List Int))) : (List (List Int)) × Int -> Option (((List (List Int)) × Int) ⊕ (List (List Int)))
 | (out_20, x_21) =>
  if x_21 < (o18.length : Int) then
  (ix o18 x_21).bind fun v_23 =>
  (f60 v_23 (-1)).bind fun o25 =>
  (app 24 out_20 ([o25])).bind fun l_27 =>
  some (.inl (l_27, w64 (x_21 + 1)))
  else
  some (.inr out_20)
def f33 (db : Database) (query : Query) : Option (List (List Int)) :=
 (f34 db query).bind fun o1 =>
 if ¬ (o1 = true) then
 some ([])
 else
 (f59 db).bind fun o4 =>
 (iter ((f33_0 o4)) ([], 0)).bind fun out_17 =>
 (f61 db query).bind fun o18 =>
 (iter (f33_1 o18) (out_17, 0)).bind fun out_31 =>
 some out_31
def f150_0 (s0 : (List (List Int))) (f : (List Int) -> Option Bool) : Int -> Option (Int ⊕ (Unit ⊕ Int))
 | x_1 =>
  if x_1 < (s0.length : Int) then
  (ix s0 x_1).bind fun v_3 =>
  (f v_3).bind fun o5 =>
  if o5 = true then
  some (.inr (.inr x_1))
  else
  some (.inl (w64 (x_1 + 1)))
  else
  some (.inr (.inl ()))
def f150 (s0 : (List (List Int))) (f : (List Int) -> Option Bool) : Option Int :=
 (iter (f150_0 s0 f) 0).bind fun o => match o with
 | .inl _ =>
 some (-1)
 | .inr x_10 =>
 some x_10
def f123 (s0 : (List (List Int))) (f : (List Int) -> Option Bool) : Option Bool :=
 (f150 s0 f).bind fun o1 =>
 some (decide (o1 >= 0))
def f100_0 (s0 : (List Int)) (v : Int) : Int -> Option (Int ⊕ (Unit ⊕ Int))
 | x_1 =>
  if x_1 < (s0.length : Int) then
  (ix s0 x_1).bind fun v_3 =>
  if v = v_3 then
  some (.inr (.inr x_1))
  else
  some (.inl (w64 (x_1 + 1)))
  else
  some (.inr (.inl ()))
def f100 (s0 : (List Int)) (v : Int) : Option Int :=
 (iter (f100_0 s0 v) 0).bind fun o => match o with
 | .inl _ =>
 some (-1)
 | .inr x_8 =>
 some x_8
def f69 (s0 : (List Int)) (v : Int) : Option Bool :=
 (f100 s0 v).bind fun o1 =>
 some (decide (o1 >= 0))
def f125_0 (n0 : Int) (clause : (List Int)) : Int -> Option (Int ⊕ (Unit ⊕ Bool))
 | x_1 =>
  if x_1 < (clause.length : Int) then
  (ix clause x_1).bind fun v_3 =>
  (((if v_3 = 0 then
  some true
  else
  (f90 v_3 (w64 (-n0)) n0).bind fun o8 =>
  (((if ¬ (o8 = true) then
  some true
  else
  (cutL clause 0 x_1).bind fun l_13 =>
  (f69 l_13 v_3).bind fun o15 =>
  (((if o15 = true then
  some true
  else
  (f69 l_13 (w64 (-v_3))).bind fun o20 =>
  some o20) : Option (Bool))).bind fun x_17 =>
  some x_17) : Option (Bool))).bind fun x_10 =>
  some x_10) : Option (Bool))).bind fun x_5 =>
  if x_5 = true then
  some (.inr (.inr false))
  else
  some (.inl (w64 (x_1 + 1)))
  else
  some (.inr (.inl ()))
def f125 (n0 : Int) (clause : (List Int)) : Option Bool :=
 (iter (f125_0 n0 clause) 0).bind fun o => match o with
 | .inl _ =>
 some true
 | .inr x_25 =>
 some x_25
def f124 (clause : (List Int)) (c : Int) : Option Bool :=
 (f125 c clause).bind fun o1 =>
 some (decide (¬ (o1 = true)))
def f95 (n0 : Int) (clauses : (List (List Int))) : Option Bool :=
 (f90 n0 0 14).bind fun o1 =>
 (((if o1 = true then
 (f123 clauses (fun x0 => f124 x0 n0)).bind fun o6 =>
 some (decide (¬ (o6 = true)))
 else
 some false) : Option (Bool))).bind fun x_3 =>
 some x_3
def f64 (n0 : Int) (clauses : (List (List Int))) : Option Bool :=
 (((if (clauses.length : Int) <= 400 then
 (f95 n0 clauses).bind fun o4 =>
 some o4
 else
 some false) : Option (Bool))).bind fun x_1 =>
 some x_1
def f130 (n : Int) : Option Nat := growN 24 n
def f97_0 (slices : (List (List (List Int)))) : Int × Int -> Option ((Int × Int) ⊕ Int)
 | (size_1, x_2) =>
  if x_2 < (slices.length : Int) then
  (ix slices x_2).bind fun v_4 =>
  (((if (w64 (size_1 + (v_4.length : Int))) < 0 then
  none
  else
  some ()) : Option Unit)).bind fun _ =>
  some (.inl (w64 (size_1 + (v_4.length : Int)), w64 (x_2 + 1)))
  else
  some (.inr size_1)
def f97_1 (slices : (List (List (List Int)))) : Nat × (List (List Int)) × Int -> Option ((Nat × (List (List Int)) × Int) ⊕ (Nat × (List (List Int))))
 | (newslice_14, newslice_15, x_16) =>
  if x_16 < (slices.length : Int) then
  (ix slices x_16).bind fun v_18 =>
  (apps 24 newslice_15 newslice_14 v_18).bind fun l_20 =>
  some (.inl (l_20.2, l_20.1, w64 (x_16 + 1)))
  else
  some (.inr (newslice_14, newslice_15))
def f97 (slices : (List (List (List Int)))) : Option (List (List Int)) :=
 (iter (f97_0 slices) (0, 0)).bind fun size_11 =>
 (f130 size_11).bind fun o12 =>
 (iter (f97_1 slices) (o12, [], 0)).bind fun (newslice_24, newslice_25) =>
 (nsk newslice_24).bind fun _ =>
 some newslice_25
def f127 (x : Int) (c : (List Int)) : Option Bool :=
 (f69 c x).bind fun o1 =>
 some o1
def f129_0 (literals : (List Int)) : (List Int) × Int -> Option (((List Int) × Int) ⊕ (List Int))
 | (out_1, x_2) =>
  if x_2 < (literals.length : Int) then
  (ix literals x_2).bind fun v_4 =>
  (app 8 out_1 ([w64 (-v_4)])).bind fun l_6 =>
  some (.inl (l_6, w64 (x_2 + 1)))
  else
  some (.inr out_1)
def f129 (literals : (List Int)) : Option (List Int) :=
 (iter (f129_0 literals) ([], 0)).bind fun out_10 =>
 some out_10
def f128_0 (a : (List Int)) (b : (List Int)) : (List Int) × Int -> Option (((List Int) × Int) ⊕ (List Int))
 | (out_1, x_2) =>
  if x_2 < (a.length : Int) then
  (ix a x_2).bind fun v_4 =>
  (f69 b v_4).bind fun o6 =>
  (((if ¬ (o6 = true) then
  (app 8 out_1 ([v_4])).bind fun l_11 =>
  some l_11
  else
  some out_1) : Option (List Int))).bind fun out_13 =>
  some (.inl (out_13, w64 (x_2 + 1)))
  else
  some (.inr out_1)
def f128 (a : (List Int)) (b : (List Int)) : Option (List Int) :=
 (iter (f128_0 a b) ([], 0)).bind fun out_16 =>
 some out_16
def f96_1 (clauses : (List (List Int))) (out_3 : (List Int)) : Int -> Option (Int ⊕ (((List Int) × Bool) ⊕ ((List Int) × Bool)))
 | x_4 =>
  if x_4 < (clauses.length : Int) then
  ((((ix clauses x_4).bind fun v_8 =>
  (f126 v_8 (fun x0 => f127 x0 out_3)).bind fun o10 =>
  if o10 = true then
  some (.inl ())
  else
  (f129 out_3).bind fun o13 =>
  (f128 v_8 o13).bind fun o15 =>
  if (o15.length : Int) = 0 then
  some (.inr (.inr (out_3, true)))
  else
  if (o15.length : Int) = 1 then
  (ix o15 0).bind fun v_19 =>
  (app 8 out_3 ([v_19])).bind fun l_21 =>
  some (.inr (.inl (l_21, true)))
  else
  some (.inl ())) : Option (Unit ⊕ (((List Int) × Bool) ⊕ ((List Int) × Bool))))).bind fun o => match o with
  | .inl _ =>
  some (.inl (w64 (x_4 + 1)))
  | .inr (.inl (out_23, found_24)) =>
  some (.inr (.inl (out_23, found_24)))
  | .inr (.inr (x_25, x_26)) =>
  some (.inr (.inr (x_25, x_26)))
  else
  some (.inr (.inl (out_3, false)))
def f96_0 (clauses : (List (List Int))) : (List Int) -> Option ((List Int) ⊕ ((List Int) × Bool))
 | out_3 =>
  (iter (f96_1 clauses out_3) 0).bind fun o => match o with
  | .inl (out_29, found_30) =>
  if ¬ (found_30 = true) then
  some (.inr (out_29, false))
  else
  some (.inl out_29)
  | .inr (x_31, x_32) =>
  some (.inr (x_31, x_32))
def f96 (clauses : (List (List Int))) (start : (List Int)) : Option ((List Int) × Bool) :=
 (app 8 ([]) start).bind fun l_1 =>
 (iter (f96_0 clauses) l_1).bind fun (x_36, x_37) =>
 some (x_36, x_37)
def f98 (s0 : Solver) (assumed : (List Int)) : Option (Unit × Solver) :=
 (f129 assumed).bind fun o1 =>
 (app 24 s0.learned ([o1])).bind fun l_3 =>
 some ((), ({ n := s0.n, clauses := s0.clauses, learned := l_3 } : Solver))
def f65_1 (assumed : (List Int)) (rec : Solver -> (List Int) -> Option (Option (List Int) × Solver)) (two : (List Int)) : Solver × Int -> Option ((Solver × Int) ⊕ (Solver ⊕ ((List Int) × Solver)))
 | (s1, x) =>
  if x < (two.length : Int) then
  (ix two x).bind fun v_9 =>
  (f99 assumed).bind fun o58 =>
  (app 8 o58 ([v_9])).bind fun l_61 =>
  (rec s1 l_61).bind fun o62 =>
  om o62.1 fun m => match m with
  | none =>
  some (.inl (o62.2, w64 (x + 1)))
  | some r =>
  some (.inr (.inr (r, o62.2)))
  else
  some (.inr (.inl s1))
def f65_0 (s0 : Solver) (assumed : (List Int)) (rec : Solver -> (List Int) -> Option (Option (List Int) × Solver)) (o23 : (List Int) × Bool) : Int -> Option (Int ⊕ (Unit ⊕ (Option (List Int) × Solver)))
 | v_7 =>
  if v_7 <= s0.n then
  (f69 o23.1 v_7).bind fun o40 =>
  (((if o40 = true then
  some true
  else
  (f69 o23.1 (w64 (-v_7))).bind fun o45 =>
  some o45) : Option (Bool))).bind fun x_46 =>
  if x_46 = true then
  some (.inl (w64 (v_7 + 1)))
  else
  (iter (f65_1 assumed rec ([v_7, w64 (-v_7)])) (s0, 0)).bind fun o => match o with
  | .inl s1 =>
  (f98 s1 assumed).bind fun o69 =>
  some (.inr (.inr (none, o69.2)))
  | .inr (r, s1) =>
  some (.inr (.inr (some r, s1)))
  else
  some (.inr (.inl ()))
def f65 : Nat -> Solver -> (List Int) -> Option (Option (List Int) × Solver)
 | 0 => fun _ _ => none
 | n + 1 => fun s0 assumed =>
  (((f97 ([s0.clauses, s0.learned])).bind fun o21 =>
  (f96 o21 assumed).bind fun o23 =>
  some o23) : Option ((List Int) × Bool)).bind fun o23 =>
  if o23.2 = true then
  (f98 s0 assumed).bind fun o29 =>
  some (none, o29.2)
  else
  (iter (f65_0 s0 assumed (f65 n) o23) 1).bind fun o => match o with
  | .inl _ =>
  some (some o23.1, s0)
  | .inr (r, s1) =>
  om r fun r => match r with
  | none =>
  some (none, s1)
  | some l =>
  some (some l, s1)
def f35_0 (res : (List Int)) : (List Bool) × Int -> Option (((List Bool) × Int) ⊕ (List Bool))
 | (model, x) =>
  if x < (res.length : Int) then
  (ix res x).bind fun v_35 =>
  (((if v_35 > 0 then
  (ix model (w64 (v_35 - 1))).bind fun _ =>
  some (model.set (w64 (v_35 - 1)).toNat true)
  else
  some model) : Option (List Bool))).bind fun m =>
  some (.inl (m, w64 (x + 1)))
  else
  some (.inr model)
def f35 (n0 : Int) (l : (List (List Int))) : Option ((List Bool) × (List (List Int)) × Bool) :=
 (f64 n0 l).bind fun o14 =>
 if ¬ (o14 = true) then
 some ([], [], false)
 else
 (f65 64 ({ n := n0, clauses := l, learned := [] } : Solver) ([])).bind fun o21 =>
 om o21.1 fun m => match m with
 | none =>
 some ([], o21.2.learned, false)
 | some res =>
 (mkl 1 n0 false).bind fun l_29 =>
 (iter (f35_0 res) (l_29, 0)).bind fun m =>
 some (m, [], true)
def f37_0 (model : (List Bool)) : (List Int) × Int -> Option (((List Int) × Int) ⊕ (List Int))
 | (out_1, x_2) =>
  if x_2 < (model.length : Int) then
  (ix model x_2).bind fun v_4 =>
  (((if v_4 = true then
  (app 8 out_1 ([x_2])).bind fun l_9 =>
  some l_9
  else
  some out_1) : Option (List Int))).bind fun out_11 =>
  some (.inl (out_11, w64 (x_2 + 1)))
  else
  some (.inr out_1)
def f37 (model : (List Bool)) : Option (List Int) :=
 (iter (f37_0 model) ([], 0)).bind fun out_14 =>
 some out_14
def f68 (fact : Int) (c : (List Int)) : Option Bool :=
 (f69 c fact).bind fun o1 =>
 some o1
def f36_0 (indices : (List Int)) (o9 : (List (List Int))) : (List Int) × Int -> Option (((List Int) × Int) ⊕ ((List Int) ⊕ ((List Int) × Bool)))
 | (out_11, x_12) =>
  if x_12 < (o9.length : Int) then
  (ix o9 x_12).bind fun v_14 =>
  (f67 v_14 (fun x0 => f68 x0 indices)).bind fun o16 =>
  if o16 < 0 then
  some (.inr (.inr ([], false)))
  else
  (ix v_14 o16).bind fun v_19 =>
  (app 8 out_11 ([v_19])).bind fun l_21 =>
  some (.inl (l_21, w64 (x_12 + 1)))
  else
  some (.inr (.inl out_11))
def f36 (db : Database) (indices : (List Int)) : Option ((List Int) × Bool) :=
 (f62 db).bind fun o1 =>
 (((if ¬ (o1 = true) then
 some true
 else
 (f66 indices (db.Facts.length : Int)).bind fun o6 =>
 some (decide (¬ (o6 = true)))) : Option (Bool))).bind fun x_3 =>
 if x_3 = true then
 some ([], false)
 else
 (f59 db).bind fun o9 =>
 (iter (f36_0 indices o9) ([], 0)).bind fun o => match o with
 | .inl out_25 =>
 some (out_25, true)
 | .inr (x_26, x_27) =>
 some (x_26, x_27)
def f9 (db : Database) (query : Query) : Option ((List Int) × (List (List Int)) × Bool) :=
 (f33 db query).bind fun o1 =>
 (f34 db query).bind fun o3 =>
 (((if ¬ (o3 = true) then
 some true
 else
 some (decide ((o1.length : Int) > 400))) : Option (Bool))).bind fun x_5 =>
 if x_5 = true then
 some ([], [], false)
 else
 (f35 (db.Facts.length : Int) o1).bind fun o9 =>
 if o9.2.2 = true then
 (f37 o9.1).bind fun o12 =>
 (f36 db o12).bind fun o14 =>
 some (o14.1, [], false)
 else
 some ([], o9.2.1, true)
def f10_0 (a : (List Int)) (b : (List Int)) : Int -> Option (Int ⊕ (Unit ⊕ Bool))
 | i_2 =>
  if i_2 < (a.length : Int) then
  (ix a i_2).bind fun v_4 =>
  (ix b i_2).bind fun v_6 =>
  if v_4 ≠ v_6 then
  some (.inr (.inr false))
  else
  some (.inl (w64 (i_2 + 1)))
  else
  some (.inr (.inl ()))
def f10 (a : (List Int)) (b : (List Int)) : Option Bool :=
 if (a.length : Int) ≠ (b.length : Int) then
 some false
 else
 (iter (f10_0 a b) 0).bind fun o => match o with
 | .inl _ =>
 some true
 | .inr x_11 =>
 some x_11
def f11_0 (a : (List (List Int))) (b : (List (List Int))) : Int -> Option (Int ⊕ (Unit ⊕ Bool))
 | i_2 =>
  if i_2 < (a.length : Int) then
  (ix a i_2).bind fun v_4 =>
  (ix b i_2).bind fun v_6 =>
  (f10 v_4 v_6).bind fun o8 =>
  if ¬ (o8 = true) then
  some (.inr (.inr false))
  else
  some (.inl (w64 (i_2 + 1)))
  else
  some (.inr (.inl ()))
def f11 (a : (List (List Int))) (b : (List (List Int))) : Option Bool :=
 if (a.length : Int) ≠ (b.length : Int) then
 some false
 else
 (iter (f11_0 a b) 0).bind fun o => match o with
 | .inl _ =>
 some true
 | .inr x_13 =>
 some x_13
def f70 (a : Relation) (b : Relation) : Option Bool :=
 if a.Name ≠ b.Name then
 some false
 else
 if a.Arity ≠ b.Arity then
 some false
 else
 if a.KeyLength ≠ b.KeyLength then
 some false
 else
 some true
def f38_0 (a : (List Relation)) (b : (List Relation)) : Int -> Option (Int ⊕ (Unit ⊕ Bool))
 | i_2 =>
  if i_2 < (a.length : Int) then
  (ix a i_2).bind fun v_4 =>
  (ix b i_2).bind fun v_6 =>
  (f70 v_4 v_6).bind fun o8 =>
  if ¬ (o8 = true) then
  some (.inr (.inr false))
  else
  some (.inl (w64 (i_2 + 1)))
  else
  some (.inr (.inl ()))
def f38 (a : (List Relation)) (b : (List Relation)) : Option Bool :=
 if (a.length : Int) ≠ (b.length : Int) then
 some false
 else
 (iter (f38_0 a b) 0).bind fun o => match o with
 | .inl _ =>
 some true
 | .inr x_13 =>
 some x_13
def f71 (a : Fact) (b : Fact) : Option Bool :=
 if a.Relation ≠ b.Relation then
 some false
 else
 (f10 a.Values b.Values).bind fun o2 =>
 if ¬ (o2 = true) then
 some false
 else
 some true
def f39_0 (a : (List Fact)) (b : (List Fact)) : Int -> Option (Int ⊕ (Unit ⊕ Bool))
 | i_2 =>
  if i_2 < (a.length : Int) then
  (ix a i_2).bind fun v_4 =>
  (ix b i_2).bind fun v_6 =>
  (f71 v_4 v_6).bind fun o8 =>
  if ¬ (o8 = true) then
  some (.inr (.inr false))
  else
  some (.inl (w64 (i_2 + 1)))
  else
  some (.inr (.inl ()))
def f39 (a : (List Fact)) (b : (List Fact)) : Option Bool :=
 if (a.length : Int) ≠ (b.length : Int) then
 some false
 else
 (iter (f39_0 a b) 0).bind fun o => match o with
 | .inl _ =>
 some true
 | .inr x_13 =>
 some x_13
def f12 (a : Database) (b : Database) : Option Bool :=
 (f38 a.Relations b.Relations).bind fun o1 =>
 if ¬ (o1 = true) then
 some false
 else
 (f39 a.Facts b.Facts).bind fun o4 =>
 if ¬ (o4 = true) then
 some false
 else
 some true
def f72 (a : Atom) (b : Atom) : Option Bool :=
 if a.Relation ≠ b.Relation then
 some false
 else
 (f10 a.Terms b.Terms).bind fun o2 =>
 if ¬ (o2 = true) then
 some false
 else
 some true
def f40_0 (a : (List Atom)) (b : (List Atom)) : Int -> Option (Int ⊕ (Unit ⊕ Bool))
 | i_2 =>
  if i_2 < (a.length : Int) then
  (ix a i_2).bind fun v_4 =>
  (ix b i_2).bind fun v_6 =>
  (f72 v_4 v_6).bind fun o8 =>
  if ¬ (o8 = true) then
  some (.inr (.inr false))
  else
  some (.inl (w64 (i_2 + 1)))
  else
  some (.inr (.inl ()))
def f40 (a : (List Atom)) (b : (List Atom)) : Option Bool :=
 if (a.length : Int) ≠ (b.length : Int) then
 some false
 else
 (iter (f40_0 a b) 0).bind fun o => match o with
 | .inl _ =>
 some true
 | .inr x_13 =>
 some x_13
def f13 (a : Query) (b : Query) : Option Bool :=
 if a.VariableCount ≠ b.VariableCount then
 some false
 else
 (f40 a.Atoms b.Atoms).bind fun o2 =>
 if ¬ (o2 = true) then
 some false
 else
 (f10 a.Free b.Free).bind fun o5 =>
 if ¬ (o5 = true) then
 some false
 else
 some true
def f73_0 : Int × (List UInt8) -> Option ((Int × (List UInt8)) ⊕ (List UInt8))
 | (k_2, out_3) =>
  if k_2 > 0 then
  (cat ([UInt8.ofNat (w8 (w64 (48 + (k_2.tmod 10)))).toNat]) out_3).bind fun s_5 =>
  some (.inl (w64 (k_2.tdiv 10), s_5))
  else
  some (.inr out_3)
def f73 (k : Int) : Option (List UInt8) :=
 if k <= 0 then
 some ([109, 48])
 else
 (iter f73_0 (k, [])).bind fun out_9 =>
 (cat ([109]) out_9).bind fun s_10 =>
 some s_10
def f41_0 : (List Relation) × Int × Int -> Option (((List Relation) × Int × Int) ⊕ ((List Relation) × Int))
 | (a_1, k_2, i_3) =>
  if i_3 < (a_1.length : Int) then
  (f73 k_2).bind fun o5 =>
  (ix a_1 i_3).bind fun v_7 =>
  (ix (a_1.set i_3.toNat ({ Name := o5, Arity := v_7.Arity, KeyLength := v_7.KeyLength } : Relation)) i_3).bind fun v_10 =>
  (ix ((a_1.set i_3.toNat ({ Name := o5, Arity := v_7.Arity, KeyLength := v_7.KeyLength } : Relation)).set i_3.toNat ({ Name := v_10.Name, Arity := w64 (k_2 + 1), KeyLength := v_10.KeyLength } : Relation)) i_3).bind fun v_13 =>
  some (.inl ((((a_1.set i_3.toNat ({ Name := o5, Arity := v_7.Arity, KeyLength := v_7.KeyLength } : Relation)).set i_3.toNat ({ Name := v_10.Name, Arity := w64 (k_2 + 1), KeyLength := v_10.KeyLength } : Relation)).set i_3.toNat ({ Name := v_13.Name, Arity := v_13.Arity, KeyLength := w64 ((w64 (k_2 + 1)) + 1) } : Relation)), w64 ((w64 ((w64 (k_2 + 1)) + 1)) + 1), w64 (i_3 + 1)))
  else
  some (.inr (a_1, k_2))
def f41 (a : (List Relation)) (k : Int) : Option (Int × (List Relation)) :=
 (iter f41_0 (a, k, 0)).bind fun (a_18, k_19) =>
 some (k_19, a_18)
def f16_0 : (List Int) × Int × Int -> Option (((List Int) × Int × Int) ⊕ ((List Int) × Int))
 | (a_1, k_2, i_3) =>
  if i_3 < (a_1.length : Int) then
  (ix a_1 i_3).bind fun v_5 =>
  some (.inl ((a_1.set i_3.toNat k_2), w64 (k_2 + 1), w64 (i_3 + 1)))
  else
  some (.inr (a_1, k_2))
def f16 (a : (List Int)) (k : Int) : Option (Int × (List Int)) :=
 (iter f16_0 (a, k, 0)).bind fun (a_10, k_11) =>
 some (k_11, a_10)
def f42_0 : (List Fact) × Int × Int -> Option (((List Fact) × Int × Int) ⊕ ((List Fact) × Int))
 | (a_1, k_2, i_3) =>
  if i_3 < (a_1.length : Int) then
  (ix a_1 i_3).bind fun v_5 =>
  (ix (a_1.set i_3.toNat ({ Relation := k_2, Values := v_5.Values } : Fact)) i_3).bind fun v_8 =>
  (f16 v_8.Values (w64 (k_2 + 1))).bind fun o10 =>
  some (.inl (((a_1.set i_3.toNat ({ Relation := k_2, Values := v_5.Values } : Fact)).set i_3.toNat ({ Relation := v_8.Relation, Values := o10.2 } : Fact)), o10.1, w64 (i_3 + 1)))
  else
  some (.inr (a_1, k_2))
def f42 (a : (List Fact)) (k : Int) : Option (Int × (List Fact)) :=
 (iter f42_0 (a, k, 0)).bind fun (a_15, k_16) =>
 some (k_16, a_15)
def f14 (a : Database) (k : Int) : Option Int :=
 (f41 a.Relations k).bind fun o1 =>
 (f42 a.Facts o1.1).bind fun o3 =>
 some o3.1
def f43_0 : (List Atom) × Int × Int -> Option (((List Atom) × Int × Int) ⊕ ((List Atom) × Int))
 | (a_1, k_2, i_3) =>
  if i_3 < (a_1.length : Int) then
  (ix a_1 i_3).bind fun v_5 =>
  (ix (a_1.set i_3.toNat ({ Relation := k_2, Terms := v_5.Terms } : Atom)) i_3).bind fun v_8 =>
  (f16 v_8.Terms (w64 (k_2 + 1))).bind fun o10 =>
  some (.inl (((a_1.set i_3.toNat ({ Relation := k_2, Terms := v_5.Terms } : Atom)).set i_3.toNat ({ Relation := v_8.Relation, Terms := o10.2 } : Atom)), o10.1, w64 (i_3 + 1)))
  else
  some (.inr (a_1, k_2))
def f43 (a : (List Atom)) (k : Int) : Option (Int × (List Atom)) :=
 (iter f43_0 (a, k, 0)).bind fun (a_15, k_16) =>
 some (k_16, a_15)
def f15 (a : Query) (k : Int) : Option Int :=
 (f43 a.Atoms k).bind fun o1 =>
 (f16 a.Free o1.1).bind fun o3 =>
 some o3.1
def f17_0 : (List (List Int)) × Int × Int -> Option (((List (List Int)) × Int × Int) ⊕ ((List (List Int)) × Int))
 | (a_1, k_2, i_3) =>
  if i_3 < (a_1.length : Int) then
  (ix a_1 i_3).bind fun v_5 =>
  (f16 v_5 k_2).bind fun o7 =>
  some (.inl ((a_1.set i_3.toNat o7.2), o7.1, w64 (i_3 + 1)))
  else
  some (.inr (a_1, k_2))
def f17 (a : (List (List Int))) (k : Int) : Option (Int × (List (List Int))) :=
 (iter f17_0 (a, k, 0)).bind fun (a_12, k_13) =>
 some (k_13, a_12)
def f18_0 (a : (List Int)) : Int × Int -> Option ((Int × Int) ⊕ (Int ⊕ Int))
 | (k_1, i_2) =>
  if i_2 < (a.length : Int) then
  (ix a i_2).bind fun v_4 =>
  if v_4 ≠ k_1 then
  some (.inr (.inr (-1)))
  else
  some (.inl (w64 (k_1 + 1), w64 (i_2 + 1)))
  else
  some (.inr (.inl k_1))
def f18 (a : (List Int)) (k : Int) : Option Int :=
 (iter (f18_0 a) (k, 0)).bind fun o => match o with
 | .inl k_9 =>
 some k_9
 | .inr x_10 =>
 some x_10
def f19_0 (a : (List (List Int))) : Int × Int -> Option ((Int × Int) ⊕ (Int ⊕ Int))
 | (k_1, i_2) =>
  if i_2 < (a.length : Int) then
  (ix a i_2).bind fun v_4 =>
  (f18 v_4 k_1).bind fun o6 =>
  if o6 < 0 then
  some (.inr (.inr (-1)))
  else
  some (.inl (o6, w64 (i_2 + 1)))
  else
  some (.inr (.inl k_1))
def f19 (a : (List (List Int))) (k : Int) : Option Int :=
 (iter (f19_0 a) (k, 0)).bind fun o => match o with
 | .inl k_11 =>
 some k_11
 | .inr x_12 =>
 some x_12
def f3 (aDb : Database) (aQuery : Query) : Option Bool :=
 (f4 aDb 1048576).bind fun o1 =>
 if o1 < 0 then
 some true
 else
 (f5 aQuery o1).bind fun o4 =>
 if o4 < 0 then
 some true
 else
 (f7 aDb).bind fun o7 =>
 (f8 aQuery).bind fun o9 =>
 (f6 o7 o9).bind fun o11 =>
 (f7 aDb).bind fun o13 =>
 (f8 aQuery).bind fun o15 =>
 (f9 o13 o15).bind fun o17 =>
 (f10 o17.1 o11.1).bind fun o19 =>
 (((if ¬ (o19 = true) then
 some true
 else
 (f11 o17.2.1 o11.2.1).bind fun o24 =>
 (((if ¬ (o24 = true) then
 some true
 else
 some (o17.2.2 != o11.2.2)) : Option (Bool))).bind fun x_26 =>
 some x_26) : Option (Bool))).bind fun x_21 =>
 if x_21 = true then
 some false
 else
 (f7 aDb).bind fun o30 =>
 (f12 o13 o30).bind fun o32 =>
 if ¬ (o32 = true) then
 some false
 else
 (f8 aQuery).bind fun o35 =>
 (f13 o15 o35).bind fun o37 =>
 if ¬ (o37 = true) then
 some false
 else
 (f14 o13 1).bind fun o40 =>
 (f15 o15 o40).bind fun o42 =>
 (((if o42 < 0 then
 some true
 else
 (f10 o17.1 o11.1).bind fun o47 =>
 (((if ¬ (o47 = true) then
 some true
 else
 (f11 o17.2.1 o11.2.1).bind fun o52 =>
 (((if ¬ (o52 = true) then
 some true
 else
 some (o17.2.2 != o11.2.2)) : Option (Bool))).bind fun x_54 =>
 some x_54) : Option (Bool))).bind fun x_49 =>
 some x_49) : Option (Bool))).bind fun x_44 =>
 if x_44 = true then
 some false
 else
 (f16 o17.1 1).bind fun o58 =>
 (f17 o17.2.1 o58.1).bind fun o60 =>
 (f18 o58.2 1).bind fun o62 =>
 if o62 < 0 then
 some false
 else
 (f19 o60.2 o62).bind fun o65 =>
 if o65 < 0 then
 some false
 else
 if o65 ≠ o60.1 then
 some false
 else
 (f7 aDb).bind fun o69 =>
 (f8 aQuery).bind fun o71 =>
 (f9 o69 o71).bind fun o73 =>
 (f10 o73.1 o11.1).bind fun o75 =>
 (((if ¬ (o75 = true) then
 some true
 else
 (f11 o73.2.1 o11.2.1).bind fun o80 =>
 (((if ¬ (o80 = true) then
 some true
 else
 some (o73.2.2 != o11.2.2)) : Option (Bool))).bind fun x_82 =>
 some x_82) : Option (Bool))).bind fun x_77 =>
 if x_77 = true then
 some false
 else
 (f18 o58.2 1).bind fun o86 =>
 if o86 < 0 then
 some false
 else
 (f19 o60.2 o86).bind fun o89 =>
 if o89 < 0 then
 some false
 else
 if o89 ≠ o60.1 then
 some false
 else
 some true
end
end Go.Proofs.YtbpdhmbdpjafeaaGreatH
