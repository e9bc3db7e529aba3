import Derived.Test.YtcllfkplpdppiaaGreatX3
set_option linter.unusedVariables false
set_option linter.unusedSimpArgs false
set_option linter.defProp false
set_option linter.unusedSectionVars false
set_option maxRecDepth 100000
namespace Go.Proofs.YtcllfkplpdppiaaGreatH
open Go
noncomputable section
structure Relation where
 Name : (List UInt8)
 Arity : Int
 KeyLength : Int
 deriving DecidableEq, Inhabited
def eRelation : En Relation := ⟨3, fun _ a => [(.str a.Name), (.int .i64 a.Arity), (.int .i64 a.KeyLength)], fun b a => by cases b <;> rfl, by decide, fun b a => by cases b <;> simp [T.frz], fun a => by simp, fun a => by simp, fun b a => by cases b <;> simp⟩
@[simp] theorem eRelation_w : eRelation.w = 3 := rfl
@[simp] theorem eRelation_ct {a : Relation} : eRelation.c true a = [(.str a.Name), (.int .i64 a.Arity), (.int .i64 a.KeyLength)] := rfl
@[simp] theorem eRelation_cf {a : Relation} : eRelation.c false a = [(.str a.Name), (.int .i64 a.Arity), (.int .i64 a.KeyLength)] := rfl
@[simp] theorem arrRelation_len {b : Bool} {l : List Relation} : (arr eRelation b l).length = l.length * 3 := arr_len
@[simp] theorem eRelation_e (a : Relation) : Relation.mk a.Name a.Arity a.KeyLength = a := rfl
@[simp] def q0Relation {b l i o} := @arr_get2 _ eRelation b l i o 3 rfl
@[simp] def q1Relation {b l i} := @arr_get20 _ eRelation b l i 3 rfl
@[simp] def q2Relation {b l o} := @arr_get0 _ eRelation b l o 3 rfl
@[simp] def q3Relation {b l} := @arr_take0 _ eRelation b l 3 rfl
@[simp] def q4Relation {b l i o} := @arr_part _ eRelation b l i o 3 rfl
@[simp] def q5Relation {b l i o j} := @arr_part2 _ eRelation b l i o 3 j rfl
@[simp] def q6Relation {b l} := @arr_at2 _ eRelation b l 3 rfl
@[simp] def q7Relation {b l} := @arr_take2 _ eRelation b l 3 rfl
@[simp] def q8Relation {b l l' bs y} := @appT_w _ eRelation b l l' bs y 3 rfl
@[simp] def q10Relation {z0 z1 z2 n} := @rep_w _ eRelation true n ⟨z0, z1, z2⟩ [(.str z0), (.int .i64 z1), (.int .i64 z2)] rfl
@[simp] def q71Relation {b l} := @arr_tl _ eRelation b l 3 rfl
@[simp] def q70Relation {b l i} := @arr_tk _ eRelation b l i 3 rfl
@[simp] theorem q40Relation {b : Bool} {l' : List Relation} {bs : Nat} {y : Bool} (hb : bs ≠ 0) : appT 3 bs (.sl true y 3 0 []) (arr eRelation b l') = (app bs [] l').map fun v => .sl true y 3 0 (arr eRelation true v) := appT_w0 (E := eRelation) (b := b) rfl hb
@[simp] theorem q50Relation {l : List Relation} {i : Nat} {z : (List UInt8)} (h : i < l.length) : layT (arr eRelation true l) (i * 3) 1 [(.str z)] = arr eRelation true (l.set i ⟨z, (l[i]?.getD default).Arity, (l[i]?.getD default).KeyLength⟩) := by rw [List.getElem?_eq_getElem h]; exact lay_cell (E := eRelation) (b := true) (i := i) (o := 0) ⟨z, l[i].Arity, l[i].KeyLength⟩ (List.getElem?_eq_getElem h) (by decide) rfl
@[simp] theorem q60Relation {l : List Relation} {i : Nat} {z : (List UInt8)} (h : i < l.length) : (arr eRelation true l).set (i * 3) (.str z) = arr eRelation true (l.set i ⟨z, (l[i]?.getD default).Arity, (l[i]?.getD default).KeyLength⟩) := by rw [List.getElem?_eq_getElem h]; exact set_cell (E := eRelation) (b := true) (i := i) (o := 0) ⟨z, l[i].Arity, l[i].KeyLength⟩ (List.getElem?_eq_getElem h) (by decide) rfl
@[simp] theorem q51Relation {l : List Relation} {i : Nat} {z : Int} (h : i < l.length) : layT (arr eRelation true l) (i * 3 + 1) 1 [(.int .i64 z)] = arr eRelation true (l.set i ⟨(l[i]?.getD default).Name, z, (l[i]?.getD default).KeyLength⟩) := by rw [List.getElem?_eq_getElem h]; exact lay_cell (E := eRelation) (b := true) (i := i) (o := 1) ⟨l[i].Name, z, l[i].KeyLength⟩ (List.getElem?_eq_getElem h) (by decide) rfl
@[simp] theorem q61Relation {l : List Relation} {i : Nat} {z : Int} (h : i < l.length) : (arr eRelation true l).set (i * 3 + 1) (.int .i64 z) = arr eRelation true (l.set i ⟨(l[i]?.getD default).Name, z, (l[i]?.getD default).KeyLength⟩) := by rw [List.getElem?_eq_getElem h]; exact set_cell (E := eRelation) (b := true) (i := i) (o := 1) ⟨l[i].Name, z, l[i].KeyLength⟩ (List.getElem?_eq_getElem h) (by decide) rfl
@[simp] theorem q52Relation {l : List Relation} {i : Nat} {z : Int} (h : i < l.length) : layT (arr eRelation true l) (i * 3 + 2) 1 [(.int .i64 z)] = arr eRelation true (l.set i ⟨(l[i]?.getD default).Name, (l[i]?.getD default).Arity, z⟩) := by rw [List.getElem?_eq_getElem h]; exact lay_cell (E := eRelation) (b := true) (i := i) (o := 2) ⟨l[i].Name, l[i].Arity, z⟩ (List.getElem?_eq_getElem h) (by decide) rfl
@[simp] theorem q62Relation {l : List Relation} {i : Nat} {z : Int} (h : i < l.length) : (arr eRelation true l).set (i * 3 + 2) (.int .i64 z) = arr eRelation true (l.set i ⟨(l[i]?.getD default).Name, (l[i]?.getD default).Arity, z⟩) := by rw [List.getElem?_eq_getElem h]; exact set_cell (E := eRelation) (b := true) (i := i) (o := 2) ⟨l[i].Name, l[i].Arity, z⟩ (List.getElem?_eq_getElem h) (by decide) rfl
@[simp] def q20Relation {b z0 z1 z2 l bs y} := @appT_1w _ eRelation b l bs y 3 rfl ⟨z0, z1, z2⟩ [(.str z0), (.int .i64 z1), (.int .i64 z2)] rfl
@[simp] def q23Relation {b z0 z1 z2 l' bs y} := @appT_11 _ eRelation b l' bs y 3 rfl ⟨z0, z1, z2⟩ [(.str z0), (.int .i64 z1), (.int .i64 z2)] rfl
@[simp] def q22Relation {b z0 z1 z2 bs y} := @appT_10 _ eRelation b bs y 3 rfl ⟨z0, z1, z2⟩ [(.str z0), (.int .i64 z1), (.int .i64 z2)] rfl
@[simp] def q21Relation {b z0 z1 z2 l i} := @lay_w _ eRelation b l i 3 rfl ⟨z0, z1, z2⟩ [(.str z0), (.int .i64 z1), (.int .i64 z2)] rfl
structure Fact where
 Relation : Int
 Values : (List Int)
 deriving DecidableEq, Inhabited
def eFact : En Fact := ⟨2, fun b a => if b then [(.int .i64 a.Relation), (osl eI true a.Values)] else [(.int .i64 a.Relation), (ssl eI a.Values)], fun b a => by cases b <;> rfl, by decide, fun b a => by cases b <;> simp [T.frz], fun a => by simp, fun a => by simp, fun b a => by cases b <;> simp⟩
@[simp] theorem eFact_w : eFact.w = 2 := rfl
@[simp] theorem eFact_ct {a : Fact} : eFact.c true a = [(.int .i64 a.Relation), (osl eI true a.Values)] := rfl
@[simp] theorem eFact_cf {a : Fact} : eFact.c false a = [(.int .i64 a.Relation), (ssl eI a.Values)] := rfl
@[simp] theorem arrFact_len {b : Bool} {l : List Fact} : (arr eFact b l).length = l.length * 2 := arr_len
@[simp] theorem eFact_e (a : Fact) : Fact.mk a.Relation a.Values = a := rfl
@[simp] def q0Fact {b l i o} := @arr_get2 _ eFact b l i o 2 rfl
@[simp] def q1Fact {b l i} := @arr_get20 _ eFact b l i 2 rfl
@[simp] def q2Fact {b l o} := @arr_get0 _ eFact b l o 2 rfl
@[simp] def q3Fact {b l} := @arr_take0 _ eFact b l 2 rfl
@[simp] def q4Fact {b l i o} := @arr_part _ eFact b l i o 2 rfl
@[simp] def q5Fact {b l i o j} := @arr_part2 _ eFact b l i o 2 j rfl
@[simp] def q6Fact {b l} := @arr_at2 _ eFact b l 2 rfl
@[simp] def q7Fact {b l} := @arr_take2 _ eFact b l 2 rfl
@[simp] def q8Fact {b l l' bs y} := @appT_w _ eFact b l l' bs y 2 rfl
@[simp] def q10Fact {z0 z1 n} := @rep_w _ eFact true n ⟨z0, z1⟩ [(.int .i64 z0), (.sl true true 1 0 (arr eI true z1))] rfl
@[simp] def q71Fact {b l} := @arr_tl _ eFact b l 2 rfl
@[simp] def q70Fact {b l i} := @arr_tk _ eFact b l i 2 rfl
@[simp] def q40Fact {b l' bs y} := @appT_w0 _ eFact b l' bs y 2 rfl
@[simp] theorem q50Fact {l : List Fact} {i : Nat} {z : Int} (h : i < l.length) : layT (arr eFact true l) (i * 2) 1 [(.int .i64 z)] = arr eFact true (l.set i ⟨z, (l[i]?.getD default).Values⟩) := by rw [List.getElem?_eq_getElem h]; exact lay_cell (E := eFact) (b := true) (i := i) (o := 0) ⟨z, l[i].Values⟩ (List.getElem?_eq_getElem h) (by decide) rfl
@[simp] theorem q60Fact {l : List Fact} {i : Nat} {z : Int} (h : i < l.length) : (arr eFact true l).set (i * 2) (.int .i64 z) = arr eFact true (l.set i ⟨z, (l[i]?.getD default).Values⟩) := by rw [List.getElem?_eq_getElem h]; exact set_cell (E := eFact) (b := true) (i := i) (o := 0) ⟨z, l[i].Values⟩ (List.getElem?_eq_getElem h) (by decide) rfl
@[simp] theorem q51Fact {l : List Fact} {i : Nat} {z : (List Int)} (h : i < l.length) : layT (arr eFact true l) (i * 2 + 1) 1 [(.sl true true 1 0 (arr eI true z))] = arr eFact true (l.set i ⟨(l[i]?.getD default).Relation, z⟩) := by rw [List.getElem?_eq_getElem h]; exact lay_cell (E := eFact) (b := true) (i := i) (o := 1) ⟨l[i].Relation, z⟩ (List.getElem?_eq_getElem h) (by decide) rfl
@[simp] theorem q61Fact {l : List Fact} {i : Nat} {z : (List Int)} (h : i < l.length) : (arr eFact true l).set (i * 2 + 1) (.sl true true 1 0 (arr eI true z)) = arr eFact true (l.set i ⟨(l[i]?.getD default).Relation, z⟩) := by rw [List.getElem?_eq_getElem h]; exact set_cell (E := eFact) (b := true) (i := i) (o := 1) ⟨l[i].Relation, z⟩ (List.getElem?_eq_getElem h) (by decide) rfl
@[simp] def q20Fact {z0 z1 l bs y} := @appT_1w _ eFact true l bs y 2 rfl ⟨z0, z1⟩ [(.int .i64 z0), (.sl true true 1 0 (arr eI true z1))] rfl
@[simp] def q23Fact {z0 z1 l' bs y} := @appT_11 _ eFact true l' bs y 2 rfl ⟨z0, z1⟩ [(.int .i64 z0), (.sl true true 1 0 (arr eI true z1))] rfl
@[simp] def q22Fact {z0 z1 bs y} := @appT_10 _ eFact true bs y 2 rfl ⟨z0, z1⟩ [(.int .i64 z0), (.sl true true 1 0 (arr eI true z1))] rfl
@[simp] def q21Fact {z0 z1 l i} := @lay_w _ eFact true l i 2 rfl ⟨z0, z1⟩ [(.int .i64 z0), (.sl true true 1 0 (arr eI true z1))] rfl
@[simp] def q30Fact {z0 z1 l bs y} := @appT_1w _ eFact false l bs y 2 rfl ⟨z0, z1⟩ [(.int .i64 z0), (.sl false false 1 1 (arr eI false z1))] rfl
@[simp] def q33Fact {z0 z1 l' bs y} := @appT_11 _ eFact false l' bs y 2 rfl ⟨z0, z1⟩ [(.int .i64 z0), (.sl false false 1 1 (arr eI false z1))] rfl
@[simp] def q32Fact {z0 z1 bs y} := @appT_10 _ eFact false bs y 2 rfl ⟨z0, z1⟩ [(.int .i64 z0), (.sl false false 1 1 (arr eI false z1))] rfl
@[simp] def q31Fact {z0 z1 l i} := @lay_w _ eFact false l i 2 rfl ⟨z0, z1⟩ [(.int .i64 z0), (.sl false false 1 1 (arr eI false z1))] rfl
structure Database where
 Relations : (List Relation)
 Facts : (List Fact)
 deriving DecidableEq, Inhabited
def eDatabase : En Database := ⟨2, fun b a => if b then [(osl eRelation true a.Relations), (osl eFact true a.Facts)] else [(ssl eRelation a.Relations), (ssl eFact a.Facts)], fun b a => by cases b <;> rfl, by decide, fun b a => by cases b <;> simp [T.frz], fun a => by simp, fun a => by simp, fun b a => by cases b <;> simp⟩
@[simp] theorem eDatabase_w : eDatabase.w = 2 := rfl
@[simp] theorem eDatabase_ct {a : Database} : eDatabase.c true a = [(osl eRelation true a.Relations), (osl eFact true a.Facts)] := rfl
@[simp] theorem eDatabase_cf {a : Database} : eDatabase.c false a = [(ssl eRelation a.Relations), (ssl eFact a.Facts)] := rfl
@[simp] theorem eDatabase_e (a : Database) : Database.mk a.Relations a.Facts = a := rfl
structure Atom where
 Relation : Int
 Terms : (List Int)
 deriving DecidableEq, Inhabited
def eAtom : En Atom := ⟨2, fun b a => if b then [(.int .i64 a.Relation), (osl eI true a.Terms)] else [(.int .i64 a.Relation), (ssl eI a.Terms)], fun b a => by cases b <;> rfl, by decide, fun b a => by cases b <;> simp [T.frz], fun a => by simp, fun a => by simp, fun b a => by cases b <;> simp⟩
@[simp] theorem eAtom_w : eAtom.w = 2 := rfl
@[simp] theorem eAtom_ct {a : Atom} : eAtom.c true a = [(.int .i64 a.Relation), (osl eI true a.Terms)] := rfl
@[simp] theorem eAtom_cf {a : Atom} : eAtom.c false a = [(.int .i64 a.Relation), (ssl eI a.Terms)] := rfl
@[simp] theorem arrAtom_len {b : Bool} {l : List Atom} : (arr eAtom b l).length = l.length * 2 := arr_len
@[simp] theorem eAtom_e (a : Atom) : Atom.mk a.Relation a.Terms = a := rfl
@[simp] def q0Atom {b l i o} := @arr_get2 _ eAtom b l i o 2 rfl
@[simp] def q1Atom {b l i} := @arr_get20 _ eAtom b l i 2 rfl
@[simp] def q2Atom {b l o} := @arr_get0 _ eAtom b l o 2 rfl
@[simp] def q3Atom {b l} := @arr_take0 _ eAtom b l 2 rfl
@[simp] def q4Atom {b l i o} := @arr_part _ eAtom b l i o 2 rfl
@[simp] def q5Atom {b l i o j} := @arr_part2 _ eAtom b l i o 2 j rfl
@[simp] def q6Atom {b l} := @arr_at2 _ eAtom b l 2 rfl
@[simp] def q7Atom {b l} := @arr_take2 _ eAtom b l 2 rfl
@[simp] def q8Atom {b l l' bs y} := @appT_w _ eAtom b l l' bs y 2 rfl
@[simp] def q10Atom {z0 z1 n} := @rep_w _ eAtom true n ⟨z0, z1⟩ [(.int .i64 z0), (.sl true true 1 0 (arr eI true z1))] rfl
@[simp] def q71Atom {b l} := @arr_tl _ eAtom b l 2 rfl
@[simp] def q70Atom {b l i} := @arr_tk _ eAtom b l i 2 rfl
@[simp] def q40Atom {b l' bs y} := @appT_w0 _ eAtom b l' bs y 2 rfl
@[simp] theorem q50Atom {l : List Atom} {i : Nat} {z : Int} (h : i < l.length) : layT (arr eAtom true l) (i * 2) 1 [(.int .i64 z)] = arr eAtom true (l.set i ⟨z, (l[i]?.getD default).Terms⟩) := by rw [List.getElem?_eq_getElem h]; exact lay_cell (E := eAtom) (b := true) (i := i) (o := 0) ⟨z, l[i].Terms⟩ (List.getElem?_eq_getElem h) (by decide) rfl
@[simp] theorem q60Atom {l : List Atom} {i : Nat} {z : Int} (h : i < l.length) : (arr eAtom true l).set (i * 2) (.int .i64 z) = arr eAtom true (l.set i ⟨z, (l[i]?.getD default).Terms⟩) := by rw [List.getElem?_eq_getElem h]; exact set_cell (E := eAtom) (b := true) (i := i) (o := 0) ⟨z, l[i].Terms⟩ (List.getElem?_eq_getElem h) (by decide) rfl
@[simp] theorem q51Atom {l : List Atom} {i : Nat} {z : (List Int)} (h : i < l.length) : layT (arr eAtom true l) (i * 2 + 1) 1 [(.sl true true 1 0 (arr eI true z))] = arr eAtom true (l.set i ⟨(l[i]?.getD default).Relation, z⟩) := by rw [List.getElem?_eq_getElem h]; exact lay_cell (E := eAtom) (b := true) (i := i) (o := 1) ⟨l[i].Relation, z⟩ (List.getElem?_eq_getElem h) (by decide) rfl
@[simp] theorem q61Atom {l : List Atom} {i : Nat} {z : (List Int)} (h : i < l.length) : (arr eAtom true l).set (i * 2 + 1) (.sl true true 1 0 (arr eI true z)) = arr eAtom true (l.set i ⟨(l[i]?.getD default).Relation, z⟩) := by rw [List.getElem?_eq_getElem h]; exact set_cell (E := eAtom) (b := true) (i := i) (o := 1) ⟨l[i].Relation, z⟩ (List.getElem?_eq_getElem h) (by decide) rfl
@[simp] def q20Atom {z0 z1 l bs y} := @appT_1w _ eAtom true l bs y 2 rfl ⟨z0, z1⟩ [(.int .i64 z0), (.sl true true 1 0 (arr eI true z1))] rfl
@[simp] def q23Atom {z0 z1 l' bs y} := @appT_11 _ eAtom true l' bs y 2 rfl ⟨z0, z1⟩ [(.int .i64 z0), (.sl true true 1 0 (arr eI true z1))] rfl
@[simp] def q22Atom {z0 z1 bs y} := @appT_10 _ eAtom true bs y 2 rfl ⟨z0, z1⟩ [(.int .i64 z0), (.sl true true 1 0 (arr eI true z1))] rfl
@[simp] def q21Atom {z0 z1 l i} := @lay_w _ eAtom true l i 2 rfl ⟨z0, z1⟩ [(.int .i64 z0), (.sl true true 1 0 (arr eI true z1))] rfl
@[simp] def q30Atom {z0 z1 l bs y} := @appT_1w _ eAtom false l bs y 2 rfl ⟨z0, z1⟩ [(.int .i64 z0), (.sl false false 1 1 (arr eI false z1))] rfl
@[simp] def q33Atom {z0 z1 l' bs y} := @appT_11 _ eAtom false l' bs y 2 rfl ⟨z0, z1⟩ [(.int .i64 z0), (.sl false false 1 1 (arr eI false z1))] rfl
@[simp] def q32Atom {z0 z1 bs y} := @appT_10 _ eAtom false bs y 2 rfl ⟨z0, z1⟩ [(.int .i64 z0), (.sl false false 1 1 (arr eI false z1))] rfl
@[simp] def q31Atom {z0 z1 l i} := @lay_w _ eAtom false l i 2 rfl ⟨z0, z1⟩ [(.int .i64 z0), (.sl false false 1 1 (arr eI false z1))] rfl
structure Query where
 VariableCount : Int
 Atoms : (List Atom)
 Free : (List Int)
 deriving DecidableEq, Inhabited
def eQuery : En Query := ⟨3, fun b a => if b then [(.int .i64 a.VariableCount), (osl eAtom true a.Atoms), (osl eI true a.Free)] else [(.int .i64 a.VariableCount), (ssl eAtom a.Atoms), (ssl eI a.Free)], fun b a => by cases b <;> rfl, by decide, fun b a => by cases b <;> simp [T.frz], fun a => by simp, fun a => by simp, fun b a => by cases b <;> simp⟩
@[simp] theorem eQuery_w : eQuery.w = 3 := rfl
@[simp] theorem eQuery_ct {a : Query} : eQuery.c true a = [(.int .i64 a.VariableCount), (osl eAtom true a.Atoms), (osl eI true a.Free)] := rfl
@[simp] theorem eQuery_cf {a : Query} : eQuery.c false a = [(.int .i64 a.VariableCount), (ssl eAtom a.Atoms), (ssl eI a.Free)] := rfl
@[simp] theorem eQuery_e (a : Query) : Query.mk a.VariableCount a.Atoms a.Free = a := rfl
structure Embedding where
 Values : (List Int)
 Facts : (List Int)
 deriving DecidableEq, Inhabited
def eEmbedding : En Embedding := ⟨2, fun b a => if b then [(osl eI true a.Values), (osl eI true a.Facts)] else [(ssl eI a.Values), (ssl eI a.Facts)], fun b a => by cases b <;> rfl, by decide, fun b a => by cases b <;> simp [T.frz], fun a => by simp, fun a => by simp, fun b a => by cases b <;> simp⟩
@[simp] theorem eEmbedding_w : eEmbedding.w = 2 := rfl
@[simp] theorem eEmbedding_ct {a : Embedding} : eEmbedding.c true a = [(osl eI true a.Values), (osl eI true a.Facts)] := rfl
@[simp] theorem eEmbedding_cf {a : Embedding} : eEmbedding.c false a = [(ssl eI a.Values), (ssl eI a.Facts)] := rfl
@[simp] theorem arrEmbedding_len {b : Bool} {l : List Embedding} : (arr eEmbedding b l).length = l.length * 2 := arr_len
@[simp] theorem eEmbedding_e (a : Embedding) : Embedding.mk a.Values a.Facts = a := rfl
@[simp] def q0Embedding {b l i o} := @arr_get2 _ eEmbedding b l i o 2 rfl
@[simp] def q1Embedding {b l i} := @arr_get20 _ eEmbedding b l i 2 rfl
@[simp] def q2Embedding {b l o} := @arr_get0 _ eEmbedding b l o 2 rfl
@[simp] def q3Embedding {b l} := @arr_take0 _ eEmbedding b l 2 rfl
@[simp] def q4Embedding {b l i o} := @arr_part _ eEmbedding b l i o 2 rfl
@[simp] def q5Embedding {b l i o j} := @arr_part2 _ eEmbedding b l i o 2 j rfl
@[simp] def q6Embedding {b l} := @arr_at2 _ eEmbedding b l 2 rfl
@[simp] def q7Embedding {b l} := @arr_take2 _ eEmbedding b l 2 rfl
@[simp] def q8Embedding {b l l' bs y} := @appT_w _ eEmbedding b l l' bs y 2 rfl
@[simp] def q10Embedding {z0 z1 n} := @rep_w _ eEmbedding true n ⟨z0, z1⟩ [(.sl true true 1 0 (arr eI true z0)), (.sl true true 1 0 (arr eI true z1))] rfl
@[simp] def q71Embedding {b l} := @arr_tl _ eEmbedding b l 2 rfl
@[simp] def q70Embedding {b l i} := @arr_tk _ eEmbedding b l i 2 rfl
@[simp] def q40Embedding {b l' bs y} := @appT_w0 _ eEmbedding b l' bs y 2 rfl
@[simp] theorem q50Embedding {l : List Embedding} {i : Nat} {z : (List Int)} (h : i < l.length) : layT (arr eEmbedding true l) (i * 2) 1 [(.sl true true 1 0 (arr eI true z))] = arr eEmbedding true (l.set i ⟨z, (l[i]?.getD default).Facts⟩) := by rw [List.getElem?_eq_getElem h]; exact lay_cell (E := eEmbedding) (b := true) (i := i) (o := 0) ⟨z, l[i].Facts⟩ (List.getElem?_eq_getElem h) (by decide) rfl
@[simp] theorem q60Embedding {l : List Embedding} {i : Nat} {z : (List Int)} (h : i < l.length) : (arr eEmbedding true l).set (i * 2) (.sl true true 1 0 (arr eI true z)) = arr eEmbedding true (l.set i ⟨z, (l[i]?.getD default).Facts⟩) := by rw [List.getElem?_eq_getElem h]; exact set_cell (E := eEmbedding) (b := true) (i := i) (o := 0) ⟨z, l[i].Facts⟩ (List.getElem?_eq_getElem h) (by decide) rfl
@[simp] theorem q51Embedding {l : List Embedding} {i : Nat} {z : (List Int)} (h : i < l.length) : layT (arr eEmbedding true l) (i * 2 + 1) 1 [(.sl true true 1 0 (arr eI true z))] = arr eEmbedding true (l.set i ⟨(l[i]?.getD default).Values, z⟩) := by rw [List.getElem?_eq_getElem h]; exact lay_cell (E := eEmbedding) (b := true) (i := i) (o := 1) ⟨l[i].Values, z⟩ (List.getElem?_eq_getElem h) (by decide) rfl
@[simp] theorem q61Embedding {l : List Embedding} {i : Nat} {z : (List Int)} (h : i < l.length) : (arr eEmbedding true l).set (i * 2 + 1) (.sl true true 1 0 (arr eI true z)) = arr eEmbedding true (l.set i ⟨(l[i]?.getD default).Values, z⟩) := by rw [List.getElem?_eq_getElem h]; exact set_cell (E := eEmbedding) (b := true) (i := i) (o := 1) ⟨l[i].Values, z⟩ (List.getElem?_eq_getElem h) (by decide) rfl
@[simp] def q20Embedding {z0 z1 l bs y} := @appT_1w _ eEmbedding true l bs y 2 rfl ⟨z0, z1⟩ [(.sl true true 1 0 (arr eI true z0)), (.sl true true 1 0 (arr eI true z1))] rfl
@[simp] def q23Embedding {z0 z1 l' bs y} := @appT_11 _ eEmbedding true l' bs y 2 rfl ⟨z0, z1⟩ [(.sl true true 1 0 (arr eI true z0)), (.sl true true 1 0 (arr eI true z1))] rfl
@[simp] def q22Embedding {z0 z1 bs y} := @appT_10 _ eEmbedding true bs y 2 rfl ⟨z0, z1⟩ [(.sl true true 1 0 (arr eI true z0)), (.sl true true 1 0 (arr eI true z1))] rfl
@[simp] def q21Embedding {z0 z1 l i} := @lay_w _ eEmbedding true l i 2 rfl ⟨z0, z1⟩ [(.sl true true 1 0 (arr eI true z0)), (.sl true true 1 0 (arr eI true z1))] rfl
@[simp] def q30Embedding {z0 z1 l bs y} := @appT_1w _ eEmbedding false l bs y 2 rfl ⟨z0, z1⟩ [(.sl false false 1 1 (arr eI false z0)), (.sl false false 1 1 (arr eI false z1))] rfl
@[simp] def q33Embedding {z0 z1 l' bs y} := @appT_11 _ eEmbedding false l' bs y 2 rfl ⟨z0, z1⟩ [(.sl false false 1 1 (arr eI false z0)), (.sl false false 1 1 (arr eI false z1))] rfl
@[simp] def q32Embedding {z0 z1 bs y} := @appT_10 _ eEmbedding false bs y 2 rfl ⟨z0, z1⟩ [(.sl false false 1 1 (arr eI false z0)), (.sl false false 1 1 (arr eI false z1))] rfl
@[simp] def q31Embedding {z0 z1 l i} := @lay_w _ eEmbedding false l i 2 rfl ⟨z0, z1⟩ [(.sl false false 1 1 (arr eI false z0)), (.sl false false 1 1 (arr eI false z1))] rfl
def f92 (a : Relation) (left : Int) : Option Int :=
 if (w64 (left - (a.Name.length : Int))) < 0 then
 some (-1)
 else
 some (w64 (left - (a.Name.length : Int)))
def f26_0 (a : (List Relation)) : Int × Int → Option ((Int × Int) ⊕ (Int ⊕ Int))
 | (left_2, i_3) =>
  if i_3 < (a.length : Int) then
  (ix a i_3).bind fun v_5 =>
  (f92 v_5 left_2).bind fun o7 =>
  if o7 < 0 then
  some (.inr (.inr (-1)))
  else
  some (.inl (o7, w64 (i_3 + 1)))
  else
  some (.inr (.inl left_2))
def f26 (a : (List Relation)) (left : Int) : Option Int :=
 if (w64 (left - (a.length : Int))) < 0 then
 some (-1)
 else
 (iter (f26_0 a) (w64 (left - (a.length : Int)), 0)).bind fun o => match o with
 | .inl left_12 =>
 some left_12
 | .inr x_13 =>
 some x_13
def f87 (a : (List Int)) (left : Int) : Option Int :=
 if (w64 (left - (a.length : Int))) < 0 then
 some (-1)
 else
 some (w64 (left - (a.length : Int)))
def f148 (a : Fact) (left : Int) : Option Int :=
 (f87 a.Values left).bind fun o1 =>
 if o1 < 0 then
 some (-1)
 else
 some o1
def f71_0 (a : (List Fact)) : Int × Int → Option ((Int × Int) ⊕ (Int ⊕ Int))
 | (left_2, i_3) =>
  if i_3 < (a.length : Int) then
  (ix a i_3).bind fun v_5 =>
  (f148 v_5 left_2).bind fun o7 =>
  if o7 < 0 then
  some (.inr (.inr (-1)))
  else
  some (.inl (o7, w64 (i_3 + 1)))
  else
  some (.inr (.inl left_2))
def f71 (a : (List Fact)) (left : Int) : Option Int :=
 if (w64 (left - (a.length : Int))) < 0 then
 some (-1)
 else
 (iter (f71_0 a) (w64 (left - (a.length : Int)), 0)).bind fun o => match o with
 | .inl left_12 =>
 some left_12
 | .inr x_13 =>
 some x_13
def f11 (a : Database) (left : Int) : Option Int :=
 (f26 a.Relations left).bind fun o1 =>
 if o1 < 0 then
 some (-1)
 else
 (f71 a.Facts o1).bind fun o4 =>
 if o4 < 0 then
 some (-1)
 else
 some o4
def f149 (a : Atom) (left : Int) : Option Int :=
 (f87 a.Terms left).bind fun o1 =>
 if o1 < 0 then
 some (-1)
 else
 some o1
def f86_0 (a : (List Atom)) : Int × Int → Option ((Int × Int) ⊕ (Int ⊕ Int))
 | (left_2, i_3) =>
  if i_3 < (a.length : Int) then
  (ix a i_3).bind fun v_5 =>
  (f149 v_5 left_2).bind fun o7 =>
  if o7 < 0 then
  some (.inr (.inr (-1)))
  else
  some (.inl (o7, w64 (i_3 + 1)))
  else
  some (.inr (.inl left_2))
def f86 (a : (List Atom)) (left : Int) : Option Int :=
 if (w64 (left - (a.length : Int))) < 0 then
 some (-1)
 else
 (iter (f86_0 a) (w64 (left - (a.length : Int)), 0)).bind fun o => match o with
 | .inl left_12 =>
 some left_12
 | .inr x_13 =>
 some x_13
def f21 (a : Query) (left : Int) : Option Int :=
 (f86 a.Atoms left).bind fun o1 =>
 if o1 < 0 then
 some (-1)
 else
 (f87 a.Free o1).bind fun o4 =>
 if o4 < 0 then
 some (-1)
 else
 some o4
def f98 (a : Relation) : Option Relation :=
 some a
def f28_0 (a : (List Relation)) : (List Relation) × Int → Option (((List Relation) × Int) ⊕ (List Relation))
 | (out_3, i_4) =>
  if i_4 < (a.length : Int) then
  (ix a i_4).bind fun v_6 =>
  (f98 v_6).bind fun o8 =>
  (ix out_3 i_4).bind fun v_10 =>
  some (.inl ((out_3.set i_4.toNat o8), w64 (i_4 + 1)))
  else
  some (.inr out_3)
def f28 (a : (List Relation)) : Option (List Relation) :=
 (mkl 32 (a.length : Int) ({ Name := [], Arity := 0, KeyLength := 0 } : Relation)).bind fun l_1 =>
 (iter (f28_0 a) (l_1, 0)).bind fun out_15 =>
 some out_15
def f16_0 (a : (List Int)) : (List Int) × Int → Option (((List Int) × Int) ⊕ (List Int))
 | (out_3, i_4) =>
  if i_4 < (a.length : Int) then
  (ix a i_4).bind fun v_6 =>
  (ix out_3 i_4).bind fun v_8 =>
  some (.inl ((out_3.set i_4.toNat v_6), w64 (i_4 + 1)))
  else
  some (.inr out_3)
def f16 (a : (List Int)) : Option (List Int) :=
 (mkl 8 (a.length : Int) 0).bind fun l_1 =>
 (iter (f16_0 a) (l_1, 0)).bind fun out_13 =>
 some out_13
def f154 (a : Fact) : Option Fact :=
 (f16 a.Values).bind fun o1 =>
 some ({ Relation := a.Relation, Values := o1 } : Fact)
def f77_0 (a : (List Fact)) : (List Fact) × Int → Option (((List Fact) × Int) ⊕ (List Fact))
 | (out_3, i_4) =>
  if i_4 < (a.length : Int) then
  (ix a i_4).bind fun v_6 =>
  (f154 v_6).bind fun o8 =>
  (ix out_3 i_4).bind fun v_10 =>
  some (.inl ((out_3.set i_4.toNat o8), w64 (i_4 + 1)))
  else
  some (.inr out_3)
def f77 (a : (List Fact)) : Option (List Fact) :=
 (mkl 32 (a.length : Int) (({ Relation := 0, Values := [] } : Fact) : Fact)).bind fun l_1 =>
 (iter (f77_0 a) (l_1, 0)).bind fun out_15 =>
 some out_15
def f14 (a : Database) : Option Database :=
 (f28 a.Relations).bind fun o1 =>
 (f77 a.Facts).bind fun o3 =>
 some ({ Relations := o1, Facts := o3 } : Database)
def f155 (a : Atom) : Option Atom :=
 (f16 a.Terms).bind fun o1 =>
 some ({ Relation := a.Relation, Terms := o1 } : Atom)
def f89_0 (a : (List Atom)) : (List Atom) × Int → Option (((List Atom) × Int) ⊕ (List Atom))
 | (out_3, i_4) =>
  if i_4 < (a.length : Int) then
  (ix a i_4).bind fun v_6 =>
  (f155 v_6).bind fun o8 =>
  (ix out_3 i_4).bind fun v_10 =>
  some (.inl ((out_3.set i_4.toNat o8), w64 (i_4 + 1)))
  else
  some (.inr out_3)
def f89 (a : (List Atom)) : Option (List Atom) :=
 (mkl 32 (a.length : Int) (({ Relation := 0, Terms := [] } : Atom) : Atom)).bind fun l_1 =>
 (iter (f89_0 a) (l_1, 0)).bind fun out_15 =>
 some out_15
def f23 (a : Query) : Option Query :=
 (f89 a.Atoms).bind fun o1 =>
 (f16 a.Free).bind fun o3 =>
 some ({ VariableCount := a.VariableCount, Atoms := o1, Free := o3 } : Query)
def f118 (x : Int) (low : Int) (high : Int) : Option Bool :=
 (((if x ≥ low then
 some (decide (x ≤ high))
 else
 some false) : Option (Bool))).bind fun x_1 =>
 some x_1
def f179 (s0 : Relation) : Option Bool :=
 (((if (s0.Name.length : Int) = 1 then
 (ix s0.Name 0).bind fun c_4 =>
 (((if (c_4.toNat : Int) ≥ 97 then
 (((if (c_4.toNat : Int) ≤ 122 then
 (f118 s0.Arity 1 3).bind fun o12 =>
 (((if o12 = true then
 (f118 s0.KeyLength 0 s0.Arity).bind fun o17 =>
 some o17
 else
 some false) : Option (Bool))).bind fun x_14 =>
 some x_14
 else
 some false) : Option (Bool))).bind fun x_9 =>
 some x_9
 else
 some false) : Option (Bool))).bind fun x_6 =>
 some x_6
 else
 some false) : Option (Bool))).bind fun x_1 =>
 some x_1
def f117_0 (l : (List Relation)) : Int → Option (Int ⊕ (Unit ⊕ Bool))
 | i_1 =>
  if i_1 < (l.length : Int) then
  (ix l i_1).bind fun v_3 =>
  (f179 v_3).bind fun o5 =>
  (((if ¬ (o5 = true) then
  some true
  else
  (((if i_1 > 0 then
  (ix l (w64 (i_1 - 1))).bind fun v_13 =>
  some (!(Op.bytesLess v_13.Name v_3.Name))
  else
  some false) : Option (Bool))).bind fun x_10 =>
  some x_10) : Option (Bool))).bind fun x_7 =>
  if x_7 = true then
  some (.inr (.inr false))
  else
  some (.inl (w64 (i_1 + 1)))
  else
  some (.inr (.inl ()))
def f117 (l : (List Relation)) : Option Bool :=
 (iter (f117_0 l) 0).bind fun o => match o with
 | .inl _ =>
 some (decide ((l.length : Int) ≤ 4))
 | .inr x_18 =>
 some x_18
def f150_0 (f : Fact) : Int → Option (Int ⊕ (Unit ⊕ Bool))
 | i_14 =>
  if i_14 < (f.Values.length : Int) then
  (ix f.Values i_14).bind fun v_16 =>
  (f118 v_16 0 9).bind fun o18 =>
  if ¬ (o18 = true) then
  some (.inr (.inr false))
  else
  some (.inl (w64 (i_14 + 1)))
  else
  some (.inr (.inl ()))
def f150 (l : (List Relation)) (f : Fact) : Option Bool :=
 (f117 l).bind fun o1 =>
 (((if ¬ (o1 = true) then
 some true
 else
 (f118 f.Relation 0 (w64 ((l.length : Int) - 1))).bind fun o6 =>
 (((if ¬ (o6 = true) then
 some true
 else
 (ix l f.Relation).bind fun v_11 =>
 some (decide ((f.Values.length : Int) ≠ v_11.Arity))) : Option (Bool))).bind fun x_8 =>
 some x_8) : Option (Bool))).bind fun x_3 =>
 if x_3 = true then
 some false
 else
 (iter (f150_0 f) 0).bind fun o => match o with
 | .inl _ =>
 some true
 | .inr x_23 =>
 some x_23
def f207_0 (a : (List Int)) (b : (List Int)) : Int → Option (Int ⊕ (Unit ⊕ Int))
 | i_1 =>
  (((if i_1 < (a.length : Int) then
  some (decide (i_1 < (b.length : Int)))
  else
  some false) : Option (Bool))).bind fun x_2 =>
  if x_2 = true then
  (ix a i_1).bind fun v_6 =>
  (ix b i_1).bind fun v_8 =>
  if v_6 < v_8 then
  some (.inr (.inr (-1)))
  else
  if v_6 > v_8 then
  some (.inr (.inr 1))
  else
  some (.inl (w64 (i_1 + 1)))
  else
  some (.inr (.inl ()))
def f207 (a : (List Int)) (b : (List Int)) : Option Int :=
 (iter (f207_0 a b) 0).bind fun o => match o with
 | .inl _ =>
 if (a.length : Int) < (b.length : Int) then
 some (-1)
 else
 if (a.length : Int) > (b.length : Int) then
 some 1
 else
 some 0
 | .inr x_14 =>
 some x_14
def f151 (a : Fact) (b : Fact) : Option Int :=
 if a.Relation < b.Relation then
 some (-1)
 else
 if a.Relation > b.Relation then
 some 1
 else
 (f207 a.Values b.Values).bind fun o3 =>
 some o3
def f73_0 (d : Database) : Int → Option (Int ⊕ (Unit ⊕ Bool))
 | i_1 =>
  if i_1 < (d.Facts.length : Int) then
  (ix d.Facts i_1).bind fun v_3 =>
  (f150 d.Relations v_3).bind fun o5 =>
  (((if ¬ (o5 = true) then
  some true
  else
  (((if i_1 > 0 then
  (ix d.Facts (w64 (i_1 - 1))).bind fun v_13 =>
  (f151 v_13 v_3).bind fun o15 =>
  some (decide (o15 ≥ 0))
  else
  some false) : Option (Bool))).bind fun x_10 =>
  some x_10) : Option (Bool))).bind fun x_7 =>
  if x_7 = true then
  some (.inr (.inr false))
  else
  some (.inl (w64 (i_1 + 1)))
  else
  some (.inr (.inl ()))
def f73 (d : Database) : Option Bool :=
 (iter (f73_0 d) 0).bind fun o => match o with
 | .inl _ =>
 (f117 d.Relations).bind fun o21 =>
 (((if o21 = true then
 some (decide ((d.Facts.length : Int) ≤ 14))
 else
 some false) : Option (Bool))).bind fun x_23 =>
 some x_23
 | .inr x_20 =>
 some x_20
def f48_3 (q : Query) (i_17 : Int) (v_19 : Atom) : Int → Option (Int ⊕ (Unit ⊕ Bool))
 | k_29 =>
  if k_29 < i_17 then
  (ix q.Atoms k_29).bind fun v_31 =>
  if v_31.Relation = v_19.Relation then
  some (.inr (.inr false))
  else
  some (.inl (w64 (k_29 + 1)))
  else
  some (.inr (.inl ()))
def f48_4 (q : Query) (v_19 : Atom) : (List Bool) × Int → Option (((List Bool) × Int) ⊕ ((List Bool) ⊕ Bool))
 | (met_37, k_38) =>
  if k_38 < (v_19.Terms.length : Int) then
  (ix v_19.Terms k_38).bind fun v_40 =>
  (f118 v_40 (-10) (w64 (q.VariableCount - 1))).bind fun o42 =>
  if ¬ (o42 = true) then
  some (.inr (.inr false))
  else
  (((if v_40 ≥ 0 then
  (ix met_37 v_40).bind fun v_48 =>
  some (met_37.set v_40.toNat true)
  else
  some met_37) : Option (List Bool))).bind fun met_51 =>
  some (.inl (met_51, w64 (k_38 + 1)))
  else
  some (.inr (.inl met_37))
def f48_0 (l : (List Relation)) (q : Query) : (List Bool) × Int → Option (((List Bool) × Int) ⊕ ((List Bool) ⊕ Bool))
 | (met_16, i_17) =>
  if i_17 < (q.Atoms.length : Int) then
  (ix q.Atoms i_17).bind fun v_19 =>
  (f118 v_19.Relation 0 (w64 ((l.length : Int) - 1))).bind fun o21 =>
  (((if ¬ (o21 = true) then
  some true
  else
  (ix l v_19.Relation).bind fun v_26 =>
  some (decide ((v_19.Terms.length : Int) ≠ v_26.Arity))) : Option (Bool))).bind fun x_23 =>
  if x_23 = true then
  some (.inr (.inr false))
  else
  (iter ((f48_3 q i_17 v_19)) 0).bind fun o => match o with
  | .inl _ =>
  ((iter ((f48_4 q v_19)) (met_16, 0)).bind fun o => match o with
  | .inl met_54 =>
  some (.inl (met_54, w64 (i_17 + 1)))
  | .inr x_55 =>
  some (.inr (.inr x_55)))
  | .inr x_36 =>
  some (.inr (.inr x_36))
  else
  some (.inr (.inl met_16))
def f48_1 (q : Query) (met_58 : (List Bool)) : Int → Option (Int ⊕ (Unit ⊕ Bool))
 | v_60 =>
  if v_60 < q.VariableCount then
  (ix met_58 v_60).bind fun v_62 =>
  if ¬ (v_62 = true) then
  some (.inr (.inr false))
  else
  some (.inl (w64 (v_60 + 1)))
  else
  some (.inr (.inl ()))
def f48_2 (q : Query) : Int → Option (Int ⊕ (Unit ⊕ Bool))
 | i_68 =>
  if i_68 < (q.Free.length : Int) then
  (ix q.Free i_68).bind fun v_70 =>
  (f118 v_70 0 (w64 (q.VariableCount - 1))).bind fun o72 =>
  (((if ¬ (o72 = true) then
  some true
  else
  (((if i_68 > 0 then
  (ix q.Free (w64 (i_68 - 1))).bind fun v_80 =>
  some (decide (v_70 ≤ v_80))
  else
  some false) : Option (Bool))).bind fun x_77 =>
  some x_77) : Option (Bool))).bind fun x_74 =>
  if x_74 = true then
  some (.inr (.inr false))
  else
  some (.inl (w64 (i_68 + 1)))
  else
  some (.inr (.inl ()))
def f48 (l : (List Relation)) (q : Query) : Option Bool :=
 (f117 l).bind fun o1 =>
 (((if ¬ (o1 = true) then
 some true
 else
 (f118 q.VariableCount 0 4).bind fun o6 =>
 (((if ¬ (o6 = true) then
 some true
 else
 (f118 (q.Atoms.length : Int) 1 3).bind fun o11 =>
 some (decide (¬ (o11 = true)))) : Option (Bool))).bind fun x_8 =>
 some x_8) : Option (Bool))).bind fun x_3 =>
 if x_3 = true then
 some false
 else
 (mkl 1 4 false).bind fun l_14 =>
 (iter (f48_0 l q) (l_14, 0)).bind fun o => match o with
 | .inl met_58 =>
 ((iter (f48_1 q met_58) 0).bind fun o => match o with
 | .inl _ =>
 ((iter (f48_2 q) 0).bind fun o => match o with
 | .inl _ =>
 some true
 | .inr x_85 =>
 some x_85)
 | .inr x_67 =>
 some x_67)
 | .inr x_59 =>
 some x_59
def f88 (d : Database) (q : Query) : Option Bool :=
 (f73 d).bind fun o1 =>
 (((if o1 = true then
 (f48 d.Relations q).bind fun o6 =>
 some o6
 else
 some false) : Option (Bool))).bind fun x_3 =>
 some x_3
def f133_0 (d : Database) (l : (List Int)) : Int → Option (Int ⊕ (Unit ⊕ Bool))
 | i_1 =>
  if i_1 < (l.length : Int) then
  (ix l i_1).bind fun v_3 =>
  (f118 v_3 0 (w64 ((d.Facts.length : Int) - 1))).bind fun o5 =>
  (((if ¬ (o5 = true) then
  some true
  else
  (((if i_1 > 0 then
  (ix l (w64 (i_1 - 1))).bind fun v_13 =>
  some (decide (v_3 ≤ v_13))
  else
  some false) : Option (Bool))).bind fun x_10 =>
  some x_10) : Option (Bool))).bind fun x_7 =>
  if x_7 = true then
  some (.inr (.inr false))
  else
  some (.inl (w64 (i_1 + 1)))
  else
  some (.inr (.inl ()))
def f133 (d : Database) (l : (List Int)) : Option Bool :=
 (iter (f133_0 d l) 0).bind fun o => match o with
 | .inl _ =>
 some true
 | .inr x_18 =>
 some x_18
def f60_0 (d : Database) (l : (List Int)) : (List Relation) × (List Fact) × Int → Option (((List Relation) × (List Fact) × Int) ⊕ ((List Relation) × (List Fact)))
 | (x_11, x_12, i_13) =>
  if i_13 < (l.length : Int) then
  (ix l i_13).bind fun v_15 =>
  (ix d.Facts v_15).bind fun v_17 =>
  (app 8 ([]) v_17.Values).bind fun l_19 =>
  (app 32 x_12 ([({ Relation := v_17.Relation, Values := l_19 } : Fact)])).bind fun l_21 =>
  some (.inl (x_11, l_21, w64 (i_13 + 1)))
  else
  some (.inr (x_11, x_12))
def f60 (d : Database) (l : (List Int)) : Option (Database × Bool) :=
 (f73 d).bind fun o1 =>
 (((if ¬ (o1 = true) then
 some true
 else
 (f133 d l).bind fun o6 =>
 some (decide (¬ (o6 = true)))) : Option (Bool))).bind fun x_3 =>
 if x_3 = true then
 some (({ Relations := [], Facts := [] } : Database), false)
 else
 (app 32 ([]) d.Relations).bind fun l_9 =>
 (iter (f60_0 d l) (l_9, [], 0)).bind fun (x_25, x_26) =>
 some (({ Relations := x_25, Facts := x_26 } : Database), true)
def f263 (l : (List Relation)) (f : Fact) : Option (List Int) :=
 (f150 l f).bind fun o1 =>
 if ¬ (o1 = true) then
 some ([])
 else
 (ix l f.Relation).bind fun v_4 =>
 (cutL f.Values 0 v_4.KeyLength).bind fun l_6 =>
 (app 8 ([]) l_6).bind fun l_8 =>
 some l_8
def f241 (l : (List Relation)) (a : Fact) (b : Fact) : Option Bool :=
 (f150 l a).bind fun o1 =>
 (((if o1 = true then
 (f150 l b).bind fun o6 =>
 (((if o6 = true then
 (((if a.Relation = b.Relation then
 (f263 l a).bind fun o14 =>
 (f263 l b).bind fun o16 =>
 (f207 o14 o16).bind fun o18 =>
 some (decide (o18 = 0))
 else
 some false) : Option (Bool))).bind fun x_11 =>
 some x_11
 else
 some false) : Option (Bool))).bind fun x_8 =>
 some x_8
 else
 some false) : Option (Bool))).bind fun x_3 =>
 some x_3
def f198_0 (d : Database) (i : Int) : (List Int) × Int → Option (((List Int) × Int) ⊕ (List Int))
 | (out_1, k_2) =>
  (((if k_2 < (d.Facts.length : Int) then
  (f73 d).bind fun o6 =>
  (((if o6 = true then
  (f118 i 0 (w64 ((d.Facts.length : Int) - 1))).bind fun o11 =>
  some o11
  else
  some false) : Option (Bool))).bind fun x_8 =>
  some x_8
  else
  some false) : Option (Bool))).bind fun x_3 =>
  if x_3 = true then
  (ix d.Facts i).bind fun v_14 =>
  (ix d.Facts k_2).bind fun v_16 =>
  (f241 d.Relations v_14 v_16).bind fun o18 =>
  (((if o18 = true then
  (app 8 out_1 ([k_2])).bind fun l_23 =>
  some l_23
  else
  some out_1) : Option (List Int))).bind fun out_25 =>
  some (.inl (out_25, w64 (k_2 + 1)))
  else
  some (.inr out_1)
def f198 (d : Database) (i : Int) : Option (List Int) :=
 (iter (f198_0 d i) ([], 0)).bind fun out_28 =>
 some out_28
def f141_0 (d : Database) : (List (List Int)) × Int → Option (((List (List Int)) × Int) ⊕ (List (List Int)))
 | (out_1, i_2) =>
  (((if i_2 < (d.Facts.length : Int) then
  (f73 d).bind fun o6 =>
  some o6
  else
  some false) : Option (Bool))).bind fun x_3 =>
  if x_3 = true then
  (f198 d i_2).bind fun o9 =>
  (ix o9 0).bind fun v_11 =>
  (((if v_11 = i_2 then
  (app 24 out_1 ([o9])).bind fun l_16 =>
  some l_16
  else
  some out_1) : Option (List (List Int)))).bind fun out_18 =>
  some (.inl (out_18, w64 (i_2 + 1)))
  else
  some (.inr out_1)
def f141 (d : Database) : Option (List (List Int)) :=
 (iter (f141_0 d) ([], 0)).bind fun out_21 =>
 some out_21
def f242 (d : Database) : Option Bool :=
 (f73 d).bind fun o1 =>
 (((if o1 = true then
 (f141 d).bind fun o6 =>
 some (decide ((o6.length : Int) = (d.Facts.length : Int)))
 else
 some false) : Option (Bool))).bind fun x_3 =>
 some x_3
def f200 (d : Database) (l : (List Int)) : Option Bool :=
 (f60 d l).bind fun o1 =>
 (((if o1.2 = true then
 (f242 o1.1).bind fun o6 =>
 some o6
 else
 some false) : Option (Bool))).bind fun x_3 =>
 some x_3
def f202_2 (d : Database) (last_12 : (List (List Int))) (i_16 : Int) : (List (List Int)) × Int → Option (((List (List Int)) × Int) ⊕ (List (List Int)))
 | (more_26, x_27) =>
  if x_27 < (d.Facts.length : Int) then
  (ix last_12 i_16).bind fun v_29 =>
  (app 8 ([]) v_29).bind fun l_31 =>
  (app 8 l_31 ([x_27])).bind fun l_33 =>
  (f200 d l_33).bind fun o35 =>
  (((if o35 = true then
  (app 24 more_26 ([l_33])).bind fun l_40 =>
  some l_40
  else
  some more_26) : Option (List (List Int)))).bind fun more_42 =>
  some (.inl (more_42, w64 (x_27 + 1)))
  else
  some (.inr more_26)
def f202_1 (d : Database) (last_12 : (List (List Int))) : (List (List Int)) × Int → Option (((List (List Int)) × Int) ⊕ (List (List Int)))
 | (more_15, i_16) =>
  if i_16 < (last_12.length : Int) then
  (ix last_12 i_16).bind fun v_18 =>
  (((if (v_18.length : Int) > 0 then
  (ix v_18 (w64 ((v_18.length : Int) - 1))).bind fun v_23 =>
  some (w64 (v_23 + 1))
  else
  some 0) : Option Int)).bind fun from_25 =>
  (iter ((f202_2 d last_12 i_16)) (more_15, from_25)).bind fun more_45 =>
  some (.inl (more_45, w64 (i_16 + 1)))
  else
  some (.inr more_15)
def f202_0 (d : Database) (k : Int) : (List (List Int)) × (List (List Int)) × Int → Option (((List (List Int)) × (List (List Int)) × Int) ⊕ (List (List Int)))
 | (out_11, last_12, n_13) =>
  if n_13 < k then
  (iter ((f202_1 d last_12)) ([], 0)).bind fun more_48 =>
  (app 24 out_11 more_48).bind fun l_49 =>
  some (.inl (l_49, more_48, w64 (n_13 + 1)))
  else
  some (.inr out_11)
def f202 (d : Database) (k : Int) : Option (List (List Int)) :=
 (f73 d).bind fun o1 =>
 (((if ¬ (o1 = true) then
 some true
 else
 (f118 k 0 3).bind fun o6 =>
 some (decide (¬ (o6 = true)))) : Option (Bool))).bind fun x_3 =>
 if x_3 = true then
 some ([])
 else
 (app 24 ([]) ([[]])).bind fun l_9 =>
 (iter (f202_0 d k) (l_9, [[]], 0)).bind fun out_53 =>
 some out_53
def f75_0 (n0 : Int) : (List Int) → Option ((List Int) ⊕ (List Int))
 | l_1 =>
  if (l_1.length : Int) < n0 then
  (app 8 l_1 ([-1])).bind fun l_3 =>
  some (.inl l_3)
  else
  some (.inr l_1)
def f75 (n0 : Int) : Option (List Int) :=
 (iter (f75_0 n0) ([])).bind fun l_7 =>
 some l_7
def f153_0 (a : Atom) (f : Fact) : (List Int) × Int → Option (((List Int) × Int) ⊕ ((List Int) ⊕ ((List Int) × Bool)))
 | (x_7, i_8) =>
  if i_8 < (a.Terms.length : Int) then
  ((((ix a.Terms i_8).bind fun v_12 =>
  if v_12 < 0 then
  (ix f.Values i_8).bind fun v_15 =>
  if (w64 ((-1) - v_12)) ≠ v_15 then
  some (.inr (x_7, false))
  else
  some (.inl x_7)
  else
  (ix x_7 v_12).bind fun v_18 =>
  (((if v_18 ≥ 0 then
  (ix f.Values i_8).bind fun v_23 =>
  some (decide (v_18 ≠ v_23))
  else
  some false) : Option (Bool))).bind fun x_20 =>
  if x_20 = true then
  some (.inr (x_7, false))
  else
  (ix f.Values i_8).bind fun v_26 =>
  some (.inl (x_7.set v_12.toNat v_26))) : Option ((List Int) ⊕ ((List Int) × Bool)))).bind fun o => match o with
  | .inl x_29 =>
  some (.inl (x_29, w64 (i_8 + 1)))
  | .inr (x_30, x_31) =>
  some (.inr (.inr (x_30, x_31)))
  else
  some (.inr (.inl x_7))
def f153 (a : Atom) (f : Fact) (vals : (List Int)) : Option ((List Int) × Bool) :=
 (app 8 ([]) vals).bind fun l_1 =>
 (((if f.Relation ≠ a.Relation then
 some true
 else
 some (decide ((f.Values.length : Int) ≠ (a.Terms.length : Int)))) : Option (Bool))).bind fun x_3 =>
 if x_3 = true then
 some (l_1, false)
 else
 (iter (f153_0 a f) (l_1, 0)).bind fun o => match o with
 | .inl x_34 =>
 some (x_34, true)
 | .inr (x_35, x_36) =>
 some (x_35, x_36)
def f191_0 (d : Database) (q : Query) (k : Int) (vals : (List Int)) (facts : (List Int)) (rec : Database → Query → Int → (List Int) → (List Int) → Option (List Embedding)) : (List Embedding) × Int → Option (((List Embedding) × Int) ⊕ (List Embedding))
 | (out_6, i_7) =>
  if i_7 < (d.Facts.length : Int) then
  (ix q.Atoms k).bind fun v_9 =>
  (ix d.Facts i_7).bind fun v_11 =>
  (f153 v_9 v_11 vals).bind fun o13 =>
  (((if o13.2 = true then
  (app 8 ([]) facts).bind fun l_18 =>
  (app 8 l_18 ([i_7])).bind fun l_20 =>
  (rec d q (w64 (k + 1)) o13.1 l_20).bind fun o22 =>
  (app 48 out_6 o22).bind fun l_24 =>
  some l_24
  else
  some out_6) : Option (List Embedding))).bind fun out_26 =>
  some (.inl (out_26, w64 (i_7 + 1)))
  else
  some (.inr out_6)
def f191 : Nat → Database → Query → Int → (List Int) → (List Int) → Option (List Embedding)
 | 0 => fun _ _ _ _ _ => none
 | n + 1 => fun d q k vals facts =>
  if k = (q.Atoms.length : Int) then
  (app 8 ([]) vals).bind fun l_2 =>
  (app 8 ([]) facts).bind fun l_4 =>
  some ([({ Values := l_2, Facts := l_4 } : Embedding)])
  else
  (iter (f191_0 d q k vals facts (f191 n)) ([], 0)).bind fun out_29 =>
  some out_29
def f132 (d : Database) (q : Query) : Option (List Embedding) :=
 (f88 d q).bind fun o1 =>
 if ¬ (o1 = true) then
 some ([])
 else
 (f75 q.VariableCount).bind fun o4 =>
 (f191 64 d q 0 o4 ([])).bind fun o6 =>
 some o6
def f199_1 (l : (List Int)) (out_1 : (List Int)) (i_2 : Int) : Int → Option (Int ⊕ Int)
 | k_4 =>
  (((if k_4 > 0 then
  (ix out_1 (w64 (k_4 - 1))).bind fun v_8 =>
  (ix l i_2).bind fun v_10 =>
  some (decide (v_8 > v_10))
  else
  some false) : Option (Bool))).bind fun x_5 =>
  if x_5 = true then
  some (.inl (w64 (k_4 - 1)))
  else
  some (.inr k_4)
def f199_0 (l : (List Int)) : (List Int) × Int → Option (((List Int) × Int) ⊕ (List Int))
 | (out_1, i_2) =>
  if i_2 < (l.length : Int) then
  (iter (f199_1 l out_1 i_2) (out_1.length : Int)).bind fun k_15 =>
  (cutL out_1 0 k_15).bind fun l_16 =>
  (ix l i_2).bind fun v_18 =>
  (cutL out_1 k_15 out_1.length).bind fun l_20 =>
  (app 8 ([]) l_16).bind fun l_22 =>
  (app 8 l_22 ([v_18])).bind fun l_24 =>
  (app 8 l_24 l_20).bind fun l_26 =>
  some (.inl (l_26, w64 (i_2 + 1)))
  else
  some (.inr out_1)
def f199 (l : (List Int)) : Option (List Int) :=
 (iter (f199_0 l) ([], 0)).bind fun out_30 =>
 some out_30
def f142_0 (d : Database) (o1 : (List Embedding)) : (List (List Int)) × Int → Option (((List (List Int)) × Int) ⊕ (List (List Int)))
 | (out_3, i_4) =>
  if i_4 < (o1.length : Int) then
  (ix o1 i_4).bind fun v_6 =>
  (f199 v_6.Facts).bind fun o8 =>
  (f200 d o8).bind fun o10 =>
  (((if o10 = true then
  (app 24 out_3 ([o8])).bind fun l_15 =>
  some l_15
  else
  some out_3) : Option (List (List Int)))).bind fun out_17 =>
  some (.inl (out_17, w64 (i_4 + 1)))
  else
  some (.inr out_3)
def f142 (d : Database) (q : Query) : Option (List (List Int)) :=
 (f132 d q).bind fun o1 =>
 (iter (f142_0 d o1) ([], 0)).bind fun out_20 =>
 some out_20
def f95_0 (l : (List Int)) (x : Int) : Int → Option (Int ⊕ (Unit ⊕ Bool))
 | i_1 =>
  if i_1 < (l.length : Int) then
  (ix l i_1).bind fun v_3 =>
  if v_3 = x then
  some (.inr (.inr true))
  else
  some (.inl (w64 (i_1 + 1)))
  else
  some (.inr (.inl ()))
def f95 (l : (List Int)) (x : Int) : Option Bool :=
 (iter (f95_0 l x) 0).bind fun o => match o with
 | .inl _ =>
 some false
 | .inr x_8 =>
 some x_8
def f201_1 (l : (List (List Int))) (s1 : (List Int)) (i_1 : Int) : Bool × Int → Option ((Bool × Int) ⊕ Bool)
 | (all_3, k_4) =>
  (ix l i_1).bind fun v_5 =>
  if k_4 < (v_5.length : Int) then
  (((if all_3 = true then
  (ix v_5 k_4).bind fun v_11 =>
  (f95 s1 v_11).bind fun o13 =>
  some o13
  else
  some false) : Option (Bool))).bind fun all_8 =>
  some (.inl (all_8, w64 (k_4 + 1)))
  else
  some (.inr all_3)
def f201_0 (l : (List (List Int))) (s1 : (List Int)) : Int → Option (Int ⊕ (Unit ⊕ Bool))
 | i_1 =>
  if i_1 < (l.length : Int) then
  (iter (f201_1 l s1 i_1) (true, 0)).bind fun all_17 =>
  if all_17 = true then
  some (.inr (.inr true))
  else
  some (.inl (w64 (i_1 + 1)))
  else
  some (.inr (.inl ()))
def f201 (l : (List (List Int))) (s1 : (List Int)) : Option Bool :=
 (iter (f201_0 l s1) 0).bind fun o => match o with
 | .inl _ =>
 some false
 | .inr x_21 =>
 some x_21
def f144 (l : (List (List Int))) (s1 : (List Int)) : Option Bool :=
 (f201 l s1).bind fun o1 =>
 some o1
def f203_1 (blocks : (List (List Int))) (s2 : (List Int)) (i_1 : Int) : Bool × Int → Option ((Bool × Int) ⊕ Bool)
 | (is_3, k_4) =>
  (ix blocks i_1).bind fun v_5 =>
  if k_4 < (v_5.length : Int) then
  (((if is_3 = true then
  (ix v_5 k_4).bind fun v_11 =>
  (f95 s2 v_11).bind fun o13 =>
  some (decide (¬ (o13 = true)))
  else
  some false) : Option (Bool))).bind fun is_8 =>
  some (.inl (is_8, w64 (k_4 + 1)))
  else
  some (.inr is_3)
def f203_2 (l : (List (List Int))) (blocks : (List (List Int))) (s2 : (List Int)) (i_1 : Int) : Bool × Int → Option ((Bool × Int) ⊕ Bool)
 | (is_18, k_19) =>
  (ix blocks i_1).bind fun v_20 =>
  (((if k_19 < (v_20.length : Int) then
  some is_18
  else
  some false) : Option (Bool))).bind fun x_22 =>
  if x_22 = true then
  (ix v_20 k_19).bind fun v_26 =>
  (app 8 ([]) s2).bind fun l_28 =>
  (app 8 l_28 ([v_26])).bind fun l_30 =>
  (f144 l l_30).bind fun o32 =>
  some (.inl (o32, w64 (k_19 + 1)))
  else
  some (.inr is_18)
def f203_0 (l : (List (List Int))) (blocks : (List (List Int))) (s2 : (List Int)) : Int → Option (Int ⊕ (Unit ⊕ Int))
 | i_1 =>
  if i_1 < (blocks.length : Int) then
  (iter ((f203_1 blocks s2 i_1)) (true, 0)).bind fun is_17 =>
  (iter (f203_2 l blocks s2 i_1) (is_17, 0)).bind fun is_36 =>
  if is_36 = true then
  some (.inr (.inr i_1))
  else
  some (.inl (w64 (i_1 + 1)))
  else
  some (.inr (.inl ()))
def f203 (l : (List (List Int))) (blocks : (List (List Int))) (s2 : (List Int)) : Option Int :=
 (iter (f203_0 l blocks s2) 0).bind fun o => match o with
 | .inl _ =>
 some (-1)
 | .inr x_40 =>
 some x_40
def f145_0 (o4 : (List (List Int))) (o6 : (List (List Int))) : (List (List Int)) × (List Bool) × Int → Option (((List (List Int)) × (List Bool) × Int) ⊕ ((List (List Int)) × (List Bool)))
 | (out_10, known_11, i_12) =>
  if i_12 < (o4.length : Int) then
  (ix o4 i_12).bind fun v_14 =>
  (f144 o6 v_14).bind fun o16 =>
  (((if o16 = true then
  (ix known_11 i_12).bind fun v_21 =>
  (app 24 out_10 ([v_14])).bind fun l_24 =>
  some (l_24, (known_11.set i_12.toNat true))
  else
  some (out_10, known_11)) : Option ((List (List Int)) × (List Bool)))).bind fun (out_26, known_27) =>
  some (.inl (out_26, known_27, w64 (i_12 + 1)))
  else
  some (.inr (out_10, known_11))
def f145_2 (o4 : (List (List Int))) (o32 : (List (List Int))) : (List (List Int)) × (List Bool) × Bool × Int → Option (((List (List Int)) × (List Bool) × Bool × Int) ⊕ ((List (List Int)) × (List Bool) × Bool))
 | (out_38, known_39, more_40, i_41) =>
  if i_41 < (o4.length : Int) then
  (ix known_39 i_41).bind fun v_43 =>
  (((if ¬ (v_43 = true) then
  (ix o4 i_41).bind fun v_48 =>
  (f203 out_38 o32 v_48).bind fun o50 =>
  some (decide (o50 ≥ 0))
  else
  some false) : Option (Bool))).bind fun x_45 =>
  (((if x_45 = true then
  (ix o4 i_41).bind fun v_56 =>
  (app 24 out_38 ([v_56])).bind fun l_58 =>
  some (l_58, (known_39.set i_41.toNat true), true)
  else
  some (out_38, known_39, more_40)) : Option ((List (List Int)) × (List Bool) × Bool))).bind fun (out_60, known_61, more_62) =>
  some (.inl (out_60, known_61, more_62, w64 (i_41 + 1)))
  else
  some (.inr (out_38, known_39, more_40))
def f145_1 (o4 : (List (List Int))) (o32 : (List (List Int))) : (List (List Int)) × (List Bool) × Bool → Option (((List (List Int)) × (List Bool) × Bool) ⊕ (List (List Int)))
 | (out_34, known_35, more_36) =>
  if more_36 = true then
  (iter (f145_2 o4 o32) (out_34, known_35, false, 0)).bind fun (out_65, known_66, more_67) =>
  some (.inl (out_65, known_66, more_67))
  else
  some (.inr out_34)
def f145 (d : Database) (q : Query) : Option (List (List Int)) :=
 (f88 d q).bind fun o1 =>
 if ¬ (o1 = true) then
 some ([])
 else
 (f202 d (q.Atoms.length : Int)).bind fun o4 =>
 (f142 d q).bind fun o6 =>
 (mkl 1 (o4.length : Int) false).bind fun l_8 =>
 (iter ((f145_0 o4 o6)) ([], l_8, 0)).bind fun (out_30, known_31) =>
 (f141 d).bind fun o32 =>
 (iter (f145_1 o4 o32) (out_30, known_31, true)).bind fun out_70 =>
 some out_70
def f69 (d : Database) (q : Query) : Option Bool :=
 (f145 d q).bind fun o1 =>
 (f144 o1 ([])).bind fun o3 =>
 some o3
def f122 (n0 : Int) (low : Int) (high : Int) : Option Bool :=
 (((if low ≤ n0 then
 some (decide (n0 ≤ high))
 else
 some false) : Option (Bool))).bind fun x_1 =>
 some x_1
def f208 (relation : Relation) : Option Bool :=
 (((if (relation.Name.length : Int) = 1 then
 (ix relation.Name 0).bind fun c_4 =>
 (((if (c_4.toNat : Int) ≥ 97 then
 (((if (c_4.toNat : Int) ≤ 122 then
 (f122 relation.Arity 1 3).bind fun o12 =>
 (((if o12 = true then
 (f122 relation.KeyLength 0 relation.Arity).bind fun o17 =>
 some o17
 else
 some false) : Option (Bool))).bind fun x_14 =>
 some x_14
 else
 some false) : Option (Bool))).bind fun x_9 =>
 some x_9
 else
 some false) : Option (Bool))).bind fun x_6 =>
 some x_6
 else
 some false) : Option (Bool))).bind fun x_1 =>
 some x_1
def f156_0 (relations : (List Relation)) : Int → Option (Int ⊕ (Unit ⊕ Bool))
 | x_1 =>
  if x_1 < (relations.length : Int) then
  (ix relations x_1).bind fun v_3 =>
  (f208 v_3).bind fun o5 =>
  (((if ¬ (o5 = true) then
  some true
  else
  (((if x_1 > 0 then
  (ix relations (w64 (x_1 - 1))).bind fun v_13 =>
  some (!(Op.bytesLess v_13.Name v_3.Name))
  else
  some false) : Option (Bool))).bind fun x_10 =>
  some x_10) : Option (Bool))).bind fun x_7 =>
  if x_7 = true then
  some (.inr (.inr false))
  else
  some (.inl (w64 (x_1 + 1)))
  else
  some (.inr (.inl ()))
def f156 (relations : (List Relation)) : Option Bool :=
 (iter (f156_0 relations) 0).bind fun o => match o with
 | .inl _ =>
 some (decide ((relations.length : Int) ≤ 4))
 | .inr x_18 =>
 some x_18
def f212_0 (s0 : (List Int)) (f : Int → Option Bool) : Int → Option (Int ⊕ (Unit ⊕ Int))
 | x_1 =>
  if x_1 < (s0.length : Int) then
  (ix s0 x_1).bind fun v_3 =>
  (f v_3).bind fun o5 =>
  if o5 = true then
  some (.inr (.inr x_1))
  else
  some (.inl (w64 (x_1 + 1)))
  else
  some (.inr (.inl ()))
def f212 (s0 : (List Int)) (f : Int → Option Bool) : Option Int :=
 (iter (f212_0 s0 f) 0).bind fun o => match o with
 | .inl _ =>
 some (-1)
 | .inr x_10 =>
 some x_10
def f159 (s0 : (List Int)) (f : Int → Option Bool) : Option Bool :=
 (f212 s0 f).bind fun o1 =>
 some (decide (o1 ≥ 0))
def f245 (v : Int) : Option Bool :=
 (f122 v 0 9).bind fun o1 =>
 some (decide (¬ (o1 = true)))
def f209 (list : (List Int)) : Option Bool :=
 (f159 list (fun x0 => f245 x0)).bind fun o1 =>
 some (decide (¬ (o1 = true)))
def f157 (relations : (List Relation)) (fact : Fact) : Option Bool :=
 (f122 fact.Relation 0 (w64 ((relations.length : Int) - 1))).bind fun o1 =>
 (((if o1 = true then
 (ix relations fact.Relation).bind fun v_6 =>
 (((if (fact.Values.length : Int) = v_6.Arity then
 (f209 fact.Values).bind fun o11 =>
 some o11
 else
 some false) : Option (Bool))).bind fun x_8 =>
 some x_8
 else
 some false) : Option (Bool))).bind fun x_3 =>
 some x_3
def f210 (a : Int) (b : Int) : Option Int :=
 if a < b then
 some (-1)
 else
 if a > b then
 some 1
 else
 some 0
def f262 (x : Int) : Option Bool :=
 some (decide (x ≠ x))
def f246 (x : Int) (y : Int) : Option Int :=
 (f262 x).bind fun o1 =>
 (f262 y).bind fun o3 =>
 if o1 = true then
 if o3 = true then
 some 0
 else
 some (-1)
 else
 if o3 = true then
 some 1
 else
 if x < y then
 some (-1)
 else
 if x > y then
 some 1
 else
 some 0
def f211_0 (s1 : (List Int)) (s2 : (List Int)) : Int → Option (Int ⊕ (Unit ⊕ Int))
 | x_1 =>
  if x_1 < (s1.length : Int) then
  (ix s1 x_1).bind fun v_3 =>
  if x_1 ≥ (s2.length : Int) then
  some (.inr (.inr 1))
  else
  (ix s2 x_1).bind fun v_6 =>
  (f246 v_3 v_6).bind fun o8 =>
  if o8 ≠ 0 then
  some (.inr (.inr o8))
  else
  some (.inl (w64 (x_1 + 1)))
  else
  some (.inr (.inl ()))
def f211 (s1 : (List Int)) (s2 : (List Int)) : Option Int :=
 (iter (f211_0 s1 s2) 0).bind fun o => match o with
 | .inl _ =>
 if (s1.length : Int) < (s2.length : Int) then
 some (-1)
 else
 some 0
 | .inr x_13 =>
 some x_13
def f158 (a : Fact) (b : Fact) : Option Int :=
 if a.Relation ≠ b.Relation then
 (f210 a.Relation b.Relation).bind fun o2 =>
 some o2
 else
 (f211 a.Values b.Values).bind fun o4 =>
 some o4
def f79_0 (db : Database) : Int → Option (Int ⊕ (Unit ⊕ Bool))
 | x_7 =>
  if x_7 < (db.Facts.length : Int) then
  (ix db.Facts x_7).bind fun v_9 =>
  (f157 db.Relations v_9).bind fun o11 =>
  (((if ¬ (o11 = true) then
  some true
  else
  (((if x_7 > 0 then
  (ix db.Facts (w64 (x_7 - 1))).bind fun v_19 =>
  (f158 v_19 v_9).bind fun o21 =>
  some (decide (o21 ≥ 0))
  else
  some false) : Option (Bool))).bind fun x_16 =>
  some x_16) : Option (Bool))).bind fun x_13 =>
  if x_13 = true then
  some (.inr (.inr false))
  else
  some (.inl (w64 (x_7 + 1)))
  else
  some (.inr (.inl ()))
def f79 (db : Database) : Option Bool :=
 (f156 db.Relations).bind fun o1 =>
 (((if ¬ (o1 = true) then
 some true
 else
 some (decide ((db.Facts.length : Int) > 14))) : Option (Bool))).bind fun x_3 =>
 if x_3 = true then
 some false
 else
 (iter (f79_0 db) 0).bind fun o => match o with
 | .inl _ =>
 some true
 | .inr x_26 =>
 some x_26
def f172_0 (indices : (List Int)) (n1 : Int) : Int → Option (Int ⊕ (Unit ⊕ Bool))
 | x_1 =>
  if x_1 < (indices.length : Int) then
  (ix indices x_1).bind fun v_3 =>
  (f122 v_3 0 (w64 (n1 - 1))).bind fun o5 =>
  (((if ¬ (o5 = true) then
  some true
  else
  (((if x_1 > 0 then
  (ix indices (w64 (x_1 - 1))).bind fun v_13 =>
  some (decide (v_13 ≥ v_3))
  else
  some false) : Option (Bool))).bind fun x_10 =>
  some x_10) : Option (Bool))).bind fun x_7 =>
  if x_7 = true then
  some (.inr (.inr false))
  else
  some (.inl (w64 (x_1 + 1)))
  else
  some (.inr (.inl ()))
def f172 (indices : (List Int)) (n1 : Int) : Option Bool :=
 (iter (f172_0 indices n1) 0).bind fun o => match o with
 | .inl _ =>
 some true
 | .inr x_18 =>
 some x_18
def f219_0 (s0 : (List Atom)) (f : Atom → Option Bool) : Int → Option (Int ⊕ (Unit ⊕ Int))
 | x_1 =>
  if x_1 < (s0.length : Int) then
  (ix s0 x_1).bind fun v_3 =>
  (f v_3).bind fun o5 =>
  if o5 = true then
  some (.inr (.inr x_1))
  else
  some (.inl (w64 (x_1 + 1)))
  else
  some (.inr (.inl ()))
def f219 (s0 : (List Atom)) (f : Atom → Option Bool) : Option Int :=
 (iter (f219_0 s0 f) 0).bind fun o => match o with
 | .inl _ =>
 some (-1)
 | .inr x_10 =>
 some x_10
def f173 (s0 : (List Atom)) (f : Atom → Option Bool) : Option Bool :=
 (f219 s0 f).bind fun o1 =>
 some (decide (o1 ≥ 0))
def f174 (own : Atom) (c : Atom) : Option Bool :=
 some (decide (own.Relation = c.Relation))
def f217 (n : Int) : Option Nat := growN 8 n
def f169_0 (slices : (List (List Int))) : Int × Int → Option ((Int × Int) ⊕ Int)
 | (size_1, x_2) =>
  if x_2 < (slices.length : Int) then
  (ix slices x_2).bind fun v_4 =>
  (((if (w64 (size_1 + (v_4.length : Int))) < 0 then
  none
  else
  some ()) : Option Unit)).bind fun _ =>
  some (.inl (w64 (size_1 + (v_4.length : Int)), w64 (x_2 + 1)))
  else
  some (.inr size_1)
def f169_1 (slices : (List (List Int))) : Nat × (List Int) × Int → Option ((Nat × (List Int) × Int) ⊕ (Nat × (List Int)))
 | (newslice_14, newslice_15, x_16) =>
  if x_16 < (slices.length : Int) then
  (ix slices x_16).bind fun v_18 =>
  (apps 8 newslice_15 newslice_14 v_18).bind fun l_20 =>
  some (.inl (l_20.2, l_20.1, w64 (x_16 + 1)))
  else
  some (.inr (newslice_14, newslice_15))
def f169 (slices : (List (List Int))) : Option (List Int) :=
 (iter (f169_0 slices) (0, 0)).bind fun size_11 =>
 (f217 size_11).bind fun o12 =>
 (iter (f169_1 slices) (o12, [], 0)).bind fun (newslice_24, newslice_25) =>
 (nsk newslice_24).bind fun _ =>
 some newslice_25
def f240 (x : Int) : Option Int :=
 (((if x ≥ 4294967296 then
 some (sshr .u64 x 32, 32)
 else
 some (x, 0)) : Option (Int × Int))).bind fun (x_4, n_5) =>
 (((if x_4 ≥ 65536 then
 some (sshr .u64 x_4 16, w64 (n_5 + 16))
 else
 some (x_4, n_5)) : Option (Int × Int))).bind fun (x_9, n_10) =>
 (((if x_9 ≥ 256 then
 some (sshr .u64 x_9 8, w64 (n_10 + 8))
 else
 some (x_9, n_10)) : Option (Int × Int))).bind fun (x_14, n_15) =>
 (ix ([0, 1, 2, 2, 3, 3, 3, 3, 4, 4, 4, 4, 4, 4, 4, 4, 5, 5, 5, 5, 5, 5, 5, 5, 5, 5, 5, 5, 5, 5, 5, 5, 6, 6, 6, 6, 6, 6, 6, 6, 6, 6, 6, 6, 6, 6, 6, 6, 6, 6, 6, 6, 6, 6, 6, 6, 6, 6, 6, 6, 6, 6, 6, 6, 7, 7, 7, 7, 7, 7, 7, 7, 7, 7, 7, 7, 7, 7, 7, 7, 7, 7, 7, 7, 7, 7, 7, 7, 7, 7, 7, 7, 7, 7, 7, 7, 7, 7, 7, 7, 7, 7, 7, 7, 7, 7, 7, 7, 7, 7, 7, 7, 7, 7, 7, 7, 7, 7, 7, 7, 7, 7, 7, 7, 7, 7, 7, 7, 8, 8, 8, 8, 8, 8, 8, 8, 8, 8, 8, 8, 8, 8, 8, 8, 8, 8, 8, 8, 8, 8, 8, 8, 8, 8, 8, 8, 8, 8, 8, 8, 8, 8, 8, 8, 8, 8, 8, 8, 8, 8, 8, 8, 8, 8, 8, 8, 8, 8, 8, 8, 8, 8, 8, 8, 8, 8, 8, 8, 8, 8, 8, 8, 8, 8, 8, 8, 8, 8, 8, 8, 8, 8, 8, 8, 8, 8, 8, 8, 8, 8, 8, 8, 8, 8, 8, 8, 8, 8, 8, 8, 8, 8, 8, 8, 8, 8, 8, 8, 8, 8, 8, 8, 8, 8, 8, 8, 8, 8, 8, 8, 8, 8, 8, 8, 8, 8, 8, 8, 8, 8, 8, 8, 8, 8, 8, 8] : List UInt8) (w8 x_14)).bind fun c_16 =>
 some (w64 (n_15 + (w64 (c_16.toNat : Int))))
def f197 (x : Int) : Option Int :=
 (f240 x).bind fun o1 =>
 some o1
def f236 (x : Int) (y : Int) : Option Bool :=
 (f262 x).bind fun o1 =>
 (((if o1 = true then
 (f262 y).bind fun o6 =>
 (((if ¬ (o6 = true) then
 some true
 else
 some (decide (x < y))) : Option (Bool))).bind fun x_8 =>
 some x_8
 else
 some (decide (x < y))) : Option (Bool))).bind fun x_3 =>
 some x_3
def f230_1 (a : Int) : (List Int) × Int → Option (((List Int) × Int) ⊕ (List Int))
 | (data_4, j_5) =>
  (((if j_5 > a then
  (ix data_4 j_5).bind fun v_9 =>
  (ix data_4 (w64 (j_5 - 1))).bind fun v_11 =>
  (f236 v_9 v_11).bind fun o13 =>
  some o13
  else
  some false) : Option (Bool))).bind fun x_6 =>
  if x_6 = true then
  (ix data_4 (w64 (j_5 - 1))).bind fun v_16 =>
  (ix data_4 j_5).bind fun v_18 =>
  (ix (data_4.set j_5.toNat v_16) (w64 (j_5 - 1))).bind fun v_21 =>
  some (.inl (((data_4.set j_5.toNat v_16).set (w64 (j_5 - 1)).toNat v_18), w64 (j_5 - 1)))
  else
  some (.inr data_4)
def f230_0 (a : Int) (b : Int) : (List Int) × Int → Option (((List Int) × Int) ⊕ (List Int))
 | (data_1, i_2) =>
  if i_2 < b then
  (iter ((f230_1 a)) (data_1, i_2)).bind fun data_26 =>
  some (.inl (data_26, w64 (i_2 + 1)))
  else
  some (.inr data_1)
def f230 (data : (List Int)) (a : Int) (b : Int) : Option (List Int) :=
 (iter (f230_0 a b) (data, w64 (a + 1))).bind fun data_29 =>
 some data_29
def f257_0 (hi : Int) (first : Int) : (List Int) × Int → Option (((List Int) × Int) ⊕ ((List Int) ⊕ (List Int)))
 | (data_1, root_2) =>
  if (w64 ((w64 (2 * root_2)) + 1)) ≥ hi then
  some (.inr (.inl data_1))
  else
  (((if (w64 ((w64 ((w64 (2 * root_2)) + 1)) + 1)) < hi then
  (ix data_1 (w64 (first + (w64 ((w64 (2 * root_2)) + 1))))).bind fun v_7 =>
  (ix data_1 (w64 ((w64 (first + (w64 ((w64 (2 * root_2)) + 1)))) + 1))).bind fun v_9 =>
  (f236 v_7 v_9).bind fun o11 =>
  some o11
  else
  some false) : Option (Bool))).bind fun x_4 =>
  (((if x_4 = true then
  some (w64 ((w64 ((w64 (2 * root_2)) + 1)) + 1))
  else
  some (w64 ((w64 (2 * root_2)) + 1))) : Option Int)).bind fun child_16 =>
  (ix data_1 (w64 (first + root_2))).bind fun v_17 =>
  (ix data_1 (w64 (first + child_16))).bind fun v_19 =>
  (f236 v_17 v_19).bind fun o21 =>
  if ¬ (o21 = true) then
  some (.inr (.inr data_1))
  else
  (ix (data_1.set (w64 (first + root_2)).toNat v_19) (w64 (first + child_16))).bind fun v_25 =>
  some (.inl (((data_1.set (w64 (first + root_2)).toNat v_19).set (w64 (first + child_16)).toNat v_17), child_16))
def f257 (data : (List Int)) (lo : Int) (hi : Int) (first : Int) : Option (List Int) :=
 (iter (f257_0 hi first) (data, lo)).bind fun o => match o with
 | .inl data_30 =>
 some data_30
 | .inr data_31 =>
 some data_31
def f231_0 (a : Int) (b : Int) : (List Int) × Int → Option (((List Int) × Int) ⊕ (List Int))
 | (data_1, i_2) =>
  if i_2 ≥ 0 then
  (f257 data_1 i_2 (w64 (b - a)) a).bind fun o4 =>
  some (.inl (o4, w64 (i_2 - 1)))
  else
  some (.inr data_1)
def f231_1 (a : Int) : (List Int) × Int → Option (((List Int) × Int) ⊕ (List Int))
 | (data_9, i_10) =>
  if i_10 ≥ 0 then
  (ix data_9 (w64 (a + i_10))).bind fun v_12 =>
  (ix data_9 a).bind fun v_14 =>
  (ix (data_9.set a.toNat v_12) (w64 (a + i_10))).bind fun v_17 =>
  (f257 ((data_9.set a.toNat v_12).set (w64 (a + i_10)).toNat v_14) 0 i_10 a).bind fun o20 =>
  some (.inl (o20, w64 (i_10 - 1)))
  else
  some (.inr data_9)
def f231 (data : (List Int)) (a : Int) (b : Int) : Option (List Int) :=
 (iter (f231_0 a b) (data, w64 ((w64 ((w64 (b - a)) - 1)).tdiv 2))).bind fun data_8 =>
 (iter (f231_1 a) (data_8, w64 ((w64 (b - a)) - 1))).bind fun data_24 =>
 some data_24
def f258 (length : Int) : Option Int :=
 (f197 (IntKind.u64.wrap length)).bind fun o1 =>
 (nn o1).bind fun z_3 =>
 some (sshl .u64 1 o1)
def f259 (r0 : Int) : Option (Int × Int) :=
 some (bxor .u64 (bxor .u64 (bxor .u64 r0 (sshl .u64 r0 13)) (sshr .u64 (bxor .u64 r0 (sshl .u64 r0 13)) 7)) (sshl .u64 (bxor .u64 (bxor .u64 r0 (sshl .u64 r0 13)) (sshr .u64 (bxor .u64 r0 (sshl .u64 r0 13)) 7)) 17), bxor .u64 (bxor .u64 (bxor .u64 r0 (sshl .u64 r0 13)) (sshr .u64 (bxor .u64 r0 (sshl .u64 r0 13)) 7)) (sshl .u64 (bxor .u64 (bxor .u64 r0 (sshl .u64 r0 13)) (sshr .u64 (bxor .u64 r0 (sshl .u64 r0 13)) 7)) 17))
def f232_0 (a : Int) (b : Int) (o4 : Int) : (List Int) × Int × Int → Option (((List Int) × Int × Int) ⊕ (List Int))
 | (data_6, random_7, idx_8) =>
  if idx_8 ≤ (w64 ((w64 (a + (w64 ((w64 ((w64 (b - a)).tdiv 4)) * 2)))) + 1)) then
  (f259 random_7).bind fun o10 =>
  (((if (w64 (band .u64 o10.1 (IntKind.u64.wrap (o4 - 1)))) ≥ (w64 (b - a)) then
  some (w64 ((w64 (band .u64 o10.1 (IntKind.u64.wrap (o4 - 1)))) - (w64 (b - a))))
  else
  some (w64 (band .u64 o10.1 (IntKind.u64.wrap (o4 - 1))))) : Option Int)).bind fun other_15 =>
  (ix data_6 (w64 (a + other_15))).bind fun v_16 =>
  (ix data_6 idx_8).bind fun v_18 =>
  (ix (data_6.set idx_8.toNat v_16) (w64 (a + other_15))).bind fun v_21 =>
  some (.inl (((data_6.set idx_8.toNat v_16).set (w64 (a + other_15)).toNat v_18), o10.2, w64 (idx_8 + 1)))
  else
  some (.inr data_6)
def f232 (data : (List Int)) (a : Int) (b : Int) : Option (List Int) :=
 (((if (w64 (b - a)) ≥ 8 then
 (f258 (w64 (b - a))).bind fun o4 =>
 (iter (f232_0 a b o4) (data, IntKind.u64.wrap (w64 (b - a)), w64 ((w64 (a + (w64 ((w64 ((w64 (b - a)).tdiv 4)) * 2)))) - 1))).bind fun data_26 =>
 some data_26
 else
 some data) : Option (List Int))).bind fun data_27 =>
 some data_27
def f271 (data : (List Int)) (a : Int) (b : Int) (swaps : Int) : Option (Int × Int × Int) :=
 (ix data b).bind fun v_1 =>
 (ix data a).bind fun v_3 =>
 (f236 v_1 v_3).bind fun o5 =>
 if o5 = true then
 some (b, a, w64 (swaps + 1))
 else
 some (a, b, swaps)
def f261 (data : (List Int)) (a : Int) (b : Int) (c : Int) (swaps : Int) : Option (Int × Int) :=
 (f271 data a b swaps).bind fun o1 =>
 (f271 data o1.2.1 c o1.2.2).bind fun o3 =>
 (f271 data o1.1 o3.1 o3.2.2).bind fun o5 =>
 some (o5.2.1, o5.2.2)
def f260 (data : (List Int)) (a : Int) (swaps : Int) : Option (Int × Int) :=
 (f261 data (w64 (a - 1)) a (w64 (a + 1)) swaps).bind fun o1 =>
 some (o1.1, o1.2)
def f233 (data : (List Int)) (a : Int) (b : Int) : Option (Int × Int) :=
 (((if (w64 (b - a)) ≥ 8 then
 (((if (w64 (b - a)) ≥ 50 then
 (f260 data (w64 (a + (w64 (w64 ((w64 (b - a)).tdiv 4))))) 0).bind fun o7 =>
 (f260 data (w64 (a + (w64 ((w64 ((w64 (b - a)).tdiv 4)) * 2)))) o7.2).bind fun o9 =>
 (f260 data (w64 (a + (w64 ((w64 ((w64 (b - a)).tdiv 4)) * 3)))) o9.2).bind fun o11 =>
 some (o11.2, o7.1, o9.1, o11.1)
 else
 some (0, w64 (a + (w64 (w64 ((w64 (b - a)).tdiv 4)))), w64 (a + (w64 ((w64 ((w64 (b - a)).tdiv 4)) * 2))), w64 (a + (w64 ((w64 ((w64 (b - a)).tdiv 4)) * 3))))) : Option (Int × Int × Int × Int))).bind fun (swaps_13, i_14, j_15, k_16) =>
 (f261 data i_14 j_15 k_16 swaps_13).bind fun o17 =>
 some (o17.2, o17.1)
 else
 some (0, w64 (a + (w64 ((w64 ((w64 (b - a)).tdiv 4)) * 2))))) : Option (Int × Int))).bind fun (swaps_19, j_20) =>
 if swaps_19 = 0 then
 some (j_20, 1)
 else
 if swaps_19 = 12 then
 some (j_20, 2)
 else
 some (j_20, 0)
def f234_0 : (List Int) × Int × Int → Option (((List Int) × Int × Int) ⊕ (List Int))
 | (data_1, i_2, j_3) =>
  if i_2 < j_3 then
  (ix data_1 j_3).bind fun v_5 =>
  (ix data_1 i_2).bind fun v_7 =>
  (ix (data_1.set i_2.toNat v_5) j_3).bind fun v_10 =>
  some (.inl (((data_1.set i_2.toNat v_5).set j_3.toNat v_7), w64 (i_2 + 1), w64 (j_3 - 1)))
  else
  some (.inr data_1)
def f234 (data : (List Int)) (a : Int) (b : Int) : Option (List Int) :=
 (iter f234_0 (data, a, w64 (b - 1))).bind fun data_15 =>
 some data_15
def f235_1 (b : Int) (data_1 : (List Int)) : Int → Option (Int ⊕ Int)
 | i_5 =>
  (((if i_5 < b then
  (ix data_1 i_5).bind fun v_9 =>
  (ix data_1 (w64 (i_5 - 1))).bind fun v_11 =>
  (f236 v_9 v_11).bind fun o13 =>
  some (decide (¬ (o13 = true)))
  else
  some false) : Option (Bool))).bind fun x_6 =>
  if x_6 = true then
  some (.inl (w64 (i_5 + 1)))
  else
  some (.inr i_5)
def f235_2 : (List Int) × Int → Option (((List Int) × Int) ⊕ (List Int))
 | (data_32, j_33) =>
  if j_33 ≥ 1 then
  (ix data_32 j_33).bind fun v_35 =>
  (ix data_32 (w64 (j_33 - 1))).bind fun v_37 =>
  (f236 v_35 v_37).bind fun o39 =>
  if ¬ (o39 = true) then
  some (.inr data_32)
  else
  (ix (data_32.set j_33.toNat v_37) (w64 (j_33 - 1))).bind fun v_43 =>
  some (.inl (((data_32.set j_33.toNat v_37).set (w64 (j_33 - 1)).toNat v_35), w64 (j_33 - 1)))
  else
  some (.inr data_32)
def f235_3 (b : Int) : (List Int) × Int → Option (((List Int) × Int) ⊕ (List Int))
 | (data_53, j_54) =>
  if j_54 < b then
  (ix data_53 j_54).bind fun v_56 =>
  (ix data_53 (w64 (j_54 - 1))).bind fun v_58 =>
  (f236 v_56 v_58).bind fun o60 =>
  if ¬ (o60 = true) then
  some (.inr data_53)
  else
  (ix (data_53.set j_54.toNat v_58) (w64 (j_54 - 1))).bind fun v_64 =>
  some (.inl (((data_53.set j_54.toNat v_58).set (w64 (j_54 - 1)).toNat v_56), w64 (j_54 + 1)))
  else
  some (.inr data_53)
def f235_0 (a : Int) (b : Int) : (List Int) × Int × Int → Option (((List Int) × Int × Int) ⊕ ((List Int) ⊕ ((List Int) × Bool)))
 | (data_1, i_2, j_3) =>
  if j_3 < 5 then
  (iter ((f235_1 b data_1)) i_2).bind fun i_18 =>
  if i_18 = b then
  some (.inr (.inr (data_1, true)))
  else
  if (w64 (b - a)) < 50 then
  some (.inr (.inr (data_1, false)))
  else
  (ix data_1 (w64 (i_18 - 1))).bind fun v_21 =>
  (ix data_1 i_18).bind fun v_23 =>
  (ix (data_1.set i_18.toNat v_21) (w64 (i_18 - 1))).bind fun v_26 =>
  (((if (w64 (i_18 - a)) ≥ 2 then
  (iter (f235_2) (((data_1.set i_18.toNat v_21).set (w64 (i_18 - 1)).toNat v_23), w64 (i_18 - 1))).bind fun data_48 =>
  some data_48
  else
  some ((data_1.set i_18.toNat v_21).set (w64 (i_18 - 1)).toNat v_23)) : Option (List Int))).bind fun data_49 =>
  (((if (w64 (b - i_18)) ≥ 2 then
  (iter ((f235_3 b)) (data_49, w64 (i_18 + 1))).bind fun data_69 =>
  some data_69
  else
  some data_49) : Option (List Int))).bind fun data_70 =>
  some (.inl (data_70, i_18, w64 (j_3 + 1)))
  else
  some (.inr (.inl data_1))
def f235 (data : (List Int)) (a : Int) (b : Int) : Option (Bool × (List Int)) :=
 (iter (f235_0 a b) (data, w64 (a + 1), 0)).bind fun o => match o with
 | .inl data_73 =>
 some (false, data_73)
 | .inr (data_74, x_75) =>
 some (x_75, data_74)
def f237_1 (a : Int) (data_9 : (List Int)) (j_11 : Int) : Int → Option (Int ⊕ Int)
 | i_12 =>
  (((if i_12 ≤ j_11 then
  (ix data_9 a).bind fun v_16 =>
  (ix data_9 i_12).bind fun v_18 =>
  (f236 v_16 v_18).bind fun o20 =>
  some (decide (¬ (o20 = true)))
  else
  some false) : Option (Bool))).bind fun x_13 =>
  if x_13 = true then
  some (.inl (w64 (i_12 + 1)))
  else
  some (.inr i_12)
def f237_2 (a : Int) (data_9 : (List Int)) (i_25 : Int) : Int → Option (Int ⊕ Int)
 | j_26 =>
  (((if i_25 ≤ j_26 then
  (ix data_9 a).bind fun v_30 =>
  (ix data_9 j_26).bind fun v_32 =>
  (f236 v_30 v_32).bind fun o34 =>
  some o34
  else
  some false) : Option (Bool))).bind fun x_27 =>
  if x_27 = true then
  some (.inl (w64 (j_26 - 1)))
  else
  some (.inr j_26)
def f237_0 (a : Int) : (List Int) × Int × Int → Option (((List Int) × Int × Int) ⊕ ((List Int) × Int))
 | (data_9, i_10, j_11) =>
  (iter (f237_1 a data_9 j_11) i_10).bind fun i_25 =>
  (iter (f237_2 a data_9 i_25) j_11).bind fun j_39 =>
  if i_25 > j_39 then
  some (.inr (data_9, i_25))
  else
  (ix data_9 j_39).bind fun v_41 =>
  (ix data_9 i_25).bind fun v_43 =>
  (ix (data_9.set i_25.toNat v_41) j_39).bind fun v_46 =>
  some (.inl (((data_9.set i_25.toNat v_41).set j_39.toNat v_43), w64 (i_25 + 1), w64 (j_39 - 1)))
def f237 (data : (List Int)) (a : Int) (b : Int) (pivot : Int) : Option (Int × (List Int)) :=
 (ix data pivot).bind fun v_1 =>
 (ix data a).bind fun v_3 =>
 (ix (data.set a.toNat v_1) pivot).bind fun v_6 =>
 (iter (f237_0 a) (((data.set a.toNat v_1).set pivot.toNat v_3), w64 (a + 1), w64 (b - 1))).bind fun (data_51, i_52) =>
 some (i_52, data_51)
def f238_0 (data : (List Int)) (a : Int) (b : Int) (pivot : Int) (v_1 : Int) (v_3 : Int) : Int → Option (Int ⊕ Int)
 | i_9 =>
  (((if i_9 ≤ (w64 (b - 1)) then
  (ix ((data.set a.toNat v_1).set pivot.toNat v_3) i_9).bind fun v_13 =>
  (ix ((data.set a.toNat v_1).set pivot.toNat v_3) a).bind fun v_15 =>
  (f236 v_13 v_15).bind fun o17 =>
  some o17
  else
  some false) : Option (Bool))).bind fun x_10 =>
  if x_10 = true then
  some (.inl (w64 (i_9 + 1)))
  else
  some (.inr i_9)
def f238_1 (data : (List Int)) (a : Int) (pivot : Int) (v_1 : Int) (v_3 : Int) (i_22 : Int) : Int → Option (Int ⊕ Int)
 | j_23 =>
  (((if i_22 ≤ j_23 then
  (ix ((data.set a.toNat v_1).set pivot.toNat v_3) j_23).bind fun v_27 =>
  (ix ((data.set a.toNat v_1).set pivot.toNat v_3) a).bind fun v_29 =>
  (f236 v_27 v_29).bind fun o31 =>
  some (decide (¬ (o31 = true)))
  else
  some false) : Option (Bool))).bind fun x_24 =>
  if x_24 = true then
  some (.inl (w64 (j_23 - 1)))
  else
  some (.inr j_23)
def f238_3 (a : Int) (data_54 : (List Int)) (j_56 : Int) : Int → Option (Int ⊕ Int)
 | i_57 =>
  (((if i_57 ≤ j_56 then
  (ix data_54 i_57).bind fun v_61 =>
  (ix data_54 a).bind fun v_63 =>
  (f236 v_61 v_63).bind fun o65 =>
  some o65
  else
  some false) : Option (Bool))).bind fun x_58 =>
  if x_58 = true then
  some (.inl (w64 (i_57 + 1)))
  else
  some (.inr i_57)
def f238_4 (a : Int) (data_54 : (List Int)) (i_70 : Int) : Int → Option (Int ⊕ Int)
 | j_71 =>
  (((if i_70 ≤ j_71 then
  (ix data_54 j_71).bind fun v_75 =>
  (ix data_54 a).bind fun v_77 =>
  (f236 v_75 v_77).bind fun o79 =>
  some (decide (¬ (o79 = true)))
  else
  some false) : Option (Bool))).bind fun x_72 =>
  if x_72 = true then
  some (.inl (w64 (j_71 - 1)))
  else
  some (.inr j_71)
def f238_2 (a : Int) : (List Int) × Int × Int → Option (((List Int) × Int × Int) ⊕ ((List Int) × Int))
 | (data_54, i_55, j_56) =>
  (iter (f238_3 a data_54 j_56) i_55).bind fun i_70 =>
  (iter (f238_4 a data_54 i_70) j_56).bind fun j_84 =>
  if i_70 > j_84 then
  some (.inr (data_54, j_84))
  else
  (ix data_54 j_84).bind fun v_86 =>
  (ix data_54 i_70).bind fun v_88 =>
  (ix (data_54.set i_70.toNat v_86) j_84).bind fun v_91 =>
  some (.inl (((data_54.set i_70.toNat v_86).set j_84.toNat v_88), w64 (i_70 + 1), w64 (j_84 - 1)))
def f238 (data : (List Int)) (a : Int) (b : Int) (pivot : Int) : Option (Int × Bool × (List Int)) :=
 (ix data pivot).bind fun v_1 =>
 (ix data a).bind fun v_3 =>
 (ix (data.set a.toNat v_1) pivot).bind fun v_6 =>
 (iter (f238_0 data a b pivot v_1 v_3) (w64 (a + 1))).bind fun i_22 =>
 (iter (f238_1 data a pivot v_1 v_3 i_22) (w64 (b - 1))).bind fun j_36 =>
 if i_22 > j_36 then
 (ix ((data.set a.toNat v_1).set pivot.toNat v_3) a).bind fun v_38 =>
 (ix ((data.set a.toNat v_1).set pivot.toNat v_3) j_36).bind fun v_40 =>
 (ix (((data.set a.toNat v_1).set pivot.toNat v_3).set j_36.toNat v_38) a).bind fun v_43 =>
 some (j_36, true, ((((data.set a.toNat v_1).set pivot.toNat v_3).set j_36.toNat v_38).set a.toNat v_40))
 else
 (ix ((data.set a.toNat v_1).set pivot.toNat v_3) j_36).bind fun v_46 =>
 (ix ((data.set a.toNat v_1).set pivot.toNat v_3) i_22).bind fun v_48 =>
 (ix (((data.set a.toNat v_1).set pivot.toNat v_3).set i_22.toNat v_46) j_36).bind fun v_51 =>
 (iter (f238_2 a) (((((data.set a.toNat v_1).set pivot.toNat v_3).set i_22.toNat v_46).set j_36.toNat v_48), w64 (i_22 + 1), w64 (j_36 - 1))).bind fun (data_96, j_97) =>
 (ix data_96 a).bind fun v_98 =>
 (ix data_96 j_97).bind fun v_100 =>
 (ix (data_96.set j_97.toNat v_98) a).bind fun v_103 =>
 some (j_97, false, ((data_96.set j_97.toNat v_98).set a.toNat v_100))
def f196_0 (rec : (List Int) → Int → Int → Int → Option (List Int)) : (List Int) × Int × Int × Int × Bool × Bool → Option (((List Int) × Int × Int × Int × Bool × Bool) ⊕ (List Int))
 | (data_1, a_2, b_3, limit_4, wasBalanced_5, wasPartitioned_6) =>
  (((if (w64 (b_3 - a_2)) ≤ 12 then
  (f230 data_1 a_2 b_3).bind fun o10 =>
  some (.inr o10)
  else
  if limit_4 = 0 then
  (f231 data_1 a_2 b_3).bind fun o13 =>
  some (.inr o13)
  else
  (((if ¬ (wasBalanced_5 = true) then
  (f232 data_1 a_2 b_3).bind fun o18 =>
  some (o18, w64 (limit_4 - 1))
  else
  some (data_1, limit_4)) : Option ((List Int) × Int))).bind fun (data_20, limit_21) =>
  (f233 data_20 a_2 b_3).bind fun o22 =>
  (((if o22.2 = 2 then
  (f234 data_20 a_2 b_3).bind fun o27 =>
  some (o27, w64 ((w64 (b_3 - 1)) - (w64 (o22.1 - a_2))), 1)
  else
  some (data_20, o22.1, o22.2)) : Option ((List Int) × Int × Int))).bind fun (data_29, pivot_30, hint_31) =>
  (((if wasBalanced_5 = true then
  (((if wasPartitioned_6 = true then
  some (decide (hint_31 = 1))
  else
  some false) : Option (Bool))).bind fun x_35 =>
  some x_35
  else
  some false) : Option (Bool))).bind fun x_32 =>
  (((if x_32 = true then
  (f235 data_29 a_2 b_3).bind fun o41 =>
  if o41.1 = true then
  some (.inr o41.2)
  else
  some (.inl o41.2)
  else
  some (.inl data_29)) : Option ((List Int) ⊕ (List Int)))).bind fun o => match o with
  | .inl data_44 =>
  (((if a_2 > 0 then
  (ix data_44 (w64 (a_2 - 1))).bind fun v_49 =>
  (ix data_44 pivot_30).bind fun v_51 =>
  (f236 v_49 v_51).bind fun o53 =>
  some (decide (¬ (o53 = true)))
  else
  some false) : Option (Bool))).bind fun x_46 =>
  if x_46 = true then
  (f237 data_44 a_2 b_3 pivot_30).bind fun o56 =>
  some (.inl (o56.2, o56.1, b_3, limit_21, wasBalanced_5, wasPartitioned_6))
  else
  (f238 data_44 a_2 b_3 pivot_30).bind fun o58 =>
  (((if (w64 (o58.1 - a_2)) < (w64 (b_3 - o58.1)) then
  (rec o58.2.2 a_2 o58.1 limit_21).bind fun o63 =>
  some (o63, w64 (o58.1 + 1), b_3, (decide ((w64 (o58.1 - a_2)) ≥ (w64 ((w64 (b_3 - a_2)).tdiv 8)))))
  else
  (rec o58.2.2 (w64 (o58.1 + 1)) b_3 limit_21).bind fun o65 =>
  some (o65, a_2, o58.1, (decide ((w64 (b_3 - o58.1)) ≥ (w64 ((w64 (b_3 - a_2)).tdiv 8)))))) : Option ((List Int) × Int × Int × Bool))).bind fun (data_67, a_68, b_69, wasBalanced_70) =>
  some (.inl (data_67, a_68, b_69, limit_21, wasBalanced_70, o58.2.1))
  | .inr data_45 =>
  some (.inr data_45)) : Option (((List Int) × Int × Int × Int × Bool × Bool) ⊕ (List Int)))).bind fun o => match o with
  | .inl (data_71, a_72, b_73, limit_74, wasBalanced_75, wasPartitioned_76) =>
  some (.inl (data_71, a_72, b_73, limit_74, wasBalanced_75, wasPartitioned_76))
  | .inr data_77 =>
  some (.inr data_77)
def f196 : Nat → (List Int) → Int → Int → Int → Option (List Int)
 | 0 => fun _ _ _ _ => none
 | n + 1 => fun data a b limit =>
  (iter (f196_0 (f196 n)) (data, a, b, limit, true, true)).bind fun data_80 =>
  some data_80
def f140 (x : (List Int)) : Option (List Int) :=
 (f197 (IntKind.u64.wrap (x.length : Int))).bind fun o1 =>
 (f196 64 x 0 (x.length : Int) o1).bind fun o3 =>
 some o3
def f170 (l : List Int) : Option (List Int) := compactN l
def f104 (a : (List Int)) (b : (List Int)) : Option (List Int) :=
 (f169 ([a, b])).bind fun o1 =>
 (f140 o1).bind fun o3 =>
 (f170 o3).bind fun o5 =>
 some o5
def f102_0 (atom : Atom) : (List Int) × Int → Option (((List Int) × Int) ⊕ (List Int))
 | (out_1, x_2) =>
  if x_2 < (atom.Terms.length : Int) then
  (ix atom.Terms x_2).bind fun v_4 =>
  (f122 v_4 0 3).bind fun o6 =>
  (((if o6 = true then
  (app 8 out_1 ([v_4])).bind fun l_11 =>
  some l_11
  else
  some out_1) : Option (List Int))).bind fun out_13 =>
  some (.inl (out_13, w64 (x_2 + 1)))
  else
  some (.inr out_1)
def f102 (atom : Atom) : Option (List Int) :=
 (iter (f102_0 atom) ([], 0)).bind fun out_16 =>
 (f104 out_16 ([] : (List Int))).bind fun o17 =>
 some o17
def f111_1 (query : Query) (v_22 : Atom) : Int → Option (Int ⊕ (Unit ⊕ Bool))
 | x_39 =>
  if x_39 < (v_22.Terms.length : Int) then
  (ix v_22.Terms x_39).bind fun v_41 =>
  (f122 v_41 (-10) (w64 (query.VariableCount - 1))).bind fun o43 =>
  if ¬ (o43 = true) then
  some (.inr (.inr false))
  else
  some (.inl (w64 (x_39 + 1)))
  else
  some (.inr (.inl ()))
def f111_0 (relations : (List Relation)) (query : Query) : (List Int) × Int → Option (((List Int) × Int) ⊕ ((List Int) ⊕ Bool))
 | (occurring_19, x_20) =>
  if x_20 < (query.Atoms.length : Int) then
  (ix query.Atoms x_20).bind fun v_22 =>
  (f122 v_22.Relation 0 (w64 ((relations.length : Int) - 1))).bind fun o24 =>
  (((if ¬ (o24 = true) then
  some true
  else
  (ix relations v_22.Relation).bind fun v_29 =>
  (((if (v_22.Terms.length : Int) ≠ v_29.Arity then
  some true
  else
  (cutL query.Atoms 0 x_20).bind fun l_34 =>
  (f173 l_34 (fun x0 => f174 x0 v_22)).bind fun o36 =>
  some o36) : Option (Bool))).bind fun x_31 =>
  some x_31) : Option (Bool))).bind fun x_26 =>
  if x_26 = true then
  some (.inr (.inr false))
  else
  (iter ((f111_1 query v_22)) 0).bind fun o => match o with
  | .inl _ =>
  (f102 v_22).bind fun o49 =>
  (f104 occurring_19 o49).bind fun o51 =>
  some (.inl (o51, w64 (x_20 + 1)))
  | .inr x_48 =>
  some (.inr (.inr x_48))
  else
  some (.inr (.inl occurring_19))
def f111 (relations : (List Relation)) (query : Query) : Option Bool :=
 (f156 relations).bind fun o1 =>
 (((if ¬ (o1 = true) then
 some true
 else
 (f122 query.VariableCount 0 4).bind fun o6 =>
 (((if ¬ (o6 = true) then
 some true
 else
 (f122 (query.Atoms.length : Int) 1 3).bind fun o11 =>
 (((if ¬ (o11 = true) then
 some true
 else
 (f172 query.Free query.VariableCount).bind fun o16 =>
 some (decide (¬ (o16 = true)))) : Option (Bool))).bind fun x_13 =>
 some x_13) : Option (Bool))).bind fun x_8 =>
 some x_8) : Option (Bool))).bind fun x_3 =>
 if x_3 = true then
 some false
 else
 (iter (f111_0 relations query) ([], 0)).bind fun o => match o with
 | .inl occurring_55 =>
 some (decide ((occurring_55.length : Int) = query.VariableCount))
 | .inr x_56 =>
 some x_56
def f90 (db : Database) (query : Query) : Option Bool :=
 (f79 db).bind fun o1 =>
 (((if o1 = true then
 (f111 db.Relations query).bind fun o6 =>
 some o6
 else
 some false) : Option (Bool))).bind fun x_3 =>
 some x_3
def f248 (x : Int) (y : Int) : Option (Int × Int) :=
 some (IntKind.u64.wrap ((IntKind.u64.wrap ((IntKind.u64.wrap ((sshr .u64 x 32) * (sshr .u64 y 32))) + (sshr .u64 (IntKind.u64.wrap ((IntKind.u64.wrap ((sshr .u64 x 32) * (band .u64 y 4294967295))) + (sshr .u64 (IntKind.u64.wrap ((band .u64 x 4294967295) * (band .u64 y 4294967295))) 32))) 32))) + (sshr .u64 (IntKind.u64.wrap ((band .u64 (IntKind.u64.wrap ((IntKind.u64.wrap ((sshr .u64 x 32) * (band .u64 y 4294967295))) + (sshr .u64 (IntKind.u64.wrap ((band .u64 x 4294967295) * (band .u64 y 4294967295))) 32))) 4294967295) + (IntKind.u64.wrap ((band .u64 x 4294967295) * (sshr .u64 y 32))))) 32)), IntKind.u64.wrap (x * y))
def f213 (x : Int) (y : Int) : Option (Int × Int) :=
 (f248 x y).bind fun o1 =>
 some (o1.1, o1.2)
def f161_0 : (List Int) × Int → Option (((List Int) × Int) ⊕ (List Int))
 | (newslice_14, n_15) =>
  if n_15 < (newslice_14.length : Int) then
  (cutL newslice_14 0 n_15).bind fun z_17 =>
  some (.inl ((csL newslice_14 n_15.toNat), w64 (n_15 + (min n_15 ((newslice_14.length : Int) - n_15)))))
  else
  some (.inr newslice_14)
def f161 (x : (List Int)) (count : Int) : Option (List Int) :=
 (((if count < 0 then
 none
 else
 some ()) : Option Unit)).bind fun _ =>
 (f213 (IntKind.u64.wrap (x.length : Int)) (IntKind.u64.wrap count)).bind fun o4 =>
 (((if o4.1 > 0 then
 some true
 else
 some (decide (o4.2 > 9223372036854775807))) : Option (Bool))).bind fun x_6 =>
 (((if x_6 = true then
 none
 else
 some ()) : Option Unit)).bind fun _ =>
 (mkl 8 (w64 o4.2) 0).bind fun l_12 =>
 (iter f161_0 ((cpL l_12 x), ((min x.length l_12.length : Nat) : Int))).bind fun newslice_21 =>
 some newslice_21
def f81 (n0 : Int) : Option (List Int) :=
 (f161 ([-1]) n0).bind fun o1 =>
 some o1
def f135 (s0 : (List Int)) : Option (List Int) :=
 (app 8 ([]) s0).bind fun l_1 =>
 some l_1
def f192 (t : Int) : Option Bool :=
 some (decide (t ≥ 0))
def f193 (v : Int) : Option Int :=
 some (w64 ((-1) - v))
def f136_0 (terms : (List Int)) (from2 : (List Int)) : (List Int) × Int → Option (((List Int) × Int) ⊕ ((List Int) ⊕ ((List Int) × Bool)))
 | (out_3, x_4) =>
  if x_4 < (terms.length : Int) then
  (ix terms x_4).bind fun v_6 =>
  (f192 v_6).bind fun o8 =>
  (((if ¬ (o8 = true) then
  (ix from2 x_4).bind fun v_13 =>
  (f193 v_6).bind fun o15 =>
  if o15 ≠ v_13 then
  some (.inr ([], false))
  else
  some (.inl out_3)
  else
  (ix out_3 v_6).bind fun v_18 =>
  (((if v_18 < 0 then
  (ix from2 x_4).bind fun v_23 =>
  some (.inl (out_3.set v_6.toNat v_23))
  else
  (ix from2 x_4).bind fun v_26 =>
  if v_18 ≠ v_26 then
  some (.inr ([], false))
  else
  some (.inl out_3)) : Option ((List Int) ⊕ ((List Int) × Bool)))).bind fun o => match o with
  | .inl out_29 =>
  some (.inl out_29)
  | .inr (x_30, x_31) =>
  some (.inr (x_30, x_31))) : Option ((List Int) ⊕ ((List Int) × Bool)))).bind fun o => match o with
  | .inl out_32 =>
  some (.inl (out_32, w64 (x_4 + 1)))
  | .inr (x_33, x_34) =>
  some (.inr (.inr (x_33, x_34)))
  else
  some (.inr (.inl out_3))
def f136 (values : (List Int)) (terms : (List Int)) (from2 : (List Int)) : Option ((List Int) × Bool) :=
 (f135 values).bind fun o1 =>
 (iter (f136_0 terms from2) (o1, 0)).bind fun o => match o with
 | .inl out_37 =>
 some (out_37, true)
 | .inr (x_38, x_39) =>
 some (x_38, x_39)
def f134_0 (values : (List Int)) (facts : (List Int)) (c : Query) (c4 : Database) (rec : (List Int) → (List Int) → Query → (List Embedding) → Database → Option (List Embedding)) (v_8 : Atom) : (List Embedding) × Int → Option (((List Embedding) × Int) ⊕ (List Embedding))
 | (x_10, x_11) =>
  if x_11 < (c4.Facts.length : Int) then
  ((((ix c4.Facts x_11).bind fun v_15 =>
  if v_15.Relation ≠ v_8.Relation then
  some x_10
  else
  (f136 values v_8.Terms v_15.Values).bind fun o18 =>
  (((if o18.2 = true then
  (f135 facts).bind fun o23 =>
  (app 8 o23 ([x_11])).bind fun l_25 =>
  ((rec o18.1 l_25 c x_10 c4)).bind fun o27 =>
  some o27
  else
  some x_10) : Option (List Embedding))).bind fun x_29 =>
  some x_29) : Option (List Embedding))).bind fun x_30 =>
  some (.inl (x_30, w64 (x_11 + 1)))
  else
  some (.inr x_10)
def f134 : Nat → (List Int) → (List Int) → Query → (List Embedding) → Database → Option (List Embedding)
 | 0 => fun _ _ _ _ _ => none
 | n + 1 => fun values facts c c3 c4 =>
  if (facts.length : Int) = (c.Atoms.length : Int) then
  (f135 values).bind fun o2 =>
  (f135 facts).bind fun o4 =>
  (app 48 c3 ([({ Values := o2, Facts := o4 } : Embedding)])).bind fun l_6 =>
  some l_6
  else
  (ix c.Atoms (facts.length : Int)).bind fun v_8 =>
  (iter ((f134_0 values facts c c4 (f134 n) v_8)) (c3, 0)).bind fun x_33 =>
  some x_33
def f61 (db : Database) (query : Query) : Option (List Embedding) :=
 (f90 db query).bind fun o1 =>
 if ¬ (o1 = true) then
 some ([])
 else
 (f81 query.VariableCount).bind fun o4 =>
 ((f134 64 o4 ([] : (List Int)) query ([]) db)).bind fun o6 =>
 some o6
def f63_0 (o11 : (List Embedding)) : (List (List Int)) × Nat × Int → Option (((List (List Int)) × Nat × Int) ⊕ (List (List Int)))
 | (out, k, x) =>
  if x < (o11.length : Int) then
  (ml o11 k x).bind fun v =>
  (f140 v.Facts).bind fun s =>
  (app 24 out ([s])).bind fun l =>
  some (.inl (l, k + 1, w64 (x + 1)))
  else
  some (.inr out)
def f63 (db : Database) (query : Query) : Option (List (List Int)) :=
 (f61 db query).bind fun o11 =>
 (iter (f63_0 o11) ([], 0, 0)).bind fun out =>
 some out
def f214_0 (s1 : (List Int)) (s2 : (List Int)) : Int → Option (Int ⊕ (Unit ⊕ Bool))
 | x_2 =>
  if x_2 < (s1.length : Int) then
  (ix s1 x_2).bind fun v_4 =>
  (ix s2 x_2).bind fun v_6 =>
  if v_4 ≠ v_6 then
  some (.inr (.inr false))
  else
  some (.inl (w64 (x_2 + 1)))
  else
  some (.inr (.inl ()))
def f214 (s1 : (List Int)) (s2 : (List Int)) : Option Bool :=
 if (s1.length : Int) ≠ (s2.length : Int) then
 some false
 else
 (iter (f214_0 s1 s2) 0).bind fun o => match o with
 | .inl _ =>
 some true
 | .inr x_11 =>
 some x_11
def f162 (relations : (List Relation)) (a : Fact) (b : Fact) : Option Bool :=
 if a.Relation ≠ b.Relation then
 some false
 else
 (ix relations a.Relation).bind fun v_2 =>
 (cutL a.Values 0 v_2.KeyLength).bind fun l_4 =>
 (cutL b.Values 0 v_2.KeyLength).bind fun l_6 =>
 (f214 l_4 l_6).bind fun o8 =>
 some o8
def f83_0 (db : Database) : (List (List Int)) × Int → Option (((List (List Int)) × Int) ⊕ (List (List Int)))
 | (out_1, x_2) =>
  if x_2 < (db.Facts.length : Int) then
  (ix db.Facts x_2).bind fun v_4 =>
  (((if (w64 ((out_1.length : Int) - 1)) ≥ 0 then
  (ix out_1 (w64 ((out_1.length : Int) - 1))).bind fun v_9 =>
  (ix v_9 0).bind fun v_11 =>
  (ix db.Facts v_11).bind fun v_13 =>
  (f162 db.Relations v_13 v_4).bind fun o15 =>
  some o15
  else
  some false) : Option (Bool))).bind fun x_6 =>
  (((if x_6 = true then
  (ix out_1 (w64 ((out_1.length : Int) - 1))).bind fun v_20 =>
  (app 8 v_20 ([x_2])).bind fun l_22 =>
  some (out_1.set (w64 ((out_1.length : Int) - 1)).toNat l_22)
  else
  (app 24 out_1 ([[x_2]])).bind fun l_25 =>
  some l_25) : Option (List (List Int)))).bind fun out_27 =>
  some (.inl (out_27, w64 (x_2 + 1)))
  else
  some (.inr out_1)
def f83 (db : Database) : Option (List (List Int)) :=
 (iter (f83_0 db) ([], 0)).bind fun out_30 =>
 some out_30
def f265 (own : Int) (c : Database) (c2 : Int) : Option Bool :=
 (ix c.Facts own).bind fun v_1 =>
 (ix c.Facts c2).bind fun v_3 =>
 (f162 c.Relations v_1 v_3).bind fun o5 =>
 some o5
def f264_0 (set0 : (List Int)) (c : Int) (c4 : Database) (rec : (List Int) → Int → Int → (List (List Int)) → Database → Option (List (List Int))) : (List (List Int)) × Int → Option (((List (List Int)) × Int) ⊕ (List (List Int)))
 | (x_6, i_7) =>
  if i_7 < (c4.Facts.length : Int) then
  (f159 set0 (fun x0 => f265 x0 c4 i_7)).bind fun o9 =>
  (((if ¬ (o9 = true) then
  (f135 set0).bind fun o14 =>
  (app 8 o14 ([i_7])).bind fun l_16 =>
  ((rec l_16 (w64 (i_7 + 1)) c x_6 c4)).bind fun o18 =>
  some o18
  else
  some x_6) : Option (List (List Int)))).bind fun x_20 =>
  some (.inl (x_20, w64 (i_7 + 1)))
  else
  some (.inr x_6)
def f264 : Nat → (List Int) → Int → Int → (List (List Int)) → Database → Option (List (List Int))
 | 0 => fun _ _ _ _ _ => none
 | n + 1 => fun set0 from1 c c3 c4 =>
  if (set0.length : Int) = c then
  (app 8 ([]) set0).bind fun l_2 =>
  (app 24 c3 ([l_2])).bind fun l_4 =>
  some l_4
  else
  (iter ((f264_0 set0 c c4 (f264 n))) (c3, from1)).bind fun x_23 =>
  some x_23
def f243 (db : Database) (size : Int) : Option (List (List Int)) :=
 ((f264 64 ([] : (List Int)) 0 size ([]) db)).bind fun o1 =>
 some o1
def f204_0 (db : Database) (size : Int) : (List (List Int)) × Int → Option (((List (List Int)) × Int) ⊕ (List (List Int)))
 | (out_9, x_10) =>
  if x_10 < (w64 (size + 1)) then
  (f243 db x_10).bind fun o12 =>
  (app 24 out_9 o12).bind fun l_14 =>
  some (.inl (l_14, w64 (x_10 + 1)))
  else
  some (.inr out_9)
def f204 (db : Database) (size : Int) : Option (List (List Int)) :=
 (f79 db).bind fun o1 =>
 (((if ¬ (o1 = true) then
 some true
 else
 (f122 size 0 3).bind fun o6 =>
 some (decide (¬ (o6 = true)))) : Option (Bool))).bind fun x_3 =>
 if x_3 = true then
 some ([])
 else
 (iter (f204_0 db size) ([], 0)).bind fun out_18 =>
 some out_18
def f194_0 (s0 : (List (List Int))) (f : (List Int) → Option Bool) : Int → Option (Int ⊕ (Unit ⊕ Int))
 | x_1 =>
  if x_1 < (s0.length : Int) then
  (ix s0 x_1).bind fun v_3 =>
  (f v_3).bind fun o5 =>
  if o5 = true then
  some (.inr (.inr x_1))
  else
  some (.inl (w64 (x_1 + 1)))
  else
  some (.inr (.inl ()))
def f194 (s0 : (List (List Int))) (f : (List Int) → Option Bool) : Option Int :=
 (iter (f194_0 s0 f) 0).bind fun o => match o with
 | .inl _ =>
 some (-1)
 | .inr x_10 =>
 some x_10
def f137 (s0 : (List (List Int))) (f : (List Int) → Option Bool) : Option Bool :=
 (f194 s0 f).bind fun o1 =>
 some (decide (o1 ≥ 0))
def f182_0 (s0 : (List Int)) (v : Int) : Int → Option (Int ⊕ (Unit ⊕ Int))
 | x_1 =>
  if x_1 < (s0.length : Int) then
  (ix s0 x_1).bind fun v_3 =>
  if v = v_3 then
  some (.inr (.inr x_1))
  else
  some (.inl (w64 (x_1 + 1)))
  else
  some (.inr (.inl ()))
def f182 (s0 : (List Int)) (v : Int) : Option Int :=
 (iter (f182_0 s0 v) 0).bind fun o => match o with
 | .inl _ =>
 some (-1)
 | .inr x_8 =>
 some x_8
def f125 (s0 : (List Int)) (v : Int) : Option Bool :=
 (f182 s0 v).bind fun o1 =>
 some (decide (o1 ≥ 0))
def f195 (n0 : Int) (c : (List Int)) : Option Bool :=
 (f125 c n0).bind fun o1 =>
 some (decide (¬ (o1 = true)))
def f139 (a : (List Int)) (b : (List Int)) : Option Bool :=
 (f159 a (fun x0 => f195 x0 b)).bind fun o1 =>
 some (decide (¬ (o1 = true)))
def f138 (own : (List Int)) (c : (List Int)) : Option Bool :=
 (f139 own c).bind fun o1 =>
 some o1
def f62 (sets : (List (List Int))) (set1 : (List Int)) : Option Bool :=
 (f137 sets (fun x0 => f138 x0 set1)).bind fun o1 =>
 some o1
def f244 (set0 : (List Int)) (fact : Int) : Option (List Int) :=
 (f104 set0 ([fact])).bind fun o1 =>
 some o1
def f206_0 (known : (List (List Int))) (set1 : (List Int)) (block : (List Int)) : Int → Option (Int ⊕ (Unit ⊕ Bool))
 | x_1 =>
  if x_1 < (block.length : Int) then
  (ix block x_1).bind fun v_3 =>
  (f125 set1 v_3).bind fun o5 =>
  (((if o5 = true then
  some true
  else
  (f244 set1 v_3).bind fun o10 =>
  (f62 known o10).bind fun o12 =>
  some (decide (¬ (o12 = true)))) : Option (Bool))).bind fun x_7 =>
  if x_7 = true then
  some (.inr (.inr false))
  else
  some (.inl (w64 (x_1 + 1)))
  else
  some (.inr (.inl ()))
def f206 (known : (List (List Int))) (set1 : (List Int)) (block : (List Int)) : Option Bool :=
 (iter (f206_0 known set1 block) 0).bind fun o => match o with
 | .inl _ =>
 some true
 | .inr x_17 =>
 some x_17
def f205 (block : (List Int)) (c : (List (List Int))) (c2 : (List Int)) : Option Bool :=
 (f206 c c2 block).bind fun o1 =>
 some o1
def f146_0 (o4 : (List (List Int))) (o8 : (List (List Int))) : (List (List Int)) × (List (List Int)) × Int → Option (((List (List Int)) × (List (List Int)) × Int) ⊕ ((List (List Int)) × (List (List Int))))
 | (known_10, others_11, x_12) =>
  if x_12 < (o8.length : Int) then
  (ix o8 x_12).bind fun v_14 =>
  (f62 o4 v_14).bind fun o16 =>
  (((if o16 = true then
  (app 24 known_10 ([v_14])).bind fun l_21 =>
  some (l_21, others_11)
  else
  (app 24 others_11 ([v_14])).bind fun l_23 =>
  some (known_10, l_23)) : Option ((List (List Int)) × (List (List Int))))).bind fun (known_25, others_26) =>
  some (.inl (known_25, others_26, w64 (x_12 + 1)))
  else
  some (.inr (known_10, others_11))
def f146_2 (o6 : (List (List Int))) (others_32 : (List (List Int))) : (List (List Int)) × (List (List Int)) × Int → Option (((List (List Int)) × (List (List Int)) × Int) ⊕ ((List (List Int)) × (List (List Int))))
 | (known_33, rest_34, x_35) =>
  if x_35 < (others_32.length : Int) then
  (ix others_32 x_35).bind fun v_37 =>
  (f137 o6 (fun x0 => f205 x0 known_33 v_37)).bind fun o39 =>
  (((if o39 = true then
  (app 24 known_33 ([v_37])).bind fun l_44 =>
  some (l_44, rest_34)
  else
  (app 24 rest_34 ([v_37])).bind fun l_46 =>
  some (known_33, l_46)) : Option ((List (List Int)) × (List (List Int))))).bind fun (known_48, rest_49) =>
  some (.inl (known_48, rest_49, w64 (x_35 + 1)))
  else
  some (.inr (known_33, rest_34))
def f146_1 (o6 : (List (List Int))) : (List (List Int)) × (List (List Int)) → Option (((List (List Int)) × (List (List Int))) ⊕ (List (List Int)))
 | (known_31, others_32) =>
  (iter (f146_2 o6 others_32) (known_31, [], 0)).bind fun (known_52, rest_53) =>
  if (rest_53.length : Int) = (others_32.length : Int) then
  some (.inr known_52)
  else
  some (.inl (known_52, rest_53))
def f146 (db : Database) (query : Query) : Option (List (List Int)) :=
 (f90 db query).bind fun o1 =>
 if ¬ (o1 = true) then
 some ([])
 else
 (f63 db query).bind fun o4 =>
 (f83 db).bind fun o6 =>
 (f204 db (query.Atoms.length : Int)).bind fun o8 =>
 (iter ((f146_0 o4 o8)) ([], [], 0)).bind fun (known_29, others_30) =>
 (iter (f146_1 o6) (known_29, others_30)).bind fun x_57 =>
 some x_57
def f147 (set0 : (List Int)) : Option Bool :=
 some (decide ((set0.length : Int) = 0))
def f70 (db : Database) (query : Query) : Option Bool :=
 (f146 db query).bind fun o1 =>
 (f137 o1 (fun x0 => f147 x0)).bind fun o3 =>
 some o3
def f107 (a : Relation) (b : Relation) : Option Bool :=
 if a.Name ≠ b.Name then
 some false
 else
 if a.Arity ≠ b.Arity then
 some false
 else
 if a.KeyLength ≠ b.KeyLength then
 some false
 else
 some true
def f30_0 (a : (List Relation)) (b : (List Relation)) : Int → Option (Int ⊕ (Unit ⊕ Bool))
 | i_2 =>
  if i_2 < (a.length : Int) then
  (ix a i_2).bind fun v_4 =>
  (ix b i_2).bind fun v_6 =>
  (f107 v_4 v_6).bind fun o8 =>
  if ¬ (o8 = true) then
  some (.inr (.inr false))
  else
  some (.inl (w64 (i_2 + 1)))
  else
  some (.inr (.inl ()))
def f30 (a : (List Relation)) (b : (List Relation)) : Option Bool :=
 if (a.length : Int) ≠ (b.length : Int) then
 some false
 else
 (iter (f30_0 a b) 0).bind fun o => match o with
 | .inl _ =>
 some true
 | .inr x_13 =>
 some x_13
def f20_0 (a : (List Int)) (b : (List Int)) : Int → Option (Int ⊕ (Unit ⊕ Bool))
 | i_2 =>
  if i_2 < (a.length : Int) then
  (ix a i_2).bind fun v_4 =>
  (ix b i_2).bind fun v_6 =>
  if v_4 ≠ v_6 then
  some (.inr (.inr false))
  else
  some (.inl (w64 (i_2 + 1)))
  else
  some (.inr (.inl ()))
def f20 (a : (List Int)) (b : (List Int)) : Option Bool :=
 if (a.length : Int) ≠ (b.length : Int) then
 some false
 else
 (iter (f20_0 a b) 0).bind fun o => match o with
 | .inl _ =>
 some true
 | .inr x_11 =>
 some x_11
def f163 (a : Fact) (b : Fact) : Option Bool :=
 if a.Relation ≠ b.Relation then
 some false
 else
 (f20 a.Values b.Values).bind fun o2 =>
 if ¬ (o2 = true) then
 some false
 else
 some true
def f84_0 (a : (List Fact)) (b : (List Fact)) : Int → Option (Int ⊕ (Unit ⊕ Bool))
 | i_2 =>
  if i_2 < (a.length : Int) then
  (ix a i_2).bind fun v_4 =>
  (ix b i_2).bind fun v_6 =>
  (f163 v_4 v_6).bind fun o8 =>
  if ¬ (o8 = true) then
  some (.inr (.inr false))
  else
  some (.inl (w64 (i_2 + 1)))
  else
  some (.inr (.inl ()))
def f84 (a : (List Fact)) (b : (List Fact)) : Option Bool :=
 if (a.length : Int) ≠ (b.length : Int) then
 some false
 else
 (iter (f84_0 a b) 0).bind fun o => match o with
 | .inl _ =>
 some true
 | .inr x_13 =>
 some x_13
def f18 (a : Database) (b : Database) : Option Bool :=
 (f30 a.Relations b.Relations).bind fun o1 =>
 if ¬ (o1 = true) then
 some false
 else
 (f84 a.Facts b.Facts).bind fun o4 =>
 if ¬ (o4 = true) then
 some false
 else
 some true
def f164 (a : Atom) (b : Atom) : Option Bool :=
 if a.Relation ≠ b.Relation then
 some false
 else
 (f20 a.Terms b.Terms).bind fun o2 =>
 if ¬ (o2 = true) then
 some false
 else
 some true
def f91_0 (a : (List Atom)) (b : (List Atom)) : Int → Option (Int ⊕ (Unit ⊕ Bool))
 | i_2 =>
  if i_2 < (a.length : Int) then
  (ix a i_2).bind fun v_4 =>
  (ix b i_2).bind fun v_6 =>
  (f164 v_4 v_6).bind fun o8 =>
  if ¬ (o8 = true) then
  some (.inr (.inr false))
  else
  some (.inl (w64 (i_2 + 1)))
  else
  some (.inr (.inl ()))
def f91 (a : (List Atom)) (b : (List Atom)) : Option Bool :=
 if (a.length : Int) ≠ (b.length : Int) then
 some false
 else
 (iter (f91_0 a b) 0).bind fun o => match o with
 | .inl _ =>
 some true
 | .inr x_13 =>
 some x_13
def f25 (a : Query) (b : Query) : Option Bool :=
 if a.VariableCount ≠ b.VariableCount then
 some false
 else
 (f91 a.Atoms b.Atoms).bind fun o2 =>
 if ¬ (o2 = true) then
 some false
 else
 (f20 a.Free b.Free).bind fun o5 =>
 if ¬ (o5 = true) then
 some false
 else
 some true
def f10 (aDb : Database) (aQuery : Query) : Option Bool :=
 (f11 aDb 1048576).bind fun o1 =>
 if o1 < 0 then
 some true
 else
 (f21 aQuery o1).bind fun o4 =>
 if o4 < 0 then
 some true
 else
 (f14 aDb).bind fun o7 =>
 (f23 aQuery).bind fun o9 =>
 (f69 o7 o9).bind fun o11 =>
 (f14 aDb).bind fun o13 =>
 (f23 aQuery).bind fun o15 =>
 (f70 o13 o15).bind fun o17 =>
 if (o17 != o11) = true then
 some false
 else
 (f14 aDb).bind fun o20 =>
 (f18 o13 o20).bind fun o22 =>
 if ¬ (o22 = true) then
 some false
 else
 (f23 aQuery).bind fun o25 =>
 (f25 o15 o25).bind fun o27 =>
 if ¬ (o27 = true) then
 some false
 else
 some true
end
end Go.Proofs.YtcllfkplpdppiaaGreatH
