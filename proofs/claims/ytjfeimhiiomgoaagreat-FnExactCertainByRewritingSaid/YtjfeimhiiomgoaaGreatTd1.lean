import Derived.Test.YtjfeimhiiomgoaaGreatX4
set_option linter.unusedVariables false
set_option linter.unusedSimpArgs false
set_option linter.defProp false
set_option linter.unusedSectionVars false
set_option maxRecDepth 100000
namespace Go.Proofs.YtjfeimhiiomgoaaGreatH
open Go
noncomputable section
structure Relation where
 Name : (List UInt8)
 Arity : Int
 KeyLength : Int
 deriving DecidableEq, Inhabited
def eRelation : En Relation := ⟨3, fun _ a => [(.str a.Name), (.int .i64 a.Arity), (.int .i64 a.KeyLength)], fun b a => by cases b <;> rfl, by decide, fun b a => by cases b <;> simp [T.frz], fun a => by simp, fun a => by simp, fun b a => by cases b <;> simp⟩
@[simp] theorem eRelation_w : eRelation.w = 3 := rfl
@[simp] theorem eRelation_ct {a : Relation} : eRelation.c true a = [(.str a.Name), (.int .i64 a.Arity), (.int .i64 a.KeyLength)] := rfl
@[simp] theorem eRelation_cf {a : Relation} : eRelation.c false a = [(.str a.Name), (.int .i64 a.Arity), (.int .i64 a.KeyLength)] := rfl
@[simp] theorem arrRelation_len {b : Bool} {l : List Relation} : (arr eRelation b l).length = l.length * 3 := arr_len
@[simp] theorem eRelation_e (a : Relation) : Relation.mk a.Name a.Arity a.KeyLength = a := rfl
@[simp] def q0Relation {b l i o} := @arr_get2 _ eRelation b l i o 3 rfl
@[simp] def q1Relation {b l i} := @arr_get20 _ eRelation b l i 3 rfl
@[simp] def q2Relation {b l o} := @arr_get0 _ eRelation b l o 3 rfl
@[simp] def q3Relation {b l} := @arr_take0 _ eRelation b l 3 rfl
@[simp] def q4Relation {b l i o} := @arr_part _ eRelation b l i o 3 rfl
@[simp] def q5Relation {b l i o j} := @arr_part2 _ eRelation b l i o 3 j rfl
@[simp] def q6Relation {b l} := @arr_at2 _ eRelation b l 3 rfl
@[simp] def q7Relation {b l} := @arr_take2 _ eRelation b l 3 rfl
@[simp] def q8Relation {b l l' bs y} := @appT_w _ eRelation b l l' bs y 3 rfl
@[simp] def q10Relation {z0 z1 z2 n} := @rep_w _ eRelation true n ⟨z0, z1, z2⟩ [(.str z0), (.int .i64 z1), (.int .i64 z2)] rfl
@[simp] def q71Relation {b l} := @arr_tl _ eRelation b l 3 rfl
@[simp] def q70Relation {b l i} := @arr_tk _ eRelation b l i 3 rfl
@[simp] theorem q40Relation {b : Bool} {l' : List Relation} {bs : Nat} {y : Bool} (hb : bs ≠ 0) : appT 3 bs (.sl true y 3 0 []) (arr eRelation b l') = (app bs [] l').map fun v => .sl true y 3 0 (arr eRelation true v) := appT_w0 (E := eRelation) (b := b) rfl hb
@[simp] theorem q50Relation {l : List Relation} {i : Nat} {z : (List UInt8)} (h : i < l.length) : layT (arr eRelation true l) (i * 3) 1 [(.str z)] = arr eRelation true (l.set i ⟨z, (l[i]?.getD default).Arity, (l[i]?.getD default).KeyLength⟩) := by rw [List.getElem?_eq_getElem h]; exact lay_cell (E := eRelation) (b := true) (i := i) (o := 0) ⟨z, l[i].Arity, l[i].KeyLength⟩ (List.getElem?_eq_getElem h) (by decide) rfl
@[simp] theorem q60Relation {l : List Relation} {i : Nat} {z : (List UInt8)} (h : i < l.length) : (arr eRelation true l).set (i * 3) (.str z) = arr eRelation true (l.set i ⟨z, (l[i]?.getD default).Arity, (l[i]?.getD default).KeyLength⟩) := by rw [List.getElem?_eq_getElem h]; exact set_cell (E := eRelation) (b := true) (i := i) (o := 0) ⟨z, l[i].Arity, l[i].KeyLength⟩ (List.getElem?_eq_getElem h) (by decide) rfl
@[simp] theorem q51Relation {l : List Relation} {i : Nat} {z : Int} (h : i < l.length) : layT (arr eRelation true l) (i * 3 + 1) 1 [(.int .i64 z)] = arr eRelation true (l.set i ⟨(l[i]?.getD default).Name, z, (l[i]?.getD default).KeyLength⟩) := by rw [List.getElem?_eq_getElem h]; exact lay_cell (E := eRelation) (b := true) (i := i) (o := 1) ⟨l[i].Name, z, l[i].KeyLength⟩ (List.getElem?_eq_getElem h) (by decide) rfl
@[simp] theorem q61Relation {l : List Relation} {i : Nat} {z : Int} (h : i < l.length) : (arr eRelation true l).set (i * 3 + 1) (.int .i64 z) = arr eRelation true (l.set i ⟨(l[i]?.getD default).Name, z, (l[i]?.getD default).KeyLength⟩) := by rw [List.getElem?_eq_getElem h]; exact set_cell (E := eRelation) (b := true) (i := i) (o := 1) ⟨l[i].Name, z, l[i].KeyLength⟩ (List.getElem?_eq_getElem h) (by decide) rfl
@[simp] theorem q52Relation {l : List Relation} {i : Nat} {z : Int} (h : i < l.length) : layT (arr eRelation true l) (i * 3 + 2) 1 [(.int .i64 z)] = arr eRelation true (l.set i ⟨(l[i]?.getD default).Name, (l[i]?.getD default).Arity, z⟩) := by rw [List.getElem?_eq_getElem h]; exact lay_cell (E := eRelation) (b := true) (i := i) (o := 2) ⟨l[i].Name, l[i].Arity, z⟩ (List.getElem?_eq_getElem h) (by decide) rfl
@[simp] theorem q62Relation {l : List Relation} {i : Nat} {z : Int} (h : i < l.length) : (arr eRelation true l).set (i * 3 + 2) (.int .i64 z) = arr eRelation true (l.set i ⟨(l[i]?.getD default).Name, (l[i]?.getD default).Arity, z⟩) := by rw [List.getElem?_eq_getElem h]; exact set_cell (E := eRelation) (b := true) (i := i) (o := 2) ⟨l[i].Name, l[i].Arity, z⟩ (List.getElem?_eq_getElem h) (by decide) rfl
@[simp] def q20Relation {b z0 z1 z2 l bs y} := @appT_1w _ eRelation b l bs y 3 rfl ⟨z0, z1, z2⟩ [(.str z0), (.int .i64 z1), (.int .i64 z2)] rfl
@[simp] def q23Relation {b z0 z1 z2 l' bs y} := @appT_11 _ eRelation b l' bs y 3 rfl ⟨z0, z1, z2⟩ [(.str z0), (.int .i64 z1), (.int .i64 z2)] rfl
@[simp] def q22Relation {b z0 z1 z2 bs y} := @appT_10 _ eRelation b bs y 3 rfl ⟨z0, z1, z2⟩ [(.str z0), (.int .i64 z1), (.int .i64 z2)] rfl
@[simp] def q21Relation {b z0 z1 z2 l i} := @lay_w _ eRelation b l i 3 rfl ⟨z0, z1, z2⟩ [(.str z0), (.int .i64 z1), (.int .i64 z2)] rfl
structure Fact where
 Relation : Int
 Values : (List Int)
 deriving DecidableEq, Inhabited
def eFact : En Fact := ⟨2, fun b a => if b then [(.int .i64 a.Relation), (osl eI true a.Values)] else [(.int .i64 a.Relation), (ssl eI a.Values)], fun b a => by cases b <;> rfl, by decide, fun b a => by cases b <;> simp [T.frz], fun a => by simp, fun a => by simp, fun b a => by cases b <;> simp⟩
@[simp] theorem eFact_w : eFact.w = 2 := rfl
@[simp] theorem eFact_ct {a : Fact} : eFact.c true a = [(.int .i64 a.Relation), (osl eI true a.Values)] := rfl
@[simp] theorem eFact_cf {a : Fact} : eFact.c false a = [(.int .i64 a.Relation), (ssl eI a.Values)] := rfl
@[simp] theorem arrFact_len {b : Bool} {l : List Fact} : (arr eFact b l).length = l.length * 2 := arr_len
@[simp] theorem eFact_e (a : Fact) : Fact.mk a.Relation a.Values = a := rfl
@[simp] def q0Fact {b l i o} := @arr_get2 _ eFact b l i o 2 rfl
@[simp] def q1Fact {b l i} := @arr_get20 _ eFact b l i 2 rfl
@[simp] def q2Fact {b l o} := @arr_get0 _ eFact b l o 2 rfl
@[simp] def q3Fact {b l} := @arr_take0 _ eFact b l 2 rfl
@[simp] def q4Fact {b l i o} := @arr_part _ eFact b l i o 2 rfl
@[simp] def q5Fact {b l i o j} := @arr_part2 _ eFact b l i o 2 j rfl
@[simp] def q6Fact {b l} := @arr_at2 _ eFact b l 2 rfl
@[simp] def q7Fact {b l} := @arr_take2 _ eFact b l 2 rfl
@[simp] def q8Fact {b l l' bs y} := @appT_w _ eFact b l l' bs y 2 rfl
@[simp] def q10Fact {z0 z1 n} := @rep_w _ eFact true n ⟨z0, z1⟩ [(.int .i64 z0), (.sl true true 1 0 (arr eI true z1))] rfl
@[simp] def q71Fact {b l} := @arr_tl _ eFact b l 2 rfl
@[simp] def q70Fact {b l i} := @arr_tk _ eFact b l i 2 rfl
@[simp] def q40Fact {b l' bs y} := @appT_w0 _ eFact b l' bs y 2 rfl
@[simp] theorem q50Fact {l : List Fact} {i : Nat} {z : Int} (h : i < l.length) : layT (arr eFact true l) (i * 2) 1 [(.int .i64 z)] = arr eFact true (l.set i ⟨z, (l[i]?.getD default).Values⟩) := by rw [List.getElem?_eq_getElem h]; exact lay_cell (E := eFact) (b := true) (i := i) (o := 0) ⟨z, l[i].Values⟩ (List.getElem?_eq_getElem h) (by decide) rfl
@[simp] theorem q60Fact {l : List Fact} {i : Nat} {z : Int} (h : i < l.length) : (arr eFact true l).set (i * 2) (.int .i64 z) = arr eFact true (l.set i ⟨z, (l[i]?.getD default).Values⟩) := by rw [List.getElem?_eq_getElem h]; exact set_cell (E := eFact) (b := true) (i := i) (o := 0) ⟨z, l[i].Values⟩ (List.getElem?_eq_getElem h) (by decide) rfl
@[simp] theorem q51Fact {l : List Fact} {i : Nat} {z : (List Int)} (h : i < l.length) : layT (arr eFact true l) (i * 2 + 1) 1 [(.sl true true 1 0 (arr eI true z))] = arr eFact true (l.set i ⟨(l[i]?.getD default).Relation, z⟩) := by rw [List.getElem?_eq_getElem h]; exact lay_cell (E := eFact) (b := true) (i := i) (o := 1) ⟨l[i].Relation, z⟩ (List.getElem?_eq_getElem h) (by decide) rfl
@[simp] theorem q61Fact {l : List Fact} {i : Nat} {z : (List Int)} (h : i < l.length) : (arr eFact true l).set (i * 2 + 1) (.sl true true 1 0 (arr eI true z)) = arr eFact true (l.set i ⟨(l[i]?.getD default).Relation, z⟩) := by rw [List.getElem?_eq_getElem h]; exact set_cell (E := eFact) (b := true) (i := i) (o := 1) ⟨l[i].Relation, z⟩ (List.getElem?_eq_getElem h) (by decide) rfl
@[simp] def q20Fact {z0 z1 l bs y} := @appT_1w _ eFact true l bs y 2 rfl ⟨z0, z1⟩ [(.int .i64 z0), (.sl true true 1 0 (arr eI true z1))] rfl
@[simp] def q23Fact {z0 z1 l' bs y} := @appT_11 _ eFact true l' bs y 2 rfl ⟨z0, z1⟩ [(.int .i64 z0), (.sl true true 1 0 (arr eI true z1))] rfl
@[simp] def q22Fact {z0 z1 bs y} := @appT_10 _ eFact true bs y 2 rfl ⟨z0, z1⟩ [(.int .i64 z0), (.sl true true 1 0 (arr eI true z1))] rfl
@[simp] def q21Fact {z0 z1 l i} := @lay_w _ eFact true l i 2 rfl ⟨z0, z1⟩ [(.int .i64 z0), (.sl true true 1 0 (arr eI true z1))] rfl
@[simp] def q30Fact {z0 z1 l bs y} := @appT_1w _ eFact false l bs y 2 rfl ⟨z0, z1⟩ [(.int .i64 z0), (.sl false false 1 1 (arr eI false z1))] rfl
@[simp] def q33Fact {z0 z1 l' bs y} := @appT_11 _ eFact false l' bs y 2 rfl ⟨z0, z1⟩ [(.int .i64 z0), (.sl false false 1 1 (arr eI false z1))] rfl
@[simp] def q32Fact {z0 z1 bs y} := @appT_10 _ eFact false bs y 2 rfl ⟨z0, z1⟩ [(.int .i64 z0), (.sl false false 1 1 (arr eI false z1))] rfl
@[simp] def q31Fact {z0 z1 l i} := @lay_w _ eFact false l i 2 rfl ⟨z0, z1⟩ [(.int .i64 z0), (.sl false false 1 1 (arr eI false z1))] rfl
structure Database where
 Relations : (List Relation)
 Facts : (List Fact)
 deriving DecidableEq, Inhabited
def eDatabase : En Database := ⟨2, fun b a => if b then [(osl eRelation true a.Relations), (osl eFact true a.Facts)] else [(ssl eRelation a.Relations), (ssl eFact a.Facts)], fun b a => by cases b <;> rfl, by decide, fun b a => by cases b <;> simp [T.frz], fun a => by simp, fun a => by simp, fun b a => by cases b <;> simp⟩
@[simp] theorem eDatabase_w : eDatabase.w = 2 := rfl
@[simp] theorem eDatabase_ct {a : Database} : eDatabase.c true a = [(osl eRelation true a.Relations), (osl eFact true a.Facts)] := rfl
@[simp] theorem eDatabase_cf {a : Database} : eDatabase.c false a = [(ssl eRelation a.Relations), (ssl eFact a.Facts)] := rfl
@[simp] theorem eDatabase_e (a : Database) : Database.mk a.Relations a.Facts = a := rfl
structure Atom where
 Relation : Int
 Terms : (List Int)
 deriving DecidableEq, Inhabited
def eAtom : En Atom := ⟨2, fun b a => if b then [(.int .i64 a.Relation), (osl eI true a.Terms)] else [(.int .i64 a.Relation), (ssl eI a.Terms)], fun b a => by cases b <;> rfl, by decide, fun b a => by cases b <;> simp [T.frz], fun a => by simp, fun a => by simp, fun b a => by cases b <;> simp⟩
@[simp] theorem eAtom_w : eAtom.w = 2 := rfl
@[simp] theorem eAtom_ct {a : Atom} : eAtom.c true a = [(.int .i64 a.Relation), (osl eI true a.Terms)] := rfl
@[simp] theorem eAtom_cf {a : Atom} : eAtom.c false a = [(.int .i64 a.Relation), (ssl eI a.Terms)] := rfl
@[simp] theorem arrAtom_len {b : Bool} {l : List Atom} : (arr eAtom b l).length = l.length * 2 := arr_len
@[simp] theorem eAtom_e (a : Atom) : Atom.mk a.Relation a.Terms = a := rfl
@[simp] def q0Atom {b l i o} := @arr_get2 _ eAtom b l i o 2 rfl
@[simp] def q1Atom {b l i} := @arr_get20 _ eAtom b l i 2 rfl
@[simp] def q2Atom {b l o} := @arr_get0 _ eAtom b l o 2 rfl
@[simp] def q3Atom {b l} := @arr_take0 _ eAtom b l 2 rfl
@[simp] def q4Atom {b l i o} := @arr_part _ eAtom b l i o 2 rfl
@[simp] def q5Atom {b l i o j} := @arr_part2 _ eAtom b l i o 2 j rfl
@[simp] def q6Atom {b l} := @arr_at2 _ eAtom b l 2 rfl
@[simp] def q7Atom {b l} := @arr_take2 _ eAtom b l 2 rfl
@[simp] def q8Atom {b l l' bs y} := @appT_w _ eAtom b l l' bs y 2 rfl
@[simp] def q10Atom {z0 z1 n} := @rep_w _ eAtom true n ⟨z0, z1⟩ [(.int .i64 z0), (.sl true true 1 0 (arr eI true z1))] rfl
@[simp] def q71Atom {b l} := @arr_tl _ eAtom b l 2 rfl
@[simp] def q70Atom {b l i} := @arr_tk _ eAtom b l i 2 rfl
@[simp] def q40Atom {b l' bs y} := @appT_w0 _ eAtom b l' bs y 2 rfl
@[simp] theorem q50Atom {l : List Atom} {i : Nat} {z : Int} (h : i < l.length) : layT (arr eAtom true l) (i * 2) 1 [(.int .i64 z)] = arr eAtom true (l.set i ⟨z, (l[i]?.getD default).Terms⟩) := by rw [List.getElem?_eq_getElem h]; exact lay_cell (E := eAtom) (b := true) (i := i) (o := 0) ⟨z, l[i].Terms⟩ (List.getElem?_eq_getElem h) (by decide) rfl
@[simp] theorem q60Atom {l : List Atom} {i : Nat} {z : Int} (h : i < l.length) : (arr eAtom true l).set (i * 2) (.int .i64 z) = arr eAtom true (l.set i ⟨z, (l[i]?.getD default).Terms⟩) := by rw [List.getElem?_eq_getElem h]; exact set_cell (E := eAtom) (b := true) (i := i) (o := 0) ⟨z, l[i].Terms⟩ (List.getElem?_eq_getElem h) (by decide) rfl
@[simp] theorem q51Atom {l : List Atom} {i : Nat} {z : (List Int)} (h : i < l.length) : layT (arr eAtom true l) (i * 2 + 1) 1 [(.sl true true 1 0 (arr eI true z))] = arr eAtom true (l.set i ⟨(l[i]?.getD default).Relation, z⟩) := by rw [List.getElem?_eq_getElem h]; exact lay_cell (E := eAtom) (b := true) (i := i) (o := 1) ⟨l[i].Relation, z⟩ (List.getElem?_eq_getElem h) (by decide) rfl
@[simp] theorem q61Atom {l : List Atom} {i : Nat} {z : (List Int)} (h : i < l.length) : (arr eAtom true l).set (i * 2 + 1) (.sl true true 1 0 (arr eI true z)) = arr eAtom true (l.set i ⟨(l[i]?.getD default).Relation, z⟩) := by rw [List.getElem?_eq_getElem h]; exact set_cell (E := eAtom) (b := true) (i := i) (o := 1) ⟨l[i].Relation, z⟩ (List.getElem?_eq_getElem h) (by decide) rfl
@[simp] def q20Atom {z0 z1 l bs y} := @appT_1w _ eAtom true l bs y 2 rfl ⟨z0, z1⟩ [(.int .i64 z0), (.sl true true 1 0 (arr eI true z1))] rfl
@[simp] def q23Atom {z0 z1 l' bs y} := @appT_11 _ eAtom true l' bs y 2 rfl ⟨z0, z1⟩ [(.int .i64 z0), (.sl true true 1 0 (arr eI true z1))] rfl
@[simp] def q22Atom {z0 z1 bs y} := @appT_10 _ eAtom true bs y 2 rfl ⟨z0, z1⟩ [(.int .i64 z0), (.sl true true 1 0 (arr eI true z1))] rfl
@[simp] def q21Atom {z0 z1 l i} := @lay_w _ eAtom true l i 2 rfl ⟨z0, z1⟩ [(.int .i64 z0), (.sl true true 1 0 (arr eI true z1))] rfl
@[simp] def q30Atom {z0 z1 l bs y} := @appT_1w _ eAtom false l bs y 2 rfl ⟨z0, z1⟩ [(.int .i64 z0), (.sl false false 1 1 (arr eI false z1))] rfl
@[simp] def q33Atom {z0 z1 l' bs y} := @appT_11 _ eAtom false l' bs y 2 rfl ⟨z0, z1⟩ [(.int .i64 z0), (.sl false false 1 1 (arr eI false z1))] rfl
@[simp] def q32Atom {z0 z1 bs y} := @appT_10 _ eAtom false bs y 2 rfl ⟨z0, z1⟩ [(.int .i64 z0), (.sl false false 1 1 (arr eI false z1))] rfl
@[simp] def q31Atom {z0 z1 l i} := @lay_w _ eAtom false l i 2 rfl ⟨z0, z1⟩ [(.int .i64 z0), (.sl false false 1 1 (arr eI false z1))] rfl
structure Query where
 VariableCount : Int
 Atoms : (List Atom)
 Free : (List Int)
 deriving DecidableEq, Inhabited
def eQuery : En Query := ⟨3, fun b a => if b then [(.int .i64 a.VariableCount), (osl eAtom true a.Atoms), (osl eI true a.Free)] else [(.int .i64 a.VariableCount), (ssl eAtom a.Atoms), (ssl eI a.Free)], fun b a => by cases b <;> rfl, by decide, fun b a => by cases b <;> simp [T.frz], fun a => by simp, fun a => by simp, fun b a => by cases b <;> simp⟩
@[simp] theorem eQuery_w : eQuery.w = 3 := rfl
@[simp] theorem eQuery_ct {a : Query} : eQuery.c true a = [(.int .i64 a.VariableCount), (osl eAtom true a.Atoms), (osl eI true a.Free)] := rfl
@[simp] theorem eQuery_cf {a : Query} : eQuery.c false a = [(.int .i64 a.VariableCount), (ssl eAtom a.Atoms), (ssl eI a.Free)] := rfl
@[simp] theorem eQuery_e (a : Query) : Query.mk a.VariableCount a.Atoms a.Free = a := rfl
structure RewritingStep where
 Atom : Atom
 Existential : (List Int)
 Universal : (List Int)
 deriving DecidableEq, Inhabited
def eRewritingStep : En RewritingStep := ⟨4, fun b a => if b then [(.int .i64 a.Atom.Relation), (osl eI true a.Atom.Terms), (osl eI true a.Existential), (osl eI true a.Universal)] else [(.int .i64 a.Atom.Relation), (ssl eI a.Atom.Terms), (ssl eI a.Existential), (ssl eI a.Universal)], fun b a => by cases b <;> rfl, by decide, fun b a => by cases b <;> simp [T.frz], fun a => by simp, fun a => by simp, fun b a => by cases b <;> simp⟩
@[simp] theorem eRewritingStep_w : eRewritingStep.w = 4 := rfl
@[simp] theorem eRewritingStep_ct {a : RewritingStep} : eRewritingStep.c true a = [(.int .i64 a.Atom.Relation), (osl eI true a.Atom.Terms), (osl eI true a.Existential), (osl eI true a.Universal)] := rfl
@[simp] theorem eRewritingStep_cf {a : RewritingStep} : eRewritingStep.c false a = [(.int .i64 a.Atom.Relation), (ssl eI a.Atom.Terms), (ssl eI a.Existential), (ssl eI a.Universal)] := rfl
@[simp] theorem arrRewritingStep_len {b : Bool} {l : List RewritingStep} : (arr eRewritingStep b l).length = l.length * 4 := arr_len
@[simp] theorem eRewritingStep_e (a : RewritingStep) : RewritingStep.mk a.Atom a.Existential a.Universal = a := rfl
@[simp] def q0RewritingStep {b l i o} := @arr_get2 _ eRewritingStep b l i o 4 rfl
@[simp] def q1RewritingStep {b l i} := @arr_get20 _ eRewritingStep b l i 4 rfl
@[simp] def q2RewritingStep {b l o} := @arr_get0 _ eRewritingStep b l o 4 rfl
@[simp] def q3RewritingStep {b l} := @arr_take0 _ eRewritingStep b l 4 rfl
@[simp] def q4RewritingStep {b l i o} := @arr_part _ eRewritingStep b l i o 4 rfl
@[simp] def q5RewritingStep {b l i o j} := @arr_part2 _ eRewritingStep b l i o 4 j rfl
@[simp] def q6RewritingStep {b l} := @arr_at2 _ eRewritingStep b l 4 rfl
@[simp] def q7RewritingStep {b l} := @arr_take2 _ eRewritingStep b l 4 rfl
@[simp] def q8RewritingStep {b l l' bs y} := @appT_w _ eRewritingStep b l l' bs y 4 rfl
@[simp] def q10RewritingStep {z0a z0b z1 z2 n} := @rep_w _ eRewritingStep true n ⟨⟨z0a, z0b⟩, z1, z2⟩ [(.int .i64 z0a), (.sl true true 1 0 (arr eI true z0b)), (.sl true true 1 0 (arr eI true z1)), (.sl true true 1 0 (arr eI true z2))] rfl
@[simp] def q71RewritingStep {b l} := @arr_tl _ eRewritingStep b l 4 rfl
@[simp] def q70RewritingStep {b l i} := @arr_tk _ eRewritingStep b l i 4 rfl
@[simp] def q40RewritingStep {b l' bs y} := @appT_w0 _ eRewritingStep b l' bs y 4 rfl
@[simp] theorem q50aRewritingStep {l : List RewritingStep} {i : Nat} {z : Int} (h : i < l.length) : layT (arr eRewritingStep true l) (i * 4) 1 [(.int .i64 z)] = arr eRewritingStep true (l.set i ⟨⟨z, (l[i]?.getD default).Atom.Terms⟩, (l[i]?.getD default).Existential, (l[i]?.getD default).Universal⟩) := by rw [List.getElem?_eq_getElem h]; exact lay_cell (E := eRewritingStep) (b := true) (i := i) (o := 0) ⟨⟨z, l[i].Atom.Terms⟩, l[i].Existential, l[i].Universal⟩ (List.getElem?_eq_getElem h) (by decide) rfl
@[simp] theorem q60aRewritingStep {l : List RewritingStep} {i : Nat} {z : Int} (h : i < l.length) : (arr eRewritingStep true l).set (i * 4) (.int .i64 z) = arr eRewritingStep true (l.set i ⟨⟨z, (l[i]?.getD default).Atom.Terms⟩, (l[i]?.getD default).Existential, (l[i]?.getD default).Universal⟩) := by rw [List.getElem?_eq_getElem h]; exact set_cell (E := eRewritingStep) (b := true) (i := i) (o := 0) ⟨⟨z, l[i].Atom.Terms⟩, l[i].Existential, l[i].Universal⟩ (List.getElem?_eq_getElem h) (by decide) rfl
@[simp] theorem q50bRewritingStep {l : List RewritingStep} {i : Nat} {z : (List Int)} (h : i < l.length) : layT (arr eRewritingStep true l) (i * 4 + 1) 1 [(.sl true true 1 0 (arr eI true z))] = arr eRewritingStep true (l.set i ⟨⟨(l[i]?.getD default).Atom.Relation, z⟩, (l[i]?.getD default).Existential, (l[i]?.getD default).Universal⟩) := by rw [List.getElem?_eq_getElem h]; exact lay_cell (E := eRewritingStep) (b := true) (i := i) (o := 1) ⟨⟨l[i].Atom.Relation, z⟩, l[i].Existential, l[i].Universal⟩ (List.getElem?_eq_getElem h) (by decide) rfl
@[simp] theorem q60bRewritingStep {l : List RewritingStep} {i : Nat} {z : (List Int)} (h : i < l.length) : (arr eRewritingStep true l).set (i * 4 + 1) (.sl true true 1 0 (arr eI true z)) = arr eRewritingStep true (l.set i ⟨⟨(l[i]?.getD default).Atom.Relation, z⟩, (l[i]?.getD default).Existential, (l[i]?.getD default).Universal⟩) := by rw [List.getElem?_eq_getElem h]; exact set_cell (E := eRewritingStep) (b := true) (i := i) (o := 1) ⟨⟨l[i].Atom.Relation, z⟩, l[i].Existential, l[i].Universal⟩ (List.getElem?_eq_getElem h) (by decide) rfl
@[simp] theorem q51RewritingStep {l : List RewritingStep} {i : Nat} {z : (List Int)} (h : i < l.length) : layT (arr eRewritingStep true l) (i * 4 + 2) 1 [(.sl true true 1 0 (arr eI true z))] = arr eRewritingStep true (l.set i ⟨(l[i]?.getD default).Atom, z, (l[i]?.getD default).Universal⟩) := by rw [List.getElem?_eq_getElem h]; exact lay_cell (E := eRewritingStep) (b := true) (i := i) (o := 2) ⟨l[i].Atom, z, l[i].Universal⟩ (List.getElem?_eq_getElem h) (by decide) rfl
@[simp] theorem q61RewritingStep {l : List RewritingStep} {i : Nat} {z : (List Int)} (h : i < l.length) : (arr eRewritingStep true l).set (i * 4 + 2) (.sl true true 1 0 (arr eI true z)) = arr eRewritingStep true (l.set i ⟨(l[i]?.getD default).Atom, z, (l[i]?.getD default).Universal⟩) := by rw [List.getElem?_eq_getElem h]; exact set_cell (E := eRewritingStep) (b := true) (i := i) (o := 2) ⟨l[i].Atom, z, l[i].Universal⟩ (List.getElem?_eq_getElem h) (by decide) rfl
@[simp] theorem q52RewritingStep {l : List RewritingStep} {i : Nat} {z : (List Int)} (h : i < l.length) : layT (arr eRewritingStep true l) (i * 4 + 3) 1 [(.sl true true 1 0 (arr eI true z))] = arr eRewritingStep true (l.set i ⟨(l[i]?.getD default).Atom, (l[i]?.getD default).Existential, z⟩) := by rw [List.getElem?_eq_getElem h]; exact lay_cell (E := eRewritingStep) (b := true) (i := i) (o := 3) ⟨l[i].Atom, l[i].Existential, z⟩ (List.getElem?_eq_getElem h) (by decide) rfl
@[simp] theorem q62RewritingStep {l : List RewritingStep} {i : Nat} {z : (List Int)} (h : i < l.length) : (arr eRewritingStep true l).set (i * 4 + 3) (.sl true true 1 0 (arr eI true z)) = arr eRewritingStep true (l.set i ⟨(l[i]?.getD default).Atom, (l[i]?.getD default).Existential, z⟩) := by rw [List.getElem?_eq_getElem h]; exact set_cell (E := eRewritingStep) (b := true) (i := i) (o := 3) ⟨l[i].Atom, l[i].Existential, z⟩ (List.getElem?_eq_getElem h) (by decide) rfl
@[simp] def q20RewritingStep {z0a z0b z1 z2 l bs y} := @appT_1w _ eRewritingStep true l bs y 4 rfl ⟨⟨z0a, z0b⟩, z1, z2⟩ [(.int .i64 z0a), (.sl true true 1 0 (arr eI true z0b)), (.sl true true 1 0 (arr eI true z1)), (.sl true true 1 0 (arr eI true z2))] rfl
@[simp] def q23RewritingStep {z0a z0b z1 z2 l' bs y} := @appT_11 _ eRewritingStep true l' bs y 4 rfl ⟨⟨z0a, z0b⟩, z1, z2⟩ [(.int .i64 z0a), (.sl true true 1 0 (arr eI true z0b)), (.sl true true 1 0 (arr eI true z1)), (.sl true true 1 0 (arr eI true z2))] rfl
@[simp] def q22RewritingStep {z0a z0b z1 z2 bs y} := @appT_10 _ eRewritingStep true bs y 4 rfl ⟨⟨z0a, z0b⟩, z1, z2⟩ [(.int .i64 z0a), (.sl true true 1 0 (arr eI true z0b)), (.sl true true 1 0 (arr eI true z1)), (.sl true true 1 0 (arr eI true z2))] rfl
@[simp] def q21RewritingStep {z0a z0b z1 z2 l i} := @lay_w _ eRewritingStep true l i 4 rfl ⟨⟨z0a, z0b⟩, z1, z2⟩ [(.int .i64 z0a), (.sl true true 1 0 (arr eI true z0b)), (.sl true true 1 0 (arr eI true z1)), (.sl true true 1 0 (arr eI true z2))] rfl
@[simp] def q30RewritingStep {z0a z0b z1 z2 l bs y} := @appT_1w _ eRewritingStep false l bs y 4 rfl ⟨⟨z0a, z0b⟩, z1, z2⟩ [(.int .i64 z0a), (.sl false false 1 1 (arr eI false z0b)), (.sl false false 1 1 (arr eI false z1)), (.sl false false 1 1 (arr eI false z2))] rfl
@[simp] def q33RewritingStep {z0a z0b z1 z2 l' bs y} := @appT_11 _ eRewritingStep false l' bs y 4 rfl ⟨⟨z0a, z0b⟩, z1, z2⟩ [(.int .i64 z0a), (.sl false false 1 1 (arr eI false z0b)), (.sl false false 1 1 (arr eI false z1)), (.sl false false 1 1 (arr eI false z2))] rfl
@[simp] def q32RewritingStep {z0a z0b z1 z2 bs y} := @appT_10 _ eRewritingStep false bs y 4 rfl ⟨⟨z0a, z0b⟩, z1, z2⟩ [(.int .i64 z0a), (.sl false false 1 1 (arr eI false z0b)), (.sl false false 1 1 (arr eI false z1)), (.sl false false 1 1 (arr eI false z2))] rfl
@[simp] def q31RewritingStep {z0a z0b z1 z2 l i} := @lay_w _ eRewritingStep false l i 4 rfl ⟨⟨z0a, z0b⟩, z1, z2⟩ [(.int .i64 z0a), (.sl false false 1 1 (arr eI false z0b)), (.sl false false 1 1 (arr eI false z1)), (.sl false false 1 1 (arr eI false z2))] rfl
@[simp] theorem q81Atom {l : List Atom} {z : (List Int)} (h : 0 < l.length) : layT (arr eAtom true l) 1 1 [(.sl true true 1 0 (arr eI true z))] = arr eAtom true (l.set 0 ⟨(l[0]?.getD default).Relation, z⟩) := q51Atom (i := 0) h
@[simp] theorem q91Atom {l : List Atom} {z : (List Int)} (h : 0 < l.length) : (arr eAtom true l).set 1 (.sl true true 1 0 (arr eI true z)) = arr eAtom true (l.set 0 ⟨(l[0]?.getD default).Relation, z⟩) := q61Atom (i := 0) h
@[simp] def q92Atom {z0 x0 x1 l bs y} := @appT_1w _ eAtom true l bs y 2 rfl ⟨z0, [x0, x1]⟩ [(.int .i64 z0), (.sl true true 1 0 [(.int .i64 x0), (.int .i64 x1)])] rfl
def f39 (a : Relation) (left : Int) : Option Int :=
 if (w64 (left - (a.Name.length : Int))) < 0 then
 some (-1)
 else
 some (w64 (left - (a.Name.length : Int)))
def f6_0 (a : (List Relation)) : Int × Int -> Option ((Int × Int) ⊕ (Int ⊕ Int))
 | (left_2, i_3) =>
  if i_3 < (a.length : Int) then
  (ix a i_3).bind fun v_5 =>
  (f39 v_5 left_2).bind fun o7 =>
  if o7 < 0 then
  some (.inr (.inr (-1)))
  else
  some (.inl (o7, w64 (i_3 + 1)))
  else
  some (.inr (.inl left_2))
def f6 (a : (List Relation)) (left : Int) : Option Int :=
 if (w64 (left - (a.length : Int))) < 0 then
 some (-1)
 else
 (iter (f6_0 a) (w64 (left - (a.length : Int)), 0)).bind fun o => match o with
 | .inl left_12 =>
 some left_12
 | .inr x_13 =>
 some x_13
def f41 (a : (List Int)) (left : Int) : Option Int :=
 if (w64 (left - (a.length : Int))) < 0 then
 some (-1)
 else
 some (w64 (left - (a.length : Int)))
def f126 (a : Fact) (left : Int) : Option Int :=
 (f41 a.Values left).bind fun o1 =>
 if o1 < 0 then
 some (-1)
 else
 some o1
def f68_0 (a : (List Fact)) : Int × Int -> Option ((Int × Int) ⊕ (Int ⊕ Int))
 | (left_2, i_3) =>
  if i_3 < (a.length : Int) then
  (ix a i_3).bind fun v_5 =>
  (f126 v_5 left_2).bind fun o7 =>
  if o7 < 0 then
  some (.inr (.inr (-1)))
  else
  some (.inl (o7, w64 (i_3 + 1)))
  else
  some (.inr (.inl left_2))
def f68 (a : (List Fact)) (left : Int) : Option Int :=
 if (w64 (left - (a.length : Int))) < 0 then
 some (-1)
 else
 (iter (f68_0 a) (w64 (left - (a.length : Int)), 0)).bind fun o => match o with
 | .inl left_12 =>
 some left_12
 | .inr x_13 =>
 some x_13
def f19 (a : Database) (left : Int) : Option Int :=
 (f6 a.Relations left).bind fun o1 =>
 if o1 < 0 then
 some (-1)
 else
 (f68 a.Facts o1).bind fun o4 =>
 if o4 < 0 then
 some (-1)
 else
 some o4
def f104 (a : Atom) (left : Int) : Option Int :=
 (f41 a.Terms left).bind fun o1 =>
 if o1 < 0 then
 some (-1)
 else
 some o1
def f40_0 (a : (List Atom)) : Int × Int -> Option ((Int × Int) ⊕ (Int ⊕ Int))
 | (left_2, i_3) =>
  if i_3 < (a.length : Int) then
  (ix a i_3).bind fun v_5 =>
  (f104 v_5 left_2).bind fun o7 =>
  if o7 < 0 then
  some (.inr (.inr (-1)))
  else
  some (.inl (o7, w64 (i_3 + 1)))
  else
  some (.inr (.inl left_2))
def f40 (a : (List Atom)) (left : Int) : Option Int :=
 if (w64 (left - (a.length : Int))) < 0 then
 some (-1)
 else
 (iter (f40_0 a) (w64 (left - (a.length : Int)), 0)).bind fun o => match o with
 | .inl left_12 =>
 some left_12
 | .inr x_13 =>
 some x_13
def f7 (a : Query) (left : Int) : Option Int :=
 (f40 a.Atoms left).bind fun o1 =>
 if o1 < 0 then
 some (-1)
 else
 (f41 a.Free o1).bind fun o4 =>
 if o4 < 0 then
 some (-1)
 else
 some o4
def f48 (a : Relation) : Option Relation :=
 some a
def f9_0 (a : (List Relation)) : (List Relation) × Int -> Option (((List Relation) × Int) ⊕ (List Relation))
 | (out_3, i_4) =>
  if i_4 < (a.length : Int) then
  (ix a i_4).bind fun v_6 =>
  (f48 v_6).bind fun o8 =>
  (ix out_3 i_4).bind fun v_10 =>
  some (.inl ((out_3.set i_4.toNat o8), w64 (i_4 + 1)))
  else
  some (.inr out_3)
def f9 (a : (List Relation)) : Option (List Relation) :=
 (mkl 32 (a.length : Int) ({ Name := [], Arity := 0, KeyLength := 0 } : Relation)).bind fun l_1 =>
 (iter (f9_0 a) (l_1, 0)).bind fun out_15 =>
 some out_15
def f50_0 (a : (List Int)) : (List Int) × Int -> Option (((List Int) × Int) ⊕ (List Int))
 | (out_3, i_4) =>
  if i_4 < (a.length : Int) then
  (ix a i_4).bind fun v_6 =>
  (ix out_3 i_4).bind fun v_8 =>
  some (.inl ((out_3.set i_4.toNat v_6), w64 (i_4 + 1)))
  else
  some (.inr out_3)
def f50 (a : (List Int)) : Option (List Int) :=
 (mkl 8 (a.length : Int) 0).bind fun l_1 =>
 (iter (f50_0 a) (l_1, 0)).bind fun out_13 =>
 some out_13
def f133 (a : Fact) : Option Fact :=
 (f50 a.Values).bind fun o1 =>
 some ({ Relation := a.Relation, Values := o1 } : Fact)
def f71_0 (a : (List Fact)) : (List Fact) × Int -> Option (((List Fact) × Int) ⊕ (List Fact))
 | (out_3, i_4) =>
  if i_4 < (a.length : Int) then
  (ix a i_4).bind fun v_6 =>
  (f133 v_6).bind fun o8 =>
  (ix out_3 i_4).bind fun v_10 =>
  some (.inl ((out_3.set i_4.toNat o8), w64 (i_4 + 1)))
  else
  some (.inr out_3)
def f71 (a : (List Fact)) : Option (List Fact) :=
 (mkl 32 (a.length : Int) (({ Relation := 0, Values := [] } : Fact) : Fact)).bind fun l_1 =>
 (iter (f71_0 a) (l_1, 0)).bind fun out_15 =>
 some out_15
def f21 (a : Database) : Option Database :=
 (f9 a.Relations).bind fun o1 =>
 (f71 a.Facts).bind fun o3 =>
 some ({ Relations := o1, Facts := o3 } : Database)
def f114 (a : Atom) : Option Atom :=
 (f50 a.Terms).bind fun o1 =>
 some ({ Relation := a.Relation, Terms := o1 } : Atom)
def f49_0 (a : (List Atom)) : (List Atom) × Int -> Option (((List Atom) × Int) ⊕ (List Atom))
 | (out_3, i_4) =>
  if i_4 < (a.length : Int) then
  (ix a i_4).bind fun v_6 =>
  (f114 v_6).bind fun o8 =>
  (ix out_3 i_4).bind fun v_10 =>
  some (.inl ((out_3.set i_4.toNat o8), w64 (i_4 + 1)))
  else
  some (.inr out_3)
def f49 (a : (List Atom)) : Option (List Atom) :=
 (mkl 32 (a.length : Int) (({ Relation := 0, Terms := [] } : Atom) : Atom)).bind fun l_1 =>
 (iter (f49_0 a) (l_1, 0)).bind fun out_15 =>
 some out_15
def f10 (a : Query) : Option Query :=
 (f49 a.Atoms).bind fun o1 =>
 (f50 a.Free).bind fun o3 =>
 some ({ VariableCount := a.VariableCount, Atoms := o1, Free := o3 } : Query)
def f110 (x : Int) (low : Int) (high : Int) : Option Bool :=
 (((if x >= low then
 some (decide (x <= high))
 else
 some false) : Option (Bool))).bind fun x_1 =>
 some x_1
def f173 (s0 : Relation) : Option Bool :=
 (((if (s0.Name.length : Int) = 1 then
 (ix s0.Name 0).bind fun c_4 =>
 (((if (c_4.toNat : Int) >= 97 then
 (((if (c_4.toNat : Int) <= 122 then
 (f110 s0.Arity 1 3).bind fun o12 =>
 (((if o12 = true then
 (f110 s0.KeyLength 0 s0.Arity).bind fun o17 =>
 some o17
 else
 some false) : Option (Bool))).bind fun x_14 =>
 some x_14
 else
 some false) : Option (Bool))).bind fun x_9 =>
 some x_9
 else
 some false) : Option (Bool))).bind fun x_6 =>
 some x_6
 else
 some false) : Option (Bool))).bind fun x_1 =>
 some x_1
def f129_0 (l : (List Relation)) : Int -> Option (Int ⊕ (Unit ⊕ Bool))
 | i_1 =>
  if i_1 < (l.length : Int) then
  (ix l i_1).bind fun v_3 =>
  (f173 v_3).bind fun o5 =>
  (((if ¬ (o5 = true) then
  some true
  else
  (((if i_1 > 0 then
  (ix l (w64 (i_1 - 1))).bind fun v_13 =>
  some (!(Op.bytesLess v_13.Name v_3.Name))
  else
  some false) : Option (Bool))).bind fun x_10 =>
  some x_10) : Option (Bool))).bind fun x_7 =>
  if x_7 = true then
  some (.inr (.inr false))
  else
  some (.inl (w64 (i_1 + 1)))
  else
  some (.inr (.inl ()))
def f129 (l : (List Relation)) : Option Bool :=
 (iter (f129_0 l) 0).bind fun o => match o with
 | .inl _ =>
 some (decide ((l.length : Int) <= 4))
 | .inr x_18 =>
 some x_18
def f80_3 (q : Query) (i_17 : Int) (v_19 : Atom) : Int -> Option (Int ⊕ (Unit ⊕ Bool))
 | k_29 =>
  if k_29 < i_17 then
  (ix q.Atoms k_29).bind fun v_31 =>
  if v_31.Relation = v_19.Relation then
  some (.inr (.inr false))
  else
  some (.inl (w64 (k_29 + 1)))
  else
  some (.inr (.inl ()))
def f80_4 (q : Query) (v_19 : Atom) : (List Bool) × Int -> Option (((List Bool) × Int) ⊕ ((List Bool) ⊕ Bool))
 | (met_37, k_38) =>
  if k_38 < (v_19.Terms.length : Int) then
  (ix v_19.Terms k_38).bind fun v_40 =>
  (f110 v_40 (-10) (w64 (q.VariableCount - 1))).bind fun o42 =>
  if ¬ (o42 = true) then
  some (.inr (.inr false))
  else
  (((if v_40 >= 0 then
  (ix met_37 v_40).bind fun v_48 =>
  some (met_37.set v_40.toNat true)
  else
  some met_37) : Option (List Bool))).bind fun met_51 =>
  some (.inl (met_51, w64 (k_38 + 1)))
  else
  some (.inr (.inl met_37))
def f80_0 (l : (List Relation)) (q : Query) : (List Bool) × Int -> Option (((List Bool) × Int) ⊕ ((List Bool) ⊕ Bool))
 | (met_16, i_17) =>
  if i_17 < (q.Atoms.length : Int) then
  (ix q.Atoms i_17).bind fun v_19 =>
  (f110 v_19.Relation 0 (w64 ((l.length : Int) - 1))).bind fun o21 =>
  (((if ¬ (o21 = true) then
  some true
  else
  (ix l v_19.Relation).bind fun v_26 =>
  some (decide ((v_19.Terms.length : Int) ≠ v_26.Arity))) : Option (Bool))).bind fun x_23 =>
  if x_23 = true then
  some (.inr (.inr false))
  else
  (iter ((f80_3 q i_17 v_19)) 0).bind fun o => match o with
  | .inl _ =>
  ((iter ((f80_4 q v_19)) (met_16, 0)).bind fun o => match o with
  | .inl met_54 =>
  some (.inl (met_54, w64 (i_17 + 1)))
  | .inr x_55 =>
  some (.inr (.inr x_55)))
  | .inr x_36 =>
  some (.inr (.inr x_36))
  else
  some (.inr (.inl met_16))
def f80_1 (q : Query) (met_58 : (List Bool)) : Int -> Option (Int ⊕ (Unit ⊕ Bool))
 | v_60 =>
  if v_60 < q.VariableCount then
  (ix met_58 v_60).bind fun v_62 =>
  if ¬ (v_62 = true) then
  some (.inr (.inr false))
  else
  some (.inl (w64 (v_60 + 1)))
  else
  some (.inr (.inl ()))
def f80_2 (q : Query) : Int -> Option (Int ⊕ (Unit ⊕ Bool))
 | i_68 =>
  if i_68 < (q.Free.length : Int) then
  (ix q.Free i_68).bind fun v_70 =>
  (f110 v_70 0 (w64 (q.VariableCount - 1))).bind fun o72 =>
  (((if ¬ (o72 = true) then
  some true
  else
  (((if i_68 > 0 then
  (ix q.Free (w64 (i_68 - 1))).bind fun v_80 =>
  some (decide (v_70 <= v_80))
  else
  some false) : Option (Bool))).bind fun x_77 =>
  some x_77) : Option (Bool))).bind fun x_74 =>
  if x_74 = true then
  some (.inr (.inr false))
  else
  some (.inl (w64 (i_68 + 1)))
  else
  some (.inr (.inl ()))
def f80 (l : (List Relation)) (q : Query) : Option Bool :=
 (f129 l).bind fun o1 =>
 (((if ¬ (o1 = true) then
 some true
 else
 (f110 q.VariableCount 0 4).bind fun o6 =>
 (((if ¬ (o6 = true) then
 some true
 else
 (f110 (q.Atoms.length : Int) 1 3).bind fun o11 =>
 some (decide (¬ (o11 = true)))) : Option (Bool))).bind fun x_8 =>
 some x_8) : Option (Bool))).bind fun x_3 =>
 if x_3 = true then
 some false
 else
 (mkl 1 4 false).bind fun l_14 =>
 (iter (f80_0 l q) (l_14, 0)).bind fun o => match o with
 | .inl met_58 =>
 ((iter (f80_1 q met_58) 0).bind fun o => match o with
 | .inl _ =>
 ((iter (f80_2 q) 0).bind fun o => match o with
 | .inl _ =>
 some true
 | .inr x_85 =>
 some x_85)
 | .inr x_67 =>
 some x_67)
 | .inr x_59 =>
 some x_59
def f45_0 (l : (List Int)) (x : Int) : Int -> Option (Int ⊕ (Unit ⊕ Bool))
 | i_1 =>
  if i_1 < (l.length : Int) then
  (ix l i_1).bind fun v_3 =>
  if v_3 = x then
  some (.inr (.inr true))
  else
  some (.inl (w64 (i_1 + 1)))
  else
  some (.inr (.inl ()))
def f45 (l : (List Int)) (x : Int) : Option Bool :=
 (iter (f45_0 l x) 0).bind fun o => match o with
 | .inl _ =>
 some false
 | .inr x_8 =>
 some x_8
def f111_0 (a : Atom) : (List Int) × Int -> Option (((List Int) × Int) ⊕ (List Int))
 | (out_1, v_2) =>
  if v_2 < 4 then
  (f45 a.Terms v_2).bind fun o4 =>
  (((if o4 = true then
  (app 8 out_1 ([v_2])).bind fun l_9 =>
  some l_9
  else
  some out_1) : Option (List Int))).bind fun out_11 =>
  some (.inl (out_11, w64 (v_2 + 1)))
  else
  some (.inr out_1)
def f111 (a : Atom) : Option (List Int) :=
 (iter (f111_0 a) ([], 0)).bind fun out_14 =>
 some out_14
def f46 (l : (List Relation)) (a : Atom) : Option (List Int) :=
 (f110 a.Relation 0 (w64 ((l.length : Int) - 1))).bind fun o1 =>
 (((if ¬ (o1 = true) then
 some true
 else
 (ix l a.Relation).bind fun v_6 =>
 (f110 v_6.KeyLength 0 (a.Terms.length : Int)).bind fun o8 =>
 some (decide (¬ (o8 = true)))) : Option (Bool))).bind fun x_3 =>
 if x_3 = true then
 some ([])
 else
 (ix l a.Relation).bind fun v_11 =>
 (cutL a.Terms 0 v_11.KeyLength).bind fun l_13 =>
 (f111 ({ Relation := 0, Terms := l_13 } : Atom)).bind fun o15 =>
 some o15
def f113_0 (a : (List Int)) (b : (List Int)) : (List Int) × Int -> Option (((List Int) × Int) ⊕ (List Int))
 | (out_1, v_2) =>
  if v_2 < 4 then
  (f45 a v_2).bind fun o4 =>
  (((if o4 = true then
  some true
  else
  (f45 b v_2).bind fun o9 =>
  some o9) : Option (Bool))).bind fun x_6 =>
  (((if x_6 = true then
  (app 8 out_1 ([v_2])).bind fun l_14 =>
  some l_14
  else
  some out_1) : Option (List Int))).bind fun out_16 =>
  some (.inl (out_16, w64 (v_2 + 1)))
  else
  some (.inr out_1)
def f113 (a : (List Int)) (b : (List Int)) : Option (List Int) :=
 (iter (f113_0 a b) ([], 0)).bind fun out_19 =>
 some out_19
def f163_0 (l : (List Int)) (want : (List Int)) : Int -> Option (Int ⊕ (Unit ⊕ Bool))
 | i_1 =>
  if i_1 < (want.length : Int) then
  (ix want i_1).bind fun v_3 =>
  (f45 l v_3).bind fun o5 =>
  if ¬ (o5 = true) then
  some (.inr (.inr false))
  else
  some (.inl (w64 (i_1 + 1)))
  else
  some (.inr (.inl ()))
def f163 (l : (List Int)) (want : (List Int)) : Option Bool :=
 (iter (f163_0 l want) 0).bind fun o => match o with
 | .inl _ =>
 some true
 | .inr x_10 =>
 some x_10
def f205_1 (l : (List Relation)) (q : Query) (skip : Int) : (List Int) × Int -> Option (((List Int) × Int) ⊕ (List Int))
 | (out_9, i_10) =>
  if i_10 < (q.Atoms.length : Int) then
  (((if i_10 ≠ skip then
  (ix q.Atoms i_10).bind fun v_15 =>
  (f46 l v_15).bind fun o17 =>
  (f163 out_9 o17).bind fun o19 =>
  some o19
  else
  some false) : Option (Bool))).bind fun x_12 =>
  (((if x_12 = true then
  (ix q.Atoms i_10).bind fun v_24 =>
  (f111 v_24).bind fun o26 =>
  (f113 out_9 o26).bind fun o28 =>
  some o28
  else
  some out_9) : Option (List Int))).bind fun out_30 =>
  some (.inl (out_30, w64 (i_10 + 1)))
  else
  some (.inr out_9)
def f205_0 (l : (List Relation)) (q : Query) (skip : Int) : (List Int) × Int -> Option (((List Int) × Int) ⊕ (List Int))
 | (out_6, n_7) =>
  if n_7 < (q.Atoms.length : Int) then
  (iter ((f205_1 l q skip)) (out_6, 0)).bind fun out_33 =>
  some (.inl (out_33, w64 (n_7 + 1)))
  else
  some (.inr out_6)
def f205 (l : (List Relation)) (q : Query) (skip : Int) (vars : (List Int)) : Option (List Int) :=
 (f80 l q).bind fun o1 =>
 if ¬ (o1 = true) then
 some ([])
 else
 (f113 vars q.Free).bind fun o4 =>
 (iter (f205_0 l q skip) (o4, 0)).bind fun out_36 =>
 some out_36
def f204 (l : (List Relation)) (q : Query) (k : Int) : Option (List Int) :=
 (f80 l q).bind fun o1 =>
 (((if ¬ (o1 = true) then
 some true
 else
 (f110 k 0 (w64 ((q.Atoms.length : Int) - 1))).bind fun o6 =>
 some (decide (¬ (o6 = true)))) : Option (Bool))).bind fun x_3 =>
 if x_3 = true then
 some ([])
 else
 (ix q.Atoms k).bind fun v_9 =>
 (f46 l v_9).bind fun o11 =>
 (f205 l q k o11).bind fun o13 =>
 some o13
def f161_2 (out_14 : (List Int)) (o19 : (List Int)) : Bool × Int -> Option ((Bool × Int) ⊕ Bool)
 | (met_21, j_22) =>
  if j_22 < (o19.length : Int) then
  (((if met_21 = true then
  some true
  else
  (ix o19 j_22).bind fun v_27 =>
  (f45 out_14 v_27).bind fun o29 =>
  some o29) : Option (Bool))).bind fun met_24 =>
  some (.inl (met_24, w64 (j_22 + 1)))
  else
  some (.inr met_21)
def f161_3 (o9 : (List Int)) (o19 : (List Int)) (met_33 : Bool) : (List Int) × Int -> Option (((List Int) × Int) ⊕ (List Int))
 | (out_34, j_35) =>
  (((if j_35 < (o19.length : Int) then
  some met_33
  else
  some false) : Option (Bool))).bind fun x_36 =>
  if x_36 = true then
  (ix o19 j_35).bind fun v_40 =>
  (f45 o9 v_40).bind fun o42 =>
  (((if ¬ (o42 = true) then
  (f113 out_34 ([v_40])).bind fun o47 =>
  some o47
  else
  some out_34) : Option (List Int))).bind fun out_49 =>
  some (.inl (out_49, w64 (j_35 + 1)))
  else
  some (.inr out_34)
def f161_1 (q : Query) (k : Int) (o9 : (List Int)) : (List Int) × Int -> Option (((List Int) × Int) ⊕ (List Int))
 | (out_14, i_15) =>
  if i_15 < (q.Atoms.length : Int) then
  (ix q.Atoms i_15).bind fun v_17 =>
  (f111 v_17).bind fun o19 =>
  (iter ((f161_2 out_14 o19)) ((decide (i_15 = k)), 0)).bind fun met_33 =>
  (iter ((f161_3 o9 o19 met_33)) (out_14, 0)).bind fun out_52 =>
  some (.inl (out_52, w64 (i_15 + 1)))
  else
  some (.inr out_14)
def f161_0 (q : Query) (k : Int) (o9 : (List Int)) : (List Int) × Int -> Option (((List Int) × Int) ⊕ (List Int))
 | (out_11, n_12) =>
  if n_12 <= (q.Atoms.length : Int) then
  (iter ((f161_1 q k o9)) (out_11, 0)).bind fun out_55 =>
  some (.inl (out_55, w64 (n_12 + 1)))
  else
  some (.inr out_11)
def f161 (l : (List Relation)) (q : Query) (k : Int) : Option (List Int) :=
 (f80 l q).bind fun o1 =>
 (((if ¬ (o1 = true) then
 some true
 else
 (f110 k 0 (w64 ((q.Atoms.length : Int) - 1))).bind fun o6 =>
 some (decide (¬ (o6 = true)))) : Option (Bool))).bind fun x_3 =>
 if x_3 = true then
 some ([])
 else
 (f204 l q k).bind fun o9 =>
 (iter (f161_0 q k o9) ([], 0)).bind fun out_58 =>
 some out_58
def f105_0 (o17 : (List Int)) (o21 : (List Int)) : Int -> Option (Int ⊕ (Unit ⊕ Bool))
 | j_23 =>
  if j_23 < (o21.length : Int) then
  (ix o21 j_23).bind fun v_25 =>
  (f45 o17 v_25).bind fun o27 =>
  if o27 = true then
  some (.inr (.inr true))
  else
  some (.inl (w64 (j_23 + 1)))
  else
  some (.inr (.inl ()))
def f105 (l : (List Relation)) (q : Query) (i : Int) (k : Int) : Option Bool :=
 (f80 l q).bind fun o1 =>
 (((if ¬ (o1 = true) then
 some true
 else
 (f110 i 0 (w64 ((q.Atoms.length : Int) - 1))).bind fun o6 =>
 (((if ¬ (o6 = true) then
 some true
 else
 (f110 k 0 (w64 ((q.Atoms.length : Int) - 1))).bind fun o11 =>
 (((if ¬ (o11 = true) then
 some true
 else
 some (decide (i = k))) : Option (Bool))).bind fun x_13 =>
 some x_13) : Option (Bool))).bind fun x_8 =>
 some x_8) : Option (Bool))).bind fun x_3 =>
 if x_3 = true then
 some false
 else
 (f161 l q i).bind fun o17 =>
 (ix q.Atoms k).bind fun v_19 =>
 (f111 v_19).bind fun o21 =>
 (iter (f105_0 o17 o21) 0).bind fun o => match o with
 | .inl _ =>
 some false
 | .inr x_32 =>
 some x_32
def f162 (l : (List Relation)) (q : Query) (from2 : (List Int)) (to : (List Int)) : Option Bool :=
 (f80 l q).bind fun o1 =>
 (((if o1 = true then
 (f205 l q (-1) from2).bind fun o6 =>
 (f163 o6 to).bind fun o8 =>
 some o8
 else
 some false) : Option (Bool))).bind fun x_3 =>
 some x_3
def f106 (l : (List Relation)) (q : Query) (i : Int) (k : Int) : Option Bool :=
 (f105 l q i k).bind fun o1 =>
 (((if o1 = true then
 (ix q.Atoms i).bind fun v_6 =>
 (ix q.Atoms k).bind fun v_8 =>
 (f46 l v_6).bind fun o10 =>
 (f46 l v_8).bind fun o12 =>
 (f162 l q o10 o12).bind fun o14 =>
 some o14
 else
 some false) : Option (Bool))).bind fun x_3 =>
 some x_3
def f107_2 (l : (List Relation)) (q : Query) (i : Int) (a_20 : Int) : (List Bool) × Int -> Option (((List Bool) × Int) ⊕ (List Bool))
 | (met_22, b_23) =>
  if b_23 < (q.Atoms.length : Int) then
  (((if a_20 = i then
  (f105 l q a_20 b_23).bind fun o28 =>
  some o28
  else
  (ix met_22 a_20).bind fun v_30 =>
  (((if v_30 = true then
  (f105 l q a_20 b_23).bind fun o35 =>
  some o35
  else
  some false) : Option (Bool))).bind fun x_32 =>
  some x_32) : Option (Bool))).bind fun x_25 =>
  (((if x_25 = true then
  (ix met_22 b_23).bind fun v_40 =>
  some (met_22.set b_23.toNat true)
  else
  some met_22) : Option (List Bool))).bind fun met_43 =>
  some (.inl (met_43, w64 (b_23 + 1)))
  else
  some (.inr met_22)
def f107_1 (l : (List Relation)) (q : Query) (i : Int) : (List Bool) × Int -> Option (((List Bool) × Int) ⊕ (List Bool))
 | (met_19, a_20) =>
  if a_20 < (q.Atoms.length : Int) then
  (iter ((f107_2 l q i a_20)) (met_19, 0)).bind fun met_46 =>
  some (.inl (met_46, w64 (a_20 + 1)))
  else
  some (.inr met_19)
def f107_0 (l : (List Relation)) (q : Query) (i : Int) : (List Bool) × Int -> Option (((List Bool) × Int) ⊕ (List Bool))
 | (met_16, n_17) =>
  if n_17 <= (q.Atoms.length : Int) then
  (iter ((f107_1 l q i)) (met_16, 0)).bind fun met_49 =>
  some (.inl (met_49, w64 (n_17 + 1)))
  else
  some (.inr met_16)
def f107 (l : (List Relation)) (q : Query) (i : Int) (k : Int) : Option Bool :=
 (f80 l q).bind fun o1 =>
 (((if ¬ (o1 = true) then
 some true
 else
 (f110 i 0 (w64 ((q.Atoms.length : Int) - 1))).bind fun o6 =>
 (((if ¬ (o6 = true) then
 some true
 else
 (f110 k 0 (w64 ((q.Atoms.length : Int) - 1))).bind fun o11 =>
 some (decide (¬ (o11 = true)))) : Option (Bool))).bind fun x_8 =>
 some x_8) : Option (Bool))).bind fun x_3 =>
 if x_3 = true then
 some false
 else
 (mkl 1 (q.Atoms.length : Int) false).bind fun l_14 =>
 (iter ((f107_0 l q i)) (l_14, 0)).bind fun met_52 =>
 (ix met_52 k).bind fun v_53 =>
 some v_53
def f108_0 (l : (List Relation)) (q : Query) : Int -> Option (Int ⊕ (Unit ⊕ Bool))
 | i_1 =>
  if i_1 < (q.Atoms.length : Int) then
  (f107 l q i_1 i_1).bind fun o3 =>
  if o3 = true then
  some (.inr (.inr true))
  else
  some (.inl (w64 (i_1 + 1)))
  else
  some (.inr (.inl ()))
def f108 (l : (List Relation)) (q : Query) : Option Bool :=
 (iter (f108_0 l q) 0).bind fun o => match o with
 | .inl _ =>
 some false
 | .inr x_8 =>
 some x_8
def f42_1 (l : (List Relation)) (q : Query) (i_4 : Int) : Int -> Option (Int ⊕ (Unit ⊕ Int))
 | k_6 =>
  if k_6 < (q.Atoms.length : Int) then
  (f105 l q i_4 k_6).bind fun o8 =>
  (((if o8 = true then
  (f106 l q i_4 k_6).bind fun o13 =>
  (((if ¬ (o13 = true) then
  (f107 l q k_6 i_4).bind fun o18 =>
  some o18
  else
  some false) : Option (Bool))).bind fun x_15 =>
  some x_15
  else
  some false) : Option (Bool))).bind fun x_10 =>
  if x_10 = true then
  some (.inr (.inr 3))
  else
  some (.inl (w64 (k_6 + 1)))
  else
  some (.inr (.inl ()))
def f42_0 (l : (List Relation)) (q : Query) : Int -> Option (Int ⊕ (Unit ⊕ Int))
 | i_4 =>
  if i_4 < (q.Atoms.length : Int) then
  (iter (f42_1 l q i_4) 0).bind fun o => match o with
  | .inl _ =>
  some (.inl (w64 (i_4 + 1)))
  | .inr x_23 =>
  some (.inr (.inr x_23))
  else
  some (.inr (.inl ()))
def f42 (l : (List Relation)) (q : Query) : Option Int :=
 (f80 l q).bind fun o1 =>
 if ¬ (o1 = true) then
 some 0
 else
 (iter (f42_0 l q) 0).bind fun o => match o with
 | .inl _ =>
 (f108 l q).bind fun o27 =>
 if o27 = true then
 some 2
 else
 some 1
 | .inr x_26 =>
 some x_26
def f43_0 (q : Query) : Int × (List Atom) × (List Int) × Int -> Option ((Int × (List Atom) × (List Int) × Int) ⊕ (Int × (List Atom) × (List Int)))
 | (x_3, x_4, x_5, i_6) =>
  if i_6 < (q.Atoms.length : Int) then
  (ix q.Atoms i_6).bind fun v_8 =>
  (app 8 ([]) v_8.Terms).bind fun l_10 =>
  (app 32 x_4 ([({ Relation := v_8.Relation, Terms := l_10 } : Atom)])).bind fun l_12 =>
  some (.inl (x_3, l_12, x_5, w64 (i_6 + 1)))
  else
  some (.inr (x_3, x_4, x_5))
def f43 (q : Query) : Option Query :=
 (app 8 ([]) q.Free).bind fun l_1 =>
 (iter (f43_0 q) (q.VariableCount, [], l_1, 0)).bind fun (x_16, x_17, x_18) =>
 some ({ VariableCount := x_16, Atoms := x_17, Free := x_18 } : Query)
def f164_0 (a : (List Int)) (b : (List Int)) (not : (List Int)) : Int -> Option (Int ⊕ (Unit ⊕ Bool))
 | i_1 =>
  if i_1 < (a.length : Int) then
  (ix a i_1).bind fun v_3 =>
  (f45 b v_3).bind fun o5 =>
  (((if o5 = true then
  (f45 not v_3).bind fun o10 =>
  some (decide (¬ (o10 = true)))
  else
  some false) : Option (Bool))).bind fun x_7 =>
  if x_7 = true then
  some (.inr (.inr true))
  else
  some (.inl (w64 (i_1 + 1)))
  else
  some (.inr (.inl ()))
def f164 (a : (List Int)) (b : (List Int)) (not : (List Int)) : Option Bool :=
 (iter (f164_0 a b not) 0).bind fun o => match o with
 | .inl _ =>
 some false
 | .inr x_15 =>
 some x_15
def f109_2 (l : (List Relation)) (q : Query) (i : Int) : (List Int) × Int -> Option (((List Int) × Int) ⊕ (List Int))
 | (plus_11, j_12) =>
  if j_12 < (q.Atoms.length : Int) then
  (((if j_12 ≠ i then
  (ix q.Atoms j_12).bind fun v_17 =>
  (f46 l v_17).bind fun o19 =>
  (f163 plus_11 o19).bind fun o21 =>
  some o21
  else
  some false) : Option (Bool))).bind fun x_14 =>
  (((if x_14 = true then
  (ix q.Atoms j_12).bind fun v_26 =>
  (f111 v_26).bind fun o28 =>
  (f113 plus_11 o28).bind fun o30 =>
  some o30
  else
  some plus_11) : Option (List Int))).bind fun plus_32 =>
  some (.inl (plus_32, w64 (j_12 + 1)))
  else
  some (.inr plus_11)
def f109_0 (l : (List Relation)) (q : Query) (i : Int) : (List Int) × Int -> Option (((List Int) × Int) ⊕ (List Int))
 | (plus_8, n_9) =>
  if n_9 < (q.Atoms.length : Int) then
  (iter ((f109_2 l q i)) (plus_8, 0)).bind fun plus_35 =>
  some (.inl (plus_35, w64 (n_9 + 1)))
  else
  some (.inr plus_8)
def f109_4 (q : Query) (plus_38 : (List Int)) (a_43 : Int) : (List Int) × Int -> Option (((List Int) × Int) ⊕ (List Int))
 | (met_45, b_46) =>
  if b_46 < (q.Atoms.length : Int) then
  (f45 met_45 a_43).bind fun o48 =>
  (((if o48 = true then
  (f45 met_45 b_46).bind fun o53 =>
  (((if ¬ (o53 = true) then
  (ix q.Atoms a_43).bind fun v_58 =>
  (ix q.Atoms b_46).bind fun v_60 =>
  (f111 v_58).bind fun o62 =>
  (f111 v_60).bind fun o64 =>
  (f164 o62 o64 plus_38).bind fun o66 =>
  some o66
  else
  some false) : Option (Bool))).bind fun x_55 =>
  some x_55
  else
  some false) : Option (Bool))).bind fun x_50 =>
  (((if x_50 = true then
  (app 8 met_45 ([b_46])).bind fun l_71 =>
  some l_71
  else
  some met_45) : Option (List Int))).bind fun met_73 =>
  some (.inl (met_73, w64 (b_46 + 1)))
  else
  some (.inr met_45)
def f109_3 (q : Query) (plus_38 : (List Int)) : (List Int) × Int -> Option (((List Int) × Int) ⊕ (List Int))
 | (met_42, a_43) =>
  if a_43 < (q.Atoms.length : Int) then
  (iter ((f109_4 q plus_38 a_43)) (met_42, 0)).bind fun met_76 =>
  some (.inl (met_76, w64 (a_43 + 1)))
  else
  some (.inr met_42)
def f109_1 (q : Query) (plus_38 : (List Int)) : (List Int) × Int -> Option (((List Int) × Int) ⊕ (List Int))
 | (met_39, n_40) =>
  if n_40 < (q.Atoms.length : Int) then
  (iter ((f109_3 q plus_38)) (met_39, 0)).bind fun met_79 =>
  some (.inl (met_79, w64 (n_40 + 1)))
  else
  some (.inr met_39)
def f109 (l : (List Relation)) (q : Query) (i : Int) (k : Int) : Option Bool :=
 if i = k then
 some false
 else
 (ix q.Atoms i).bind fun v_2 =>
 (f46 l v_2).bind fun o4 =>
 (f113 q.Free o4).bind fun o6 =>
 (iter ((f109_0 l q i)) (o6, 0)).bind fun plus_38 =>
 (iter ((f109_1 q plus_38)) ([i], 0)).bind fun met_82 =>
 (f45 met_82 k).bind fun o83 =>
 some o83
def f44_1 (l : (List Relation)) (q : Query) (k_1 : Int) : Bool × Int -> Option ((Bool × Int) ⊕ Bool)
 | (is_3, i_4) =>
  if i_4 < (q.Atoms.length : Int) then
  (((if is_3 = true then
  some true
  else
  (f109 l q i_4 k_1).bind fun o9 =>
  some o9) : Option (Bool))).bind fun is_6 =>
  some (.inl (is_6, w64 (i_4 + 1)))
  else
  some (.inr is_3)
def f44_0 (l : (List Relation)) (q : Query) : Int -> Option (Int ⊕ (Unit ⊕ Int))
 | k_1 =>
  if k_1 < (q.Atoms.length : Int) then
  (iter (f44_1 l q k_1) (false, 0)).bind fun is_13 =>
  if ¬ (is_13 = true) then
  some (.inr (.inr k_1))
  else
  some (.inl (w64 (k_1 + 1)))
  else
  some (.inr (.inl ()))
def f44 (l : (List Relation)) (q : Query) : Option Int :=
 (iter (f44_0 l q) 0).bind fun o => match o with
 | .inl _ =>
 some (-1)
 | .inr x_17 =>
 some x_17
def f112 (q : Query) (k : Int) : Option Query :=
 (f43 q).bind fun o1 =>
 (f110 k 0 (w64 ((q.Atoms.length : Int) - 1))).bind fun o3 =>
 (((if o3 = true then
 (cutL o1.Atoms 0 k).bind fun l_8 =>
 (cutL o1.Atoms (w64 (k + 1)) o1.Atoms.length).bind fun l_10 =>
 (app 32 ([]) l_8).bind fun l_12 =>
 (app 32 l_12 l_10).bind fun l_14 =>
 some (o1.VariableCount, l_14, o1.Free)
 else
 some (o1.VariableCount, o1.Atoms, o1.Free)) : Option (Int × (List Atom) × (List Int)))).bind fun (x_16, x_17, x_18) =>
 some ({ VariableCount := x_16, Atoms := x_17, Free := x_18 } : Query)
def f47 (q : Query) (k : Int) : Option Query :=
 (f112 q k).bind fun o1 =>
 (ix q.Atoms k).bind fun v_3 =>
 (f111 v_3).bind fun o5 =>
 (f113 q.Free o5).bind fun o7 =>
 some ({ VariableCount := o1.VariableCount, Atoms := o1.Atoms, Free := o7 } : Query)
def f8_1 (l : (List Relation)) (x_9 : (List Int)) (v_14 : Atom) : Int × (List Int) × (List Int) × (List Int) × Int -> Option ((Int × (List Int) × (List Int) × (List Int) × Int) ⊕ (Int × (List Int) × (List Int) × (List Int)))
 | (v_18, v_19, v_20, v_21, j_22) =>
  if j_22 < 4 then
  ((((f45 x_9 j_22).bind fun o26 =>
  (((if o26 = true then
  some true
  else
  (f45 v_14.Terms j_22).bind fun o31 =>
  some (decide (¬ (o31 = true)))) : Option (Bool))).bind fun x_28 =>
  if x_28 = true then
  some (v_20, v_21)
  else
  (f46 l v_14).bind fun o34 =>
  (f45 o34 j_22).bind fun o36 =>
  (((if o36 = true then
  (app 8 v_20 ([j_22])).bind fun l_41 =>
  some (l_41, v_21)
  else
  (app 8 v_21 ([j_22])).bind fun l_43 =>
  some (v_20, l_43)) : Option ((List Int) × (List Int)))).bind fun (v_45, v_46) =>
  some (v_45, v_46)) : Option ((List Int) × (List Int)))).bind fun (v_47, v_48) =>
  some (.inl (v_18, v_19, v_47, v_48, w64 (j_22 + 1)))
  else
  some (.inr (v_18, v_19, v_20, v_21))
def f8_0 (l : (List Relation)) : (List RewritingStep) × Int × (List Atom) × (List Int) -> Option (((List RewritingStep) × Int × (List Atom) × (List Int)) ⊕ ((List RewritingStep) ⊕ ((List RewritingStep) × Bool)))
 | (out_6, x_7, x_8, x_9) =>
  if (x_8.length : Int) > 0 then
  (f44 l ({ VariableCount := x_7, Atoms := x_8, Free := x_9 } : Query)).bind fun o11 =>
  if o11 < 0 then
  some (.inr (.inr ([], false)))
  else
  (ix x_8 o11).bind fun v_14 =>
  (app 8 ([]) v_14.Terms).bind fun l_16 =>
  (iter ((f8_1 l x_9 v_14)) (v_14.Relation, l_16, [], [], 0)).bind fun (v_51, v_52, v_53, v_54) =>
  (app 80 out_6 ([({ Atom := ({ Relation := v_51, Terms := v_52 } : Atom), Existential := v_53, Universal := v_54 } : RewritingStep)])).bind fun l_55 =>
  (f47 ({ VariableCount := x_7, Atoms := x_8, Free := x_9 } : Query) o11).bind fun o57 =>
  some (.inl (l_55, o57.VariableCount, o57.Atoms, o57.Free))
  else
  some (.inr (.inl out_6))
def f8 (l : (List Relation)) (q : Query) : Option ((List RewritingStep) × Bool) :=
 (f42 l q).bind fun o1 =>
 if o1 ≠ 1 then
 some ([], false)
 else
 (f43 q).bind fun o4 =>
 (iter (f8_0 l) ([], o4.VariableCount, o4.Atoms, o4.Free)).bind fun o => match o with
 | .inl out_61 =>
 some (out_61, true)
 | .inr (x_62, x_63) =>
 some (x_62, x_63)
def f127_0 (f : Fact) : Int -> Option (Int ⊕ (Unit ⊕ Bool))
 | i_14 =>
  if i_14 < (f.Values.length : Int) then
  (ix f.Values i_14).bind fun v_16 =>
  (f110 v_16 0 9).bind fun o18 =>
  if ¬ (o18 = true) then
  some (.inr (.inr false))
  else
  some (.inl (w64 (i_14 + 1)))
  else
  some (.inr (.inl ()))
def f127 (l : (List Relation)) (f : Fact) : Option Bool :=
 (f129 l).bind fun o1 =>
 (((if ¬ (o1 = true) then
 some true
 else
 (f110 f.Relation 0 (w64 ((l.length : Int) - 1))).bind fun o6 =>
 (((if ¬ (o6 = true) then
 some true
 else
 (ix l f.Relation).bind fun v_11 =>
 some (decide ((f.Values.length : Int) ≠ v_11.Arity))) : Option (Bool))).bind fun x_8 =>
 some x_8) : Option (Bool))).bind fun x_3 =>
 if x_3 = true then
 some false
 else
 (iter (f127_0 f) 0).bind fun o => match o with
 | .inl _ =>
 some true
 | .inr x_23 =>
 some x_23
def f172_0 (a : (List Int)) (b : (List Int)) : Int -> Option (Int ⊕ (Unit ⊕ Int))
 | i_1 =>
  (((if i_1 < (a.length : Int) then
  some (decide (i_1 < (b.length : Int)))
  else
  some false) : Option (Bool))).bind fun x_2 =>
  if x_2 = true then
  (ix a i_1).bind fun v_6 =>
  (ix b i_1).bind fun v_8 =>
  if v_6 < v_8 then
  some (.inr (.inr (-1)))
  else
  if v_6 > v_8 then
  some (.inr (.inr 1))
  else
  some (.inl (w64 (i_1 + 1)))
  else
  some (.inr (.inl ()))
def f172 (a : (List Int)) (b : (List Int)) : Option Int :=
 (iter (f172_0 a b) 0).bind fun o => match o with
 | .inl _ =>
 if (a.length : Int) < (b.length : Int) then
 some (-1)
 else
 if (a.length : Int) > (b.length : Int) then
 some 1
 else
 some 0
 | .inr x_14 =>
 some x_14
def f128 (a : Fact) (b : Fact) : Option Int :=
 if a.Relation < b.Relation then
 some (-1)
 else
 if a.Relation > b.Relation then
 some 1
 else
 (f172 a.Values b.Values).bind fun o3 =>
 some o3
def f69_0 (d : Database) : Int -> Option (Int ⊕ (Unit ⊕ Bool))
 | i_1 =>
  if i_1 < (d.Facts.length : Int) then
  (ix d.Facts i_1).bind fun v_3 =>
  (f127 d.Relations v_3).bind fun o5 =>
  (((if ¬ (o5 = true) then
  some true
  else
  (((if i_1 > 0 then
  (ix d.Facts (w64 (i_1 - 1))).bind fun v_13 =>
  (f128 v_13 v_3).bind fun o15 =>
  some (decide (o15 >= 0))
  else
  some false) : Option (Bool))).bind fun x_10 =>
  some x_10) : Option (Bool))).bind fun x_7 =>
  if x_7 = true then
  some (.inr (.inr false))
  else
  some (.inl (w64 (i_1 + 1)))
  else
  some (.inr (.inl ()))
def f69 (d : Database) : Option Bool :=
 (iter (f69_0 d) 0).bind fun o => match o with
 | .inl _ =>
 (f129 d.Relations).bind fun o21 =>
 (((if o21 = true then
 some (decide ((d.Facts.length : Int) <= 14))
 else
 some false) : Option (Bool))).bind fun x_23 =>
 some x_23
 | .inr x_20 =>
 some x_20
def f130_1 (v_3 : RewritingStep) : Int -> Option (Int ⊕ (Unit ⊕ Bool))
 | k_18 =>
  if k_18 < (v_3.Atom.Terms.length : Int) then
  (ix v_3.Atom.Terms k_18).bind fun v_20 =>
  (f110 v_20 (-10) 3).bind fun o22 =>
  if ¬ (o22 = true) then
  some (.inr (.inr false))
  else
  some (.inl (w64 (k_18 + 1)))
  else
  some (.inr (.inl ()))
def f130_0 (l : (List Relation)) (f : (List RewritingStep)) : Int -> Option (Int ⊕ (Unit ⊕ Bool))
 | i_1 =>
  if i_1 < (f.length : Int) then
  (ix f i_1).bind fun v_3 =>
  (f129 l).bind fun o5 =>
  (((if ¬ (o5 = true) then
  some true
  else
  (f110 v_3.Atom.Relation 0 (w64 ((l.length : Int) - 1))).bind fun o10 =>
  (((if ¬ (o10 = true) then
  some true
  else
  (ix l v_3.Atom.Relation).bind fun v_15 =>
  some (decide ((v_3.Atom.Terms.length : Int) ≠ v_15.Arity))) : Option (Bool))).bind fun x_12 =>
  some x_12) : Option (Bool))).bind fun x_7 =>
  if x_7 = true then
  some (.inr (.inr false))
  else
  (iter ((f130_1 v_3)) 0).bind fun o => match o with
  | .inl _ =>
  (f46 l v_3.Atom).bind fun o28 =>
  (f163 o28 v_3.Existential).bind fun o30 =>
  (((if ¬ (o30 = true) then
  some true
  else
  (f111 v_3.Atom).bind fun o35 =>
  (f163 o35 v_3.Universal).bind fun o37 =>
  some (decide (¬ (o37 = true)))) : Option (Bool))).bind fun x_32 =>
  if x_32 = true then
  some (.inr (.inr false))
  else
  some (.inl (w64 (i_1 + 1)))
  | .inr x_27 =>
  some (.inr (.inr x_27))
  else
  some (.inr (.inl ()))
def f130 (l : (List Relation)) (f : (List RewritingStep)) : Option Bool :=
 (iter (f130_0 l f) 0).bind fun o => match o with
 | .inl _ =>
 some (decide ((f.length : Int) <= 3))
 | .inr x_42 =>
 some x_42
def f131_0 (n0 : Int) : (List Int) -> Option ((List Int) ⊕ (List Int))
 | l_1 =>
  if (l_1.length : Int) < n0 then
  (app 8 l_1 ([-1])).bind fun l_3 =>
  some (.inl l_3)
  else
  some (.inr l_1)
def f131 (n0 : Int) : Option (List Int) :=
 (iter (f131_0 n0) ([])).bind fun l_7 =>
 some l_7
def f236 (l : (List Relation)) (f : Fact) : Option (List Int) :=
 (f127 l f).bind fun o1 =>
 if ¬ (o1 = true) then
 some ([])
 else
 (ix l f.Relation).bind fun v_4 =>
 (cutL f.Values 0 v_4.KeyLength).bind fun l_6 =>
 (app 8 ([]) l_6).bind fun l_8 =>
 some l_8
def f196 (l : (List Relation)) (a : Fact) (b : Fact) : Option Bool :=
 (f127 l a).bind fun o1 =>
 (((if o1 = true then
 (f127 l b).bind fun o6 =>
 (((if o6 = true then
 (((if a.Relation = b.Relation then
 (f236 l a).bind fun o14 =>
 (f236 l b).bind fun o16 =>
 (f172 o14 o16).bind fun o18 =>
 some (decide (o18 = 0))
 else
 some false) : Option (Bool))).bind fun x_11 =>
 some x_11
 else
 some false) : Option (Bool))).bind fun x_8 =>
 some x_8
 else
 some false) : Option (Bool))).bind fun x_3 =>
 some x_3
def f150_0 (d : Database) (i : Int) : (List Int) × Int -> Option (((List Int) × Int) ⊕ (List Int))
 | (out_1, k_2) =>
  (((if k_2 < (d.Facts.length : Int) then
  (f69 d).bind fun o6 =>
  (((if o6 = true then
  (f110 i 0 (w64 ((d.Facts.length : Int) - 1))).bind fun o11 =>
  some o11
  else
  some false) : Option (Bool))).bind fun x_8 =>
  some x_8
  else
  some false) : Option (Bool))).bind fun x_3 =>
  if x_3 = true then
  (ix d.Facts i).bind fun v_14 =>
  (ix d.Facts k_2).bind fun v_16 =>
  (f196 d.Relations v_14 v_16).bind fun o18 =>
  (((if o18 = true then
  (app 8 out_1 ([k_2])).bind fun l_23 =>
  some l_23
  else
  some out_1) : Option (List Int))).bind fun out_25 =>
  some (.inl (out_25, w64 (k_2 + 1)))
  else
  some (.inr out_1)
def f150 (d : Database) (i : Int) : Option (List Int) :=
 (iter (f150_0 d i) ([], 0)).bind fun out_28 =>
 some out_28
def f86_0 (d : Database) : (List (List Int)) × Int -> Option (((List (List Int)) × Int) ⊕ (List (List Int)))
 | (out_1, i_2) =>
  (((if i_2 < (d.Facts.length : Int) then
  (f69 d).bind fun o6 =>
  some o6
  else
  some false) : Option (Bool))).bind fun x_3 =>
  if x_3 = true then
  (f150 d i_2).bind fun o9 =>
  (ix o9 0).bind fun v_11 =>
  (((if v_11 = i_2 then
  (app 24 out_1 ([o9])).bind fun l_16 =>
  some l_16
  else
  some out_1) : Option (List (List Int)))).bind fun out_18 =>
  some (.inl (out_18, w64 (i_2 + 1)))
  else
  some (.inr out_1)
def f86 (d : Database) : Option (List (List Int)) :=
 (iter (f86_0 d) ([], 0)).bind fun out_21 =>
 some out_21
def f174_0 (a : Atom) (f : Fact) : (List Int) × Int -> Option (((List Int) × Int) ⊕ ((List Int) ⊕ ((List Int) × Bool)))
 | (x_7, i_8) =>
  if i_8 < (a.Terms.length : Int) then
  ((((ix a.Terms i_8).bind fun v_12 =>
  if v_12 < 0 then
  (ix f.Values i_8).bind fun v_15 =>
  if (w64 ((-1) - v_12)) ≠ v_15 then
  some (.inr (x_7, false))
  else
  some (.inl x_7)
  else
  (ix x_7 v_12).bind fun v_18 =>
  (((if v_18 >= 0 then
  (ix f.Values i_8).bind fun v_23 =>
  some (decide (v_18 ≠ v_23))
  else
  some false) : Option (Bool))).bind fun x_20 =>
  if x_20 = true then
  some (.inr (x_7, false))
  else
  (ix f.Values i_8).bind fun v_26 =>
  some (.inl (x_7.set v_12.toNat v_26))) : Option ((List Int) ⊕ ((List Int) × Bool)))).bind fun o => match o with
  | .inl x_29 =>
  some (.inl (x_29, w64 (i_8 + 1)))
  | .inr (x_30, x_31) =>
  some (.inr (.inr (x_30, x_31)))
  else
  some (.inr (.inl x_7))
def f174 (a : Atom) (f : Fact) (vals : (List Int)) : Option ((List Int) × Bool) :=
 (app 8 ([]) vals).bind fun l_1 =>
 (((if f.Relation ≠ a.Relation then
 some true
 else
 some (decide ((f.Values.length : Int) ≠ (a.Terms.length : Int)))) : Option (Bool))).bind fun x_3 =>
 if x_3 = true then
 some (l_1, false)
 else
 (iter (f174_0 a f) (l_1, 0)).bind fun o => match o with
 | .inl x_34 =>
 some (x_34, true)
 | .inr (x_35, x_36) =>
 some (x_35, x_36)
def f132_1 (d : Database) (f : (List RewritingStep)) (n2 : Int) (rec : Database -> (List RewritingStep) -> Int -> (List Int) -> Option Bool) (v_2 : RewritingStep) (o6 : (List (List Int))) (i_8 : Int) (o23 : ((List Int) × Bool)) : Bool × Int -> Option ((Bool × Int) ⊕ Bool)
 | (is_25, k_26) =>
  (ix o6 i_8).bind fun v_27 =>
  (((if k_26 < (v_27.length : Int) then
  some is_25
  else
  some false) : Option (Bool))).bind fun x_29 =>
  if x_29 = true then
  (ix v_27 k_26).bind fun v_33 =>
  (ix d.Facts v_33).bind fun v_35 =>
  (f174 v_2.Atom v_35 o23.1).bind fun o37 =>
  (((if o37.2 = true then
  (rec d f (w64 (n2 + 1)) o37.1).bind fun o42 =>
  some o42
  else
  some false) : Option (Bool))).bind fun is_39 =>
  some (.inl (is_39, w64 (k_26 + 1)))
  else
  some (.inr is_25)
def f132_0 (d : Database) (f : (List RewritingStep)) (n2 : Int) (vals : (List Int)) (rec : Database -> (List RewritingStep) -> Int -> (List Int) -> Option Bool) (v_2 : RewritingStep) (v_4 : Relation) (o6 : (List (List Int))) : Int -> Option (Int ⊕ (Unit ⊕ Bool))
 | i_8 =>
  if i_8 < (o6.length : Int) then
  ((((ix o6 i_8).bind fun v_12 =>
  (ix v_12 0).bind fun v_14 =>
  (ix d.Facts v_14).bind fun v_16 =>
  if v_16.Relation ≠ v_2.Atom.Relation then
  some (.inl ())
  else
  (cutL v_2.Atom.Terms 0 v_4.KeyLength).bind fun l_19 =>
  (cutL v_16.Values 0 v_4.KeyLength).bind fun l_21 =>
  (f174 ({ Relation := v_2.Atom.Relation, Terms := l_19 } : Atom) ({ Relation := v_2.Atom.Relation, Values := l_21 } : Fact) vals).bind fun o23 =>
  (iter ((f132_1 d f n2 rec v_2 o6 i_8 o23)) (o23.2, 0)).bind fun is_46 =>
  if is_46 = true then
  some (.inr true)
  else
  some (.inl ())) : Option (Unit ⊕ Bool))).bind fun o => match o with
  | .inl _ =>
  some (.inl (w64 (i_8 + 1)))
  | .inr x_48 =>
  some (.inr (.inr x_48))
  else
  some (.inr (.inl ()))
def f132 : Nat -> Database -> (List RewritingStep) -> Int -> (List Int) -> Option Bool
 | 0 => fun _ _ _ _ => none
 | n + 1 => fun d f n2 vals =>
  if n2 = (f.length : Int) then
  some true
  else
  (ix f n2).bind fun v_2 =>
  (ix d.Relations v_2.Atom.Relation).bind fun v_4 =>
  (f86 d).bind fun o6 =>
  (iter (f132_0 d f n2 vals (f132 n) v_2 v_4 o6) 0).bind fun o => match o with
  | .inl _ =>
  some false
  | .inr x_51 =>
  some x_51
def f70_0 (vals : (List Int)) : (List Int) × Int -> Option (((List Int) × Int) ⊕ (List Int))
 | (x_14, i_15) =>
  if i_15 < (vals.length : Int) then
  (ix vals i_15).bind fun v_17 =>
  (ix x_14 i_15).bind fun v_19 =>
  some (.inl ((x_14.set i_15.toNat (if v_17 > -1 then v_17 else -1)), w64 (i_15 + 1)))
  else
  some (.inr x_14)
def f70 (d : Database) (f : (List RewritingStep)) (vals : (List Int)) : Option Bool :=
 (f69 d).bind fun o1 =>
 (((if ¬ (o1 = true) then
 some true
 else
 (f130 d.Relations f).bind fun o6 =>
 (((if ¬ (o6 = true) then
 some true
 else
 some (decide ((vals.length : Int) > 4))) : Option (Bool))).bind fun x_8 =>
 some x_8) : Option (Bool))).bind fun x_3 =>
 if x_3 = true then
 some false
 else
 (f131 4).bind fun o12 =>
 (iter ((f70_0 vals)) (o12, 0)).bind fun x_24 =>
 (f132 64 d f 0 x_24).bind fun o25 =>
 some o25
def f20 (d : Database) (q : Query) : Option (Bool × Bool) :=
 (f8 d.Relations q).bind fun o1 =>
 (((if ¬ (o1.2 = true) then
 some true
 else
 (f69 d).bind fun o6 =>
 (((if ¬ (o6 = true) then
 some true
 else
 some (decide ((q.Free.length : Int) > 0))) : Option (Bool))).bind fun x_8 =>
 some x_8) : Option (Bool))).bind fun x_3 =>
 if x_3 = true then
 some (false, false)
 else
 (f70 d o1.1 ([])).bind fun o12 =>
 some (o12, true)
def f121 (n0 : Int) (low : Int) (high : Int) : Option Bool :=
 (((if low <= n0 then
 some (decide (n0 <= high))
 else
 some false) : Option (Bool))).bind fun x_1 =>
 some x_1
def f175 (relation : Relation) : Option Bool :=
 (((if (relation.Name.length : Int) = 1 then
 (ix relation.Name 0).bind fun c_4 =>
 (((if (c_4.toNat : Int) >= 97 then
 (((if (c_4.toNat : Int) <= 122 then
 (f121 relation.Arity 1 3).bind fun o12 =>
 (((if o12 = true then
 (f121 relation.KeyLength 0 relation.Arity).bind fun o17 =>
 some o17
 else
 some false) : Option (Bool))).bind fun x_14 =>
 some x_14
 else
 some false) : Option (Bool))).bind fun x_9 =>
 some x_9
 else
 some false) : Option (Bool))).bind fun x_6 =>
 some x_6
 else
 some false) : Option (Bool))).bind fun x_1 =>
 some x_1
def f134_0 (relations : (List Relation)) : Int -> Option (Int ⊕ (Unit ⊕ Bool))
 | x_1 =>
  if x_1 < (relations.length : Int) then
  (ix relations x_1).bind fun v_3 =>
  (f175 v_3).bind fun o5 =>
  (((if ¬ (o5 = true) then
  some true
  else
  (((if x_1 > 0 then
  (ix relations (w64 (x_1 - 1))).bind fun v_13 =>
  some (!(Op.bytesLess v_13.Name v_3.Name))
  else
  some false) : Option (Bool))).bind fun x_10 =>
  some x_10) : Option (Bool))).bind fun x_7 =>
  if x_7 = true then
  some (.inr (.inr false))
  else
  some (.inl (w64 (x_1 + 1)))
  else
  some (.inr (.inl ()))
def f134 (relations : (List Relation)) : Option Bool :=
 (iter (f134_0 relations) 0).bind fun o => match o with
 | .inl _ =>
 some (decide ((relations.length : Int) <= 4))
 | .inr x_18 =>
 some x_18
def f93_0 (indices : (List Int)) (n1 : Int) : Int -> Option (Int ⊕ (Unit ⊕ Bool))
 | x_1 =>
  if x_1 < (indices.length : Int) then
  (ix indices x_1).bind fun v_3 =>
  (f121 v_3 0 (w64 (n1 - 1))).bind fun o5 =>
  (((if ¬ (o5 = true) then
  some true
  else
  (((if x_1 > 0 then
  (ix indices (w64 (x_1 - 1))).bind fun v_13 =>
  some (decide (v_13 >= v_3))
  else
  some false) : Option (Bool))).bind fun x_10 =>
  some x_10) : Option (Bool))).bind fun x_7 =>
  if x_7 = true then
  some (.inr (.inr false))
  else
  some (.inl (w64 (x_1 + 1)))
  else
  some (.inr (.inl ()))
def f93 (indices : (List Int)) (n1 : Int) : Option Bool :=
 (iter (f93_0 indices n1) 0).bind fun o => match o with
 | .inl _ =>
 some true
 | .inr x_18 =>
 some x_18
def f206_0 (s0 : (List Atom)) (f : Atom -> Option Bool) : Int -> Option (Int ⊕ (Unit ⊕ Int))
 | x_1 =>
  if x_1 < (s0.length : Int) then
  (ix s0 x_1).bind fun v_3 =>
  (f v_3).bind fun o5 =>
  if o5 = true then
  some (.inr (.inr x_1))
  else
  some (.inl (w64 (x_1 + 1)))
  else
  some (.inr (.inl ()))
def f206 (s0 : (List Atom)) (f : Atom -> Option Bool) : Option Int :=
 (iter (f206_0 s0 f) 0).bind fun o => match o with
 | .inl _ =>
 some (-1)
 | .inr x_10 =>
 some x_10
def f165 (s0 : (List Atom)) (f : Atom -> Option Bool) : Option Bool :=
 (f206 s0 f).bind fun o1 =>
 some (decide (o1 >= 0))
def f166 (own : Atom) (c : Atom) : Option Bool :=
 some (decide (own.Relation = c.Relation))
def f169 (n : Int) : Option Nat := growN 8 n
def f122_0 (slices : (List (List Int))) : Int × Int -> Option ((Int × Int) ⊕ Int)
 | (size_1, x_2) =>
  if x_2 < (slices.length : Int) then
  (ix slices x_2).bind fun v_4 =>
  (((if (w64 (size_1 + (v_4.length : Int))) < 0 then
  none
  else
  some ()) : Option Unit)).bind fun _ =>
  some (.inl (w64 (size_1 + (v_4.length : Int)), w64 (x_2 + 1)))
  else
  some (.inr size_1)
def f122_1 (slices : (List (List Int))) : Nat × (List Int) × Int -> Option ((Nat × (List Int) × Int) ⊕ (Nat × (List Int)))
 | (newslice_14, newslice_15, x_16) =>
  if x_16 < (slices.length : Int) then
  (ix slices x_16).bind fun v_18 =>
  (apps 8 newslice_15 newslice_14 v_18).bind fun l_20 =>
  some (.inl (l_20.2, l_20.1, w64 (x_16 + 1)))
  else
  some (.inr (newslice_14, newslice_15))
def f122 (slices : (List (List Int))) : Option (List Int) :=
 (iter (f122_0 slices) (0, 0)).bind fun size_11 =>
 (f169 size_11).bind fun o12 =>
 (iter (f122_1 slices) (o12, [], 0)).bind fun (newslice_24, newslice_25) =>
 (nsk newslice_24).bind fun _ =>
 some newslice_25
def f123 (l : List Int) : Option (List Int) := sortN l
def f124 (l : List Int) : Option (List Int) := compactN l
def f57 (a : (List Int)) (b : (List Int)) : Option (List Int) :=
 (f122 ([a, b])).bind fun o1 =>
 (f123 o1).bind fun o3 =>
 (f124 o3).bind fun o5 =>
 some o5
def f55_0 (atom : Atom) : (List Int) × Int -> Option (((List Int) × Int) ⊕ (List Int))
 | (out_1, x_2) =>
  if x_2 < (atom.Terms.length : Int) then
  (ix atom.Terms x_2).bind fun v_4 =>
  (f121 v_4 0 3).bind fun o6 =>
  (((if o6 = true then
  (app 8 out_1 ([v_4])).bind fun l_11 =>
  some l_11
  else
  some out_1) : Option (List Int))).bind fun out_13 =>
  some (.inl (out_13, w64 (x_2 + 1)))
  else
  some (.inr out_1)
def f55 (atom : Atom) : Option (List Int) :=
 (iter (f55_0 atom) ([], 0)).bind fun out_16 =>
 (f57 out_16 ([] : (List Int))).bind fun o17 =>
 some o17
def f115_1 (query : Query) (v_22 : Atom) : Int -> Option (Int ⊕ (Unit ⊕ Bool))
 | x_39 =>
  if x_39 < (v_22.Terms.length : Int) then
  (ix v_22.Terms x_39).bind fun v_41 =>
  (f121 v_41 (-10) (w64 (query.VariableCount - 1))).bind fun o43 =>
  if ¬ (o43 = true) then
  some (.inr (.inr false))
  else
  some (.inl (w64 (x_39 + 1)))
  else
  some (.inr (.inl ()))
def f115_0 (relations : (List Relation)) (query : Query) : (List Int) × Int -> Option (((List Int) × Int) ⊕ ((List Int) ⊕ Bool))
 | (occurring_19, x_20) =>
  if x_20 < (query.Atoms.length : Int) then
  (ix query.Atoms x_20).bind fun v_22 =>
  (f121 v_22.Relation 0 (w64 ((relations.length : Int) - 1))).bind fun o24 =>
  (((if ¬ (o24 = true) then
  some true
  else
  (ix relations v_22.Relation).bind fun v_29 =>
  (((if (v_22.Terms.length : Int) ≠ v_29.Arity then
  some true
  else
  (cutL query.Atoms 0 x_20).bind fun l_34 =>
  (f165 l_34 (fun x0 => f166 x0 v_22)).bind fun o36 =>
  some o36) : Option (Bool))).bind fun x_31 =>
  some x_31) : Option (Bool))).bind fun x_26 =>
  if x_26 = true then
  some (.inr (.inr false))
  else
  (iter ((f115_1 query v_22)) 0).bind fun o => match o with
  | .inl _ =>
  (f55 v_22).bind fun o49 =>
  (f57 occurring_19 o49).bind fun o51 =>
  some (.inl (o51, w64 (x_20 + 1)))
  | .inr x_48 =>
  some (.inr (.inr x_48))
  else
  some (.inr (.inl occurring_19))
def f115 (relations : (List Relation)) (query : Query) : Option Bool :=
 (f134 relations).bind fun o1 =>
 (((if ¬ (o1 = true) then
 some true
 else
 (f121 query.VariableCount 0 4).bind fun o6 =>
 (((if ¬ (o6 = true) then
 some true
 else
 (f121 (query.Atoms.length : Int) 1 3).bind fun o11 =>
 (((if ¬ (o11 = true) then
 some true
 else
 (f93 query.Free query.VariableCount).bind fun o16 =>
 some (decide (¬ (o16 = true)))) : Option (Bool))).bind fun x_13 =>
 some x_13) : Option (Bool))).bind fun x_8 =>
 some x_8) : Option (Bool))).bind fun x_3 =>
 if x_3 = true then
 some false
 else
 (iter (f115_0 relations query) ([], 0)).bind fun o => match o with
 | .inl occurring_55 =>
 some (decide ((occurring_55.length : Int) = query.VariableCount))
 | .inr x_56 =>
 some x_56
def f54 (relations : (List Relation)) (atom : Atom) : Option (List Int) :=
 (f121 atom.Relation 0 (w64 ((relations.length : Int) - 1))).bind fun o1 =>
 (((if ¬ (o1 = true) then
 some true
 else
 (ix relations atom.Relation).bind fun v_6 =>
 (f121 v_6.KeyLength 0 (atom.Terms.length : Int)).bind fun o8 =>
 some (decide (¬ (o8 = true)))) : Option (Bool))).bind fun x_3 =>
 if x_3 = true then
 some ([])
 else
 (ix relations atom.Relation).bind fun v_11 =>
 (cutL atom.Terms 0 v_11.KeyLength).bind fun l_13 =>
 (f55 ({ Relation := 0, Terms := l_13 } : Atom)).bind fun o15 =>
 some o15
def f95_0 (s0 : (List Int)) (f : Int -> Option Bool) : Int -> Option (Int ⊕ (Unit ⊕ Int))
 | x_1 =>
  if x_1 < (s0.length : Int) then
  (ix s0 x_1).bind fun v_3 =>
  (f v_3).bind fun o5 =>
  if o5 = true then
  some (.inr (.inr x_1))
  else
  some (.inl (w64 (x_1 + 1)))
  else
  some (.inr (.inl ()))
def f95 (s0 : (List Int)) (f : Int -> Option Bool) : Option Int :=
 (iter (f95_0 s0 f) 0).bind fun o => match o with
 | .inl _ =>
 some (-1)
 | .inr x_10 =>
 some x_10
def f179 (s0 : (List Int)) (f : Int -> Option Bool) : Option Bool :=
 (f95 s0 f).bind fun o1 =>
 some (decide (o1 >= 0))
def f156_0 (s0 : (List Int)) (v : Int) : Int -> Option (Int ⊕ (Unit ⊕ Int))
 | x_1 =>
  if x_1 < (s0.length : Int) then
  (ix s0 x_1).bind fun v_3 =>
  if v = v_3 then
  some (.inr (.inr x_1))
  else
  some (.inl (w64 (x_1 + 1)))
  else
  some (.inr (.inl ()))
def f156 (s0 : (List Int)) (v : Int) : Option Int :=
 (iter (f156_0 s0 v) 0).bind fun o => match o with
 | .inl _ =>
 some (-1)
 | .inr x_8 =>
 some x_8
def f97 (s0 : (List Int)) (v : Int) : Option Bool :=
 (f156 s0 v).bind fun o1 =>
 some (decide (o1 >= 0))
def f222 (n0 : Int) (c : (List Int)) : Option Bool :=
 (f97 c n0).bind fun o1 =>
 some (decide (¬ (o1 = true)))
def f181 (a : (List Int)) (b : (List Int)) : Option Bool :=
 (f179 a (fun x0 => f222 x0 b)).bind fun o1 =>
 some (decide (¬ (o1 = true)))
def f208_1 (relations : (List Relation)) (atoms : (List Atom)) (skip : Int) : (List Int) × Int -> Option (((List Int) × Int) ⊕ (List Int))
 | (larger_4, x_5) =>
  if x_5 < (atoms.length : Int) then
  (ix atoms x_5).bind fun v_7 =>
  (((if x_5 ≠ skip then
  (f54 relations v_7).bind fun o12 =>
  (f181 o12 larger_4).bind fun o14 =>
  some o14
  else
  some false) : Option (Bool))).bind fun x_9 =>
  (((if x_9 = true then
  (f55 v_7).bind fun o19 =>
  (f57 larger_4 o19).bind fun o21 =>
  some o21
  else
  some larger_4) : Option (List Int))).bind fun larger_23 =>
  some (.inl (larger_23, w64 (x_5 + 1)))
  else
  some (.inr larger_4)
def f208_0 (relations : (List Relation)) (atoms : (List Atom)) (skip : Int) : (List Int) -> Option ((List Int) ⊕ (List Int))
 | out_3 =>
  (iter ((f208_1 relations atoms skip)) (out_3, 0)).bind fun larger_26 =>
  if (larger_26.length : Int) = (out_3.length : Int) then
  some (.inr out_3)
  else
  some (.inl larger_26)
def f208 (relations : (List Relation)) (atoms : (List Atom)) (skip : Int) (variables : (List Int)) : Option (List Int) :=
 (f57 variables ([] : (List Int))).bind fun o1 =>
 (iter (f208_0 relations atoms skip) o1).bind fun x_30 =>
 some x_30
def f56_0 (a : (List Int)) (b : (List Int)) : (List Int) × Int -> Option (((List Int) × Int) ⊕ (List Int))
 | (out_1, x_2) =>
  if x_2 < (a.length : Int) then
  (ix a x_2).bind fun v_4 =>
  (f97 b v_4).bind fun o6 =>
  (((if ¬ (o6 = true) then
  (app 8 out_1 ([v_4])).bind fun l_11 =>
  some l_11
  else
  some out_1) : Option (List Int))).bind fun out_13 =>
  some (.inl (out_13, w64 (x_2 + 1)))
  else
  some (.inr out_1)
def f56 (a : (List Int)) (b : (List Int)) : Option (List Int) :=
 (iter (f56_0 a b) ([], 0)).bind fun out_16 =>
 some out_16
def f168_1 (atoms : (List Atom)) (o7 : (List Int)) : (List Int) × Int -> Option (((List Int) × Int) ⊕ (List Int))
 | (larger_14, x_15) =>
  if x_15 < (atoms.length : Int) then
  (ix atoms x_15).bind fun v_17 =>
  (f55 v_17).bind fun o19 =>
  (f56 o19 o7).bind fun o21 =>
  (f56 o21 larger_14).bind fun o23 =>
  (((if (o23.length : Int) < (o21.length : Int) then
  (f57 larger_14 o21).bind fun o28 =>
  some o28
  else
  some larger_14) : Option (List Int))).bind fun larger_30 =>
  some (.inl (larger_30, w64 (x_15 + 1)))
  else
  some (.inr larger_14)
def f168_0 (atoms : (List Atom)) (o7 : (List Int)) : (List Int) -> Option ((List Int) ⊕ (List Int))
 | out_13 =>
  (iter ((f168_1 atoms o7)) (out_13, 0)).bind fun larger_33 =>
  if (larger_33.length : Int) = (out_13.length : Int) then
  some (.inr out_13)
  else
  some (.inl larger_33)
def f168 (relations : (List Relation)) (atoms : (List Atom)) (free : (List Int)) (atom : Int) : Option (List Int) :=
 (ix atoms atom).bind fun v_1 =>
 (f54 relations v_1).bind fun o3 =>
 (f122 ([free, o3])).bind fun o5 =>
 (f208 relations atoms atom o5).bind fun o7 =>
 (f55 v_1).bind fun o9 =>
 (f56 o9 o7).bind fun o11 =>
 (iter ((f168_0 atoms o7)) o11).bind fun x_37 =>
 some x_37
def f120 (relations : (List Relation)) (atoms : (List Atom)) (free : (List Int)) (from3 : Int) (to : Int) : Option Bool :=
 (ix atoms to).bind fun v_1 =>
 (f55 v_1).bind fun o3 =>
 (((if from3 ≠ to then
 (f168 relations atoms free from3).bind fun o8 =>
 (f56 o3 o8).bind fun o10 =>
 some (decide ((o10.length : Int) < (o3.length : Int)))
 else
 some false) : Option (Bool))).bind fun x_5 =>
 some x_5
def f116 (relations : (List Relation)) (query : Query) (from2 : Int) (to : Int) : Option Bool :=
 (f115 relations query).bind fun o1 =>
 (((if o1 = true then
 (f121 from2 0 (w64 ((query.Atoms.length : Int) - 1))).bind fun o6 =>
 (((if o6 = true then
 (f121 to 0 (w64 ((query.Atoms.length : Int) - 1))).bind fun o11 =>
 (((if o11 = true then
 (f120 relations query.Atoms query.Free from2 to).bind fun o16 =>
 some o16
 else
 some false) : Option (Bool))).bind fun x_13 =>
 some x_13
 else
 some false) : Option (Bool))).bind fun x_8 =>
 some x_8
 else
 some false) : Option (Bool))).bind fun x_3 =>
 some x_3
def f192 (s0 : (List Int)) : Option (List Int) :=
 (app 8 ([]) s0).bind fun l_1 =>
 some l_1
def f207_0 (variables : (List Int)) : (List Int) × Int -> Option (((List Int) × Int) ⊕ (List Int))
 | (given_6, x_7) =>
  if x_7 < (variables.length : Int) then
  (ix variables x_7).bind fun v_9 =>
  (f121 v_9 0 3).bind fun o11 =>
  (((if o11 = true then
  (app 8 given_6 ([v_9])).bind fun l_16 =>
  some l_16
  else
  some given_6) : Option (List Int))).bind fun given_18 =>
  some (.inl (given_18, w64 (x_7 + 1)))
  else
  some (.inr given_6)
def f207 (relations : (List Relation)) (query : Query) (skip : Int) (variables : (List Int)) : Option (List Int) :=
 (f115 relations query).bind fun o1 =>
 if ¬ (o1 = true) then
 some ([])
 else
 (f192 query.Free).bind fun o4 =>
 (iter ((f207_0 variables)) (o4, 0)).bind fun given_21 =>
 (f208 relations query.Atoms skip given_21).bind fun o22 =>
 some o22
def f167 (relations : (List Relation)) (query : Query) (from2 : (List Int)) (to : (List Int)) : Option Bool :=
 (f115 relations query).bind fun o1 =>
 (((if o1 = true then
 (f207 relations query (-1) from2).bind fun o6 =>
 (f181 to o6).bind fun o8 =>
 some o8
 else
 some false) : Option (Bool))).bind fun x_3 =>
 some x_3
def f117 (relations : (List Relation)) (query : Query) (from2 : Int) (to : Int) : Option Bool :=
 (f116 relations query from2 to).bind fun o1 =>
 (((if o1 = true then
 (ix query.Atoms from2).bind fun v_6 =>
 (ix query.Atoms to).bind fun v_8 =>
 (f54 relations v_6).bind fun o10 =>
 (f54 relations v_8).bind fun o12 =>
 (f167 relations query o10 o12).bind fun o14 =>
 some o14
 else
 some false) : Option (Bool))).bind fun x_3 =>
 some x_3
def f118_1 (relations : (List Relation)) (query : Query) (v_19 : Int) : (List Bool) × (List Int) × Int -> Option (((List Bool) × (List Int) × Int) ⊕ ((List Bool) × (List Int)))
 | (reached_23, todo_24, x_25) =>
  if x_25 < (query.Atoms.length : Int) then
  (ix reached_23 x_25).bind fun v_27 =>
  (((if ¬ (v_27 = true) then
  (f116 relations query v_19 x_25).bind fun o32 =>
  some o32
  else
  some false) : Option (Bool))).bind fun x_29 =>
  (((if x_29 = true then
  (app 8 todo_24 ([x_25])).bind fun l_38 =>
  some ((reached_23.set x_25.toNat true), l_38)
  else
  some (reached_23, todo_24)) : Option ((List Bool) × (List Int)))).bind fun (reached_40, todo_41) =>
  some (.inl (reached_40, todo_41, w64 (x_25 + 1)))
  else
  some (.inr (reached_23, todo_24))
def f118_0 (relations : (List Relation)) (query : Query) : (List Bool) × (List Int) -> Option (((List Bool) × (List Int)) ⊕ (List Bool))
 | (reached_16, todo_17) =>
  if (todo_17.length : Int) > 0 then
  (ix todo_17 0).bind fun v_19 =>
  (cutL todo_17 1 todo_17.length).bind fun l_21 =>
  (iter ((f118_1 relations query v_19)) (reached_16, l_21, 0)).bind fun (reached_44, todo_45) =>
  some (.inl (reached_44, todo_45))
  else
  some (.inr reached_16)
def f118 (relations : (List Relation)) (query : Query) (from2 : Int) (to : Int) : Option Bool :=
 (f115 relations query).bind fun o1 =>
 (((if ¬ (o1 = true) then
 some true
 else
 (f121 from2 0 (w64 ((query.Atoms.length : Int) - 1))).bind fun o6 =>
 (((if ¬ (o6 = true) then
 some true
 else
 (f121 to 0 (w64 ((query.Atoms.length : Int) - 1))).bind fun o11 =>
 some (decide (¬ (o11 = true)))) : Option (Bool))).bind fun x_8 =>
 some x_8) : Option (Bool))).bind fun x_3 =>
 if x_3 = true then
 some false
 else
 (mkl 1 (w64 ((w64 ((query.Atoms.length : Int) - 1)) + 1)) false).bind fun l_14 =>
 (iter ((f118_0 relations query)) (l_14, [from2])).bind fun reached_48 =>
 (ix reached_48 to).bind fun v_49 =>
 some v_49
def f119_0 (relations : (List Relation)) (query : Query) : Int -> Option (Int ⊕ (Unit ⊕ Bool))
 | x_1 =>
  if x_1 < (query.Atoms.length : Int) then
  (f118 relations query x_1 x_1).bind fun o3 =>
  if o3 = true then
  some (.inr (.inr true))
  else
  some (.inl (w64 (x_1 + 1)))
  else
  some (.inr (.inl ()))
def f119 (relations : (List Relation)) (query : Query) : Option Bool :=
 (iter (f119_0 relations query) 0).bind fun o => match o with
 | .inl _ =>
 some false
 | .inr x_8 =>
 some x_8
def f51_1 (relations : (List Relation)) (query : Query) (x_4 : Int) : Int -> Option (Int ⊕ (Unit ⊕ Int))
 | x_6 =>
  if x_6 < (query.Atoms.length : Int) then
  (f116 relations query x_4 x_6).bind fun o8 =>
  (((if o8 = true then
  (f117 relations query x_4 x_6).bind fun o13 =>
  (((if ¬ (o13 = true) then
  (f118 relations query x_6 x_4).bind fun o18 =>
  some o18
  else
  some false) : Option (Bool))).bind fun x_15 =>
  some x_15
  else
  some false) : Option (Bool))).bind fun x_10 =>
  if x_10 = true then
  some (.inr (.inr 3))
  else
  some (.inl (w64 (x_6 + 1)))
  else
  some (.inr (.inl ()))
def f51_0 (relations : (List Relation)) (query : Query) : Int -> Option (Int ⊕ (Unit ⊕ Int))
 | x_4 =>
  if x_4 < (query.Atoms.length : Int) then
  (iter (f51_1 relations query x_4) 0).bind fun o => match o with
  | .inl _ =>
  some (.inl (w64 (x_4 + 1)))
  | .inr x_23 =>
  some (.inr (.inr x_23))
  else
  some (.inr (.inl ()))
def f51 (relations : (List Relation)) (query : Query) : Option Int :=
 (f115 relations query).bind fun o1 =>
 if ¬ (o1 = true) then
 some 0
 else
 (iter (f51_0 relations query) 0).bind fun o => match o with
 | .inl _ =>
 (f119 relations query).bind fun o27 =>
 if o27 = true then
 some 2
 else
 some 1
 | .inr x_26 =>
 some x_26
def f52_1 (relations : (List Relation)) (atoms : (List Atom)) (free : (List Int)) (x_2 : Int) : Bool × Int -> Option ((Bool × Int) ⊕ Bool)
 | (is_4, x_5) =>
  if x_5 < (atoms.length : Int) then
  (((if is_4 = true then
  (f120 relations atoms free x_5 x_2).bind fun o10 =>
  some (decide (¬ (o10 = true)))
  else
  some false) : Option (Bool))).bind fun is_7 =>
  some (.inl (is_7, w64 (x_5 + 1)))
  else
  some (.inr is_4)
def f52_0 (relations : (List Relation)) (atoms : (List Atom)) (free : (List Int)) : (List Int) × Int -> Option (((List Int) × Int) ⊕ (List Int))
 | (out_1, x_2) =>
  if x_2 < (atoms.length : Int) then
  (iter ((f52_1 relations atoms free x_2)) (true, 0)).bind fun is_14 =>
  (((if is_14 = true then
  (app 8 out_1 ([x_2])).bind fun l_18 =>
  some l_18
  else
  some out_1) : Option (List Int))).bind fun out_20 =>
  some (.inl (out_20, w64 (x_2 + 1)))
  else
  some (.inr out_1)
def f52 (relations : (List Relation)) (atoms : (List Atom)) (free : (List Int)) : Option (List Int) :=
 (iter (f52_0 relations atoms free) ([], 0)).bind fun out_23 =>
 some out_23
def f53 (atom : Atom) : Option Atom :=
 (app 8 ([]) atom.Terms).bind fun l_1 =>
 some ({ Relation := atom.Relation, Terms := l_1 } : Atom)
def f59 (s0 : (List Atom)) : Option (List Atom) :=
 (app 32 ([]) s0).bind fun l_1 =>
 some l_1
def f58 (a0 : (List Atom)) (a1 : Int) (a2 : Int) : Option (List Atom) := delN 32 a0 a1 a2
def f11_0 (relations : (List Relation)) : (List RewritingStep) × (List Int) × (List Atom) -> Option (((List RewritingStep) × (List Int) × (List Atom)) ⊕ ((List RewritingStep) ⊕ ((List RewritingStep) × Bool)))
 | (out_4, free_5, atoms_6) =>
  if (atoms_6.length : Int) > 0 then
  (f52 relations atoms_6 free_5).bind fun o8 =>
  if (o8.length : Int) = 0 then
  some (.inr (.inr ([], false)))
  else
  (ix o8 0).bind fun v_11 =>
  (ix atoms_6 v_11).bind fun v_13 =>
  (f53 v_13).bind fun o15 =>
  (f54 relations o15).bind fun o17 =>
  (f55 o15).bind fun o19 =>
  (f56 o17 free_5).bind fun o21 =>
  (f56 o19 o17).bind fun o23 =>
  (f56 o23 free_5).bind fun o25 =>
  (app 80 out_4 ([({ Atom := o15, Existential := o21, Universal := o25 } : RewritingStep)])).bind fun l_27 =>
  (f57 free_5 o19).bind fun o29 =>
  (f59 atoms_6).bind fun o31 =>
  (f58 o31 v_11 (w64 (v_11 + 1))).bind fun o33 =>
  some (.inl (l_27, o29, o33))
  else
  some (.inr (.inl out_4))
def f11 (relations : (List Relation)) (query : Query) : Option ((List RewritingStep) × Bool) :=
 (f51 relations query).bind fun o1 =>
 if o1 ≠ 1 then
 some ([], false)
 else
 (iter ((f11_0 relations)) ([], query.Free, query.Atoms)).bind fun o => match o with
 | .inl out_37 =>
 some (out_37, true)
 | .inr (x_38, x_39) =>
 some (x_38, x_39)
def f220 (v : Int) : Option Bool :=
 (f121 v 0 9).bind fun o1 =>
 some (decide (¬ (o1 = true)))
def f176 (list : (List Int)) : Option Bool :=
 (f179 list (fun x0 => f220 x0)).bind fun o1 =>
 some (decide (¬ (o1 = true)))
def f135 (relations : (List Relation)) (fact : Fact) : Option Bool :=
 (f121 fact.Relation 0 (w64 ((relations.length : Int) - 1))).bind fun o1 =>
 (((if o1 = true then
 (ix relations fact.Relation).bind fun v_6 =>
 (((if (fact.Values.length : Int) = v_6.Arity then
 (f176 fact.Values).bind fun o11 =>
 some o11
 else
 some false) : Option (Bool))).bind fun x_8 =>
 some x_8
 else
 some false) : Option (Bool))).bind fun x_3 =>
 some x_3
def f177 (a : Int) (b : Int) : Option Int :=
 if a < b then
 some (-1)
 else
 if a > b then
 some 1
 else
 some 0
def f244 (x : Int) : Option Bool :=
 some (decide (x ≠ x))
def f221 (x : Int) (y : Int) : Option Int :=
 (f244 x).bind fun o1 =>
 (f244 y).bind fun o3 =>
 if o1 = true then
 if o3 = true then
 some 0
 else
 some (-1)
 else
 if o3 = true then
 some 1
 else
 if x < y then
 some (-1)
 else
 if x > y then
 some 1
 else
 some 0
def f178_0 (s1 : (List Int)) (s2 : (List Int)) : Int -> Option (Int ⊕ (Unit ⊕ Int))
 | x_1 =>
  if x_1 < (s1.length : Int) then
  (ix s1 x_1).bind fun v_3 =>
  if x_1 >= (s2.length : Int) then
  some (.inr (.inr 1))
  else
  (ix s2 x_1).bind fun v_6 =>
  (f221 v_3 v_6).bind fun o8 =>
  if o8 ≠ 0 then
  some (.inr (.inr o8))
  else
  some (.inl (w64 (x_1 + 1)))
  else
  some (.inr (.inl ()))
def f178 (s1 : (List Int)) (s2 : (List Int)) : Option Int :=
 (iter (f178_0 s1 s2) 0).bind fun o => match o with
 | .inl _ =>
 if (s1.length : Int) < (s2.length : Int) then
 some (-1)
 else
 some 0
 | .inr x_13 =>
 some x_13
def f136 (a : Fact) (b : Fact) : Option Int :=
 if a.Relation ≠ b.Relation then
 (f177 a.Relation b.Relation).bind fun o2 =>
 some o2
 else
 (f178 a.Values b.Values).bind fun o4 =>
 some o4
def f72_0 (db : Database) : Int -> Option (Int ⊕ (Unit ⊕ Bool))
 | x_7 =>
  if x_7 < (db.Facts.length : Int) then
  (ix db.Facts x_7).bind fun v_9 =>
  (f135 db.Relations v_9).bind fun o11 =>
  (((if ¬ (o11 = true) then
  some true
  else
  (((if x_7 > 0 then
  (ix db.Facts (w64 (x_7 - 1))).bind fun v_19 =>
  (f136 v_19 v_9).bind fun o21 =>
  some (decide (o21 >= 0))
  else
  some false) : Option (Bool))).bind fun x_16 =>
  some x_16) : Option (Bool))).bind fun x_13 =>
  if x_13 = true then
  some (.inr (.inr false))
  else
  some (.inl (w64 (x_7 + 1)))
  else
  some (.inr (.inl ()))
def f72 (db : Database) : Option Bool :=
 (f134 db.Relations).bind fun o1 =>
 (((if ¬ (o1 = true) then
 some true
 else
 some (decide ((db.Facts.length : Int) > 14))) : Option (Bool))).bind fun x_3 =>
 if x_3 = true then
 some false
 else
 (iter (f72_0 db) 0).bind fun o => match o with
 | .inl _ =>
 some true
 | .inr x_26 =>
 some x_26
def f180 (t : Int) : Option Bool :=
 (f121 t (-10) 3).bind fun o1 =>
 some (decide (¬ (o1 = true)))
def f137_0 (relations : (List Relation)) (rewriting : (List RewritingStep)) : Int -> Option (Int ⊕ (Unit ⊕ Bool))
 | x_1 =>
  if x_1 < (rewriting.length : Int) then
  (ix rewriting x_1).bind fun v_3 =>
  (((if x_1 >= 3 then
  some true
  else
  (f134 relations).bind fun o8 =>
  (((if ¬ (o8 = true) then
  some true
  else
  (f121 v_3.Atom.Relation 0 (w64 ((relations.length : Int) - 1))).bind fun o13 =>
  (((if ¬ (o13 = true) then
  some true
  else
  (ix relations v_3.Atom.Relation).bind fun v_18 =>
  some (decide ((v_3.Atom.Terms.length : Int) ≠ v_18.Arity))) : Option (Bool))).bind fun x_15 =>
  some x_15) : Option (Bool))).bind fun x_10 =>
  some x_10) : Option (Bool))).bind fun x_5 =>
  if x_5 = true then
  some (.inr (.inr false))
  else
  (f179 v_3.Atom.Terms (fun x0 => f180 x0)).bind fun o21 =>
  if o21 = true then
  some (.inr (.inr false))
  else
  (f54 relations v_3.Atom).bind fun o24 =>
  (f181 v_3.Existential o24).bind fun o26 =>
  (((if ¬ (o26 = true) then
  some true
  else
  (f55 v_3.Atom).bind fun o31 =>
  (f181 v_3.Universal o31).bind fun o33 =>
  some (decide (¬ (o33 = true)))) : Option (Bool))).bind fun x_28 =>
  if x_28 = true then
  some (.inr (.inr false))
  else
  some (.inl (w64 (x_1 + 1)))
  else
  some (.inr (.inl ()))
def f137 (relations : (List Relation)) (rewriting : (List RewritingStep)) : Option Bool :=
 (iter (f137_0 relations rewriting) 0).bind fun o => match o with
 | .inl _ =>
 some true
 | .inr x_38 =>
 some x_38
def f246 (x : Int) (y : Int) : Option (Int × Int) :=
 some (IntKind.u64.wrap ((IntKind.u64.wrap ((IntKind.u64.wrap ((sshr .u64 x 32) * (sshr .u64 y 32))) + (sshr .u64 (IntKind.u64.wrap ((IntKind.u64.wrap ((sshr .u64 x 32) * (band .u64 y 4294967295))) + (sshr .u64 (IntKind.u64.wrap ((band .u64 x 4294967295) * (band .u64 y 4294967295))) 32))) 32))) + (sshr .u64 (IntKind.u64.wrap ((band .u64 (IntKind.u64.wrap ((IntKind.u64.wrap ((sshr .u64 x 32) * (band .u64 y 4294967295))) + (sshr .u64 (IntKind.u64.wrap ((band .u64 x 4294967295) * (band .u64 y 4294967295))) 32))) 4294967295) + (IntKind.u64.wrap ((band .u64 x 4294967295) * (sshr .u64 y 32))))) 32)), IntKind.u64.wrap (x * y))
def f223 (x : Int) (y : Int) : Option (Int × Int) :=
 (f246 x y).bind fun o1 =>
 some (o1.1, o1.2)
def f182_0 : (List Int) × Int -> Option (((List Int) × Int) ⊕ (List Int))
 | (newslice_14, n_15) =>
  if n_15 < (newslice_14.length : Int) then
  (cutL newslice_14 0 n_15).bind fun z_17 =>
  some (.inl ((csL newslice_14 n_15.toNat), w64 (n_15 + (min n_15 ((newslice_14.length : Int) - n_15)))))
  else
  some (.inr newslice_14)
def f182 (x : (List Int)) (count : Int) : Option (List Int) :=
 (((if count < 0 then
 none
 else
 some ()) : Option Unit)).bind fun _ =>
 (f223 (IntKind.u64.wrap (x.length : Int)) (IntKind.u64.wrap count)).bind fun o4 =>
 (((if o4.1 > 0 then
 some true
 else
 some (decide (o4.2 > 9223372036854775807))) : Option (Bool))).bind fun x_6 =>
 (((if x_6 = true then
 none
 else
 some ()) : Option Unit)).bind fun _ =>
 (mkl 8 (w64 o4.2) 0).bind fun l_12 =>
 (iter f182_0 ((cpL l_12 x), ((min x.length l_12.length : Nat) : Int))).bind fun newslice_21 =>
 some newslice_21
def f138 (n0 : Int) : Option (List Int) :=
 (f182 ([-1]) n0).bind fun o1 =>
 some o1
def f202_0 (s1 : (List Int)) (s2 : (List Int)) : Int -> Option (Int ⊕ (Unit ⊕ Bool))
 | x_2 =>
  if x_2 < (s1.length : Int) then
  (ix s1 x_2).bind fun v_4 =>
  (ix s2 x_2).bind fun v_6 =>
  if v_4 ≠ v_6 then
  some (.inr (.inr false))
  else
  some (.inl (w64 (x_2 + 1)))
  else
  some (.inr (.inl ()))
def f202 (s1 : (List Int)) (s2 : (List Int)) : Option Bool :=
 if (s1.length : Int) ≠ (s2.length : Int) then
 some false
 else
 (iter (f202_0 s1 s2) 0).bind fun o => match o with
 | .inl _ =>
 some true
 | .inr x_11 =>
 some x_11
def f155 (relations : (List Relation)) (a : Fact) (b : Fact) : Option Bool :=
 if a.Relation ≠ b.Relation then
 some false
 else
 (ix relations a.Relation).bind fun v_2 =>
 (cutL a.Values 0 v_2.KeyLength).bind fun l_4 =>
 (cutL b.Values 0 v_2.KeyLength).bind fun l_6 =>
 (f202 l_4 l_6).bind fun o8 =>
 some o8
def f94_0 (db : Database) : (List (List Int)) × Int -> Option (((List (List Int)) × Int) ⊕ (List (List Int)))
 | (out_1, x_2) =>
  if x_2 < (db.Facts.length : Int) then
  (ix db.Facts x_2).bind fun v_4 =>
  (((if (w64 ((out_1.length : Int) - 1)) >= 0 then
  (ix out_1 (w64 ((out_1.length : Int) - 1))).bind fun v_9 =>
  (ix v_9 0).bind fun v_11 =>
  (ix db.Facts v_11).bind fun v_13 =>
  (f155 db.Relations v_13 v_4).bind fun o15 =>
  some o15
  else
  some false) : Option (Bool))).bind fun x_6 =>
  (((if x_6 = true then
  (ix out_1 (w64 ((out_1.length : Int) - 1))).bind fun v_20 =>
  (app 8 v_20 ([x_2])).bind fun l_22 =>
  some (out_1.set (w64 ((out_1.length : Int) - 1)).toNat l_22)
  else
  (app 24 out_1 ([[x_2]])).bind fun l_25 =>
  some l_25) : Option (List (List Int)))).bind fun out_27 =>
  some (.inl (out_27, w64 (x_2 + 1)))
  else
  some (.inr out_1)
def f94 (db : Database) : Option (List (List Int)) :=
 (iter (f94_0 db) ([], 0)).bind fun out_30 =>
 some out_30
def f224 (t : Int) : Option Bool :=
 some (decide (t >= 0))
def f225 (v : Int) : Option Int :=
 some (w64 ((-1) - v))
def f183_0 (terms : (List Int)) (from2 : (List Int)) : (List Int) × Int -> Option (((List Int) × Int) ⊕ ((List Int) ⊕ ((List Int) × Bool)))
 | (out_3, x_4) =>
  if x_4 < (terms.length : Int) then
  (ix terms x_4).bind fun v_6 =>
  (f224 v_6).bind fun o8 =>
  (((if ¬ (o8 = true) then
  (ix from2 x_4).bind fun v_13 =>
  (f225 v_6).bind fun o15 =>
  if o15 ≠ v_13 then
  some (.inr ([], false))
  else
  some (.inl out_3)
  else
  (ix out_3 v_6).bind fun v_18 =>
  (((if v_18 < 0 then
  (ix from2 x_4).bind fun v_23 =>
  some (.inl (out_3.set v_6.toNat v_23))
  else
  (ix from2 x_4).bind fun v_26 =>
  if v_18 ≠ v_26 then
  some (.inr ([], false))
  else
  some (.inl out_3)) : Option ((List Int) ⊕ ((List Int) × Bool)))).bind fun o => match o with
  | .inl out_29 =>
  some (.inl out_29)
  | .inr (x_30, x_31) =>
  some (.inr (x_30, x_31))) : Option ((List Int) ⊕ ((List Int) × Bool)))).bind fun o => match o with
  | .inl out_32 =>
  some (.inl (out_32, w64 (x_4 + 1)))
  | .inr (x_33, x_34) =>
  some (.inr (.inr (x_33, x_34)))
  else
  some (.inr (.inl out_3))
def f183 (values : (List Int)) (terms : (List Int)) (from2 : (List Int)) : Option ((List Int) × Bool) :=
 (f192 values).bind fun o1 =>
 (iter (f183_0 terms from2) (o1, 0)).bind fun o => match o with
 | .inl out_37 =>
 some (out_37, true)
 | .inr (x_38, x_39) =>
 some (x_38, x_39)
def f139_1 (db : Database) (list : (List (List Int))) (rewriting : (List RewritingStep)) (rec : Database -> (List (List Int)) -> (List RewritingStep) -> (List Int) -> Option Bool) (v_2 : RewritingStep) (v_10 : (List Int)) (o21 : ((List Int) × Bool)) : Bool × Int -> Option ((Bool × Int) ⊕ Bool)
 | (ok_23, i_24) =>
  (((if i_24 < (v_10.length : Int) then
  some ok_23
  else
  some false) : Option (Bool))).bind fun x_25 =>
  if x_25 = true then
  (ix v_10 i_24).bind fun v_29 =>
  (ix db.Facts v_29).bind fun v_31 =>
  (f183 o21.1 v_2.Atom.Terms v_31.Values).bind fun o33 =>
  (((if o33.2 = true then
  (cutL rewriting 1 rewriting.length).bind fun l_38 =>
  (rec db list l_38 o33.1).bind fun o40 =>
  some o40
  else
  some false) : Option (Bool))).bind fun ok_35 =>
  some (.inl (ok_35, w64 (i_24 + 1)))
  else
  some (.inr ok_23)
def f139_0 (db : Database) (list : (List (List Int))) (rewriting : (List RewritingStep)) (values : (List Int)) (rec : Database -> (List (List Int)) -> (List RewritingStep) -> (List Int) -> Option Bool) (v_2 : RewritingStep) (v_4 : Relation) : Int -> Option (Int ⊕ (Unit ⊕ Bool))
 | x_6 =>
  if x_6 < (list.length : Int) then
  ((((ix list x_6).bind fun v_10 =>
  (ix v_10 0).bind fun v_12 =>
  (ix db.Facts v_12).bind fun v_14 =>
  if v_14.Relation ≠ v_2.Atom.Relation then
  some (.inl ())
  else
  (cutL v_2.Atom.Terms 0 v_4.KeyLength).bind fun l_17 =>
  (cutL v_14.Values 0 v_4.KeyLength).bind fun l_19 =>
  (f183 values l_17 l_19).bind fun o21 =>
  (iter ((f139_1 db list rewriting rec v_2 v_10 o21)) (o21.2, 0)).bind fun ok_44 =>
  if ok_44 = true then
  some (.inr true)
  else
  some (.inl ())) : Option (Unit ⊕ Bool))).bind fun o => match o with
  | .inl _ =>
  some (.inl (w64 (x_6 + 1)))
  | .inr x_46 =>
  some (.inr (.inr x_46))
  else
  some (.inr (.inl ()))
def f139 : Nat -> Database -> (List (List Int)) -> (List RewritingStep) -> (List Int) -> Option Bool
 | 0 => fun _ _ _ _ => none
 | n + 1 => fun db list rewriting values =>
  if (rewriting.length : Int) = 0 then
  some true
  else
  (ix rewriting 0).bind fun v_2 =>
  (ix db.Relations v_2.Atom.Relation).bind fun v_4 =>
  (iter (f139_0 db list rewriting values (f139 n) v_2 v_4) 0).bind fun o => match o with
  | .inl _ =>
  some false
  | .inr x_49 =>
  some x_49
def f73 (db : Database) (rewriting : (List RewritingStep)) (values : (List Int)) : Option Bool :=
 (f72 db).bind fun o1 =>
 (((if ¬ (o1 = true) then
 some true
 else
 (f137 db.Relations rewriting).bind fun o6 =>
 (((if ¬ (o6 = true) then
 some true
 else
 some (decide ((values.length : Int) > 4))) : Option (Bool))).bind fun x_8 =>
 some x_8) : Option (Bool))).bind fun x_3 =>
 if x_3 = true then
 some false
 else
 (f138 4).bind fun o12 =>
 (nel o12).bind fun z_14 =>
 (f94 db).bind fun o16 =>
 (f139 64 db o16 rewriting (cpL o12 values)).bind fun o18 =>
 some o18
def f22 (db : Database) (query : Query) : Option (Bool × Bool) :=
 (f11 db.Relations query).bind fun o1 =>
 (((if ¬ (o1.2 = true) then
 some true
 else
 (f72 db).bind fun o6 =>
 (((if ¬ (o6 = true) then
 some true
 else
 some (decide ((query.Free.length : Int) > 0))) : Option (Bool))).bind fun x_8 =>
 some x_8) : Option (Bool))).bind fun x_3 =>
 if x_3 = true then
 some (false, false)
 else
 (f73 db o1.1 ([] : (List Int))).bind fun o12 =>
 some (o12, true)
def f61 (a : Relation) (b : Relation) : Option Bool :=
 if a.Name ≠ b.Name then
 some false
 else
 if a.Arity ≠ b.Arity then
 some false
 else
 if a.KeyLength ≠ b.KeyLength then
 some false
 else
 some true
def f13_0 (a : (List Relation)) (b : (List Relation)) : Int -> Option (Int ⊕ (Unit ⊕ Bool))
 | i_2 =>
  if i_2 < (a.length : Int) then
  (ix a i_2).bind fun v_4 =>
  (ix b i_2).bind fun v_6 =>
  (f61 v_4 v_6).bind fun o8 =>
  if ¬ (o8 = true) then
  some (.inr (.inr false))
  else
  some (.inl (w64 (i_2 + 1)))
  else
  some (.inr (.inl ()))
def f13 (a : (List Relation)) (b : (List Relation)) : Option Bool :=
 if (a.length : Int) ≠ (b.length : Int) then
 some false
 else
 (iter (f13_0 a b) 0).bind fun o => match o with
 | .inl _ =>
 some true
 | .inr x_13 =>
 some x_13
def f63_0 (a : (List Int)) (b : (List Int)) : Int -> Option (Int ⊕ (Unit ⊕ Bool))
 | i_2 =>
  if i_2 < (a.length : Int) then
  (ix a i_2).bind fun v_4 =>
  (ix b i_2).bind fun v_6 =>
  if v_4 ≠ v_6 then
  some (.inr (.inr false))
  else
  some (.inl (w64 (i_2 + 1)))
  else
  some (.inr (.inl ()))
def f63 (a : (List Int)) (b : (List Int)) : Option Bool :=
 if (a.length : Int) ≠ (b.length : Int) then
 some false
 else
 (iter (f63_0 a b) 0).bind fun o => match o with
 | .inl _ =>
 some true
 | .inr x_11 =>
 some x_11
def f140 (a : Fact) (b : Fact) : Option Bool :=
 if a.Relation ≠ b.Relation then
 some false
 else
 (f63 a.Values b.Values).bind fun o2 =>
 if ¬ (o2 = true) then
 some false
 else
 some true
def f74_0 (a : (List Fact)) (b : (List Fact)) : Int -> Option (Int ⊕ (Unit ⊕ Bool))
 | i_2 =>
  if i_2 < (a.length : Int) then
  (ix a i_2).bind fun v_4 =>
  (ix b i_2).bind fun v_6 =>
  (f140 v_4 v_6).bind fun o8 =>
  if ¬ (o8 = true) then
  some (.inr (.inr false))
  else
  some (.inl (w64 (i_2 + 1)))
  else
  some (.inr (.inl ()))
def f74 (a : (List Fact)) (b : (List Fact)) : Option Bool :=
 if (a.length : Int) ≠ (b.length : Int) then
 some false
 else
 (iter (f74_0 a b) 0).bind fun o => match o with
 | .inl _ =>
 some true
 | .inr x_13 =>
 some x_13
def f23 (a : Database) (b : Database) : Option Bool :=
 (f13 a.Relations b.Relations).bind fun o1 =>
 if ¬ (o1 = true) then
 some false
 else
 (f74 a.Facts b.Facts).bind fun o4 =>
 if ¬ (o4 = true) then
 some false
 else
 some true
def f125 (a : Atom) (b : Atom) : Option Bool :=
 if a.Relation ≠ b.Relation then
 some false
 else
 (f63 a.Terms b.Terms).bind fun o2 =>
 if ¬ (o2 = true) then
 some false
 else
 some true
def f62_0 (a : (List Atom)) (b : (List Atom)) : Int -> Option (Int ⊕ (Unit ⊕ Bool))
 | i_2 =>
  if i_2 < (a.length : Int) then
  (ix a i_2).bind fun v_4 =>
  (ix b i_2).bind fun v_6 =>
  (f125 v_4 v_6).bind fun o8 =>
  if ¬ (o8 = true) then
  some (.inr (.inr false))
  else
  some (.inl (w64 (i_2 + 1)))
  else
  some (.inr (.inl ()))
def f62 (a : (List Atom)) (b : (List Atom)) : Option Bool :=
 if (a.length : Int) ≠ (b.length : Int) then
 some false
 else
 (iter (f62_0 a b) 0).bind fun o => match o with
 | .inl _ =>
 some true
 | .inr x_13 =>
 some x_13
def f14 (a : Query) (b : Query) : Option Bool :=
 if a.VariableCount ≠ b.VariableCount then
 some false
 else
 (f62 a.Atoms b.Atoms).bind fun o2 =>
 if ¬ (o2 = true) then
 some false
 else
 (f63 a.Free b.Free).bind fun o5 =>
 if ¬ (o5 = true) then
 some false
 else
 some true
def f4 (aDb : Database) (aQuery : Query) : Option Bool :=
 (f19 aDb 1048576).bind fun o1 =>
 if o1 < 0 then
 some true
 else
 (f7 aQuery o1).bind fun o4 =>
 if o4 < 0 then
 some true
 else
 (f21 aDb).bind fun o7 =>
 (f10 aQuery).bind fun o9 =>
 (f20 o7 o9).bind fun o11 =>
 (f21 aDb).bind fun o13 =>
 (f10 aQuery).bind fun o15 =>
 (f22 o13 o15).bind fun o17 =>
 (((if (o17.1 != o11.1) = true then
 some true
 else
 some (o17.2 != o11.2)) : Option (Bool))).bind fun x_19 =>
 if x_19 = true then
 some false
 else
 (f21 aDb).bind fun o23 =>
 (f23 o13 o23).bind fun o25 =>
 if ¬ (o25 = true) then
 some false
 else
 (f10 aQuery).bind fun o28 =>
 (f14 o15 o28).bind fun o30 =>
 if ¬ (o30 = true) then
 some false
 else
 some true
end
end Go.Proofs.YtjfeimhiiomgoaaGreatH
