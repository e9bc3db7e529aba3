import Derived.Test.YtjfeimhiiomgoaaGreatDoorX3
set_option linter.unusedVariables false
set_option linter.unusedSimpArgs false
set_option linter.defProp false
set_option linter.unusedSectionVars false
set_option maxRecDepth 100000
namespace Go.Proofs.YtjfeimhiiomgoaaGreatDoorH
open Go
noncomputable section
structure Atom where
 Relation : Int
 Terms : (List Int)
 deriving DecidableEq, Inhabited
def eAtom : En Atom := ⟨2, fun b a => if b then [(.int .i64 a.Relation), (osl eI true a.Terms)] else [(.int .i64 a.Relation), (ssl eI a.Terms)], fun b a => by cases b <;> rfl, by decide, fun b a => by cases b <;> simp [T.frz], fun a => by simp, fun a => by simp, fun b a => by cases b <;> simp⟩
@[simp] theorem eAtom_w : eAtom.w = 2 := rfl
@[simp] theorem eAtom_ct {a : Atom} : eAtom.c true a = [(.int .i64 a.Relation), (osl eI true a.Terms)] := rfl
@[simp] theorem eAtom_cf {a : Atom} : eAtom.c false a = [(.int .i64 a.Relation), (ssl eI a.Terms)] := rfl
@[simp] theorem arrAtom_len {b : Bool} {l : List Atom} : (arr eAtom b l).length = l.length * 2 := arr_len
@[simp] theorem eAtom_e (a : Atom) : Atom.mk a.Relation a.Terms = a := rfl
@[simp] def q0Atom {b l i o} := @arr_get2 _ eAtom b l i o 2 rfl
@[simp] def q1Atom {b l i} := @arr_get20 _ eAtom b l i 2 rfl
@[simp] def q2Atom {b l o} := @arr_get0 _ eAtom b l o 2 rfl
@[simp] def q3Atom {b l} := @arr_take0 _ eAtom b l 2 rfl
@[simp] def q4Atom {b l i o} := @arr_part _ eAtom b l i o 2 rfl
@[simp] def q5Atom {b l i o j} := @arr_part2 _ eAtom b l i o 2 j rfl
@[simp] def q6Atom {b l} := @arr_at2 _ eAtom b l 2 rfl
@[simp] def q7Atom {b l} := @arr_take2 _ eAtom b l 2 rfl
@[simp] def q8Atom {b l l' bs y} := @appT_w _ eAtom b l l' bs y 2 rfl
@[simp] def q10Atom {z0 z1 n} := @rep_w _ eAtom true n ⟨z0, z1⟩ [(.int .i64 z0), (.sl true true 1 0 (arr eI true z1))] rfl
@[simp] def q71Atom {b l} := @arr_tl _ eAtom b l 2 rfl
@[simp] def q70Atom {b l i} := @arr_tk _ eAtom b l i 2 rfl
@[simp] def q40Atom {b l' bs y} := @appT_w0 _ eAtom b l' bs y 2 rfl
@[simp] theorem q50Atom {l : List Atom} {i : Nat} {z : Int} (h : i < l.length) : layT (arr eAtom true l) (i * 2) 1 [(.int .i64 z)] = arr eAtom true (l.set i ⟨z, (l[i]?.getD default).Terms⟩) := by rw [List.getElem?_eq_getElem h]; exact lay_cell (E := eAtom) (b := true) (i := i) (o := 0) ⟨z, l[i].Terms⟩ (List.getElem?_eq_getElem h) (by decide) rfl
@[simp] theorem q60Atom {l : List Atom} {i : Nat} {z : Int} (h : i < l.length) : (arr eAtom true l).set (i * 2) (.int .i64 z) = arr eAtom true (l.set i ⟨z, (l[i]?.getD default).Terms⟩) := by rw [List.getElem?_eq_getElem h]; exact set_cell (E := eAtom) (b := true) (i := i) (o := 0) ⟨z, l[i].Terms⟩ (List.getElem?_eq_getElem h) (by decide) rfl
@[simp] theorem q51Atom {l : List Atom} {i : Nat} {z : (List Int)} (h : i < l.length) : layT (arr eAtom true l) (i * 2 + 1) 1 [(.sl true true 1 0 (arr eI true z))] = arr eAtom true (l.set i ⟨(l[i]?.getD default).Relation, z⟩) := by rw [List.getElem?_eq_getElem h]; exact lay_cell (E := eAtom) (b := true) (i := i) (o := 1) ⟨l[i].Relation, z⟩ (List.getElem?_eq_getElem h) (by decide) rfl
@[simp] theorem q61Atom {l : List Atom} {i : Nat} {z : (List Int)} (h : i < l.length) : (arr eAtom true l).set (i * 2 + 1) (.sl true true 1 0 (arr eI true z)) = arr eAtom true (l.set i ⟨(l[i]?.getD default).Relation, z⟩) := by rw [List.getElem?_eq_getElem h]; exact set_cell (E := eAtom) (b := true) (i := i) (o := 1) ⟨l[i].Relation, z⟩ (List.getElem?_eq_getElem h) (by decide) rfl
@[simp] def q20Atom {z0 z1 l bs y} := @appT_1w _ eAtom true l bs y 2 rfl ⟨z0, z1⟩ [(.int .i64 z0), (.sl true true 1 0 (arr eI true z1))] rfl
@[simp] def q23Atom {z0 z1 l' bs y} := @appT_11 _ eAtom true l' bs y 2 rfl ⟨z0, z1⟩ [(.int .i64 z0), (.sl true true 1 0 (arr eI true z1))] rfl
@[simp] def q22Atom {z0 z1 bs y} := @appT_10 _ eAtom true bs y 2 rfl ⟨z0, z1⟩ [(.int .i64 z0), (.sl true true 1 0 (arr eI true z1))] rfl
@[simp] def q21Atom {z0 z1 l i} := @lay_w _ eAtom true l i 2 rfl ⟨z0, z1⟩ [(.int .i64 z0), (.sl true true 1 0 (arr eI true z1))] rfl
@[simp] def q30Atom {z0 z1 l bs y} := @appT_1w _ eAtom false l bs y 2 rfl ⟨z0, z1⟩ [(.int .i64 z0), (.sl false false 1 1 (arr eI false z1))] rfl
@[simp] def q33Atom {z0 z1 l' bs y} := @appT_11 _ eAtom false l' bs y 2 rfl ⟨z0, z1⟩ [(.int .i64 z0), (.sl false false 1 1 (arr eI false z1))] rfl
@[simp] def q32Atom {z0 z1 bs y} := @appT_10 _ eAtom false bs y 2 rfl ⟨z0, z1⟩ [(.int .i64 z0), (.sl false false 1 1 (arr eI false z1))] rfl
@[simp] def q31Atom {z0 z1 l i} := @lay_w _ eAtom false l i 2 rfl ⟨z0, z1⟩ [(.int .i64 z0), (.sl false false 1 1 (arr eI false z1))] rfl
structure L1Cur where
 b : (List Int)
 i : Int
 h : Int
 deriving DecidableEq, Inhabited
def eL1Cur : En L1Cur := ⟨3, fun b a => if b then [(osl eU true a.b), (.int .i64 a.i), (.int .i64 a.h)] else [(ssl eU a.b), (.int .i64 a.i), (.int .i64 a.h)], fun b a => by cases b <;> rfl, by decide, fun b a => by cases b <;> simp [T.frz], fun a => by simp, fun a => by simp, fun b a => by cases b <;> simp⟩
@[simp] theorem eL1Cur_w : eL1Cur.w = 3 := rfl
@[simp] theorem eL1Cur_ct {a : L1Cur} : eL1Cur.c true a = [(osl eU true a.b), (.int .i64 a.i), (.int .i64 a.h)] := rfl
@[simp] theorem eL1Cur_cf {a : L1Cur} : eL1Cur.c false a = [(ssl eU a.b), (.int .i64 a.i), (.int .i64 a.h)] := rfl
@[simp] theorem eL1Cur_e (a : L1Cur) : L1Cur.mk a.b a.i a.h = a := rfl
structure Relation where
 Name : (List UInt8)
 Arity : Int
 KeyLength : Int
 deriving DecidableEq, Inhabited
def eRelation : En Relation := ⟨3, fun _ a => [(.str a.Name), (.int .i64 a.Arity), (.int .i64 a.KeyLength)], fun b a => by cases b <;> rfl, by decide, fun b a => by cases b <;> simp [T.frz], fun a => by simp, fun a => by simp, fun b a => by cases b <;> simp⟩
@[simp] theorem eRelation_w : eRelation.w = 3 := rfl
@[simp] theorem eRelation_ct {a : Relation} : eRelation.c true a = [(.str a.Name), (.int .i64 a.Arity), (.int .i64 a.KeyLength)] := rfl
@[simp] theorem eRelation_cf {a : Relation} : eRelation.c false a = [(.str a.Name), (.int .i64 a.Arity), (.int .i64 a.KeyLength)] := rfl
@[simp] theorem arrRelation_len {b : Bool} {l : List Relation} : (arr eRelation b l).length = l.length * 3 := arr_len
@[simp] theorem eRelation_e (a : Relation) : Relation.mk a.Name a.Arity a.KeyLength = a := rfl
@[simp] def q0Relation {b l i o} := @arr_get2 _ eRelation b l i o 3 rfl
@[simp] def q1Relation {b l i} := @arr_get20 _ eRelation b l i 3 rfl
@[simp] def q2Relation {b l o} := @arr_get0 _ eRelation b l o 3 rfl
@[simp] def q3Relation {b l} := @arr_take0 _ eRelation b l 3 rfl
@[simp] def q4Relation {b l i o} := @arr_part _ eRelation b l i o 3 rfl
@[simp] def q5Relation {b l i o j} := @arr_part2 _ eRelation b l i o 3 j rfl
@[simp] def q6Relation {b l} := @arr_at2 _ eRelation b l 3 rfl
@[simp] def q7Relation {b l} := @arr_take2 _ eRelation b l 3 rfl
@[simp] def q8Relation {b l l' bs y} := @appT_w _ eRelation b l l' bs y 3 rfl
@[simp] def q10Relation {z0 z1 z2 n} := @rep_w _ eRelation true n ⟨z0, z1, z2⟩ [(.str z0), (.int .i64 z1), (.int .i64 z2)] rfl
@[simp] def q71Relation {b l} := @arr_tl _ eRelation b l 3 rfl
@[simp] def q70Relation {b l i} := @arr_tk _ eRelation b l i 3 rfl
@[simp] theorem q40Relation {b : Bool} {l' : List Relation} {bs : Nat} {y : Bool} (hb : bs ≠ 0) : appT 3 bs (.sl true y 3 0 []) (arr eRelation b l') = (app bs [] l').map fun v => .sl true y 3 0 (arr eRelation true v) := appT_w0 (E := eRelation) (b := b) rfl hb
@[simp] theorem q50Relation {l : List Relation} {i : Nat} {z : (List UInt8)} (h : i < l.length) : layT (arr eRelation true l) (i * 3) 1 [(.str z)] = arr eRelation true (l.set i ⟨z, (l[i]?.getD default).Arity, (l[i]?.getD default).KeyLength⟩) := by rw [List.getElem?_eq_getElem h]; exact lay_cell (E := eRelation) (b := true) (i := i) (o := 0) ⟨z, l[i].Arity, l[i].KeyLength⟩ (List.getElem?_eq_getElem h) (by decide) rfl
@[simp] theorem q60Relation {l : List Relation} {i : Nat} {z : (List UInt8)} (h : i < l.length) : (arr eRelation true l).set (i * 3) (.str z) = arr eRelation true (l.set i ⟨z, (l[i]?.getD default).Arity, (l[i]?.getD default).KeyLength⟩) := by rw [List.getElem?_eq_getElem h]; exact set_cell (E := eRelation) (b := true) (i := i) (o := 0) ⟨z, l[i].Arity, l[i].KeyLength⟩ (List.getElem?_eq_getElem h) (by decide) rfl
@[simp] theorem q51Relation {l : List Relation} {i : Nat} {z : Int} (h : i < l.length) : layT (arr eRelation true l) (i * 3 + 1) 1 [(.int .i64 z)] = arr eRelation true (l.set i ⟨(l[i]?.getD default).Name, z, (l[i]?.getD default).KeyLength⟩) := by rw [List.getElem?_eq_getElem h]; exact lay_cell (E := eRelation) (b := true) (i := i) (o := 1) ⟨l[i].Name, z, l[i].KeyLength⟩ (List.getElem?_eq_getElem h) (by decide) rfl
@[simp] theorem q61Relation {l : List Relation} {i : Nat} {z : Int} (h : i < l.length) : (arr eRelation true l).set (i * 3 + 1) (.int .i64 z) = arr eRelation true (l.set i ⟨(l[i]?.getD default).Name, z, (l[i]?.getD default).KeyLength⟩) := by rw [List.getElem?_eq_getElem h]; exact set_cell (E := eRelation) (b := true) (i := i) (o := 1) ⟨l[i].Name, z, l[i].KeyLength⟩ (List.getElem?_eq_getElem h) (by decide) rfl
@[simp] theorem q52Relation {l : List Relation} {i : Nat} {z : Int} (h : i < l.length) : layT (arr eRelation true l) (i * 3 + 2) 1 [(.int .i64 z)] = arr eRelation true (l.set i ⟨(l[i]?.getD default).Name, (l[i]?.getD default).Arity, z⟩) := by rw [List.getElem?_eq_getElem h]; exact lay_cell (E := eRelation) (b := true) (i := i) (o := 2) ⟨l[i].Name, l[i].Arity, z⟩ (List.getElem?_eq_getElem h) (by decide) rfl
@[simp] theorem q62Relation {l : List Relation} {i : Nat} {z : Int} (h : i < l.length) : (arr eRelation true l).set (i * 3 + 2) (.int .i64 z) = arr eRelation true (l.set i ⟨(l[i]?.getD default).Name, (l[i]?.getD default).Arity, z⟩) := by rw [List.getElem?_eq_getElem h]; exact set_cell (E := eRelation) (b := true) (i := i) (o := 2) ⟨l[i].Name, l[i].Arity, z⟩ (List.getElem?_eq_getElem h) (by decide) rfl
@[simp] def q20Relation {b z0 z1 z2 l bs y} := @appT_1w _ eRelation b l bs y 3 rfl ⟨z0, z1, z2⟩ [(.str z0), (.int .i64 z1), (.int .i64 z2)] rfl
@[simp] def q23Relation {b z0 z1 z2 l' bs y} := @appT_11 _ eRelation b l' bs y 3 rfl ⟨z0, z1, z2⟩ [(.str z0), (.int .i64 z1), (.int .i64 z2)] rfl
@[simp] def q22Relation {b z0 z1 z2 bs y} := @appT_10 _ eRelation b bs y 3 rfl ⟨z0, z1, z2⟩ [(.str z0), (.int .i64 z1), (.int .i64 z2)] rfl
@[simp] def q21Relation {b z0 z1 z2 l i} := @lay_w _ eRelation b l i 3 rfl ⟨z0, z1, z2⟩ [(.str z0), (.int .i64 z1), (.int .i64 z2)] rfl
structure Query where
 VariableCount : Int
 Atoms : (List Atom)
 Free : (List Int)
 deriving DecidableEq, Inhabited
def eQuery : En Query := ⟨3, fun b a => if b then [(.int .i64 a.VariableCount), (osl eAtom true a.Atoms), (osl eI true a.Free)] else [(.int .i64 a.VariableCount), (ssl eAtom a.Atoms), (ssl eI a.Free)], fun b a => by cases b <;> rfl, by decide, fun b a => by cases b <;> simp [T.frz], fun a => by simp, fun a => by simp, fun b a => by cases b <;> simp⟩
@[simp] theorem eQuery_w : eQuery.w = 3 := rfl
@[simp] theorem eQuery_ct {a : Query} : eQuery.c true a = [(.int .i64 a.VariableCount), (osl eAtom true a.Atoms), (osl eI true a.Free)] := rfl
@[simp] theorem eQuery_cf {a : Query} : eQuery.c false a = [(.int .i64 a.VariableCount), (ssl eAtom a.Atoms), (ssl eI a.Free)] := rfl
@[simp] theorem eQuery_e (a : Query) : Query.mk a.VariableCount a.Atoms a.Free = a := rfl
structure RewritingStep where
 Atom : Atom
 Existential : (List Int)
 Universal : (List Int)
 deriving DecidableEq, Inhabited
def eRewritingStep : En RewritingStep := ⟨4, fun b a => if b then [(.int .i64 a.Atom.Relation), (osl eI true a.Atom.Terms), (osl eI true a.Existential), (osl eI true a.Universal)] else [(.int .i64 a.Atom.Relation), (ssl eI a.Atom.Terms), (ssl eI a.Existential), (ssl eI a.Universal)], fun b a => by cases b <;> rfl, by decide, fun b a => by cases b <;> simp [T.frz], fun a => by simp, fun a => by simp, fun b a => by cases b <;> simp⟩
@[simp] theorem eRewritingStep_w : eRewritingStep.w = 4 := rfl
@[simp] theorem eRewritingStep_ct {a : RewritingStep} : eRewritingStep.c true a = [(.int .i64 a.Atom.Relation), (osl eI true a.Atom.Terms), (osl eI true a.Existential), (osl eI true a.Universal)] := rfl
@[simp] theorem eRewritingStep_cf {a : RewritingStep} : eRewritingStep.c false a = [(.int .i64 a.Atom.Relation), (ssl eI a.Atom.Terms), (ssl eI a.Existential), (ssl eI a.Universal)] := rfl
@[simp] theorem arrRewritingStep_len {b : Bool} {l : List RewritingStep} : (arr eRewritingStep b l).length = l.length * 4 := arr_len
@[simp] theorem eRewritingStep_e (a : RewritingStep) : RewritingStep.mk a.Atom a.Existential a.Universal = a := rfl
@[simp] def q0RewritingStep {b l i o} := @arr_get2 _ eRewritingStep b l i o 4 rfl
@[simp] def q1RewritingStep {b l i} := @arr_get20 _ eRewritingStep b l i 4 rfl
@[simp] def q2RewritingStep {b l o} := @arr_get0 _ eRewritingStep b l o 4 rfl
@[simp] def q3RewritingStep {b l} := @arr_take0 _ eRewritingStep b l 4 rfl
@[simp] def q4RewritingStep {b l i o} := @arr_part _ eRewritingStep b l i o 4 rfl
@[simp] def q5RewritingStep {b l i o j} := @arr_part2 _ eRewritingStep b l i o 4 j rfl
@[simp] def q6RewritingStep {b l} := @arr_at2 _ eRewritingStep b l 4 rfl
@[simp] def q7RewritingStep {b l} := @arr_take2 _ eRewritingStep b l 4 rfl
@[simp] def q8RewritingStep {b l l' bs y} := @appT_w _ eRewritingStep b l l' bs y 4 rfl
@[simp] def q10RewritingStep {z0a z0b z1 z2 n} := @rep_w _ eRewritingStep true n ⟨⟨z0a, z0b⟩, z1, z2⟩ [(.int .i64 z0a), (.sl true true 1 0 (arr eI true z0b)), (.sl true true 1 0 (arr eI true z1)), (.sl true true 1 0 (arr eI true z2))] rfl
@[simp] def q71RewritingStep {b l} := @arr_tl _ eRewritingStep b l 4 rfl
@[simp] def q70RewritingStep {b l i} := @arr_tk _ eRewritingStep b l i 4 rfl
@[simp] def q40RewritingStep {b l' bs y} := @appT_w0 _ eRewritingStep b l' bs y 4 rfl
@[simp] theorem q50aRewritingStep {l : List RewritingStep} {i : Nat} {z : Int} (h : i < l.length) : layT (arr eRewritingStep true l) (i * 4) 1 [(.int .i64 z)] = arr eRewritingStep true (l.set i ⟨⟨z, (l[i]?.getD default).Atom.Terms⟩, (l[i]?.getD default).Existential, (l[i]?.getD default).Universal⟩) := by rw [List.getElem?_eq_getElem h]; exact lay_cell (E := eRewritingStep) (b := true) (i := i) (o := 0) ⟨⟨z, l[i].Atom.Terms⟩, l[i].Existential, l[i].Universal⟩ (List.getElem?_eq_getElem h) (by decide) rfl
@[simp] theorem q60aRewritingStep {l : List RewritingStep} {i : Nat} {z : Int} (h : i < l.length) : (arr eRewritingStep true l).set (i * 4) (.int .i64 z) = arr eRewritingStep true (l.set i ⟨⟨z, (l[i]?.getD default).Atom.Terms⟩, (l[i]?.getD default).Existential, (l[i]?.getD default).Universal⟩) := by rw [List.getElem?_eq_getElem h]; exact set_cell (E := eRewritingStep) (b := true) (i := i) (o := 0) ⟨⟨z, l[i].Atom.Terms⟩, l[i].Existential, l[i].Universal⟩ (List.getElem?_eq_getElem h) (by decide) rfl
@[simp] theorem q50bRewritingStep {l : List RewritingStep} {i : Nat} {z : (List Int)} (h : i < l.length) : layT (arr eRewritingStep true l) (i * 4 + 1) 1 [(.sl true true 1 0 (arr eI true z))] = arr eRewritingStep true (l.set i ⟨⟨(l[i]?.getD default).Atom.Relation, z⟩, (l[i]?.getD default).Existential, (l[i]?.getD default).Universal⟩) := by rw [List.getElem?_eq_getElem h]; exact lay_cell (E := eRewritingStep) (b := true) (i := i) (o := 1) ⟨⟨l[i].Atom.Relation, z⟩, l[i].Existential, l[i].Universal⟩ (List.getElem?_eq_getElem h) (by decide) rfl
@[simp] theorem q60bRewritingStep {l : List RewritingStep} {i : Nat} {z : (List Int)} (h : i < l.length) : (arr eRewritingStep true l).set (i * 4 + 1) (.sl true true 1 0 (arr eI true z)) = arr eRewritingStep true (l.set i ⟨⟨(l[i]?.getD default).Atom.Relation, z⟩, (l[i]?.getD default).Existential, (l[i]?.getD default).Universal⟩) := by rw [List.getElem?_eq_getElem h]; exact set_cell (E := eRewritingStep) (b := true) (i := i) (o := 1) ⟨⟨l[i].Atom.Relation, z⟩, l[i].Existential, l[i].Universal⟩ (List.getElem?_eq_getElem h) (by decide) rfl
@[simp] theorem q51RewritingStep {l : List RewritingStep} {i : Nat} {z : (List Int)} (h : i < l.length) : layT (arr eRewritingStep true l) (i * 4 + 2) 1 [(.sl true true 1 0 (arr eI true z))] = arr eRewritingStep true (l.set i ⟨(l[i]?.getD default).Atom, z, (l[i]?.getD default).Universal⟩) := by rw [List.getElem?_eq_getElem h]; exact lay_cell (E := eRewritingStep) (b := true) (i := i) (o := 2) ⟨l[i].Atom, z, l[i].Universal⟩ (List.getElem?_eq_getElem h) (by decide) rfl
@[simp] theorem q61RewritingStep {l : List RewritingStep} {i : Nat} {z : (List Int)} (h : i < l.length) : (arr eRewritingStep true l).set (i * 4 + 2) (.sl true true 1 0 (arr eI true z)) = arr eRewritingStep true (l.set i ⟨(l[i]?.getD default).Atom, z, (l[i]?.getD default).Universal⟩) := by rw [List.getElem?_eq_getElem h]; exact set_cell (E := eRewritingStep) (b := true) (i := i) (o := 2) ⟨l[i].Atom, z, l[i].Universal⟩ (List.getElem?_eq_getElem h) (by decide) rfl
@[simp] theorem q52RewritingStep {l : List RewritingStep} {i : Nat} {z : (List Int)} (h : i < l.length) : layT (arr eRewritingStep true l) (i * 4 + 3) 1 [(.sl true true 1 0 (arr eI true z))] = arr eRewritingStep true (l.set i ⟨(l[i]?.getD default).Atom, (l[i]?.getD default).Existential, z⟩) := by rw [List.getElem?_eq_getElem h]; exact lay_cell (E := eRewritingStep) (b := true) (i := i) (o := 3) ⟨l[i].Atom, l[i].Existential, z⟩ (List.getElem?_eq_getElem h) (by decide) rfl
@[simp] theorem q62RewritingStep {l : List RewritingStep} {i : Nat} {z : (List Int)} (h : i < l.length) : (arr eRewritingStep true l).set (i * 4 + 3) (.sl true true 1 0 (arr eI true z)) = arr eRewritingStep true (l.set i ⟨(l[i]?.getD default).Atom, (l[i]?.getD default).Existential, z⟩) := by rw [List.getElem?_eq_getElem h]; exact set_cell (E := eRewritingStep) (b := true) (i := i) (o := 3) ⟨l[i].Atom, l[i].Existential, z⟩ (List.getElem?_eq_getElem h) (by decide) rfl
@[simp] def q20RewritingStep {z0a z0b z1 z2 l bs y} := @appT_1w _ eRewritingStep true l bs y 4 rfl ⟨⟨z0a, z0b⟩, z1, z2⟩ [(.int .i64 z0a), (.sl true true 1 0 (arr eI true z0b)), (.sl true true 1 0 (arr eI true z1)), (.sl true true 1 0 (arr eI true z2))] rfl
@[simp] def q23RewritingStep {z0a z0b z1 z2 l' bs y} := @appT_11 _ eRewritingStep true l' bs y 4 rfl ⟨⟨z0a, z0b⟩, z1, z2⟩ [(.int .i64 z0a), (.sl true true 1 0 (arr eI true z0b)), (.sl true true 1 0 (arr eI true z1)), (.sl true true 1 0 (arr eI true z2))] rfl
@[simp] def q22RewritingStep {z0a z0b z1 z2 bs y} := @appT_10 _ eRewritingStep true bs y 4 rfl ⟨⟨z0a, z0b⟩, z1, z2⟩ [(.int .i64 z0a), (.sl true true 1 0 (arr eI true z0b)), (.sl true true 1 0 (arr eI true z1)), (.sl true true 1 0 (arr eI true z2))] rfl
@[simp] def q21RewritingStep {z0a z0b z1 z2 l i} := @lay_w _ eRewritingStep true l i 4 rfl ⟨⟨z0a, z0b⟩, z1, z2⟩ [(.int .i64 z0a), (.sl true true 1 0 (arr eI true z0b)), (.sl true true 1 0 (arr eI true z1)), (.sl true true 1 0 (arr eI true z2))] rfl
@[simp] def q30RewritingStep {z0a z0b z1 z2 l bs y} := @appT_1w _ eRewritingStep false l bs y 4 rfl ⟨⟨z0a, z0b⟩, z1, z2⟩ [(.int .i64 z0a), (.sl false false 1 1 (arr eI false z0b)), (.sl false false 1 1 (arr eI false z1)), (.sl false false 1 1 (arr eI false z2))] rfl
@[simp] def q33RewritingStep {z0a z0b z1 z2 l' bs y} := @appT_11 _ eRewritingStep false l' bs y 4 rfl ⟨⟨z0a, z0b⟩, z1, z2⟩ [(.int .i64 z0a), (.sl false false 1 1 (arr eI false z0b)), (.sl false false 1 1 (arr eI false z1)), (.sl false false 1 1 (arr eI false z2))] rfl
@[simp] def q32RewritingStep {z0a z0b z1 z2 bs y} := @appT_10 _ eRewritingStep false bs y 4 rfl ⟨⟨z0a, z0b⟩, z1, z2⟩ [(.int .i64 z0a), (.sl false false 1 1 (arr eI false z0b)), (.sl false false 1 1 (arr eI false z1)), (.sl false false 1 1 (arr eI false z2))] rfl
@[simp] def q31RewritingStep {z0a z0b z1 z2 l i} := @lay_w _ eRewritingStep false l i 4 rfl ⟨⟨z0a, z0b⟩, z1, z2⟩ [(.int .i64 z0a), (.sl false false 1 1 (arr eI false z0b)), (.sl false false 1 1 (arr eI false z1)), (.sl false false 1 1 (arr eI false z2))] rfl
@[simp] theorem q81Atom {l : List Atom} {z : (List Int)} (h : 0 < l.length) : layT (arr eAtom true l) 1 1 [(.sl true true 1 0 (arr eI true z))] = arr eAtom true (l.set 0 ⟨(l[0]?.getD default).Relation, z⟩) := q51Atom (i := 0) h
@[simp] theorem q91Atom {l : List Atom} {z : (List Int)} (h : 0 < l.length) : (arr eAtom true l).set 1 (.sl true true 1 0 (arr eI true z)) = arr eAtom true (l.set 0 ⟨(l[0]?.getD default).Relation, z⟩) := q61Atom (i := 0) h
@[simp] def q92Atom {z0 x0 x1 l bs y} := @appT_1w _ eAtom true l bs y 2 rfl ⟨z0, [x0, x1]⟩ [(.int .i64 z0), (.sl true true 1 0 [(.int .i64 x0), (.int .i64 x1)])] rfl
def f4 (code : (List Int)) : Option Bool :=
 some (decide ((code.length : Int) > 1048576))
def f74_0 (code : (List Int)) : Int × Int -> Option ((Int × Int) ⊕ Int)
 | (h_1, i_2) =>
  (((if i_2 < (code.length : Int) then
  some (decide (i_2 < 4000))
  else
  some false) : Option (Bool))).bind fun x_3 =>
  if x_3 = true then
  (ix code i_2).bind fun v_7 =>
  some (.inl (band .i64 (w64 ((w64 ((w64 (h_1 * 131)) + (w64 v_7))) + 7)) 1073741823, w64 (i_2 + 1)))
  else
  some (.inr h_1)
def f74 (code : (List Int)) : Option L1Cur :=
 (iter (f74_0 code) (w64 (10101 + (code.length : Int)), 0)).bind fun h_11 =>
 some ({ b := code, i := 0, h := h_11 } : L1Cur)
def f115 (c : L1Cur) : Option (Int × L1Cur) :=
 (((if c.i < (c.b.length : Int) then
 (ix c.b c.i).bind fun v_4 =>
 some (w64 (c.i + 1), band .i64 (w64 ((band .i64 (bxor .i64 (sshr .i64 (w64 ((w64 (c.h * 6364136223846793005)) + 1442695040888963407)) 33) (sshr .i64 (w64 ((w64 (c.h * 6364136223846793005)) + 1442695040888963407)) 45)) 255) + (w64 v_4))) 255)
 else
 some (c.i, band .i64 (bxor .i64 (sshr .i64 (w64 ((w64 (c.h * 6364136223846793005)) + 1442695040888963407)) 33) (sshr .i64 (w64 ((w64 (c.h * 6364136223846793005)) + 1442695040888963407)) 45)) 255)) : Option (Int × Int))).bind fun (c_6, x_7) =>
 some (x_7, ({ b := c.b, i := c_6, h := w64 ((w64 (c.h * 6364136223846793005)) + 1442695040888963407) } : L1Cur))
def f96 (c : L1Cur) (n1 : Int) : Option (Int × L1Cur) :=
 if n1 <= 0 then
 some (0, c)
 else
 if n1 <= 256 then
 (f115 c).bind fun o3 =>
 (nz n1).bind fun z_5 =>
 some (o3.1.tmod n1, o3.2)
 else
 (f115 c).bind fun o7 =>
 (f115 o7.2).bind fun o9 =>
 (f115 o9.2).bind fun o11 =>
 (f115 o11.2).bind fun o13 =>
 (nz n1).bind fun z_15 =>
 some ((w64 ((w64 ((w64 ((w64 (o7.1 * 16777216)) + (w64 (o9.1 * 65536)))) + (w64 (o11.1 * 256)))) + o13.1)).tmod n1, o13.2)
def f95 (c : L1Cur) (list : (List Int)) : Option (Int × L1Cur) :=
 (f96 c (list.length : Int)).bind fun o1 =>
 (ix list o1.1).bind fun v_3 =>
 some (v_3, o1.2)
def f75 (c : L1Cur) : Option ((List Relation) × L1Cur) :=
 (f95 c ([1, 1, 2, 0])).bind fun o1 =>
 (f96 o1.2 2).bind fun o3 =>
 some ([({ Name := [114], Arity := 2, KeyLength := 1 } : Relation), ({ Name := [115], Arity := 2, KeyLength := 1 } : Relation), ({ Name := [116], Arity := 2, KeyLength := o1.1 } : Relation), ({ Name := [117], Arity := 3, KeyLength := w64 (1 + o3.1) } : Relation)], o3.2)
def f117 (c : L1Cur) (n1 : Int) : Option (Bool × L1Cur) :=
 (f96 c n1).bind fun o1 =>
 some ((decide (o1.1 = 0)), o1.2)
def f25_0 (q : Query) : Int × (List Atom) × (List Int) × Int -> Option ((Int × (List Atom) × (List Int) × Int) ⊕ (Int × (List Atom) × (List Int)))
 | (x_3, x_4, x_5, i_6) =>
  if i_6 < (q.Atoms.length : Int) then
  (ix q.Atoms i_6).bind fun v_8 =>
  (app 8 ([]) v_8.Terms).bind fun l_10 =>
  (app 32 x_4 ([({ Relation := v_8.Relation, Terms := l_10 } : Atom)])).bind fun l_12 =>
  some (.inl (x_3, l_12, x_5, w64 (i_6 + 1)))
  else
  some (.inr (x_3, x_4, x_5))
def f25 (q : Query) : Option Query :=
 (app 8 ([]) q.Free).bind fun l_1 =>
 (iter (f25_0 q) (q.VariableCount, [], l_1, 0)).bind fun (x_16, x_17, x_18) =>
 some ({ VariableCount := x_16, Atoms := x_17, Free := x_18 } : Query)
def f127_2 (name_12 : (List Int)) (v_19 : Int) : Int × Int -> Option ((Int × Int) ⊕ Int)
 | (at_22, j_23) =>
  if j_23 < (name_12.length : Int) then
  (ix name_12 j_23).bind fun v_25 =>
  (((if v_25 = v_19 then
  some j_23
  else
  some at_22) : Option Int)).bind fun at_30 =>
  some (.inl (at_30, w64 (j_23 + 1)))
  else
  some (.inr at_22)
def f127_1 (i_7 : Int) : Int × (List Atom) × (List Int) × (List Int) × Int -> Option ((Int × (List Atom) × (List Int) × (List Int) × Int) ⊕ (Int × (List Atom) × (List Int) × (List Int)))
 | (x_9, x_10, x_11, name_12, k_13) =>
  (ix x_10 i_7).bind fun v_14 =>
  if k_13 < (v_14.Terms.length : Int) then
  ((((ix v_14.Terms k_13).bind fun v_19 =>
  if v_19 < 0 then
  some (x_10, name_12)
  else
  (iter ((f127_2 name_12 v_19)) (-1, 0)).bind fun at_33 =>
  (((if at_33 < 0 then
  (app 8 name_12 ([v_19])).bind fun l_37 =>
  some (l_37, (name_12.length : Int))
  else
  some (name_12, at_33)) : Option ((List Int) × Int))).bind fun (name_39, at_40) =>
  some ((x_10.set i_7.toNat ({ Relation := v_14.Relation, Terms := (v_14.Terms.set k_13.toNat at_40) } : Atom)), name_39)) : Option ((List Atom) × (List Int)))).bind fun (x_43, name_44) =>
  some (.inl (x_9, x_43, x_11, name_44, w64 (k_13 + 1)))
  else
  some (.inr (x_9, x_10, x_11, name_12))
def f127_0 : Int × (List Atom) × (List Int) × (List Int) × Int -> Option ((Int × (List Atom) × (List Int) × (List Int) × Int) ⊕ (Int × (List Atom) × (List Int) × (List Int)))
 | (x_3, x_4, x_5, name_6, i_7) =>
  if i_7 < (x_4.length : Int) then
  (iter (f127_1 i_7) (x_3, x_4, x_5, name_6, 0)).bind fun (x_47, x_48, x_49, name_50) =>
  some (.inl (x_47, x_48, x_49, name_50, w64 (i_7 + 1)))
  else
  some (.inr (x_3, x_4, x_5, name_6))
def f127 (q : Query) : Option Query :=
 (f25 q).bind fun o1 =>
 (iter f127_0 (o1.VariableCount, o1.Atoms, o1.Free, [], 0)).bind fun (x_53, x_54, x_55, name_56) =>
 some ({ VariableCount := (name_56.length : Int), Atoms := x_54, Free := x_55 } : Query)
def f116_1 (o3 : (Int × L1Cur)) : (List Int) × Int × Int × Int × (List Int) × Int -> Option (((List Int) × Int × Int × Int × (List Int) × Int) ⊕ ((List Int) × Int × Int × Int × (List Int)))
 | (c_15, c_16, c_17, a_18, a_19, m_20) =>
  if m_20 > 0 then
  (f117 ({ b := c_15, i := c_16, h := c_17 } : L1Cur) 12).bind fun o22 =>
  (((if o22.1 = true then
  (f96 o22.2 2).bind fun o27 =>
  (app 8 a_19 ([w64 ((-1) - o27.1)])).bind fun l_29 =>
  some (o27.2.b, o27.2.i, o27.2.h, l_29)
  else
  (f96 o22.2 (w64 (1 + o3.1))).bind fun o31 =>
  (app 8 a_19 ([o31.1])).bind fun l_33 =>
  some (o31.2.b, o31.2.i, o31.2.h, l_33)) : Option ((List Int) × Int × Int × (List Int)))).bind fun (c_35, c_36, c_37, a_38) =>
  some (.inl (c_35, c_36, c_37, a_18, a_38, w64 (m_20 - 1)))
  else
  some (.inr (c_15, c_16, c_17, a_18, a_19))
def f116_0 (o1 : (Int × L1Cur)) (o3 : (Int × L1Cur)) (o5 : (Int × L1Cur)) : (List Int) × Int × Int × Int × (List Atom) × (List Int) × Int -> Option (((List Int) × Int × Int × Int × (List Atom) × (List Int) × Int) ⊕ ((List Int) × Int × Int × Int × (List Atom) × (List Int)))
 | (c_7, c_8, c_9, q_10, q_11, q_12, i_13) =>
  if i_13 < (w64 (1 + o1.1)) then
  (iter ((f116_1 o3)) (c_7, c_8, c_9, (w64 (o5.1 + i_13)).tmod 4, [], w64 (2 + (w64 (((w64 (o5.1 + i_13)).tmod 4).tdiv 3))))).bind fun (c_41, c_42, c_43, a_44, a_45) =>
  (app 32 q_11 ([({ Relation := a_44, Terms := a_45 } : Atom)])).bind fun l_46 =>
  some (.inl (c_41, c_42, c_43, q_10, l_46, q_12, w64 (i_13 + 1)))
  else
  some (.inr (c_7, c_8, c_9, q_10, q_11, q_12))
def f116 (c : L1Cur) : Option (Query × L1Cur) :=
 (f96 c 3).bind fun o1 =>
 (f96 o1.2 4).bind fun o3 =>
 (f96 o3.2 4).bind fun o5 =>
 (iter (f116_0 o1 o3 o5) (o5.2.b, o5.2.i, o5.2.h, 0, [], [], 0)).bind fun (c_50, c_51, c_52, q_53, q_54, q_55) =>
 (f127 ({ VariableCount := q_53, Atoms := q_54, Free := q_55 } : Query)).bind fun o56 =>
 some (o56, ({ b := c_50, i := c_51, h := c_52 } : L1Cur))
def f129 (c : L1Cur) (list : (List (List UInt8))) : Option ((List UInt8) × L1Cur) :=
 (f96 c (list.length : Int)).bind fun o1 =>
 (ix list o1.1).bind fun v_3 =>
 some (v_3, o1.2)
def f132_0 (s0 : (List UInt8)) (sign : Int) : (List (List UInt8)) × Int × Int -> Option (((List (List UInt8)) × Int × Int) ⊕ ((List (List UInt8)) × Int))
 | (out_1, from_2, i_3) =>
  if i_3 < (s0.length : Int) then
  (ix s0 i_3).bind fun c_5 =>
  (((if (c_5.toNat : Int) = sign then
  (cutL s0 from_2 i_3).bind fun l_10 =>
  (app 16 out_1 ([l_10])).bind fun l_12 =>
  some (l_12, w64 (i_3 + 1))
  else
  some (out_1, from_2)) : Option ((List (List UInt8)) × Int))).bind fun (out_14, from_15) =>
  some (.inl (out_14, from_15, w64 (i_3 + 1)))
  else
  some (.inr (out_1, from_2))
def f132 (s0 : (List UInt8)) (sign : Int) : Option (List (List UInt8)) :=
 (iter (f132_0 s0 sign) ([], 0, 0)).bind fun (out_18, from_19) =>
 (cutL s0 from_19 s0.length).bind fun l_20 =>
 (app 16 out_18 ([l_20])).bind fun l_22 =>
 some l_22
def f39 (x : Int) (low : Int) (high : Int) : Option Bool :=
 (((if x >= low then
 some (decide (x <= high))
 else
 some false) : Option (Bool))).bind fun x_1 =>
 some x_1
def f93 (t : Int) : Option (Int × Bool) :=
 (((if t >= 0 then
 some true
 else
 (f39 (w64 ((-1) - t)) 0 9).bind fun o4 =>
 some (decide (¬ (o4 = true)))) : Option (Bool))).bind fun x_1 =>
 if x_1 = true then
 some (0, false)
 else
 some (w64 ((-1) - t), true)
def f94_0 : Int × (List UInt8) -> Option ((Int × (List UInt8)) ⊕ (List UInt8))
 | (n_2, out_3) =>
  if n_2 ≠ 0 then
  (((if (n_2.tmod 10) < 0 then
  some (w64 (-(n_2.tmod 10)))
  else
  some (n_2.tmod 10)) : Option Int)).bind fun d_8 =>
  (cat ([UInt8.ofNat (w8 (w64 (48 + d_8))).toNat]) out_3).bind fun s_9 =>
  some (.inl (w64 (n_2.tdiv 10), s_9))
  else
  some (.inr out_3)
def f94 (n0 : Int) : Option (List UInt8) :=
 if n0 = 0 then
 some ([48])
 else
 (iter (f94_0) (n0, [])).bind fun out_13 =>
 if n0 < 0 then
 (cat ([45]) out_13).bind fun s_15 =>
 some s_15
 else
 some out_13
def f69 (t : Int) : Option (List UInt8) :=
 (f93 t).bind fun o1 =>
 if o1.2 = true then
 (f94 o1.1).bind fun o4 =>
 some o4
 else
 (f39 t 0 3).bind fun o6 =>
 if ¬ (o6 = true) then
 some ([])
 else
 (cutL ([120, 121, 122, 119]) t (w64 (t + 1))).bind fun l_9 =>
 some l_9
def f133_0 (s0 : (List UInt8)) : Int -> Option (Int ⊕ (Unit ⊕ (Int × Bool)))
 | t_1 =>
  if t_1 < 4 then
  (f69 t_1).bind fun o3 =>
  if o3 = s0 then
  some (.inr (.inr (t_1, true)))
  else
  some (.inl (w64 (t_1 + 1)))
  else
  some (.inr (.inl ()))
def f133 (s0 : (List UInt8)) : Option (Int × Bool) :=
 (iter (f133_0 s0) (-10)).bind fun o => match o with
 | .inl _ =>
 some (0, false)
 | .inr (x_8, x_9) =>
 some (x_8, x_9)
def f134_0 (l : (List Relation)) (name : (List UInt8)) : Int -> Option (Int ⊕ (Unit ⊕ Int))
 | i_1 =>
  if i_1 < (l.length : Int) then
  (ix l i_1).bind fun v_3 =>
  if v_3.Name = name then
  some (.inr (.inr i_1))
  else
  some (.inl (w64 (i_1 + 1)))
  else
  some (.inr (.inl ()))
def f134 (l : (List Relation)) (name : (List UInt8)) : Option Int :=
 (iter (f134_0 l name) 0).bind fun o => match o with
 | .inl _ =>
 some (-1)
 | .inr x_8 =>
 some x_8
def f73 (s0 : Relation) : Option Bool :=
 (((if (s0.Name.length : Int) = 1 then
 (ix s0.Name 0).bind fun c_4 =>
 (((if (c_4.toNat : Int) >= 97 then
 (((if (c_4.toNat : Int) <= 122 then
 (f39 s0.Arity 1 3).bind fun o12 =>
 (((if o12 = true then
 (f39 s0.KeyLength 0 s0.Arity).bind fun o17 =>
 some o17
 else
 some false) : Option (Bool))).bind fun x_14 =>
 some x_14
 else
 some false) : Option (Bool))).bind fun x_9 =>
 some x_9
 else
 some false) : Option (Bool))).bind fun x_6 =>
 some x_6
 else
 some false) : Option (Bool))).bind fun x_1 =>
 some x_1
def f46_0 (l : (List Relation)) : Int -> Option (Int ⊕ (Unit ⊕ Bool))
 | i_1 =>
  if i_1 < (l.length : Int) then
  (ix l i_1).bind fun v_3 =>
  (f73 v_3).bind fun o5 =>
  (((if ¬ (o5 = true) then
  some true
  else
  (((if i_1 > 0 then
  (ix l (w64 (i_1 - 1))).bind fun v_13 =>
  some (!(Op.bytesLess v_13.Name v_3.Name))
  else
  some false) : Option (Bool))).bind fun x_10 =>
  some x_10) : Option (Bool))).bind fun x_7 =>
  if x_7 = true then
  some (.inr (.inr false))
  else
  some (.inl (w64 (i_1 + 1)))
  else
  some (.inr (.inl ()))
def f46 (l : (List Relation)) : Option Bool :=
 (iter (f46_0 l) 0).bind fun o => match o with
 | .inl _ =>
 some (decide ((l.length : Int) <= 4))
 | .inr x_18 =>
 some x_18
def f29_3 (q : Query) (i_17 : Int) (v_19 : Atom) : Int -> Option (Int ⊕ (Unit ⊕ Bool))
 | k_29 =>
  if k_29 < i_17 then
  (ix q.Atoms k_29).bind fun v_31 =>
  if v_31.Relation = v_19.Relation then
  some (.inr (.inr false))
  else
  some (.inl (w64 (k_29 + 1)))
  else
  some (.inr (.inl ()))
def f29_4 (q : Query) (v_19 : Atom) : (List Bool) × Int -> Option (((List Bool) × Int) ⊕ ((List Bool) ⊕ Bool))
 | (met_37, k_38) =>
  if k_38 < (v_19.Terms.length : Int) then
  (ix v_19.Terms k_38).bind fun v_40 =>
  (f39 v_40 (-10) (w64 (q.VariableCount - 1))).bind fun o42 =>
  if ¬ (o42 = true) then
  some (.inr (.inr false))
  else
  (((if v_40 >= 0 then
  (ix met_37 v_40).bind fun v_48 =>
  some (met_37.set v_40.toNat true)
  else
  some met_37) : Option (List Bool))).bind fun met_51 =>
  some (.inl (met_51, w64 (k_38 + 1)))
  else
  some (.inr (.inl met_37))
def f29_0 (l : (List Relation)) (q : Query) : (List Bool) × Int -> Option (((List Bool) × Int) ⊕ ((List Bool) ⊕ Bool))
 | (met_16, i_17) =>
  if i_17 < (q.Atoms.length : Int) then
  (ix q.Atoms i_17).bind fun v_19 =>
  (f39 v_19.Relation 0 (w64 ((l.length : Int) - 1))).bind fun o21 =>
  (((if ¬ (o21 = true) then
  some true
  else
  (ix l v_19.Relation).bind fun v_26 =>
  some (decide ((v_19.Terms.length : Int) ≠ v_26.Arity))) : Option (Bool))).bind fun x_23 =>
  if x_23 = true then
  some (.inr (.inr false))
  else
  (iter ((f29_3 q i_17 v_19)) 0).bind fun o => match o with
  | .inl _ =>
  ((iter ((f29_4 q v_19)) (met_16, 0)).bind fun o => match o with
  | .inl met_54 =>
  some (.inl (met_54, w64 (i_17 + 1)))
  | .inr x_55 =>
  some (.inr (.inr x_55)))
  | .inr x_36 =>
  some (.inr (.inr x_36))
  else
  some (.inr (.inl met_16))
def f29_1 (q : Query) (met_58 : (List Bool)) : Int -> Option (Int ⊕ (Unit ⊕ Bool))
 | v_60 =>
  if v_60 < q.VariableCount then
  (ix met_58 v_60).bind fun v_62 =>
  if ¬ (v_62 = true) then
  some (.inr (.inr false))
  else
  some (.inl (w64 (v_60 + 1)))
  else
  some (.inr (.inl ()))
def f29_2 (q : Query) : Int -> Option (Int ⊕ (Unit ⊕ Bool))
 | i_68 =>
  if i_68 < (q.Free.length : Int) then
  (ix q.Free i_68).bind fun v_70 =>
  (f39 v_70 0 (w64 (q.VariableCount - 1))).bind fun o72 =>
  (((if ¬ (o72 = true) then
  some true
  else
  (((if i_68 > 0 then
  (ix q.Free (w64 (i_68 - 1))).bind fun v_80 =>
  some (decide (v_70 <= v_80))
  else
  some false) : Option (Bool))).bind fun x_77 =>
  some x_77) : Option (Bool))).bind fun x_74 =>
  if x_74 = true then
  some (.inr (.inr false))
  else
  some (.inl (w64 (i_68 + 1)))
  else
  some (.inr (.inl ()))
def f29 (l : (List Relation)) (q : Query) : Option Bool :=
 (f46 l).bind fun o1 =>
 (((if ¬ (o1 = true) then
 some true
 else
 (f39 q.VariableCount 0 4).bind fun o6 =>
 (((if ¬ (o6 = true) then
 some true
 else
 (f39 (q.Atoms.length : Int) 1 3).bind fun o11 =>
 some (decide (¬ (o11 = true)))) : Option (Bool))).bind fun x_8 =>
 some x_8) : Option (Bool))).bind fun x_3 =>
 if x_3 = true then
 some false
 else
 (mkl 1 4 false).bind fun l_14 =>
 (iter (f29_0 l q) (l_14, 0)).bind fun o => match o with
 | .inl met_58 =>
 ((iter (f29_1 q met_58) 0).bind fun o => match o with
 | .inl _ =>
 ((iter (f29_2 q) 0).bind fun o => match o with
 | .inl _ =>
 some true
 | .inr x_85 =>
 some x_85)
 | .inr x_67 =>
 some x_67)
 | .inr x_59 =>
 some x_59
def f38_0 (l : (List Relation)) (a : Atom) : (List UInt8) × Int -> Option (((List UInt8) × Int) ⊕ (List UInt8))
 | (s_3, i_4) =>
  if i_4 < (a.Terms.length : Int) then
  (ix l a.Relation).bind fun v_6 =>
  (((if i_4 = v_6.KeyLength then
  (cat s_3 ([124])).bind fun s_11 =>
  some s_11
  else
  some s_3) : Option (List UInt8))).bind fun s_13 =>
  (ix a.Terms i_4).bind fun v_14 =>
  (f69 v_14).bind fun o16 =>
  (cat s_13 o16).bind fun s_18 =>
  some (.inl (s_18, w64 (i_4 + 1)))
  else
  some (.inr s_3)
def f38 (l : (List Relation)) (a : Atom) : Option (List UInt8) :=
 (ix l a.Relation).bind fun v_1 =>
 (iter (f38_0 l a) (v_1.Name, 0)).bind fun s_22 =>
 some s_22
def f135_0 (q : Query) : (List UInt8) × Int -> Option (((List UInt8) × Int) ⊕ (List UInt8))
 | (s_4, i_5) =>
  if i_5 < (q.Free.length : Int) then
  (ix q.Free i_5).bind fun v_7 =>
  (f69 v_7).bind fun o9 =>
  (cat s_4 o9).bind fun s_11 =>
  some (.inl (s_11, w64 (i_5 + 1)))
  else
  some (.inr s_4)
def f135_1 (l : (List Relation)) (q : Query) : (List UInt8) × Int -> Option (((List UInt8) × Int) ⊕ (List UInt8))
 | (s_18, i_19) =>
  if i_19 < (q.Atoms.length : Int) then
  (((if i_19 > 0 then
  (cat s_18 ([32])).bind fun s_24 =>
  some s_24
  else
  some s_18) : Option (List UInt8))).bind fun s_26 =>
  (ix q.Atoms i_19).bind fun v_27 =>
  (f38 l v_27).bind fun o29 =>
  (cat s_26 o29).bind fun s_31 =>
  some (.inl (s_31, w64 (i_19 + 1)))
  else
  some (.inr s_18)
def f135 (l : (List Relation)) (q : Query) : Option (List UInt8) :=
 (f29 l q).bind fun o1 =>
 if ¬ (o1 = true) then
 some ([])
 else
 (iter ((f135_0 q)) ([], 0)).bind fun s_15 =>
 (cat s_15 ([63])).bind fun s_16 =>
 (iter (f135_1 l q) (s_16, 0)).bind fun s_35 =>
 some s_35
def f128_0 (o1 : (List (List UInt8))) : Int × (List Atom) × (List Int) × Int -> Option ((Int × (List Atom) × (List Int) × Int) ⊕ (Int × (List Atom) × (List Int)))
 | (q_4, q_5, q_6, i_7) =>
  (ix o1 0).bind fun v_8 =>
  if i_7 < (v_8.length : Int) then
  (cutL v_8 i_7 (w64 (i_7 + 1))).bind fun l_11 =>
  (f133 l_11).bind fun o13 =>
  (app 8 q_6 ([o13.1])).bind fun l_15 =>
  some (.inl (q_4, q_5, l_15, w64 (i_7 + 1)))
  else
  some (.inr (q_4, q_5, q_6))
def f128_2 (l : (List Relation)) (o24 : (List (List UInt8))) (i_29 : Int) : Int × (List Atom) × (List Int) × Int × (List Int) × Int -> Option ((Int × (List Atom) × (List Int) × Int × (List Int) × Int) ⊕ (Int × (List Atom) × (List Int) × Int × (List Int)))
 | (q_31, q_32, q_33, a_34, a_35, k_36) =>
  (ix o24 i_29).bind fun v_37 =>
  if k_36 < (v_37.length : Int) then
  (((if k_36 = 0 then
  (cutL v_37 0 1).bind fun l_43 =>
  (f134 l l_43).bind fun o45 =>
  some (q_31, o45, a_35)
  else
  (ix v_37 k_36).bind fun c_47 =>
  if (c_47.toNat : Int) = 124 then
  some (q_31, a_34, a_35)
  else
  (cutL v_37 k_36 (w64 (k_36 + 1))).bind fun l_50 =>
  (f133 l_50).bind fun o52 =>
  (app 8 a_35 ([o52.1])).bind fun l_54 =>
  some (if w64 (o52.1 + 1) > q_31 then w64 (o52.1 + 1) else q_31, a_34, l_54)) : Option (Int × Int × (List Int)))).bind fun (q_56, a_57, a_58) =>
  some (.inl (q_56, q_32, q_33, a_57, a_58, w64 (k_36 + 1)))
  else
  some (.inr (q_31, q_32, q_33, a_34, a_35))
def f128_1 (l : (List Relation)) (o24 : (List (List UInt8))) : Int × (List Atom) × (List Int) × Int -> Option ((Int × (List Atom) × (List Int) × Int) ⊕ (Int × (List Atom) × (List Int)))
 | (q_26, q_27, q_28, i_29) =>
  if i_29 < (o24.length : Int) then
  (iter ((f128_2 l o24 i_29)) (q_26, q_27, q_28, 0, [], 0)).bind fun (q_61, q_62, q_63, a_64, a_65) =>
  (app 32 q_62 ([({ Relation := a_64, Terms := a_65 } : Atom)])).bind fun l_66 =>
  some (.inl (q_61, l_66, q_63, w64 (i_29 + 1)))
  else
  some (.inr (q_26, q_27, q_28))
def f128 (l : (List Relation)) (s1 : (List UInt8)) : Option (Query × Bool) :=
 (f132 s1 63).bind fun o1 =>
 if (o1.length : Int) ≠ 2 then
 some (({ VariableCount := 0, Atoms := [], Free := [] } : Query), false)
 else
 (iter ((f128_0 o1)) (0, [], [], 0)).bind fun (q_19, q_20, q_21) =>
 (ix o1 1).bind fun v_22 =>
 (f132 v_22 32).bind fun o24 =>
 (iter ((f128_1 l o24)) (q_19, q_20, q_21, 0)).bind fun (q_70, q_71, q_72) =>
 (f135 l ({ VariableCount := q_70, Atoms := q_71, Free := q_72 } : Query)).bind fun o73 =>
 if o73 ≠ s1 then
 some (({ VariableCount := 0, Atoms := [], Free := [] } : Query), false)
 else
 some (({ VariableCount := q_70, Atoms := q_71, Free := q_72 } : Query), true)
def f118 (c : L1Cur) (l : (List Relation)) : Option (Query × L1Cur) :=
 (f129 c ([[63, 114, 120, 124, 121, 32, 115, 121, 124, 122], [63, 114, 120, 124, 121, 32, 115, 121, 124, 120], [63, 114, 120, 124, 121, 32, 115, 122, 124, 121], [63, 114, 120, 124, 121, 32, 115, 120, 124, 122], [63, 114, 120, 124, 49], [63, 114, 120, 124, 120], [63, 114, 120, 124, 121, 32, 115, 121, 124, 49], [63, 114, 120, 124, 121, 32, 115, 121, 124, 122, 32, 114], [63, 114, 120, 124, 121], [63, 114, 120, 124, 122, 32, 115, 121, 124, 122]])).bind fun o1 =>
 (f128 l o1.1).bind fun o3 =>
 (((if ¬ (o3.2 = true) then
 (f128 l ([63, 114, 120, 124, 121, 32, 115, 121, 124, 122])).bind fun o8 =>
 some (o8.1.VariableCount, o8.1.Atoms, o8.1.Free)
 else
 some (o3.1.VariableCount, o3.1.Atoms, o3.1.Free)) : Option (Int × (List Atom) × (List Int)))).bind fun (q_10, q_11, q_12) =>
 some (({ VariableCount := q_10, Atoms := q_11, Free := q_12 } : Query), o1.2)
def f97_0 : (List Int) × Int × Int × Int × (List Atom) × (List Int) × Int -> Option (((List Int) × Int × Int × Int × (List Atom) × (List Int) × Int) ⊕ ((List Int) × Int × Int × Int × (List Atom) × (List Int)))
 | (c_21, c_22, c_23, q_24, q_25, q_26, v_27) =>
  if v_27 < q_24 then
  (f117 ({ b := c_21, i := c_22, h := c_23 } : L1Cur) 3).bind fun o29 =>
  (((if o29.1 = true then
  (app 8 q_26 ([v_27])).bind fun l_34 =>
  some l_34
  else
  some q_26) : Option (List Int))).bind fun q_36 =>
  some (.inl (o29.2.b, o29.2.i, o29.2.h, q_24, q_25, q_36, w64 (v_27 + 1)))
  else
  some (.inr (c_21, c_22, c_23, q_24, q_25, q_26))
def f97 (c : L1Cur) (l : (List Relation)) : Option (Query × L1Cur) :=
 (f116 c).bind fun o1 =>
 (f117 o1.2 3).bind fun o3 =>
 (((if o3.1 = true then
 (f118 o3.2 l).bind fun o8 =>
 some (o8.2.b, o8.2.i, o8.2.h, o8.1.VariableCount, o8.1.Atoms, o8.1.Free)
 else
 some (o3.2.b, o3.2.i, o3.2.h, o1.1.VariableCount, o1.1.Atoms, o1.1.Free)) : Option ((List Int) × Int × Int × Int × (List Atom) × (List Int)))).bind fun (c_10, c_11, c_12, q_13, q_14, q_15) =>
 (f117 ({ b := c_10, i := c_11, h := c_12 } : L1Cur) 4).bind fun o16 =>
 (((if o16.1 = true then
 (iter f97_0 (o16.2.b, o16.2.i, o16.2.h, q_13, q_14, q_15, 0)).bind fun (c_39, c_40, c_41, q_42, q_43, q_44) =>
 some (c_39, c_40, c_41, q_42, q_43, q_44)
 else
 some (o16.2.b, o16.2.i, o16.2.h, q_13, q_14, q_15)) : Option ((List Int) × Int × Int × Int × (List Atom) × (List Int)))).bind fun (c_45, c_46, c_47, q_48, q_49, q_50) =>
 some (({ VariableCount := q_48, Atoms := q_49, Free := q_50 } : Query), ({ b := c_45, i := c_46, h := c_47 } : L1Cur))
def f76 (c : L1Cur) (l : (List Relation)) : Option (Query × L1Cur) :=
 (f97 c l).bind fun o1 =>
 (f96 o1.2 14).bind fun o3 =>
 (((if o3.1 = 0 then
 (f95 o3.2 ([-1, w64 (o1.1.VariableCount + 1), 5])).bind fun o8 =>
 some (o8.2.b, o8.2.i, o8.2.h, o8.1, o1.1.Atoms, o1.1.Free)
 else
 (((if o3.1 = 1 then
 (f96 o3.2 6).bind fun o13 =>
 (app 32 o1.1.Atoms ([({ Relation := w64 (o13.1 - 1), Terms := [0, 0] } : Atom)])).bind fun l_15 =>
 some (o13.2.b, o13.2.i, o13.2.h, l_15, o1.1.Free)
 else
 (((if o3.1 = 2 then
 (ix o1.1.Atoms 0).bind fun v_20 =>
 (f95 o3.2 ([-11, 4, 3])).bind fun o22 =>
 (ix v_20.Terms 0).bind fun v_24 =>
 some (o22.2.b, o22.2.i, o22.2.h, (o1.1.Atoms.set (0 : Int).toNat ({ Relation := v_20.Relation, Terms := (v_20.Terms.set (0 : Int).toNat o22.1) } : Atom)), o1.1.Free)
 else
 (((if o3.1 = 3 then
 (f96 o3.2 5).bind fun o31 =>
 (app 8 o1.1.Free ([o31.1])).bind fun l_33 =>
 some (o31.2.b, o31.2.i, o31.2.h, l_33)
 else
 some (o3.2.b, o3.2.i, o3.2.h, o1.1.Free)) : Option ((List Int) × Int × Int × (List Int)))).bind fun (c_35, c_36, c_37, q_38) =>
 some (c_35, c_36, c_37, o1.1.Atoms, q_38)) : Option ((List Int) × Int × Int × (List Atom) × (List Int)))).bind fun (c_39, c_40, c_41, q_42, q_43) =>
 some (c_39, c_40, c_41, q_42, q_43)) : Option ((List Int) × Int × Int × (List Atom) × (List Int)))).bind fun (c_44, c_45, c_46, q_47, q_48) =>
 some (c_44, c_45, c_46, o1.1.VariableCount, q_47, q_48)) : Option ((List Int) × Int × Int × Int × (List Atom) × (List Int)))).bind fun (c_49, c_50, c_51, q_52, q_53, q_54) =>
 some (({ VariableCount := q_52, Atoms := q_53, Free := q_54 } : Query), ({ b := c_49, i := c_50, h := c_51 } : L1Cur))
def f48 (code : (List Int)) : Option (L1Cur × (List Relation) × Query) :=
 (f74 code).bind fun o1 =>
 (f75 o1).bind fun o3 =>
 (f76 o3.2 o3.1).bind fun o5 =>
 some (o5.2, o3.1, o5.1)
def f15 (code : (List Int)) : Option ((List Relation) × Query) :=
 (f48 code).bind fun o1 =>
 some (o1.2.1, o1.2.2)
def f5 (code : (List Int)) : Option ((List Relation) × Query) :=
 (f15 code).bind fun o1 =>
 some (o1.1, o1.2)
def f42 (n0 : Int) (low : Int) (high : Int) : Option Bool :=
 (((if low <= n0 then
 some (decide (n0 <= high))
 else
 some false) : Option (Bool))).bind fun x_1 =>
 some x_1
def f70 (relation : Relation) : Option Bool :=
 (((if (relation.Name.length : Int) = 1 then
 (ix relation.Name 0).bind fun c_4 =>
 (((if (c_4.toNat : Int) >= 97 then
 (((if (c_4.toNat : Int) <= 122 then
 (f42 relation.Arity 1 3).bind fun o12 =>
 (((if o12 = true then
 (f42 relation.KeyLength 0 relation.Arity).bind fun o17 =>
 some o17
 else
 some false) : Option (Bool))).bind fun x_14 =>
 some x_14
 else
 some false) : Option (Bool))).bind fun x_9 =>
 some x_9
 else
 some false) : Option (Bool))).bind fun x_6 =>
 some x_6
 else
 some false) : Option (Bool))).bind fun x_1 =>
 some x_1
def f41_0 (relations : (List Relation)) : Int -> Option (Int ⊕ (Unit ⊕ Bool))
 | x_1 =>
  if x_1 < (relations.length : Int) then
  (ix relations x_1).bind fun v_3 =>
  (f70 v_3).bind fun o5 =>
  (((if ¬ (o5 = true) then
  some true
  else
  (((if x_1 > 0 then
  (ix relations (w64 (x_1 - 1))).bind fun v_13 =>
  some (!(Op.bytesLess v_13.Name v_3.Name))
  else
  some false) : Option (Bool))).bind fun x_10 =>
  some x_10) : Option (Bool))).bind fun x_7 =>
  if x_7 = true then
  some (.inr (.inr false))
  else
  some (.inl (w64 (x_1 + 1)))
  else
  some (.inr (.inl ()))
def f41 (relations : (List Relation)) : Option Bool :=
 (iter (f41_0 relations) 0).bind fun o => match o with
 | .inl _ =>
 some (decide ((relations.length : Int) <= 4))
 | .inr x_18 =>
 some x_18
def f77_0 (indices : (List Int)) (n1 : Int) : Int -> Option (Int ⊕ (Unit ⊕ Bool))
 | x_1 =>
  if x_1 < (indices.length : Int) then
  (ix indices x_1).bind fun v_3 =>
  (f42 v_3 0 (w64 (n1 - 1))).bind fun o5 =>
  (((if ¬ (o5 = true) then
  some true
  else
  (((if x_1 > 0 then
  (ix indices (w64 (x_1 - 1))).bind fun v_13 =>
  some (decide (v_13 >= v_3))
  else
  some false) : Option (Bool))).bind fun x_10 =>
  some x_10) : Option (Bool))).bind fun x_7 =>
  if x_7 = true then
  some (.inr (.inr false))
  else
  some (.inl (w64 (x_1 + 1)))
  else
  some (.inr (.inl ()))
def f77 (indices : (List Int)) (n1 : Int) : Option Bool :=
 (iter (f77_0 indices n1) 0).bind fun o => match o with
 | .inl _ =>
 some true
 | .inr x_18 =>
 some x_18
def f98_0 (s0 : (List Atom)) (f : Atom -> Option Bool) : Int -> Option (Int ⊕ (Unit ⊕ Int))
 | x_1 =>
  if x_1 < (s0.length : Int) then
  (ix s0 x_1).bind fun v_3 =>
  (f v_3).bind fun o5 =>
  if o5 = true then
  some (.inr (.inr x_1))
  else
  some (.inl (w64 (x_1 + 1)))
  else
  some (.inr (.inl ()))
def f98 (s0 : (List Atom)) (f : Atom -> Option Bool) : Option Int :=
 (iter (f98_0 s0 f) 0).bind fun o => match o with
 | .inl _ =>
 some (-1)
 | .inr x_10 =>
 some x_10
def f78 (s0 : (List Atom)) (f : Atom -> Option Bool) : Option Bool :=
 (f98 s0 f).bind fun o1 =>
 some (decide (o1 >= 0))
def f79 (own : Atom) (c : Atom) : Option Bool :=
 some (decide (own.Relation = c.Relation))
def f83 (n : Int) : Option Nat := growN 8 n
def f56_0 (slices : (List (List Int))) : Int × Int -> Option ((Int × Int) ⊕ Int)
 | (size_1, x_2) =>
  if x_2 < (slices.length : Int) then
  (ix slices x_2).bind fun v_4 =>
  (((if (w64 (size_1 + (v_4.length : Int))) < 0 then
  none
  else
  some ()) : Option Unit)).bind fun _ =>
  some (.inl (w64 (size_1 + (v_4.length : Int)), w64 (x_2 + 1)))
  else
  some (.inr size_1)
def f56_1 (slices : (List (List Int))) : Nat × (List Int) × Int -> Option ((Nat × (List Int) × Int) ⊕ (Nat × (List Int)))
 | (newslice_14, newslice_15, x_16) =>
  if x_16 < (slices.length : Int) then
  (ix slices x_16).bind fun v_18 =>
  (apps 8 newslice_15 newslice_14 v_18).bind fun l_20 =>
  some (.inl (l_20.2, l_20.1, w64 (x_16 + 1)))
  else
  some (.inr (newslice_14, newslice_15))
def f56 (slices : (List (List Int))) : Option (List Int) :=
 (iter (f56_0 slices) (0, 0)).bind fun size_11 =>
 (f83 size_11).bind fun o12 =>
 (iter (f56_1 slices) (o12, [], 0)).bind fun (newslice_24, newslice_25) =>
 (nsk newslice_24).bind fun _ =>
 some newslice_25
def f57 (l : List Int) : Option (List Int) := sortN l
def f58 (l : List Int) : Option (List Int) := compactN l
def f22 (a : (List Int)) (b : (List Int)) : Option (List Int) :=
 (f56 ([a, b])).bind fun o1 =>
 (f57 o1).bind fun o3 =>
 (f58 o3).bind fun o5 =>
 some o5
def f20_0 (atom : Atom) : (List Int) × Int -> Option (((List Int) × Int) ⊕ (List Int))
 | (out_1, x_2) =>
  if x_2 < (atom.Terms.length : Int) then
  (ix atom.Terms x_2).bind fun v_4 =>
  (f42 v_4 0 3).bind fun o6 =>
  (((if o6 = true then
  (app 8 out_1 ([v_4])).bind fun l_11 =>
  some l_11
  else
  some out_1) : Option (List Int))).bind fun out_13 =>
  some (.inl (out_13, w64 (x_2 + 1)))
  else
  some (.inr out_1)
def f20 (atom : Atom) : Option (List Int) :=
 (iter (f20_0 atom) ([], 0)).bind fun out_16 =>
 (f22 out_16 ([] : (List Int))).bind fun o17 =>
 some o17
def f49_1 (query : Query) (v_22 : Atom) : Int -> Option (Int ⊕ (Unit ⊕ Bool))
 | x_39 =>
  if x_39 < (v_22.Terms.length : Int) then
  (ix v_22.Terms x_39).bind fun v_41 =>
  (f42 v_41 (-10) (w64 (query.VariableCount - 1))).bind fun o43 =>
  if ¬ (o43 = true) then
  some (.inr (.inr false))
  else
  some (.inl (w64 (x_39 + 1)))
  else
  some (.inr (.inl ()))
def f49_0 (relations : (List Relation)) (query : Query) : (List Int) × Int -> Option (((List Int) × Int) ⊕ ((List Int) ⊕ Bool))
 | (occurring_19, x_20) =>
  if x_20 < (query.Atoms.length : Int) then
  (ix query.Atoms x_20).bind fun v_22 =>
  (f42 v_22.Relation 0 (w64 ((relations.length : Int) - 1))).bind fun o24 =>
  (((if ¬ (o24 = true) then
  some true
  else
  (ix relations v_22.Relation).bind fun v_29 =>
  (((if (v_22.Terms.length : Int) ≠ v_29.Arity then
  some true
  else
  (cutL query.Atoms 0 x_20).bind fun l_34 =>
  (f78 l_34 (fun x0 => f79 x0 v_22)).bind fun o36 =>
  some o36) : Option (Bool))).bind fun x_31 =>
  some x_31) : Option (Bool))).bind fun x_26 =>
  if x_26 = true then
  some (.inr (.inr false))
  else
  (iter ((f49_1 query v_22)) 0).bind fun o => match o with
  | .inl _ =>
  (f20 v_22).bind fun o49 =>
  (f22 occurring_19 o49).bind fun o51 =>
  some (.inl (o51, w64 (x_20 + 1)))
  | .inr x_48 =>
  some (.inr (.inr x_48))
  else
  some (.inr (.inl occurring_19))
def f49 (relations : (List Relation)) (query : Query) : Option Bool :=
 (f41 relations).bind fun o1 =>
 (((if ¬ (o1 = true) then
 some true
 else
 (f42 query.VariableCount 0 4).bind fun o6 =>
 (((if ¬ (o6 = true) then
 some true
 else
 (f42 (query.Atoms.length : Int) 1 3).bind fun o11 =>
 (((if ¬ (o11 = true) then
 some true
 else
 (f77 query.Free query.VariableCount).bind fun o16 =>
 some (decide (¬ (o16 = true)))) : Option (Bool))).bind fun x_13 =>
 some x_13) : Option (Bool))).bind fun x_8 =>
 some x_8) : Option (Bool))).bind fun x_3 =>
 if x_3 = true then
 some false
 else
 (iter (f49_0 relations query) ([], 0)).bind fun o => match o with
 | .inl occurring_55 =>
 some (decide ((occurring_55.length : Int) = query.VariableCount))
 | .inr x_56 =>
 some x_56
def f19 (relations : (List Relation)) (atom : Atom) : Option (List Int) :=
 (f42 atom.Relation 0 (w64 ((relations.length : Int) - 1))).bind fun o1 =>
 (((if ¬ (o1 = true) then
 some true
 else
 (ix relations atom.Relation).bind fun v_6 =>
 (f42 v_6.KeyLength 0 (atom.Terms.length : Int)).bind fun o8 =>
 some (decide (¬ (o8 = true)))) : Option (Bool))).bind fun x_3 =>
 if x_3 = true then
 some ([])
 else
 (ix relations atom.Relation).bind fun v_11 =>
 (cutL atom.Terms 0 v_11.KeyLength).bind fun l_13 =>
 (f20 ({ Relation := 0, Terms := l_13 } : Atom)).bind fun o15 =>
 some o15
def f71_0 (s0 : (List Int)) (f : Int -> Option Bool) : Int -> Option (Int ⊕ (Unit ⊕ Int))
 | x_1 =>
  if x_1 < (s0.length : Int) then
  (ix s0 x_1).bind fun v_3 =>
  (f v_3).bind fun o5 =>
  if o5 = true then
  some (.inr (.inr x_1))
  else
  some (.inl (w64 (x_1 + 1)))
  else
  some (.inr (.inl ()))
def f71 (s0 : (List Int)) (f : Int -> Option Bool) : Option Int :=
 (iter (f71_0 s0 f) 0).bind fun o => match o with
 | .inl _ =>
 some (-1)
 | .inr x_10 =>
 some x_10
def f43 (s0 : (List Int)) (f : Int -> Option Bool) : Option Bool :=
 (f71 s0 f).bind fun o1 =>
 some (decide (o1 >= 0))
def f82_0 (s0 : (List Int)) (v : Int) : Int -> Option (Int ⊕ (Unit ⊕ Int))
 | x_1 =>
  if x_1 < (s0.length : Int) then
  (ix s0 x_1).bind fun v_3 =>
  if v = v_3 then
  some (.inr (.inr x_1))
  else
  some (.inl (w64 (x_1 + 1)))
  else
  some (.inr (.inl ()))
def f82 (s0 : (List Int)) (v : Int) : Option Int :=
 (iter (f82_0 s0 v) 0).bind fun o => match o with
 | .inl _ =>
 some (-1)
 | .inr x_8 =>
 some x_8
def f55 (s0 : (List Int)) (v : Int) : Option Bool :=
 (f82 s0 v).bind fun o1 =>
 some (decide (o1 >= 0))
def f72 (n0 : Int) (c : (List Int)) : Option Bool :=
 (f55 c n0).bind fun o1 =>
 some (decide (¬ (o1 = true)))
def f45 (a : (List Int)) (b : (List Int)) : Option Bool :=
 (f43 a (fun x0 => f72 x0 b)).bind fun o1 =>
 some (decide (¬ (o1 = true)))
def f100_1 (relations : (List Relation)) (atoms : (List Atom)) (skip : Int) : (List Int) × Int -> Option (((List Int) × Int) ⊕ (List Int))
 | (larger_4, x_5) =>
  if x_5 < (atoms.length : Int) then
  (ix atoms x_5).bind fun v_7 =>
  (((if x_5 ≠ skip then
  (f19 relations v_7).bind fun o12 =>
  (f45 o12 larger_4).bind fun o14 =>
  some o14
  else
  some false) : Option (Bool))).bind fun x_9 =>
  (((if x_9 = true then
  (f20 v_7).bind fun o19 =>
  (f22 larger_4 o19).bind fun o21 =>
  some o21
  else
  some larger_4) : Option (List Int))).bind fun larger_23 =>
  some (.inl (larger_23, w64 (x_5 + 1)))
  else
  some (.inr larger_4)
def f100_0 (relations : (List Relation)) (atoms : (List Atom)) (skip : Int) : (List Int) -> Option ((List Int) ⊕ (List Int))
 | out_3 =>
  (iter ((f100_1 relations atoms skip)) (out_3, 0)).bind fun larger_26 =>
  if (larger_26.length : Int) = (out_3.length : Int) then
  some (.inr out_3)
  else
  some (.inl larger_26)
def f100 (relations : (List Relation)) (atoms : (List Atom)) (skip : Int) (variables : (List Int)) : Option (List Int) :=
 (f22 variables ([] : (List Int))).bind fun o1 =>
 (iter (f100_0 relations atoms skip) o1).bind fun x_30 =>
 some x_30
def f21_0 (a : (List Int)) (b : (List Int)) : (List Int) × Int -> Option (((List Int) × Int) ⊕ (List Int))
 | (out_1, x_2) =>
  if x_2 < (a.length : Int) then
  (ix a x_2).bind fun v_4 =>
  (f55 b v_4).bind fun o6 =>
  (((if ¬ (o6 = true) then
  (app 8 out_1 ([v_4])).bind fun l_11 =>
  some l_11
  else
  some out_1) : Option (List Int))).bind fun out_13 =>
  some (.inl (out_13, w64 (x_2 + 1)))
  else
  some (.inr out_1)
def f21 (a : (List Int)) (b : (List Int)) : Option (List Int) :=
 (iter (f21_0 a b) ([], 0)).bind fun out_16 =>
 some out_16
def f81_1 (atoms : (List Atom)) (o7 : (List Int)) : (List Int) × Int -> Option (((List Int) × Int) ⊕ (List Int))
 | (larger_14, x_15) =>
  if x_15 < (atoms.length : Int) then
  (ix atoms x_15).bind fun v_17 =>
  (f20 v_17).bind fun o19 =>
  (f21 o19 o7).bind fun o21 =>
  (f21 o21 larger_14).bind fun o23 =>
  (((if (o23.length : Int) < (o21.length : Int) then
  (f22 larger_14 o21).bind fun o28 =>
  some o28
  else
  some larger_14) : Option (List Int))).bind fun larger_30 =>
  some (.inl (larger_30, w64 (x_15 + 1)))
  else
  some (.inr larger_14)
def f81_0 (atoms : (List Atom)) (o7 : (List Int)) : (List Int) -> Option ((List Int) ⊕ (List Int))
 | out_13 =>
  (iter ((f81_1 atoms o7)) (out_13, 0)).bind fun larger_33 =>
  if (larger_33.length : Int) = (out_13.length : Int) then
  some (.inr out_13)
  else
  some (.inl larger_33)
def f81 (relations : (List Relation)) (atoms : (List Atom)) (free : (List Int)) (atom : Int) : Option (List Int) :=
 (ix atoms atom).bind fun v_1 =>
 (f19 relations v_1).bind fun o3 =>
 (f56 ([free, o3])).bind fun o5 =>
 (f100 relations atoms atom o5).bind fun o7 =>
 (f20 v_1).bind fun o9 =>
 (f21 o9 o7).bind fun o11 =>
 (iter ((f81_0 atoms o7)) o11).bind fun x_37 =>
 some x_37
def f54 (relations : (List Relation)) (atoms : (List Atom)) (free : (List Int)) (from3 : Int) (to : Int) : Option Bool :=
 (ix atoms to).bind fun v_1 =>
 (f20 v_1).bind fun o3 =>
 (((if from3 ≠ to then
 (f81 relations atoms free from3).bind fun o8 =>
 (f21 o3 o8).bind fun o10 =>
 some (decide ((o10.length : Int) < (o3.length : Int)))
 else
 some false) : Option (Bool))).bind fun x_5 =>
 some x_5
def f50 (relations : (List Relation)) (query : Query) (from2 : Int) (to : Int) : Option Bool :=
 (f49 relations query).bind fun o1 =>
 (((if o1 = true then
 (f42 from2 0 (w64 ((query.Atoms.length : Int) - 1))).bind fun o6 =>
 (((if o6 = true then
 (f42 to 0 (w64 ((query.Atoms.length : Int) - 1))).bind fun o11 =>
 (((if o11 = true then
 (f54 relations query.Atoms query.Free from2 to).bind fun o16 =>
 some o16
 else
 some false) : Option (Bool))).bind fun x_13 =>
 some x_13
 else
 some false) : Option (Bool))).bind fun x_8 =>
 some x_8
 else
 some false) : Option (Bool))).bind fun x_3 =>
 some x_3
def f119 (s0 : (List Int)) : Option (List Int) :=
 (app 8 ([]) s0).bind fun l_1 =>
 some l_1
def f99_0 (variables : (List Int)) : (List Int) × Int -> Option (((List Int) × Int) ⊕ (List Int))
 | (given_6, x_7) =>
  if x_7 < (variables.length : Int) then
  (ix variables x_7).bind fun v_9 =>
  (f42 v_9 0 3).bind fun o11 =>
  (((if o11 = true then
  (app 8 given_6 ([v_9])).bind fun l_16 =>
  some l_16
  else
  some given_6) : Option (List Int))).bind fun given_18 =>
  some (.inl (given_18, w64 (x_7 + 1)))
  else
  some (.inr given_6)
def f99 (relations : (List Relation)) (query : Query) (skip : Int) (variables : (List Int)) : Option (List Int) :=
 (f49 relations query).bind fun o1 =>
 if ¬ (o1 = true) then
 some ([])
 else
 (f119 query.Free).bind fun o4 =>
 (iter ((f99_0 variables)) (o4, 0)).bind fun given_21 =>
 (f100 relations query.Atoms skip given_21).bind fun o22 =>
 some o22
def f80 (relations : (List Relation)) (query : Query) (from2 : (List Int)) (to : (List Int)) : Option Bool :=
 (f49 relations query).bind fun o1 =>
 (((if o1 = true then
 (f99 relations query (-1) from2).bind fun o6 =>
 (f45 to o6).bind fun o8 =>
 some o8
 else
 some false) : Option (Bool))).bind fun x_3 =>
 some x_3
def f51 (relations : (List Relation)) (query : Query) (from2 : Int) (to : Int) : Option Bool :=
 (f50 relations query from2 to).bind fun o1 =>
 (((if o1 = true then
 (ix query.Atoms from2).bind fun v_6 =>
 (ix query.Atoms to).bind fun v_8 =>
 (f19 relations v_6).bind fun o10 =>
 (f19 relations v_8).bind fun o12 =>
 (f80 relations query o10 o12).bind fun o14 =>
 some o14
 else
 some false) : Option (Bool))).bind fun x_3 =>
 some x_3
def f52_1 (relations : (List Relation)) (query : Query) (v_19 : Int) : (List Bool) × (List Int) × Int -> Option (((List Bool) × (List Int) × Int) ⊕ ((List Bool) × (List Int)))
 | (reached_23, todo_24, x_25) =>
  if x_25 < (query.Atoms.length : Int) then
  (ix reached_23 x_25).bind fun v_27 =>
  (((if ¬ (v_27 = true) then
  (f50 relations query v_19 x_25).bind fun o32 =>
  some o32
  else
  some false) : Option (Bool))).bind fun x_29 =>
  (((if x_29 = true then
  (app 8 todo_24 ([x_25])).bind fun l_38 =>
  some ((reached_23.set x_25.toNat true), l_38)
  else
  some (reached_23, todo_24)) : Option ((List Bool) × (List Int)))).bind fun (reached_40, todo_41) =>
  some (.inl (reached_40, todo_41, w64 (x_25 + 1)))
  else
  some (.inr (reached_23, todo_24))
def f52_0 (relations : (List Relation)) (query : Query) : (List Bool) × (List Int) -> Option (((List Bool) × (List Int)) ⊕ (List Bool))
 | (reached_16, todo_17) =>
  if (todo_17.length : Int) > 0 then
  (ix todo_17 0).bind fun v_19 =>
  (cutL todo_17 1 todo_17.length).bind fun l_21 =>
  (iter ((f52_1 relations query v_19)) (reached_16, l_21, 0)).bind fun (reached_44, todo_45) =>
  some (.inl (reached_44, todo_45))
  else
  some (.inr reached_16)
def f52 (relations : (List Relation)) (query : Query) (from2 : Int) (to : Int) : Option Bool :=
 (f49 relations query).bind fun o1 =>
 (((if ¬ (o1 = true) then
 some true
 else
 (f42 from2 0 (w64 ((query.Atoms.length : Int) - 1))).bind fun o6 =>
 (((if ¬ (o6 = true) then
 some true
 else
 (f42 to 0 (w64 ((query.Atoms.length : Int) - 1))).bind fun o11 =>
 some (decide (¬ (o11 = true)))) : Option (Bool))).bind fun x_8 =>
 some x_8) : Option (Bool))).bind fun x_3 =>
 if x_3 = true then
 some false
 else
 (mkl 1 (w64 ((w64 ((query.Atoms.length : Int) - 1)) + 1)) false).bind fun l_14 =>
 (iter ((f52_0 relations query)) (l_14, [from2])).bind fun reached_48 =>
 (ix reached_48 to).bind fun v_49 =>
 some v_49
def f53_0 (relations : (List Relation)) (query : Query) : Int -> Option (Int ⊕ (Unit ⊕ Bool))
 | x_1 =>
  if x_1 < (query.Atoms.length : Int) then
  (f52 relations query x_1 x_1).bind fun o3 =>
  if o3 = true then
  some (.inr (.inr true))
  else
  some (.inl (w64 (x_1 + 1)))
  else
  some (.inr (.inl ()))
def f53 (relations : (List Relation)) (query : Query) : Option Bool :=
 (iter (f53_0 relations query) 0).bind fun o => match o with
 | .inl _ =>
 some false
 | .inr x_8 =>
 some x_8
def f16_1 (relations : (List Relation)) (query : Query) (x_4 : Int) : Int -> Option (Int ⊕ (Unit ⊕ Int))
 | x_6 =>
  if x_6 < (query.Atoms.length : Int) then
  (f50 relations query x_4 x_6).bind fun o8 =>
  (((if o8 = true then
  (f51 relations query x_4 x_6).bind fun o13 =>
  (((if ¬ (o13 = true) then
  (f52 relations query x_6 x_4).bind fun o18 =>
  some o18
  else
  some false) : Option (Bool))).bind fun x_15 =>
  some x_15
  else
  some false) : Option (Bool))).bind fun x_10 =>
  if x_10 = true then
  some (.inr (.inr 3))
  else
  some (.inl (w64 (x_6 + 1)))
  else
  some (.inr (.inl ()))
def f16_0 (relations : (List Relation)) (query : Query) : Int -> Option (Int ⊕ (Unit ⊕ Int))
 | x_4 =>
  if x_4 < (query.Atoms.length : Int) then
  (iter (f16_1 relations query x_4) 0).bind fun o => match o with
  | .inl _ =>
  some (.inl (w64 (x_4 + 1)))
  | .inr x_23 =>
  some (.inr (.inr x_23))
  else
  some (.inr (.inl ()))
def f16 (relations : (List Relation)) (query : Query) : Option Int :=
 (f49 relations query).bind fun o1 =>
 if ¬ (o1 = true) then
 some 0
 else
 (iter (f16_0 relations query) 0).bind fun o => match o with
 | .inl _ =>
 (f53 relations query).bind fun o27 =>
 if o27 = true then
 some 2
 else
 some 1
 | .inr x_26 =>
 some x_26
def f17_1 (relations : (List Relation)) (atoms : (List Atom)) (free : (List Int)) (x_2 : Int) : Bool × Int -> Option ((Bool × Int) ⊕ Bool)
 | (is_4, x_5) =>
  if x_5 < (atoms.length : Int) then
  (((if is_4 = true then
  (f54 relations atoms free x_5 x_2).bind fun o10 =>
  some (decide (¬ (o10 = true)))
  else
  some false) : Option (Bool))).bind fun is_7 =>
  some (.inl (is_7, w64 (x_5 + 1)))
  else
  some (.inr is_4)
def f17_0 (relations : (List Relation)) (atoms : (List Atom)) (free : (List Int)) : (List Int) × Int -> Option (((List Int) × Int) ⊕ (List Int))
 | (out_1, x_2) =>
  if x_2 < (atoms.length : Int) then
  (iter ((f17_1 relations atoms free x_2)) (true, 0)).bind fun is_14 =>
  (((if is_14 = true then
  (app 8 out_1 ([x_2])).bind fun l_18 =>
  some l_18
  else
  some out_1) : Option (List Int))).bind fun out_20 =>
  some (.inl (out_20, w64 (x_2 + 1)))
  else
  some (.inr out_1)
def f17 (relations : (List Relation)) (atoms : (List Atom)) (free : (List Int)) : Option (List Int) :=
 (iter (f17_0 relations atoms free) ([], 0)).bind fun out_23 =>
 some out_23
def f18 (atom : Atom) : Option Atom :=
 (app 8 ([]) atom.Terms).bind fun l_1 =>
 some ({ Relation := atom.Relation, Terms := l_1 } : Atom)
def f24 (s0 : (List Atom)) : Option (List Atom) :=
 (app 32 ([]) s0).bind fun l_1 =>
 some l_1
def f23 (a0 : (List Atom)) (a1 : Int) (a2 : Int) : Option (List Atom) := delN 32 a0 a1 a2
def f6_0 (relations : (List Relation)) : (List RewritingStep) × (List Int) × (List Atom) -> Option (((List RewritingStep) × (List Int) × (List Atom)) ⊕ ((List RewritingStep) ⊕ ((List RewritingStep) × Bool)))
 | (out_4, free_5, atoms_6) =>
  if (atoms_6.length : Int) > 0 then
  (f17 relations atoms_6 free_5).bind fun o8 =>
  if (o8.length : Int) = 0 then
  some (.inr (.inr ([], false)))
  else
  (ix o8 0).bind fun v_11 =>
  (ix atoms_6 v_11).bind fun v_13 =>
  (f18 v_13).bind fun o15 =>
  (f19 relations o15).bind fun o17 =>
  (f20 o15).bind fun o19 =>
  (f21 o17 free_5).bind fun o21 =>
  (f21 o19 o17).bind fun o23 =>
  (f21 o23 free_5).bind fun o25 =>
  (app 80 out_4 ([({ Atom := o15, Existential := o21, Universal := o25 } : RewritingStep)])).bind fun l_27 =>
  (f22 free_5 o19).bind fun o29 =>
  (f24 atoms_6).bind fun o31 =>
  (f23 o31 v_11 (w64 (v_11 + 1))).bind fun o33 =>
  some (.inl (l_27, o29, o33))
  else
  some (.inr (.inl out_4))
def f6 (relations : (List Relation)) (query : Query) : Option ((List RewritingStep) × Bool) :=
 (f16 relations query).bind fun o1 =>
 if o1 ≠ 1 then
 some ([], false)
 else
 (iter ((f6_0 relations)) ([], query.Free, query.Atoms)).bind fun o => match o with
 | .inl out_37 =>
 some (out_37, true)
 | .inr (x_38, x_39) =>
 some (x_38, x_39)
def f27_0 (l : (List Int)) (x : Int) : Int -> Option (Int ⊕ (Unit ⊕ Bool))
 | i_1 =>
  if i_1 < (l.length : Int) then
  (ix l i_1).bind fun v_3 =>
  if v_3 = x then
  some (.inr (.inr true))
  else
  some (.inl (w64 (i_1 + 1)))
  else
  some (.inr (.inl ()))
def f27 (l : (List Int)) (x : Int) : Option Bool :=
 (iter (f27_0 l x) 0).bind fun o => match o with
 | .inl _ =>
 some false
 | .inr x_8 =>
 some x_8
def f40_0 (a : Atom) : (List Int) × Int -> Option (((List Int) × Int) ⊕ (List Int))
 | (out_1, v_2) =>
  if v_2 < 4 then
  (f27 a.Terms v_2).bind fun o4 =>
  (((if o4 = true then
  (app 8 out_1 ([v_2])).bind fun l_9 =>
  some l_9
  else
  some out_1) : Option (List Int))).bind fun out_11 =>
  some (.inl (out_11, w64 (v_2 + 1)))
  else
  some (.inr out_1)
def f40 (a : Atom) : Option (List Int) :=
 (iter (f40_0 a) ([], 0)).bind fun out_14 =>
 some out_14
def f12 (l : (List Relation)) (a : Atom) : Option (List Int) :=
 (f39 a.Relation 0 (w64 ((l.length : Int) - 1))).bind fun o1 =>
 (((if ¬ (o1 = true) then
 some true
 else
 (ix l a.Relation).bind fun v_6 =>
 (f39 v_6.KeyLength 0 (a.Terms.length : Int)).bind fun o8 =>
 some (decide (¬ (o8 = true)))) : Option (Bool))).bind fun x_3 =>
 if x_3 = true then
 some ([])
 else
 (ix l a.Relation).bind fun v_11 =>
 (cutL a.Terms 0 v_11.KeyLength).bind fun l_13 =>
 (f40 ({ Relation := 0, Terms := l_13 } : Atom)).bind fun o15 =>
 some o15
def f61_0 (a : (List Int)) (b : (List Int)) : (List Int) × Int -> Option (((List Int) × Int) ⊕ (List Int))
 | (out_1, v_2) =>
  if v_2 < 4 then
  (f27 a v_2).bind fun o4 =>
  (((if o4 = true then
  some true
  else
  (f27 b v_2).bind fun o9 =>
  some o9) : Option (Bool))).bind fun x_6 =>
  (((if x_6 = true then
  (app 8 out_1 ([v_2])).bind fun l_14 =>
  some l_14
  else
  some out_1) : Option (List Int))).bind fun out_16 =>
  some (.inl (out_16, w64 (v_2 + 1)))
  else
  some (.inr out_1)
def f61 (a : (List Int)) (b : (List Int)) : Option (List Int) :=
 (iter (f61_0 a b) ([], 0)).bind fun out_19 =>
 some out_19
def f47_0 (l : (List Int)) (want : (List Int)) : Int -> Option (Int ⊕ (Unit ⊕ Bool))
 | i_1 =>
  if i_1 < (want.length : Int) then
  (ix want i_1).bind fun v_3 =>
  (f27 l v_3).bind fun o5 =>
  if ¬ (o5 = true) then
  some (.inr (.inr false))
  else
  some (.inl (w64 (i_1 + 1)))
  else
  some (.inr (.inl ()))
def f47 (l : (List Int)) (want : (List Int)) : Option Bool :=
 (iter (f47_0 l want) 0).bind fun o => match o with
 | .inl _ =>
 some true
 | .inr x_10 =>
 some x_10
def f88_1 (l : (List Relation)) (q : Query) (skip : Int) : (List Int) × Int -> Option (((List Int) × Int) ⊕ (List Int))
 | (out_9, i_10) =>
  if i_10 < (q.Atoms.length : Int) then
  (((if i_10 ≠ skip then
  (ix q.Atoms i_10).bind fun v_15 =>
  (f12 l v_15).bind fun o17 =>
  (f47 out_9 o17).bind fun o19 =>
  some o19
  else
  some false) : Option (Bool))).bind fun x_12 =>
  (((if x_12 = true then
  (ix q.Atoms i_10).bind fun v_24 =>
  (f40 v_24).bind fun o26 =>
  (f61 out_9 o26).bind fun o28 =>
  some o28
  else
  some out_9) : Option (List Int))).bind fun out_30 =>
  some (.inl (out_30, w64 (i_10 + 1)))
  else
  some (.inr out_9)
def f88_0 (l : (List Relation)) (q : Query) (skip : Int) : (List Int) × Int -> Option (((List Int) × Int) ⊕ (List Int))
 | (out_6, n_7) =>
  if n_7 < (q.Atoms.length : Int) then
  (iter ((f88_1 l q skip)) (out_6, 0)).bind fun out_33 =>
  some (.inl (out_33, w64 (n_7 + 1)))
  else
  some (.inr out_6)
def f88 (l : (List Relation)) (q : Query) (skip : Int) (vars : (List Int)) : Option (List Int) :=
 (f29 l q).bind fun o1 =>
 if ¬ (o1 = true) then
 some ([])
 else
 (f61 vars q.Free).bind fun o4 =>
 (iter (f88_0 l q skip) (o4, 0)).bind fun out_36 =>
 some out_36
def f87 (l : (List Relation)) (q : Query) (k : Int) : Option (List Int) :=
 (f29 l q).bind fun o1 =>
 (((if ¬ (o1 = true) then
 some true
 else
 (f39 k 0 (w64 ((q.Atoms.length : Int) - 1))).bind fun o6 =>
 some (decide (¬ (o6 = true)))) : Option (Bool))).bind fun x_3 =>
 if x_3 = true then
 some ([])
 else
 (ix q.Atoms k).bind fun v_9 =>
 (f12 l v_9).bind fun o11 =>
 (f88 l q k o11).bind fun o13 =>
 some o13
def f62_2 (out_14 : (List Int)) (o19 : (List Int)) : Bool × Int -> Option ((Bool × Int) ⊕ Bool)
 | (met_21, j_22) =>
  if j_22 < (o19.length : Int) then
  (((if met_21 = true then
  some true
  else
  (ix o19 j_22).bind fun v_27 =>
  (f27 out_14 v_27).bind fun o29 =>
  some o29) : Option (Bool))).bind fun met_24 =>
  some (.inl (met_24, w64 (j_22 + 1)))
  else
  some (.inr met_21)
def f62_3 (o9 : (List Int)) (o19 : (List Int)) (met_33 : Bool) : (List Int) × Int -> Option (((List Int) × Int) ⊕ (List Int))
 | (out_34, j_35) =>
  (((if j_35 < (o19.length : Int) then
  some met_33
  else
  some false) : Option (Bool))).bind fun x_36 =>
  if x_36 = true then
  (ix o19 j_35).bind fun v_40 =>
  (f27 o9 v_40).bind fun o42 =>
  (((if ¬ (o42 = true) then
  (f61 out_34 ([v_40])).bind fun o47 =>
  some o47
  else
  some out_34) : Option (List Int))).bind fun out_49 =>
  some (.inl (out_49, w64 (j_35 + 1)))
  else
  some (.inr out_34)
def f62_1 (q : Query) (k : Int) (o9 : (List Int)) : (List Int) × Int -> Option (((List Int) × Int) ⊕ (List Int))
 | (out_14, i_15) =>
  if i_15 < (q.Atoms.length : Int) then
  (ix q.Atoms i_15).bind fun v_17 =>
  (f40 v_17).bind fun o19 =>
  (iter ((f62_2 out_14 o19)) ((decide (i_15 = k)), 0)).bind fun met_33 =>
  (iter ((f62_3 o9 o19 met_33)) (out_14, 0)).bind fun out_52 =>
  some (.inl (out_52, w64 (i_15 + 1)))
  else
  some (.inr out_14)
def f62_0 (q : Query) (k : Int) (o9 : (List Int)) : (List Int) × Int -> Option (((List Int) × Int) ⊕ (List Int))
 | (out_11, n_12) =>
  if n_12 <= (q.Atoms.length : Int) then
  (iter ((f62_1 q k o9)) (out_11, 0)).bind fun out_55 =>
  some (.inl (out_55, w64 (n_12 + 1)))
  else
  some (.inr out_11)
def f62 (l : (List Relation)) (q : Query) (k : Int) : Option (List Int) :=
 (f29 l q).bind fun o1 =>
 (((if ¬ (o1 = true) then
 some true
 else
 (f39 k 0 (w64 ((q.Atoms.length : Int) - 1))).bind fun o6 =>
 some (decide (¬ (o6 = true)))) : Option (Bool))).bind fun x_3 =>
 if x_3 = true then
 some ([])
 else
 (f87 l q k).bind fun o9 =>
 (iter (f62_0 q k o9) ([], 0)).bind fun out_58 =>
 some out_58
def f30_0 (o17 : (List Int)) (o21 : (List Int)) : Int -> Option (Int ⊕ (Unit ⊕ Bool))
 | j_23 =>
  if j_23 < (o21.length : Int) then
  (ix o21 j_23).bind fun v_25 =>
  (f27 o17 v_25).bind fun o27 =>
  if o27 = true then
  some (.inr (.inr true))
  else
  some (.inl (w64 (j_23 + 1)))
  else
  some (.inr (.inl ()))
def f30 (l : (List Relation)) (q : Query) (i : Int) (k : Int) : Option Bool :=
 (f29 l q).bind fun o1 =>
 (((if ¬ (o1 = true) then
 some true
 else
 (f39 i 0 (w64 ((q.Atoms.length : Int) - 1))).bind fun o6 =>
 (((if ¬ (o6 = true) then
 some true
 else
 (f39 k 0 (w64 ((q.Atoms.length : Int) - 1))).bind fun o11 =>
 (((if ¬ (o11 = true) then
 some true
 else
 some (decide (i = k))) : Option (Bool))).bind fun x_13 =>
 some x_13) : Option (Bool))).bind fun x_8 =>
 some x_8) : Option (Bool))).bind fun x_3 =>
 if x_3 = true then
 some false
 else
 (f62 l q i).bind fun o17 =>
 (ix q.Atoms k).bind fun v_19 =>
 (f40 v_19).bind fun o21 =>
 (iter (f30_0 o17 o21) 0).bind fun o => match o with
 | .inl _ =>
 some false
 | .inr x_32 =>
 some x_32
def f63 (l : (List Relation)) (q : Query) (from2 : (List Int)) (to : (List Int)) : Option Bool :=
 (f29 l q).bind fun o1 =>
 (((if o1 = true then
 (f88 l q (-1) from2).bind fun o6 =>
 (f47 o6 to).bind fun o8 =>
 some o8
 else
 some false) : Option (Bool))).bind fun x_3 =>
 some x_3
def f31 (l : (List Relation)) (q : Query) (i : Int) (k : Int) : Option Bool :=
 (f30 l q i k).bind fun o1 =>
 (((if o1 = true then
 (ix q.Atoms i).bind fun v_6 =>
 (ix q.Atoms k).bind fun v_8 =>
 (f12 l v_6).bind fun o10 =>
 (f12 l v_8).bind fun o12 =>
 (f63 l q o10 o12).bind fun o14 =>
 some o14
 else
 some false) : Option (Bool))).bind fun x_3 =>
 some x_3
def f32_2 (l : (List Relation)) (q : Query) (i : Int) (a_20 : Int) : (List Bool) × Int -> Option (((List Bool) × Int) ⊕ (List Bool))
 | (met_22, b_23) =>
  if b_23 < (q.Atoms.length : Int) then
  (((if a_20 = i then
  (f30 l q a_20 b_23).bind fun o28 =>
  some o28
  else
  (ix met_22 a_20).bind fun v_30 =>
  (((if v_30 = true then
  (f30 l q a_20 b_23).bind fun o35 =>
  some o35
  else
  some false) : Option (Bool))).bind fun x_32 =>
  some x_32) : Option (Bool))).bind fun x_25 =>
  (((if x_25 = true then
  (ix met_22 b_23).bind fun v_40 =>
  some (met_22.set b_23.toNat true)
  else
  some met_22) : Option (List Bool))).bind fun met_43 =>
  some (.inl (met_43, w64 (b_23 + 1)))
  else
  some (.inr met_22)
def f32_1 (l : (List Relation)) (q : Query) (i : Int) : (List Bool) × Int -> Option (((List Bool) × Int) ⊕ (List Bool))
 | (met_19, a_20) =>
  if a_20 < (q.Atoms.length : Int) then
  (iter ((f32_2 l q i a_20)) (met_19, 0)).bind fun met_46 =>
  some (.inl (met_46, w64 (a_20 + 1)))
  else
  some (.inr met_19)
def f32_0 (l : (List Relation)) (q : Query) (i : Int) : (List Bool) × Int -> Option (((List Bool) × Int) ⊕ (List Bool))
 | (met_16, n_17) =>
  if n_17 <= (q.Atoms.length : Int) then
  (iter ((f32_1 l q i)) (met_16, 0)).bind fun met_49 =>
  some (.inl (met_49, w64 (n_17 + 1)))
  else
  some (.inr met_16)
def f32 (l : (List Relation)) (q : Query) (i : Int) (k : Int) : Option Bool :=
 (f29 l q).bind fun o1 =>
 (((if ¬ (o1 = true) then
 some true
 else
 (f39 i 0 (w64 ((q.Atoms.length : Int) - 1))).bind fun o6 =>
 (((if ¬ (o6 = true) then
 some true
 else
 (f39 k 0 (w64 ((q.Atoms.length : Int) - 1))).bind fun o11 =>
 some (decide (¬ (o11 = true)))) : Option (Bool))).bind fun x_8 =>
 some x_8) : Option (Bool))).bind fun x_3 =>
 if x_3 = true then
 some false
 else
 (mkl 1 (q.Atoms.length : Int) false).bind fun l_14 =>
 (iter ((f32_0 l q i)) (l_14, 0)).bind fun met_52 =>
 (ix met_52 k).bind fun v_53 =>
 some v_53
def f33_0 (l : (List Relation)) (q : Query) : Int -> Option (Int ⊕ (Unit ⊕ Bool))
 | i_1 =>
  if i_1 < (q.Atoms.length : Int) then
  (f32 l q i_1 i_1).bind fun o3 =>
  if o3 = true then
  some (.inr (.inr true))
  else
  some (.inl (w64 (i_1 + 1)))
  else
  some (.inr (.inl ()))
def f33 (l : (List Relation)) (q : Query) : Option Bool :=
 (iter (f33_0 l q) 0).bind fun o => match o with
 | .inl _ =>
 some false
 | .inr x_8 =>
 some x_8
def f8_1 (l : (List Relation)) (q : Query) (i_4 : Int) : Int -> Option (Int ⊕ (Unit ⊕ Int))
 | k_6 =>
  if k_6 < (q.Atoms.length : Int) then
  (f30 l q i_4 k_6).bind fun o8 =>
  (((if o8 = true then
  (f31 l q i_4 k_6).bind fun o13 =>
  (((if ¬ (o13 = true) then
  (f32 l q k_6 i_4).bind fun o18 =>
  some o18
  else
  some false) : Option (Bool))).bind fun x_15 =>
  some x_15
  else
  some false) : Option (Bool))).bind fun x_10 =>
  if x_10 = true then
  some (.inr (.inr 3))
  else
  some (.inl (w64 (k_6 + 1)))
  else
  some (.inr (.inl ()))
def f8_0 (l : (List Relation)) (q : Query) : Int -> Option (Int ⊕ (Unit ⊕ Int))
 | i_4 =>
  if i_4 < (q.Atoms.length : Int) then
  (iter (f8_1 l q i_4) 0).bind fun o => match o with
  | .inl _ =>
  some (.inl (w64 (i_4 + 1)))
  | .inr x_23 =>
  some (.inr (.inr x_23))
  else
  some (.inr (.inl ()))
def f8 (l : (List Relation)) (q : Query) : Option Int :=
 (f29 l q).bind fun o1 =>
 if ¬ (o1 = true) then
 some 0
 else
 (iter (f8_0 l q) 0).bind fun o => match o with
 | .inl _ =>
 (f33 l q).bind fun o27 =>
 if o27 = true then
 some 2
 else
 some 1
 | .inr x_26 =>
 some x_26
def f86_0 (a : (List Int)) (b : (List Int)) (not : (List Int)) : Int -> Option (Int ⊕ (Unit ⊕ Bool))
 | i_1 =>
  if i_1 < (a.length : Int) then
  (ix a i_1).bind fun v_3 =>
  (f27 b v_3).bind fun o5 =>
  (((if o5 = true then
  (f27 not v_3).bind fun o10 =>
  some (decide (¬ (o10 = true)))
  else
  some false) : Option (Bool))).bind fun x_7 =>
  if x_7 = true then
  some (.inr (.inr true))
  else
  some (.inl (w64 (i_1 + 1)))
  else
  some (.inr (.inl ()))
def f86 (a : (List Int)) (b : (List Int)) (not : (List Int)) : Option Bool :=
 (iter (f86_0 a b not) 0).bind fun o => match o with
 | .inl _ =>
 some false
 | .inr x_15 =>
 some x_15
def f59_2 (l : (List Relation)) (q : Query) (i : Int) : (List Int) × Int -> Option (((List Int) × Int) ⊕ (List Int))
 | (plus_11, j_12) =>
  if j_12 < (q.Atoms.length : Int) then
  (((if j_12 ≠ i then
  (ix q.Atoms j_12).bind fun v_17 =>
  (f12 l v_17).bind fun o19 =>
  (f47 plus_11 o19).bind fun o21 =>
  some o21
  else
  some false) : Option (Bool))).bind fun x_14 =>
  (((if x_14 = true then
  (ix q.Atoms j_12).bind fun v_26 =>
  (f40 v_26).bind fun o28 =>
  (f61 plus_11 o28).bind fun o30 =>
  some o30
  else
  some plus_11) : Option (List Int))).bind fun plus_32 =>
  some (.inl (plus_32, w64 (j_12 + 1)))
  else
  some (.inr plus_11)
def f59_0 (l : (List Relation)) (q : Query) (i : Int) : (List Int) × Int -> Option (((List Int) × Int) ⊕ (List Int))
 | (plus_8, n_9) =>
  if n_9 < (q.Atoms.length : Int) then
  (iter ((f59_2 l q i)) (plus_8, 0)).bind fun plus_35 =>
  some (.inl (plus_35, w64 (n_9 + 1)))
  else
  some (.inr plus_8)
def f59_4 (q : Query) (plus_38 : (List Int)) (a_43 : Int) : (List Int) × Int -> Option (((List Int) × Int) ⊕ (List Int))
 | (met_45, b_46) =>
  if b_46 < (q.Atoms.length : Int) then
  (f27 met_45 a_43).bind fun o48 =>
  (((if o48 = true then
  (f27 met_45 b_46).bind fun o53 =>
  (((if ¬ (o53 = true) then
  (ix q.Atoms a_43).bind fun v_58 =>
  (ix q.Atoms b_46).bind fun v_60 =>
  (f40 v_58).bind fun o62 =>
  (f40 v_60).bind fun o64 =>
  (f86 o62 o64 plus_38).bind fun o66 =>
  some o66
  else
  some false) : Option (Bool))).bind fun x_55 =>
  some x_55
  else
  some false) : Option (Bool))).bind fun x_50 =>
  (((if x_50 = true then
  (app 8 met_45 ([b_46])).bind fun l_71 =>
  some l_71
  else
  some met_45) : Option (List Int))).bind fun met_73 =>
  some (.inl (met_73, w64 (b_46 + 1)))
  else
  some (.inr met_45)
def f59_3 (q : Query) (plus_38 : (List Int)) : (List Int) × Int -> Option (((List Int) × Int) ⊕ (List Int))
 | (met_42, a_43) =>
  if a_43 < (q.Atoms.length : Int) then
  (iter ((f59_4 q plus_38 a_43)) (met_42, 0)).bind fun met_76 =>
  some (.inl (met_76, w64 (a_43 + 1)))
  else
  some (.inr met_42)
def f59_1 (q : Query) (plus_38 : (List Int)) : (List Int) × Int -> Option (((List Int) × Int) ⊕ (List Int))
 | (met_39, n_40) =>
  if n_40 < (q.Atoms.length : Int) then
  (iter ((f59_3 q plus_38)) (met_39, 0)).bind fun met_79 =>
  some (.inl (met_79, w64 (n_40 + 1)))
  else
  some (.inr met_39)
def f59 (l : (List Relation)) (q : Query) (i : Int) (k : Int) : Option Bool :=
 if i = k then
 some false
 else
 (ix q.Atoms i).bind fun v_2 =>
 (f12 l v_2).bind fun o4 =>
 (f61 q.Free o4).bind fun o6 =>
 (iter ((f59_0 l q i)) (o6, 0)).bind fun plus_38 =>
 (iter ((f59_1 q plus_38)) ([i], 0)).bind fun met_82 =>
 (f27 met_82 k).bind fun o83 =>
 some o83
def f26_1 (l : (List Relation)) (q : Query) (k_1 : Int) : Bool × Int -> Option ((Bool × Int) ⊕ Bool)
 | (is_3, i_4) =>
  if i_4 < (q.Atoms.length : Int) then
  (((if is_3 = true then
  some true
  else
  (f59 l q i_4 k_1).bind fun o9 =>
  some o9) : Option (Bool))).bind fun is_6 =>
  some (.inl (is_6, w64 (i_4 + 1)))
  else
  some (.inr is_3)
def f26_0 (l : (List Relation)) (q : Query) : Int -> Option (Int ⊕ (Unit ⊕ Int))
 | k_1 =>
  if k_1 < (q.Atoms.length : Int) then
  (iter (f26_1 l q k_1) (false, 0)).bind fun is_13 =>
  if ¬ (is_13 = true) then
  some (.inr (.inr k_1))
  else
  some (.inl (w64 (k_1 + 1)))
  else
  some (.inr (.inl ()))
def f26 (l : (List Relation)) (q : Query) : Option Int :=
 (iter (f26_0 l q) 0).bind fun o => match o with
 | .inl _ =>
 some (-1)
 | .inr x_17 =>
 some x_17
def f60 (q : Query) (k : Int) : Option Query :=
 (f25 q).bind fun o1 =>
 (f39 k 0 (w64 ((q.Atoms.length : Int) - 1))).bind fun o3 =>
 (((if o3 = true then
 (cutL o1.Atoms 0 k).bind fun l_8 =>
 (cutL o1.Atoms (w64 (k + 1)) o1.Atoms.length).bind fun l_10 =>
 (app 32 ([]) l_8).bind fun l_12 =>
 (app 32 l_12 l_10).bind fun l_14 =>
 some (o1.VariableCount, l_14, o1.Free)
 else
 some (o1.VariableCount, o1.Atoms, o1.Free)) : Option (Int × (List Atom) × (List Int)))).bind fun (x_16, x_17, x_18) =>
 some ({ VariableCount := x_16, Atoms := x_17, Free := x_18 } : Query)
def f28 (q : Query) (k : Int) : Option Query :=
 (f60 q k).bind fun o1 =>
 (ix q.Atoms k).bind fun v_3 =>
 (f40 v_3).bind fun o5 =>
 (f61 q.Free o5).bind fun o7 =>
 some ({ VariableCount := o1.VariableCount, Atoms := o1.Atoms, Free := o7 } : Query)
def f7_1 (l : (List Relation)) (x_9 : (List Int)) (v_14 : Atom) : Int × (List Int) × (List Int) × (List Int) × Int -> Option ((Int × (List Int) × (List Int) × (List Int) × Int) ⊕ (Int × (List Int) × (List Int) × (List Int)))
 | (v_18, v_19, v_20, v_21, j_22) =>
  if j_22 < 4 then
  ((((f27 x_9 j_22).bind fun o26 =>
  (((if o26 = true then
  some true
  else
  (f27 v_14.Terms j_22).bind fun o31 =>
  some (decide (¬ (o31 = true)))) : Option (Bool))).bind fun x_28 =>
  if x_28 = true then
  some (v_20, v_21)
  else
  (f12 l v_14).bind fun o34 =>
  (f27 o34 j_22).bind fun o36 =>
  (((if o36 = true then
  (app 8 v_20 ([j_22])).bind fun l_41 =>
  some (l_41, v_21)
  else
  (app 8 v_21 ([j_22])).bind fun l_43 =>
  some (v_20, l_43)) : Option ((List Int) × (List Int)))).bind fun (v_45, v_46) =>
  some (v_45, v_46)) : Option ((List Int) × (List Int)))).bind fun (v_47, v_48) =>
  some (.inl (v_18, v_19, v_47, v_48, w64 (j_22 + 1)))
  else
  some (.inr (v_18, v_19, v_20, v_21))
def f7_0 (l : (List Relation)) : (List RewritingStep) × Int × (List Atom) × (List Int) -> Option (((List RewritingStep) × Int × (List Atom) × (List Int)) ⊕ ((List RewritingStep) ⊕ ((List RewritingStep) × Bool)))
 | (out_6, x_7, x_8, x_9) =>
  if (x_8.length : Int) > 0 then
  (f26 l ({ VariableCount := x_7, Atoms := x_8, Free := x_9 } : Query)).bind fun o11 =>
  if o11 < 0 then
  some (.inr (.inr ([], false)))
  else
  (ix x_8 o11).bind fun v_14 =>
  (app 8 ([]) v_14.Terms).bind fun l_16 =>
  (iter ((f7_1 l x_9 v_14)) (v_14.Relation, l_16, [], [], 0)).bind fun (v_51, v_52, v_53, v_54) =>
  (app 80 out_6 ([({ Atom := ({ Relation := v_51, Terms := v_52 } : Atom), Existential := v_53, Universal := v_54 } : RewritingStep)])).bind fun l_55 =>
  (f28 ({ VariableCount := x_7, Atoms := x_8, Free := x_9 } : Query) o11).bind fun o57 =>
  some (.inl (l_55, o57.VariableCount, o57.Atoms, o57.Free))
  else
  some (.inr (.inl out_6))
def f7 (l : (List Relation)) (q : Query) : Option ((List RewritingStep) × Bool) :=
 (f8 l q).bind fun o1 =>
 if o1 ≠ 1 then
 some ([], false)
 else
 (f25 q).bind fun o4 =>
 (iter (f7_0 l) ([], o4.VariableCount, o4.Atoms, o4.Free)).bind fun o => match o with
 | .inl out_61 =>
 some (out_61, true)
 | .inr (x_62, x_63) =>
 some (x_62, x_63)
def f44 (t : Int) : Option Bool :=
 (f42 t (-10) 3).bind fun o1 =>
 some (decide (¬ (o1 = true)))
def f13_0 (relations : (List Relation)) (rewriting : (List RewritingStep)) : Int -> Option (Int ⊕ (Unit ⊕ Bool))
 | x_1 =>
  if x_1 < (rewriting.length : Int) then
  (ix rewriting x_1).bind fun v_3 =>
  (((if x_1 >= 3 then
  some true
  else
  (f41 relations).bind fun o8 =>
  (((if ¬ (o8 = true) then
  some true
  else
  (f42 v_3.Atom.Relation 0 (w64 ((relations.length : Int) - 1))).bind fun o13 =>
  (((if ¬ (o13 = true) then
  some true
  else
  (ix relations v_3.Atom.Relation).bind fun v_18 =>
  some (decide ((v_3.Atom.Terms.length : Int) ≠ v_18.Arity))) : Option (Bool))).bind fun x_15 =>
  some x_15) : Option (Bool))).bind fun x_10 =>
  some x_10) : Option (Bool))).bind fun x_5 =>
  if x_5 = true then
  some (.inr (.inr false))
  else
  (f43 v_3.Atom.Terms (fun x0 => f44 x0)).bind fun o21 =>
  if o21 = true then
  some (.inr (.inr false))
  else
  (f19 relations v_3.Atom).bind fun o24 =>
  (f45 v_3.Existential o24).bind fun o26 =>
  (((if ¬ (o26 = true) then
  some true
  else
  (f20 v_3.Atom).bind fun o31 =>
  (f45 v_3.Universal o31).bind fun o33 =>
  some (decide (¬ (o33 = true)))) : Option (Bool))).bind fun x_28 =>
  if x_28 = true then
  some (.inr (.inr false))
  else
  some (.inl (w64 (x_1 + 1)))
  else
  some (.inr (.inl ()))
def f13 (relations : (List Relation)) (rewriting : (List RewritingStep)) : Option Bool :=
 (iter (f13_0 relations rewriting) 0).bind fun o => match o with
 | .inl _ =>
 some true
 | .inr x_38 =>
 some x_38
def f91 (t : Int) : Option (Int × Bool) :=
 (f42 t (-10) (-1)).bind fun o1 =>
 if ¬ (o1 = true) then
 some (0, false)
 else
 some (w64 ((-1) - t), true)
def f114 (n : Int) : Option (List UInt8) := itoaN n
def f92 (n0 : Int) : Option (List UInt8) :=
 (f114 n0).bind fun o1 =>
 some o1
def f67 (t : Int) : Option (List UInt8) :=
 (f91 t).bind fun o1 =>
 if o1.2 = true then
 (f92 o1.1).bind fun o4 =>
 some o4
 else
 (f42 t 0 3).bind fun o6 =>
 if o6 = true then
 (cutL ([120, 121, 122, 119]) t (w64 (t + 1))).bind fun l_9 =>
 some l_9
 else
 some ([])
def f35_0 (terms : (List Int)) : (List (List UInt8)) × Int -> Option (((List (List UInt8)) × Int) ⊕ (List (List UInt8)))
 | (out_1, x_2) =>
  if x_2 < (terms.length : Int) then
  (ix terms x_2).bind fun v_4 =>
  (f67 v_4).bind fun o6 =>
  (app 16 out_1 ([o6])).bind fun l_8 =>
  some (.inl (l_8, w64 (x_2 + 1)))
  else
  some (.inr out_1)
def f35 (terms : (List Int)) : Option (List (List UInt8)) :=
 (iter (f35_0 terms) ([], 0)).bind fun out_12 =>
 some out_12
def f34 (xs : List (List UInt8)) (sep : List UInt8) : Option (List UInt8) := joinN xs sep
def f68 (parts : (List (List UInt8))) (at1 : Int) : Option (List UInt8) :=
 (cutL parts 0 at1).bind fun l_1 =>
 (f34 l_1 ([])).bind fun o3 =>
 (((if at1 < (parts.length : Int) then
 (cutL parts at1 parts.length).bind fun l_8 =>
 (f34 l_8 ([])).bind fun o10 =>
 (cat ([124]) o10).bind fun s_12 =>
 (cat o3 s_12).bind fun s_14 =>
 some s_14
 else
 some o3) : Option (List UInt8))).bind fun out_16 =>
 some out_16
def f36 (relations : (List Relation)) (atom : Atom) : Option (List UInt8) :=
 (ix relations atom.Relation).bind fun v_1 =>
 (f35 atom.Terms).bind fun o3 =>
 (f68 o3 v_1.KeyLength).bind fun o5 =>
 (cat v_1.Name o5).bind fun s_7 =>
 some s_7
def f9_0 (relations : (List Relation)) (rewriting : (List RewritingStep)) : (List (List UInt8)) × Int -> Option (((List (List UInt8)) × Int) ⊕ (List (List UInt8)))
 | (out_4, x_5) =>
  if x_5 < (rewriting.length : Int) then
  (ix rewriting x_5).bind fun v_7 =>
  (f35 v_7.Existential).bind fun o9 =>
  (f34 o9 ([])).bind fun o11 =>
  (cat ([69]) o11).bind fun s_13 =>
  (cat s_13 ([32, 65])).bind fun s_15 =>
  (f35 v_7.Universal).bind fun o17 =>
  (f34 o17 ([])).bind fun o19 =>
  (cat s_15 o19).bind fun s_21 =>
  (cat s_21 ([32])).bind fun s_23 =>
  (f36 relations v_7.Atom).bind fun o25 =>
  (cat s_23 o25).bind fun s_27 =>
  (app 16 out_4 ([s_27])).bind fun l_29 =>
  some (.inl (l_29, w64 (x_5 + 1)))
  else
  some (.inr out_4)
def f9 (relations : (List Relation)) (rewriting : (List RewritingStep)) : Option (List UInt8) :=
 (f13 relations rewriting).bind fun o1 =>
 if ¬ (o1 = true) then
 some ([])
 else
 (iter (f9_0 relations rewriting) ([], 0)).bind fun out_33 =>
 (f34 out_33 ([32])).bind fun o34 =>
 some o34
def f14_1 (v_3 : RewritingStep) : Int -> Option (Int ⊕ (Unit ⊕ Bool))
 | k_18 =>
  if k_18 < (v_3.Atom.Terms.length : Int) then
  (ix v_3.Atom.Terms k_18).bind fun v_20 =>
  (f39 v_20 (-10) 3).bind fun o22 =>
  if ¬ (o22 = true) then
  some (.inr (.inr false))
  else
  some (.inl (w64 (k_18 + 1)))
  else
  some (.inr (.inl ()))
def f14_0 (l : (List Relation)) (f : (List RewritingStep)) : Int -> Option (Int ⊕ (Unit ⊕ Bool))
 | i_1 =>
  if i_1 < (f.length : Int) then
  (ix f i_1).bind fun v_3 =>
  (f46 l).bind fun o5 =>
  (((if ¬ (o5 = true) then
  some true
  else
  (f39 v_3.Atom.Relation 0 (w64 ((l.length : Int) - 1))).bind fun o10 =>
  (((if ¬ (o10 = true) then
  some true
  else
  (ix l v_3.Atom.Relation).bind fun v_15 =>
  some (decide ((v_3.Atom.Terms.length : Int) ≠ v_15.Arity))) : Option (Bool))).bind fun x_12 =>
  some x_12) : Option (Bool))).bind fun x_7 =>
  if x_7 = true then
  some (.inr (.inr false))
  else
  (iter ((f14_1 v_3)) 0).bind fun o => match o with
  | .inl _ =>
  (f12 l v_3.Atom).bind fun o28 =>
  (f47 o28 v_3.Existential).bind fun o30 =>
  (((if ¬ (o30 = true) then
  some true
  else
  (f40 v_3.Atom).bind fun o35 =>
  (f47 o35 v_3.Universal).bind fun o37 =>
  some (decide (¬ (o37 = true)))) : Option (Bool))).bind fun x_32 =>
  if x_32 = true then
  some (.inr (.inr false))
  else
  some (.inl (w64 (i_1 + 1)))
  | .inr x_27 =>
  some (.inr (.inr x_27))
  else
  some (.inr (.inl ()))
def f14 (l : (List Relation)) (f : (List RewritingStep)) : Option Bool :=
 (iter (f14_0 l f) 0).bind fun o => match o with
 | .inl _ =>
 some (decide ((f.length : Int) <= 3))
 | .inr x_42 =>
 some x_42
def f37_0 (l : (List Int)) : (List UInt8) × Int -> Option (((List UInt8) × Int) ⊕ (List UInt8))
 | (s_1, i_2) =>
  if i_2 < (l.length : Int) then
  (ix l i_2).bind fun v_4 =>
  (f69 v_4).bind fun o6 =>
  (cat s_1 o6).bind fun s_8 =>
  some (.inl (s_8, w64 (i_2 + 1)))
  else
  some (.inr s_1)
def f37 (l : (List Int)) : Option (List UInt8) :=
 (iter (f37_0 l) ([], 0)).bind fun s_12 =>
 some s_12
def f10_0 (l : (List Relation)) (f : (List RewritingStep)) : (List UInt8) × Int -> Option (((List UInt8) × Int) ⊕ (List UInt8))
 | (s_1, i_2) =>
  (((if i_2 < (f.length : Int) then
  (f14 l f).bind fun o6 =>
  some o6
  else
  some false) : Option (Bool))).bind fun x_3 =>
  if x_3 = true then
  (((if i_2 > 0 then
  (cat s_1 ([32])).bind fun s_12 =>
  some s_12
  else
  some s_1) : Option (List UInt8))).bind fun s_14 =>
  (cat s_14 ([69])).bind fun s_15 =>
  (ix f i_2).bind fun v_17 =>
  (f37 v_17.Existential).bind fun o19 =>
  (cat s_15 o19).bind fun s_21 =>
  (cat s_21 ([32, 65])).bind fun s_23 =>
  (f37 v_17.Universal).bind fun o25 =>
  (cat s_23 o25).bind fun s_27 =>
  (cat s_27 ([32])).bind fun s_29 =>
  (f38 l v_17.Atom).bind fun o31 =>
  (cat s_29 o31).bind fun s_33 =>
  some (.inl (s_33, w64 (i_2 + 1)))
  else
  some (.inr s_1)
def f10 (l : (List Relation)) (f : (List RewritingStep)) : Option (List UInt8) :=
 (iter (f10_0 l f) ([], 0)).bind fun s_37 =>
 some s_37
def f11_0 (l : (List Int)) (x : Int) : Int -> Option (Int ⊕ (Unit ⊕ Bool))
 | i_1 =>
  if i_1 < (l.length : Int) then
  (ix l i_1).bind fun v_3 =>
  if v_3 = x then
  some (.inr (.inr true))
  else
  some (.inl (w64 (i_1 + 1)))
  else
  some (.inr (.inl ()))
def f11 (l : (List Int)) (x : Int) : Option Bool :=
 (iter (f11_0 l x) 0).bind fun o => match o with
 | .inl _ =>
 some false
 | .inr x_8 =>
 some x_8
def f3_1 (o6 : ((List RewritingStep) × Bool)) (known_26 : (List Int)) (i_27 : Int) : Int -> Option (Int ⊕ (Unit ⊕ Bool))
 | k_29 =>
  (ix o6.1 i_27).bind fun v_30 =>
  if k_29 < (v_30.Existential.length : Int) then
  (ix v_30.Existential k_29).bind fun v_33 =>
  (f11 known_26 v_33).bind fun o35 =>
  if o35 = true then
  some (.inr (.inr false))
  else
  some (.inl (w64 (k_29 + 1)))
  else
  some (.inr (.inl ()))
def f3_2 (l_43 : (List Int)) (o45 : (List Int)) : Int -> Option (Int ⊕ (Unit ⊕ Bool))
 | k_47 =>
  if k_47 < (o45.length : Int) then
  (ix o45 k_47).bind fun v_49 =>
  (f11 l_43 v_49).bind fun o51 =>
  if ¬ (o51 = true) then
  some (.inr (.inr false))
  else
  some (.inl (w64 (k_47 + 1)))
  else
  some (.inr (.inl ()))
def f3_3 (o6 : ((List RewritingStep) × Bool)) (i_27 : Int) (l_43 : (List Int)) : Int -> Option (Int ⊕ (Unit ⊕ Bool))
 | k_57 =>
  (ix o6.1 i_27).bind fun v_58 =>
  if k_57 < (v_58.Universal.length : Int) then
  (ix v_58.Universal k_57).bind fun v_61 =>
  (f11 l_43 v_61).bind fun o63 =>
  if o63 = true then
  some (.inr (.inr false))
  else
  some (.inl (w64 (k_57 + 1)))
  else
  some (.inr (.inl ()))
def f3_0 (o4 : ((List Relation) × Query)) (o6 : ((List RewritingStep) × Bool)) : (List Int) × Int -> Option (((List Int) × Int) ⊕ ((List Int) ⊕ Bool))
 | (known_26, i_27) =>
  if i_27 < (o6.1.length : Int) then
  (iter ((f3_1 o6 known_26 i_27)) 0).bind fun o => match o with
  | .inl _ =>
  ((ix o6.1 i_27).bind fun v_41 =>
  (app 8 known_26 v_41.Existential).bind fun l_43 =>
  (f12 o4.1 v_41.Atom).bind fun o45 =>
  (iter ((f3_2 l_43 o45)) 0).bind fun o => match o with
  | .inl _ =>
  ((iter ((f3_3 o6 i_27 l_43)) 0).bind fun o => match o with
  | .inl _ =>
  (app 8 l_43 v_41.Universal).bind fun l_69 =>
  some (.inl (l_69, w64 (i_27 + 1)))
  | .inr x_68 =>
  some (.inr (.inr x_68)))
  | .inr x_56 =>
  some (.inr (.inr x_56)))
  | .inr x_40 =>
  some (.inr (.inr x_40))
  else
  some (.inr (.inl known_26))
def f3 (code : (List Int)) : Option Bool :=
 (f4 code).bind fun o1 =>
 if o1 = true then
 some true
 else
 (f5 code).bind fun o4 =>
 (f6 o4.1 o4.2).bind fun o6 =>
 (f7 o4.1 o4.2).bind fun o8 =>
 (((if (o6.2 != o8.2) = true then
 some true
 else
 (f8 o4.1 o4.2).bind fun o13 =>
 (((if (o6.2 != (decide (o13 = 1))) = true then
 some true
 else
 (f9 o4.1 o6.1).bind fun o18 =>
 (f10 o4.1 o8.1).bind fun o20 =>
 some (decide (o18 ≠ o20))) : Option (Bool))).bind fun x_15 =>
 some x_15) : Option (Bool))).bind fun x_10 =>
 if x_10 = true then
 some false
 else
 if ¬ (o6.2 = true) then
 some (decide ((o6.1.length : Int) = 0))
 else
 (app 8 ([]) o4.2.Free).bind fun l_24 =>
 (iter (f3_0 o4 o6) (l_24, 0)).bind fun o => match o with
 | .inl known_73 =>
 (((if (o6.1.length : Int) = (o4.2.Atoms.length : Int) then
 (((if (known_73.length : Int) = o4.2.VariableCount then
 (f13 o4.1 o6.1).bind fun o81 =>
 (((if o81 = true then
 (f14 o4.1 o6.1).bind fun o86 =>
 some o86
 else
 some false) : Option (Bool))).bind fun x_83 =>
 some x_83
 else
 some false) : Option (Bool))).bind fun x_78 =>
 some x_78
 else
 some false) : Option (Bool))).bind fun x_75 =>
 some x_75
 | .inr x_74 =>
 some x_74
end
end Go.Proofs.YtjfeimhiiomgoaaGreatDoorH
