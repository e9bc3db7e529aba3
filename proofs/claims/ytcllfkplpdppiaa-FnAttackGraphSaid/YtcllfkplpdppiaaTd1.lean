import Derived.Test.YtcllfkplpdppiaaX3
set_option linter.unusedVariables false
set_option linter.unusedSimpArgs false
set_option linter.defProp false
set_option linter.unusedSectionVars false
set_option maxRecDepth 100000
namespace Go.Proofs.YtcllfkplpdppiaaH
open Go
noncomputable section
structure Atom where
 Relation : Int
 Terms : (List Int)
 deriving DecidableEq, Inhabited
def eAtom : En Atom := ⟨2, fun b a => if b then [(.int .i64 a.Relation), (osl eI true a.Terms)] else [(.int .i64 a.Relation), (ssl eI a.Terms)], fun b a => by cases b <;> rfl, by decide, fun b a => by cases b <;> simp [T.frz], fun a => by simp, fun a => by simp, fun b a => by cases b <;> simp⟩
@[simp] theorem eAtom_w : eAtom.w = 2 := rfl
@[simp] theorem eAtom_ct {a : Atom} : eAtom.c true a = [(.int .i64 a.Relation), (osl eI true a.Terms)] := rfl
@[simp] theorem eAtom_cf {a : Atom} : eAtom.c false a = [(.int .i64 a.Relation), (ssl eI a.Terms)] := rfl
@[simp] theorem arrAtom_len {b : Bool} {l : List Atom} : (arr eAtom b l).length = l.length * 2 := arr_len
@[simp] theorem eAtom_e (a : Atom) : Atom.mk a.Relation a.Terms = a := rfl
@[simp] def q0Atom {b l i o} := @arr_get2 _ eAtom b l i o 2 rfl
@[simp] def q1Atom {b l i} := @arr_get20 _ eAtom b l i 2 rfl
@[simp] def q2Atom {b l o} := @arr_get0 _ eAtom b l o 2 rfl
@[simp] def q3Atom {b l} := @arr_take0 _ eAtom b l 2 rfl
@[simp] def q4Atom {b l i o} := @arr_part _ eAtom b l i o 2 rfl
@[simp] def q5Atom {b l i o j} := @arr_part2 _ eAtom b l i o 2 j rfl
@[simp] def q6Atom {b l} := @arr_at2 _ eAtom b l 2 rfl
@[simp] def q7Atom {b l} := @arr_take2 _ eAtom b l 2 rfl
@[simp] def q8Atom {b l l' bs y} := @appT_w _ eAtom b l l' bs y 2 rfl
@[simp] def q10Atom {z0 z1 n} := @rep_w _ eAtom true n ⟨z0, z1⟩ [(.int .i64 z0), (.sl true true 1 0 (arr eI true z1))] rfl
@[simp] def q71Atom {b l} := @arr_tl _ eAtom b l 2 rfl
@[simp] def q70Atom {b l i} := @arr_tk _ eAtom b l i 2 rfl
@[simp] def q40Atom {b l' bs y} := @appT_w0 _ eAtom b l' bs y 2 rfl
@[simp] theorem q50Atom {l : List Atom} {i : Nat} {z : Int} (h : i < l.length) : layT (arr eAtom true l) (i * 2) 1 [(.int .i64 z)] = arr eAtom true (l.set i ⟨z, (l[i]?.getD default).Terms⟩) := by rw [List.getElem?_eq_getElem h]; exact lay_cell (E := eAtom) (b := true) (i := i) (o := 0) ⟨z, l[i].Terms⟩ (List.getElem?_eq_getElem h) (by decide) rfl
@[simp] theorem q60Atom {l : List Atom} {i : Nat} {z : Int} (h : i < l.length) : (arr eAtom true l).set (i * 2) (.int .i64 z) = arr eAtom true (l.set i ⟨z, (l[i]?.getD default).Terms⟩) := by rw [List.getElem?_eq_getElem h]; exact set_cell (E := eAtom) (b := true) (i := i) (o := 0) ⟨z, l[i].Terms⟩ (List.getElem?_eq_getElem h) (by decide) rfl
@[simp] theorem q51Atom {l : List Atom} {i : Nat} {z : (List Int)} (h : i < l.length) : layT (arr eAtom true l) (i * 2 + 1) 1 [(.sl true true 1 0 (arr eI true z))] = arr eAtom true (l.set i ⟨(l[i]?.getD default).Relation, z⟩) := by rw [List.getElem?_eq_getElem h]; exact lay_cell (E := eAtom) (b := true) (i := i) (o := 1) ⟨l[i].Relation, z⟩ (List.getElem?_eq_getElem h) (by decide) rfl
@[simp] theorem q61Atom {l : List Atom} {i : Nat} {z : (List Int)} (h : i < l.length) : (arr eAtom true l).set (i * 2 + 1) (.sl true true 1 0 (arr eI true z)) = arr eAtom true (l.set i ⟨(l[i]?.getD default).Relation, z⟩) := by rw [List.getElem?_eq_getElem h]; exact set_cell (E := eAtom) (b := true) (i := i) (o := 1) ⟨l[i].Relation, z⟩ (List.getElem?_eq_getElem h) (by decide) rfl
@[simp] def q20Atom {z0 z1 l bs y} := @appT_1w _ eAtom true l bs y 2 rfl ⟨z0, z1⟩ [(.int .i64 z0), (.sl true true 1 0 (arr eI true z1))] rfl
@[simp] def q23Atom {z0 z1 l' bs y} := @appT_11 _ eAtom true l' bs y 2 rfl ⟨z0, z1⟩ [(.int .i64 z0), (.sl true true 1 0 (arr eI true z1))] rfl
@[simp] def q22Atom {z0 z1 bs y} := @appT_10 _ eAtom true bs y 2 rfl ⟨z0, z1⟩ [(.int .i64 z0), (.sl true true 1 0 (arr eI true z1))] rfl
@[simp] def q21Atom {z0 z1 l i} := @lay_w _ eAtom true l i 2 rfl ⟨z0, z1⟩ [(.int .i64 z0), (.sl true true 1 0 (arr eI true z1))] rfl
@[simp] def q30Atom {z0 z1 l bs y} := @appT_1w _ eAtom false l bs y 2 rfl ⟨z0, z1⟩ [(.int .i64 z0), (.sl false false 1 1 (arr eI false z1))] rfl
@[simp] def q33Atom {z0 z1 l' bs y} := @appT_11 _ eAtom false l' bs y 2 rfl ⟨z0, z1⟩ [(.int .i64 z0), (.sl false false 1 1 (arr eI false z1))] rfl
@[simp] def q32Atom {z0 z1 bs y} := @appT_10 _ eAtom false bs y 2 rfl ⟨z0, z1⟩ [(.int .i64 z0), (.sl false false 1 1 (arr eI false z1))] rfl
@[simp] def q31Atom {z0 z1 l i} := @lay_w _ eAtom false l i 2 rfl ⟨z0, z1⟩ [(.int .i64 z0), (.sl false false 1 1 (arr eI false z1))] rfl
structure L1Cur where
 b : (List Int)
 i : Int
 h : Int
 deriving DecidableEq, Inhabited
def eL1Cur : En L1Cur := ⟨3, fun b a => if b then [(osl eU true a.b), (.int .i64 a.i), (.int .i64 a.h)] else [(ssl eU a.b), (.int .i64 a.i), (.int .i64 a.h)], fun b a => by cases b <;> rfl, by decide, fun b a => by cases b <;> simp [T.frz], fun a => by simp, fun a => by simp, fun b a => by cases b <;> simp⟩
@[simp] theorem eL1Cur_w : eL1Cur.w = 3 := rfl
@[simp] theorem eL1Cur_ct {a : L1Cur} : eL1Cur.c true a = [(osl eU true a.b), (.int .i64 a.i), (.int .i64 a.h)] := rfl
@[simp] theorem eL1Cur_cf {a : L1Cur} : eL1Cur.c false a = [(ssl eU a.b), (.int .i64 a.i), (.int .i64 a.h)] := rfl
@[simp] theorem eL1Cur_e (a : L1Cur) : L1Cur.mk a.b a.i a.h = a := rfl
structure Relation where
 Name : (List UInt8)
 Arity : Int
 KeyLength : Int
 deriving DecidableEq, Inhabited
def eRelation : En Relation := ⟨3, fun _ a => [(.str a.Name), (.int .i64 a.Arity), (.int .i64 a.KeyLength)], fun b a => by cases b <;> rfl, by decide, fun b a => by cases b <;> simp [T.frz], fun a => by simp, fun a => by simp, fun b a => by cases b <;> simp⟩
@[simp] theorem eRelation_w : eRelation.w = 3 := rfl
@[simp] theorem eRelation_ct {a : Relation} : eRelation.c true a = [(.str a.Name), (.int .i64 a.Arity), (.int .i64 a.KeyLength)] := rfl
@[simp] theorem eRelation_cf {a : Relation} : eRelation.c false a = [(.str a.Name), (.int .i64 a.Arity), (.int .i64 a.KeyLength)] := rfl
@[simp] theorem arrRelation_len {b : Bool} {l : List Relation} : (arr eRelation b l).length = l.length * 3 := arr_len
@[simp] theorem eRelation_e (a : Relation) : Relation.mk a.Name a.Arity a.KeyLength = a := rfl
@[simp] def q0Relation {b l i o} := @arr_get2 _ eRelation b l i o 3 rfl
@[simp] def q1Relation {b l i} := @arr_get20 _ eRelation b l i 3 rfl
@[simp] def q2Relation {b l o} := @arr_get0 _ eRelation b l o 3 rfl
@[simp] def q3Relation {b l} := @arr_take0 _ eRelation b l 3 rfl
@[simp] def q4Relation {b l i o} := @arr_part _ eRelation b l i o 3 rfl
@[simp] def q5Relation {b l i o j} := @arr_part2 _ eRelation b l i o 3 j rfl
@[simp] def q6Relation {b l} := @arr_at2 _ eRelation b l 3 rfl
@[simp] def q7Relation {b l} := @arr_take2 _ eRelation b l 3 rfl
@[simp] def q8Relation {b l l' bs y} := @appT_w _ eRelation b l l' bs y 3 rfl
@[simp] def q10Relation {z0 z1 z2 n} := @rep_w _ eRelation true n ⟨z0, z1, z2⟩ [(.str z0), (.int .i64 z1), (.int .i64 z2)] rfl
@[simp] def q71Relation {b l} := @arr_tl _ eRelation b l 3 rfl
@[simp] def q70Relation {b l i} := @arr_tk _ eRelation b l i 3 rfl
@[simp] theorem q40Relation {b : Bool} {l' : List Relation} {bs : Nat} {y : Bool} (hb : bs ≠ 0) : appT 3 bs (.sl true y 3 0 []) (arr eRelation b l') = (app bs [] l').map fun v => .sl true y 3 0 (arr eRelation true v) := appT_w0 (E := eRelation) (b := b) rfl hb
@[simp] theorem q50Relation {l : List Relation} {i : Nat} {z : (List UInt8)} (h : i < l.length) : layT (arr eRelation true l) (i * 3) 1 [(.str z)] = arr eRelation true (l.set i ⟨z, (l[i]?.getD default).Arity, (l[i]?.getD default).KeyLength⟩) := by rw [List.getElem?_eq_getElem h]; exact lay_cell (E := eRelation) (b := true) (i := i) (o := 0) ⟨z, l[i].Arity, l[i].KeyLength⟩ (List.getElem?_eq_getElem h) (by decide) rfl
@[simp] theorem q60Relation {l : List Relation} {i : Nat} {z : (List UInt8)} (h : i < l.length) : (arr eRelation true l).set (i * 3) (.str z) = arr eRelation true (l.set i ⟨z, (l[i]?.getD default).Arity, (l[i]?.getD default).KeyLength⟩) := by rw [List.getElem?_eq_getElem h]; exact set_cell (E := eRelation) (b := true) (i := i) (o := 0) ⟨z, l[i].Arity, l[i].KeyLength⟩ (List.getElem?_eq_getElem h) (by decide) rfl
@[simp] theorem q51Relation {l : List Relation} {i : Nat} {z : Int} (h : i < l.length) : layT (arr eRelation true l) (i * 3 + 1) 1 [(.int .i64 z)] = arr eRelation true (l.set i ⟨(l[i]?.getD default).Name, z, (l[i]?.getD default).KeyLength⟩) := by rw [List.getElem?_eq_getElem h]; exact lay_cell (E := eRelation) (b := true) (i := i) (o := 1) ⟨l[i].Name, z, l[i].KeyLength⟩ (List.getElem?_eq_getElem h) (by decide) rfl
@[simp] theorem q61Relation {l : List Relation} {i : Nat} {z : Int} (h : i < l.length) : (arr eRelation true l).set (i * 3 + 1) (.int .i64 z) = arr eRelation true (l.set i ⟨(l[i]?.getD default).Name, z, (l[i]?.getD default).KeyLength⟩) := by rw [List.getElem?_eq_getElem h]; exact set_cell (E := eRelation) (b := true) (i := i) (o := 1) ⟨l[i].Name, z, l[i].KeyLength⟩ (List.getElem?_eq_getElem h) (by decide) rfl
@[simp] theorem q52Relation {l : List Relation} {i : Nat} {z : Int} (h : i < l.length) : layT (arr eRelation true l) (i * 3 + 2) 1 [(.int .i64 z)] = arr eRelation true (l.set i ⟨(l[i]?.getD default).Name, (l[i]?.getD default).Arity, z⟩) := by rw [List.getElem?_eq_getElem h]; exact lay_cell (E := eRelation) (b := true) (i := i) (o := 2) ⟨l[i].Name, l[i].Arity, z⟩ (List.getElem?_eq_getElem h) (by decide) rfl
@[simp] theorem q62Relation {l : List Relation} {i : Nat} {z : Int} (h : i < l.length) : (arr eRelation true l).set (i * 3 + 2) (.int .i64 z) = arr eRelation true (l.set i ⟨(l[i]?.getD default).Name, (l[i]?.getD default).Arity, z⟩) := by rw [List.getElem?_eq_getElem h]; exact set_cell (E := eRelation) (b := true) (i := i) (o := 2) ⟨l[i].Name, l[i].Arity, z⟩ (List.getElem?_eq_getElem h) (by decide) rfl
@[simp] def q20Relation {b z0 z1 z2 l bs y} := @appT_1w _ eRelation b l bs y 3 rfl ⟨z0, z1, z2⟩ [(.str z0), (.int .i64 z1), (.int .i64 z2)] rfl
@[simp] def q23Relation {b z0 z1 z2 l' bs y} := @appT_11 _ eRelation b l' bs y 3 rfl ⟨z0, z1, z2⟩ [(.str z0), (.int .i64 z1), (.int .i64 z2)] rfl
@[simp] def q22Relation {b z0 z1 z2 bs y} := @appT_10 _ eRelation b bs y 3 rfl ⟨z0, z1, z2⟩ [(.str z0), (.int .i64 z1), (.int .i64 z2)] rfl
@[simp] def q21Relation {b z0 z1 z2 l i} := @lay_w _ eRelation b l i 3 rfl ⟨z0, z1, z2⟩ [(.str z0), (.int .i64 z1), (.int .i64 z2)] rfl
structure Query where
 VariableCount : Int
 Atoms : (List Atom)
 Free : (List Int)
 deriving DecidableEq, Inhabited
def eQuery : En Query := ⟨3, fun b a => if b then [(.int .i64 a.VariableCount), (osl eAtom true a.Atoms), (osl eI true a.Free)] else [(.int .i64 a.VariableCount), (ssl eAtom a.Atoms), (ssl eI a.Free)], fun b a => by cases b <;> rfl, by decide, fun b a => by cases b <;> simp [T.frz], fun a => by simp, fun a => by simp, fun b a => by cases b <;> simp⟩
@[simp] theorem eQuery_w : eQuery.w = 3 := rfl
@[simp] theorem eQuery_ct {a : Query} : eQuery.c true a = [(.int .i64 a.VariableCount), (osl eAtom true a.Atoms), (osl eI true a.Free)] := rfl
@[simp] theorem eQuery_cf {a : Query} : eQuery.c false a = [(.int .i64 a.VariableCount), (ssl eAtom a.Atoms), (ssl eI a.Free)] := rfl
@[simp] theorem eQuery_e (a : Query) : Query.mk a.VariableCount a.Atoms a.Free = a := rfl
@[simp] theorem q81Atom {l : List Atom} {z : (List Int)} (h : 0 < l.length) : layT (arr eAtom true l) 1 1 [(.sl true true 1 0 (arr eI true z))] = arr eAtom true (l.set 0 ⟨(l[0]?.getD default).Relation, z⟩) := q51Atom (i := 0) h
@[simp] theorem q91Atom {l : List Atom} {z : (List Int)} (h : 0 < l.length) : (arr eAtom true l).set 1 (.sl true true 1 0 (arr eI true z)) = arr eAtom true (l.set 0 ⟨(l[0]?.getD default).Relation, z⟩) := q61Atom (i := 0) h
@[simp] def q92Atom {z0 x0 x1 l bs y} := @appT_1w _ eAtom true l bs y 2 rfl ⟨z0, [x0, x1]⟩ [(.int .i64 z0), (.sl true true 1 0 [(.int .i64 x0), (.int .i64 x1)])] rfl
def f5 (code : (List Int)) : Option Bool :=
 some (decide ((code.length : Int) > 1048576))
def f42_0 (code : (List Int)) : Int × Int → Option ((Int × Int) ⊕ Int)
 | (h_1, i_2) =>
  (((if i_2 < (code.length : Int) then
  some (decide (i_2 < 4000))
  else
  some false) : Option (Bool))).bind fun x_3 =>
  if x_3 = true then
  (ix code i_2).bind fun v_7 =>
  some (.inl (band .i64 (w64 ((w64 ((w64 (h_1 * 131)) + (w64 v_7))) + 7)) 1073741823, w64 (i_2 + 1)))
  else
  some (.inr h_1)
def f42 (code : (List Int)) : Option L1Cur :=
 (iter (f42_0 code) (w64 (10101 + (code.length : Int)), 0)).bind fun h_11 =>
 some ({ b := code, i := 0, h := h_11 } : L1Cur)
def f45 (c : L1Cur) : Option (Int × L1Cur) :=
 (((if c.i < (c.b.length : Int) then
 (ix c.b c.i).bind fun v_4 =>
 some (w64 (c.i + 1), band .i64 (w64 ((band .i64 (bxor .i64 (sshr .i64 (w64 ((w64 (c.h * 6364136223846793005)) + 1442695040888963407)) 33) (sshr .i64 (w64 ((w64 (c.h * 6364136223846793005)) + 1442695040888963407)) 45)) 255) + (w64 v_4))) 255)
 else
 some (c.i, band .i64 (bxor .i64 (sshr .i64 (w64 ((w64 (c.h * 6364136223846793005)) + 1442695040888963407)) 33) (sshr .i64 (w64 ((w64 (c.h * 6364136223846793005)) + 1442695040888963407)) 45)) 255)) : Option (Int × Int))).bind fun (c_6, x_7) =>
 some (x_7, ({ b := c.b, i := c_6, h := w64 ((w64 (c.h * 6364136223846793005)) + 1442695040888963407) } : L1Cur))
def f24 (c : L1Cur) (n1 : Int) : Option (Int × L1Cur) :=
 if n1 ≤ 0 then
 some (0, c)
 else
 if n1 ≤ 256 then
 (f45 c).bind fun o3 =>
 (nz n1).bind fun z_5 =>
 some (o3.1.tmod n1, o3.2)
 else
 (f45 c).bind fun o7 =>
 (f45 o7.2).bind fun o9 =>
 (f45 o9.2).bind fun o11 =>
 (f45 o11.2).bind fun o13 =>
 (nz n1).bind fun z_15 =>
 some ((w64 ((w64 ((w64 ((w64 (o7.1 * 16777216)) + (w64 (o9.1 * 65536)))) + (w64 (o11.1 * 256)))) + o13.1)).tmod n1, o13.2)
def f59 (c : L1Cur) (list : (List Int)) : Option (Int × L1Cur) :=
 (f24 c (list.length : Int)).bind fun o1 =>
 (ix list o1.1).bind fun v_3 =>
 some (v_3, o1.2)
def f43 (c : L1Cur) : Option ((List Relation) × L1Cur) :=
 (f59 c ([1, 1, 2, 0])).bind fun o1 =>
 (f24 o1.2 2).bind fun o3 =>
 some ([({ Name := [114], Arity := 2, KeyLength := 1 } : Relation), ({ Name := [115], Arity := 2, KeyLength := 1 } : Relation), ({ Name := [116], Arity := 2, KeyLength := o1.1 } : Relation), ({ Name := [117], Arity := 3, KeyLength := w64 (1 + o3.1) } : Relation)], o3.2)
def f71 (c : L1Cur) (n1 : Int) : Option (Bool × L1Cur) :=
 (f24 c n1).bind fun o1 =>
 some ((decide (o1.1 = 0)), o1.2)
def f91_0 (q : Query) : Int × (List Atom) × (List Int) × Int → Option ((Int × (List Atom) × (List Int) × Int) ⊕ (Int × (List Atom) × (List Int)))
 | (x_3, x_4, x_5, i_6) =>
  if i_6 < (q.Atoms.length : Int) then
  (ix q.Atoms i_6).bind fun v_8 =>
  (app 8 ([]) v_8.Terms).bind fun l_10 =>
  (app 32 x_4 ([({ Relation := v_8.Relation, Terms := l_10 } : Atom)])).bind fun l_12 =>
  some (.inl (x_3, l_12, x_5, w64 (i_6 + 1)))
  else
  some (.inr (x_3, x_4, x_5))
def f91 (q : Query) : Option Query :=
 (app 8 ([]) q.Free).bind fun l_1 =>
 (iter (f91_0 q) (q.VariableCount, [], l_1, 0)).bind fun (x_16, x_17, x_18) =>
 some ({ VariableCount := x_16, Atoms := x_17, Free := x_18 } : Query)
def f77_2 (name_12 : (List Int)) (v_19 : Int) : Int × Int → Option ((Int × Int) ⊕ Int)
 | (at_22, j_23) =>
  if j_23 < (name_12.length : Int) then
  (ix name_12 j_23).bind fun v_25 =>
  (((if v_25 = v_19 then
  some j_23
  else
  some at_22) : Option Int)).bind fun at_30 =>
  some (.inl (at_30, w64 (j_23 + 1)))
  else
  some (.inr at_22)
def f77_1 (i_7 : Int) : Int × (List Atom) × (List Int) × (List Int) × Int → Option ((Int × (List Atom) × (List Int) × (List Int) × Int) ⊕ (Int × (List Atom) × (List Int) × (List Int)))
 | (x_9, x_10, x_11, name_12, k_13) =>
  (ix x_10 i_7).bind fun v_14 =>
  if k_13 < (v_14.Terms.length : Int) then
  ((((ix v_14.Terms k_13).bind fun v_19 =>
  if v_19 < 0 then
  some (x_10, name_12)
  else
  (iter ((f77_2 name_12 v_19)) (-1, 0)).bind fun at_33 =>
  (((if at_33 < 0 then
  (app 8 name_12 ([v_19])).bind fun l_37 =>
  some (l_37, (name_12.length : Int))
  else
  some (name_12, at_33)) : Option ((List Int) × Int))).bind fun (name_39, at_40) =>
  some ((x_10.set i_7.toNat ({ Relation := v_14.Relation, Terms := (v_14.Terms.set k_13.toNat at_40) } : Atom)), name_39)) : Option ((List Atom) × (List Int)))).bind fun (x_43, name_44) =>
  some (.inl (x_9, x_43, x_11, name_44, w64 (k_13 + 1)))
  else
  some (.inr (x_9, x_10, x_11, name_12))
def f77_0 : Int × (List Atom) × (List Int) × (List Int) × Int → Option ((Int × (List Atom) × (List Int) × (List Int) × Int) ⊕ (Int × (List Atom) × (List Int) × (List Int)))
 | (x_3, x_4, x_5, name_6, i_7) =>
  if i_7 < (x_4.length : Int) then
  (iter (f77_1 i_7) (x_3, x_4, x_5, name_6, 0)).bind fun (x_47, x_48, x_49, name_50) =>
  some (.inl (x_47, x_48, x_49, name_50, w64 (i_7 + 1)))
  else
  some (.inr (x_3, x_4, x_5, name_6))
def f77 (q : Query) : Option Query :=
 (f91 q).bind fun o1 =>
 (iter f77_0 (o1.VariableCount, o1.Atoms, o1.Free, [], 0)).bind fun (x_53, x_54, x_55, name_56) =>
 some ({ VariableCount := (name_56.length : Int), Atoms := x_54, Free := x_55 } : Query)
def f70_1 (o3 : (Int × L1Cur)) : (List Int) × Int × Int × Int × (List Int) × Int → Option (((List Int) × Int × Int × Int × (List Int) × Int) ⊕ ((List Int) × Int × Int × Int × (List Int)))
 | (c_15, c_16, c_17, a_18, a_19, m_20) =>
  if m_20 > 0 then
  (f71 ({ b := c_15, i := c_16, h := c_17 } : L1Cur) 12).bind fun o22 =>
  (((if o22.1 = true then
  (f24 o22.2 2).bind fun o27 =>
  (app 8 a_19 ([w64 ((-1) - o27.1)])).bind fun l_29 =>
  some (o27.2.b, o27.2.i, o27.2.h, l_29)
  else
  (f24 o22.2 (w64 (1 + o3.1))).bind fun o31 =>
  (app 8 a_19 ([o31.1])).bind fun l_33 =>
  some (o31.2.b, o31.2.i, o31.2.h, l_33)) : Option ((List Int) × Int × Int × (List Int)))).bind fun (c_35, c_36, c_37, a_38) =>
  some (.inl (c_35, c_36, c_37, a_18, a_38, w64 (m_20 - 1)))
  else
  some (.inr (c_15, c_16, c_17, a_18, a_19))
def f70_0 (o1 : (Int × L1Cur)) (o3 : (Int × L1Cur)) (o5 : (Int × L1Cur)) : (List Int) × Int × Int × Int × (List Atom) × (List Int) × Int → Option (((List Int) × Int × Int × Int × (List Atom) × (List Int) × Int) ⊕ ((List Int) × Int × Int × Int × (List Atom) × (List Int)))
 | (c_7, c_8, c_9, q_10, q_11, q_12, i_13) =>
  if i_13 < (w64 (1 + o1.1)) then
  (iter ((f70_1 o3)) (c_7, c_8, c_9, (w64 (o5.1 + i_13)).tmod 4, [], w64 (2 + (w64 (((w64 (o5.1 + i_13)).tmod 4).tdiv 3))))).bind fun (c_41, c_42, c_43, a_44, a_45) =>
  (app 32 q_11 ([({ Relation := a_44, Terms := a_45 } : Atom)])).bind fun l_46 =>
  some (.inl (c_41, c_42, c_43, q_10, l_46, q_12, w64 (i_13 + 1)))
  else
  some (.inr (c_7, c_8, c_9, q_10, q_11, q_12))
def f70 (c : L1Cur) : Option (Query × L1Cur) :=
 (f24 c 3).bind fun o1 =>
 (f24 o1.2 4).bind fun o3 =>
 (f24 o3.2 4).bind fun o5 =>
 (iter (f70_0 o1 o3 o5) (o5.2.b, o5.2.i, o5.2.h, 0, [], [], 0)).bind fun (c_50, c_51, c_52, q_53, q_54, q_55) =>
 (f77 ({ VariableCount := q_53, Atoms := q_54, Free := q_55 } : Query)).bind fun o56 =>
 some (o56, ({ b := c_50, i := c_51, h := c_52 } : L1Cur))
def f79 (c : L1Cur) (list : (List (List UInt8))) : Option ((List UInt8) × L1Cur) :=
 (f24 c (list.length : Int)).bind fun o1 =>
 (ix list o1.1).bind fun v_3 =>
 some (v_3, o1.2)
def f92_0 (s0 : (List UInt8)) (sign : Int) : (List (List UInt8)) × Int × Int → Option (((List (List UInt8)) × Int × Int) ⊕ ((List (List UInt8)) × Int))
 | (out_1, from_2, i_3) =>
  if i_3 < (s0.length : Int) then
  (ix s0 i_3).bind fun c_5 =>
  (((if (c_5.toNat : Int) = sign then
  (cutL s0 from_2 i_3).bind fun l_10 =>
  (app 16 out_1 ([l_10])).bind fun l_12 =>
  some (l_12, w64 (i_3 + 1))
  else
  some (out_1, from_2)) : Option ((List (List UInt8)) × Int))).bind fun (out_14, from_15) =>
  some (.inl (out_14, from_15, w64 (i_3 + 1)))
  else
  some (.inr (out_1, from_2))
def f92 (s0 : (List UInt8)) (sign : Int) : Option (List (List UInt8)) :=
 (iter (f92_0 s0 sign) ([], 0, 0)).bind fun (out_18, from_19) =>
 (cutL s0 from_19 s0.length).bind fun l_20 =>
 (app 16 out_18 ([l_20])).bind fun l_22 =>
 some l_22
def f30 (x : Int) (low : Int) (high : Int) : Option Bool :=
 (((if x ≥ low then
 some (decide (x ≤ high))
 else
 some false) : Option (Bool))).bind fun x_1 =>
 some x_1
def f105 (t : Int) : Option (Int × Bool) :=
 (((if t ≥ 0 then
 some true
 else
 (f30 (w64 ((-1) - t)) 0 9).bind fun o4 =>
 some (decide (¬ (o4 = true)))) : Option (Bool))).bind fun x_1 =>
 if x_1 = true then
 some (0, false)
 else
 some (w64 ((-1) - t), true)
def f106_0 : Int × (List UInt8) → Option ((Int × (List UInt8)) ⊕ (List UInt8))
 | (n_2, out_3) =>
  if n_2 ≠ 0 then
  (((if (n_2.tmod 10) < 0 then
  some (w64 (-(n_2.tmod 10)))
  else
  some (n_2.tmod 10)) : Option Int)).bind fun d_8 =>
  (cat ([UInt8.ofNat (w8 (w64 (48 + d_8))).toNat]) out_3).bind fun s_9 =>
  some (.inl (w64 (n_2.tdiv 10), s_9))
  else
  some (.inr out_3)
def f106 (n0 : Int) : Option (List UInt8) :=
 if n0 = 0 then
 some ([48])
 else
 (iter (f106_0) (n0, [])).bind fun out_13 =>
 if n0 < 0 then
 (cat ([45]) out_13).bind fun s_15 =>
 some s_15
 else
 some out_13
def f102 (t : Int) : Option (List UInt8) :=
 (f105 t).bind fun o1 =>
 if o1.2 = true then
 (f106 o1.1).bind fun o4 =>
 some o4
 else
 (f30 t 0 3).bind fun o6 =>
 if ¬ (o6 = true) then
 some ([])
 else
 (cutL ([120, 121, 122, 119]) t (w64 (t + 1))).bind fun l_9 =>
 some l_9
def f93_0 (s0 : (List UInt8)) : Int → Option (Int ⊕ (Unit ⊕ (Int × Bool)))
 | t_1 =>
  if t_1 < 4 then
  (f102 t_1).bind fun o3 =>
  if o3 = s0 then
  some (.inr (.inr (t_1, true)))
  else
  some (.inl (w64 (t_1 + 1)))
  else
  some (.inr (.inl ()))
def f93 (s0 : (List UInt8)) : Option (Int × Bool) :=
 (iter (f93_0 s0) (-10)).bind fun o => match o with
 | .inl _ =>
 some (0, false)
 | .inr (x_8, x_9) =>
 some (x_8, x_9)
def f94_0 (l : (List Relation)) (name : (List UInt8)) : Int → Option (Int ⊕ (Unit ⊕ Int))
 | i_1 =>
  if i_1 < (l.length : Int) then
  (ix l i_1).bind fun v_3 =>
  if v_3.Name = name then
  some (.inr (.inr i_1))
  else
  some (.inl (w64 (i_1 + 1)))
  else
  some (.inr (.inl ()))
def f94 (l : (List Relation)) (name : (List UInt8)) : Option Int :=
 (iter (f94_0 l name) 0).bind fun o => match o with
 | .inl _ =>
 some (-1)
 | .inr x_8 =>
 some x_8
def f58 (s0 : Relation) : Option Bool :=
 (((if (s0.Name.length : Int) = 1 then
 (ix s0.Name 0).bind fun c_4 =>
 (((if (c_4.toNat : Int) ≥ 97 then
 (((if (c_4.toNat : Int) ≤ 122 then
 (f30 s0.Arity 1 3).bind fun o12 =>
 (((if o12 = true then
 (f30 s0.KeyLength 0 s0.Arity).bind fun o17 =>
 some o17
 else
 some false) : Option (Bool))).bind fun x_14 =>
 some x_14
 else
 some false) : Option (Bool))).bind fun x_9 =>
 some x_9
 else
 some false) : Option (Bool))).bind fun x_6 =>
 some x_6
 else
 some false) : Option (Bool))).bind fun x_1 =>
 some x_1
def f39_0 (l : (List Relation)) : Int → Option (Int ⊕ (Unit ⊕ Bool))
 | i_1 =>
  if i_1 < (l.length : Int) then
  (ix l i_1).bind fun v_3 =>
  (f58 v_3).bind fun o5 =>
  (((if ¬ (o5 = true) then
  some true
  else
  (((if i_1 > 0 then
  (ix l (w64 (i_1 - 1))).bind fun v_13 =>
  some (!(Op.bytesLess v_13.Name v_3.Name))
  else
  some false) : Option (Bool))).bind fun x_10 =>
  some x_10) : Option (Bool))).bind fun x_7 =>
  if x_7 = true then
  some (.inr (.inr false))
  else
  some (.inl (w64 (i_1 + 1)))
  else
  some (.inr (.inl ()))
def f39 (l : (List Relation)) : Option Bool :=
 (iter (f39_0 l) 0).bind fun o => match o with
 | .inl _ =>
 some (decide ((l.length : Int) ≤ 4))
 | .inr x_18 =>
 some x_18
def f19_3 (q : Query) (i_17 : Int) (v_19 : Atom) : Int → Option (Int ⊕ (Unit ⊕ Bool))
 | k_29 =>
  if k_29 < i_17 then
  (ix q.Atoms k_29).bind fun v_31 =>
  if v_31.Relation = v_19.Relation then
  some (.inr (.inr false))
  else
  some (.inl (w64 (k_29 + 1)))
  else
  some (.inr (.inl ()))
def f19_4 (q : Query) (v_19 : Atom) : (List Bool) × Int → Option (((List Bool) × Int) ⊕ ((List Bool) ⊕ Bool))
 | (met_37, k_38) =>
  if k_38 < (v_19.Terms.length : Int) then
  (ix v_19.Terms k_38).bind fun v_40 =>
  (f30 v_40 (-10) (w64 (q.VariableCount - 1))).bind fun o42 =>
  if ¬ (o42 = true) then
  some (.inr (.inr false))
  else
  (((if v_40 ≥ 0 then
  (ix met_37 v_40).bind fun v_48 =>
  some (met_37.set v_40.toNat true)
  else
  some met_37) : Option (List Bool))).bind fun met_51 =>
  some (.inl (met_51, w64 (k_38 + 1)))
  else
  some (.inr (.inl met_37))
def f19_0 (l : (List Relation)) (q : Query) : (List Bool) × Int → Option (((List Bool) × Int) ⊕ ((List Bool) ⊕ Bool))
 | (met_16, i_17) =>
  if i_17 < (q.Atoms.length : Int) then
  (ix q.Atoms i_17).bind fun v_19 =>
  (f30 v_19.Relation 0 (w64 ((l.length : Int) - 1))).bind fun o21 =>
  (((if ¬ (o21 = true) then
  some true
  else
  (ix l v_19.Relation).bind fun v_26 =>
  some (decide ((v_19.Terms.length : Int) ≠ v_26.Arity))) : Option (Bool))).bind fun x_23 =>
  if x_23 = true then
  some (.inr (.inr false))
  else
  (iter ((f19_3 q i_17 v_19)) 0).bind fun o => match o with
  | .inl _ =>
  ((iter ((f19_4 q v_19)) (met_16, 0)).bind fun o => match o with
  | .inl met_54 =>
  some (.inl (met_54, w64 (i_17 + 1)))
  | .inr x_55 =>
  some (.inr (.inr x_55)))
  | .inr x_36 =>
  some (.inr (.inr x_36))
  else
  some (.inr (.inl met_16))
def f19_1 (q : Query) (met_58 : (List Bool)) : Int → Option (Int ⊕ (Unit ⊕ Bool))
 | v_60 =>
  if v_60 < q.VariableCount then
  (ix met_58 v_60).bind fun v_62 =>
  if ¬ (v_62 = true) then
  some (.inr (.inr false))
  else
  some (.inl (w64 (v_60 + 1)))
  else
  some (.inr (.inl ()))
def f19_2 (q : Query) : Int → Option (Int ⊕ (Unit ⊕ Bool))
 | i_68 =>
  if i_68 < (q.Free.length : Int) then
  (ix q.Free i_68).bind fun v_70 =>
  (f30 v_70 0 (w64 (q.VariableCount - 1))).bind fun o72 =>
  (((if ¬ (o72 = true) then
  some true
  else
  (((if i_68 > 0 then
  (ix q.Free (w64 (i_68 - 1))).bind fun v_80 =>
  some (decide (v_70 ≤ v_80))
  else
  some false) : Option (Bool))).bind fun x_77 =>
  some x_77) : Option (Bool))).bind fun x_74 =>
  if x_74 = true then
  some (.inr (.inr false))
  else
  some (.inl (w64 (i_68 + 1)))
  else
  some (.inr (.inl ()))
def f19 (l : (List Relation)) (q : Query) : Option Bool :=
 (f39 l).bind fun o1 =>
 (((if ¬ (o1 = true) then
 some true
 else
 (f30 q.VariableCount 0 4).bind fun o6 =>
 (((if ¬ (o6 = true) then
 some true
 else
 (f30 (q.Atoms.length : Int) 1 3).bind fun o11 =>
 some (decide (¬ (o11 = true)))) : Option (Bool))).bind fun x_8 =>
 some x_8) : Option (Bool))).bind fun x_3 =>
 if x_3 = true then
 some false
 else
 (mkl 1 4 false).bind fun l_14 =>
 (iter (f19_0 l q) (l_14, 0)).bind fun o => match o with
 | .inl met_58 =>
 ((iter (f19_1 q met_58) 0).bind fun o => match o with
 | .inl _ =>
 ((iter (f19_2 q) 0).bind fun o => match o with
 | .inl _ =>
 some true
 | .inr x_85 =>
 some x_85)
 | .inr x_67 =>
 some x_67)
 | .inr x_59 =>
 some x_59
def f103_0 (l : (List Relation)) (a : Atom) : (List UInt8) × Int → Option (((List UInt8) × Int) ⊕ (List UInt8))
 | (s_3, i_4) =>
  if i_4 < (a.Terms.length : Int) then
  (ix l a.Relation).bind fun v_6 =>
  (((if i_4 = v_6.KeyLength then
  (cat s_3 ([124])).bind fun s_11 =>
  some s_11
  else
  some s_3) : Option (List UInt8))).bind fun s_13 =>
  (ix a.Terms i_4).bind fun v_14 =>
  (f102 v_14).bind fun o16 =>
  (cat s_13 o16).bind fun s_18 =>
  some (.inl (s_18, w64 (i_4 + 1)))
  else
  some (.inr s_3)
def f103 (l : (List Relation)) (a : Atom) : Option (List UInt8) :=
 (ix l a.Relation).bind fun v_1 =>
 (iter (f103_0 l a) (v_1.Name, 0)).bind fun s_22 =>
 some s_22
def f95_0 (q : Query) : (List UInt8) × Int → Option (((List UInt8) × Int) ⊕ (List UInt8))
 | (s_4, i_5) =>
  if i_5 < (q.Free.length : Int) then
  (ix q.Free i_5).bind fun v_7 =>
  (f102 v_7).bind fun o9 =>
  (cat s_4 o9).bind fun s_11 =>
  some (.inl (s_11, w64 (i_5 + 1)))
  else
  some (.inr s_4)
def f95_1 (l : (List Relation)) (q : Query) : (List UInt8) × Int → Option (((List UInt8) × Int) ⊕ (List UInt8))
 | (s_18, i_19) =>
  if i_19 < (q.Atoms.length : Int) then
  (((if i_19 > 0 then
  (cat s_18 ([32])).bind fun s_24 =>
  some s_24
  else
  some s_18) : Option (List UInt8))).bind fun s_26 =>
  (ix q.Atoms i_19).bind fun v_27 =>
  (f103 l v_27).bind fun o29 =>
  (cat s_26 o29).bind fun s_31 =>
  some (.inl (s_31, w64 (i_19 + 1)))
  else
  some (.inr s_18)
def f95 (l : (List Relation)) (q : Query) : Option (List UInt8) :=
 (f19 l q).bind fun o1 =>
 if ¬ (o1 = true) then
 some ([])
 else
 (iter ((f95_0 q)) ([], 0)).bind fun s_15 =>
 (cat s_15 ([63])).bind fun s_16 =>
 (iter (f95_1 l q) (s_16, 0)).bind fun s_35 =>
 some s_35
def f78_0 (o1 : (List (List UInt8))) : Int × (List Atom) × (List Int) × Int → Option ((Int × (List Atom) × (List Int) × Int) ⊕ (Int × (List Atom) × (List Int)))
 | (q_4, q_5, q_6, i_7) =>
  (ix o1 0).bind fun v_8 =>
  if i_7 < (v_8.length : Int) then
  (cutL v_8 i_7 (w64 (i_7 + 1))).bind fun l_11 =>
  (f93 l_11).bind fun o13 =>
  (app 8 q_6 ([o13.1])).bind fun l_15 =>
  some (.inl (q_4, q_5, l_15, w64 (i_7 + 1)))
  else
  some (.inr (q_4, q_5, q_6))
def f78_2 (l : (List Relation)) (o24 : (List (List UInt8))) (i_29 : Int) : Int × (List Atom) × (List Int) × Int × (List Int) × Int → Option ((Int × (List Atom) × (List Int) × Int × (List Int) × Int) ⊕ (Int × (List Atom) × (List Int) × Int × (List Int)))
 | (q_31, q_32, q_33, a_34, a_35, k_36) =>
  (ix o24 i_29).bind fun v_37 =>
  if k_36 < (v_37.length : Int) then
  (((if k_36 = 0 then
  (cutL v_37 0 1).bind fun l_43 =>
  (f94 l l_43).bind fun o45 =>
  some (q_31, o45, a_35)
  else
  (ix v_37 k_36).bind fun c_47 =>
  if (c_47.toNat : Int) = 124 then
  some (q_31, a_34, a_35)
  else
  (cutL v_37 k_36 (w64 (k_36 + 1))).bind fun l_50 =>
  (f93 l_50).bind fun o52 =>
  (app 8 a_35 ([o52.1])).bind fun l_54 =>
  some (if w64 (o52.1 + 1) > q_31 then w64 (o52.1 + 1) else q_31, a_34, l_54)) : Option (Int × Int × (List Int)))).bind fun (q_56, a_57, a_58) =>
  some (.inl (q_56, q_32, q_33, a_57, a_58, w64 (k_36 + 1)))
  else
  some (.inr (q_31, q_32, q_33, a_34, a_35))
def f78_1 (l : (List Relation)) (o24 : (List (List UInt8))) : Int × (List Atom) × (List Int) × Int → Option ((Int × (List Atom) × (List Int) × Int) ⊕ (Int × (List Atom) × (List Int)))
 | (q_26, q_27, q_28, i_29) =>
  if i_29 < (o24.length : Int) then
  (iter ((f78_2 l o24 i_29)) (q_26, q_27, q_28, 0, [], 0)).bind fun (q_61, q_62, q_63, a_64, a_65) =>
  (app 32 q_62 ([({ Relation := a_64, Terms := a_65 } : Atom)])).bind fun l_66 =>
  some (.inl (q_61, l_66, q_63, w64 (i_29 + 1)))
  else
  some (.inr (q_26, q_27, q_28))
def f78 (l : (List Relation)) (s1 : (List UInt8)) : Option (Query × Bool) :=
 (f92 s1 63).bind fun o1 =>
 if (o1.length : Int) ≠ 2 then
 some (({ VariableCount := 0, Atoms := [], Free := [] } : Query), false)
 else
 (iter ((f78_0 o1)) (0, [], [], 0)).bind fun (q_19, q_20, q_21) =>
 (ix o1 1).bind fun v_22 =>
 (f92 v_22 32).bind fun o24 =>
 (iter ((f78_1 l o24)) (q_19, q_20, q_21, 0)).bind fun (q_70, q_71, q_72) =>
 (f95 l ({ VariableCount := q_70, Atoms := q_71, Free := q_72 } : Query)).bind fun o73 =>
 if o73 ≠ s1 then
 some (({ VariableCount := 0, Atoms := [], Free := [] } : Query), false)
 else
 some (({ VariableCount := q_70, Atoms := q_71, Free := q_72 } : Query), true)
def f72 (c : L1Cur) (l : (List Relation)) : Option (Query × L1Cur) :=
 (f79 c ([[63, 114, 120, 124, 121, 32, 115, 121, 124, 122], [63, 114, 120, 124, 121, 32, 115, 121, 124, 120], [63, 114, 120, 124, 121, 32, 115, 122, 124, 121], [63, 114, 120, 124, 121, 32, 115, 120, 124, 122], [63, 114, 120, 124, 49], [63, 114, 120, 124, 120], [63, 114, 120, 124, 121, 32, 115, 121, 124, 49], [63, 114, 120, 124, 121, 32, 115, 121, 124, 122, 32, 114], [63, 114, 120, 124, 121], [63, 114, 120, 124, 122, 32, 115, 121, 124, 122]])).bind fun o1 =>
 (f78 l o1.1).bind fun o3 =>
 (((if ¬ (o3.2 = true) then
 (f78 l ([63, 114, 120, 124, 121, 32, 115, 121, 124, 122])).bind fun o8 =>
 some (o8.1.VariableCount, o8.1.Atoms, o8.1.Free)
 else
 some (o3.1.VariableCount, o3.1.Atoms, o3.1.Free)) : Option (Int × (List Atom) × (List Int)))).bind fun (q_10, q_11, q_12) =>
 some (({ VariableCount := q_10, Atoms := q_11, Free := q_12 } : Query), o1.2)
def f60_0 : (List Int) × Int × Int × Int × (List Atom) × (List Int) × Int → Option (((List Int) × Int × Int × Int × (List Atom) × (List Int) × Int) ⊕ ((List Int) × Int × Int × Int × (List Atom) × (List Int)))
 | (c_21, c_22, c_23, q_24, q_25, q_26, v_27) =>
  if v_27 < q_24 then
  (f71 ({ b := c_21, i := c_22, h := c_23 } : L1Cur) 3).bind fun o29 =>
  (((if o29.1 = true then
  (app 8 q_26 ([v_27])).bind fun l_34 =>
  some l_34
  else
  some q_26) : Option (List Int))).bind fun q_36 =>
  some (.inl (o29.2.b, o29.2.i, o29.2.h, q_24, q_25, q_36, w64 (v_27 + 1)))
  else
  some (.inr (c_21, c_22, c_23, q_24, q_25, q_26))
def f60 (c : L1Cur) (l : (List Relation)) : Option (Query × L1Cur) :=
 (f70 c).bind fun o1 =>
 (f71 o1.2 3).bind fun o3 =>
 (((if o3.1 = true then
 (f72 o3.2 l).bind fun o8 =>
 some (o8.2.b, o8.2.i, o8.2.h, o8.1.VariableCount, o8.1.Atoms, o8.1.Free)
 else
 some (o3.2.b, o3.2.i, o3.2.h, o1.1.VariableCount, o1.1.Atoms, o1.1.Free)) : Option ((List Int) × Int × Int × Int × (List Atom) × (List Int)))).bind fun (c_10, c_11, c_12, q_13, q_14, q_15) =>
 (f71 ({ b := c_10, i := c_11, h := c_12 } : L1Cur) 4).bind fun o16 =>
 (((if o16.1 = true then
 (iter f60_0 (o16.2.b, o16.2.i, o16.2.h, q_13, q_14, q_15, 0)).bind fun (c_39, c_40, c_41, q_42, q_43, q_44) =>
 some (c_39, c_40, c_41, q_42, q_43, q_44)
 else
 some (o16.2.b, o16.2.i, o16.2.h, q_13, q_14, q_15)) : Option ((List Int) × Int × Int × Int × (List Atom) × (List Int)))).bind fun (c_45, c_46, c_47, q_48, q_49, q_50) =>
 some (({ VariableCount := q_48, Atoms := q_49, Free := q_50 } : Query), ({ b := c_45, i := c_46, h := c_47 } : L1Cur))
def f44 (c : L1Cur) (l : (List Relation)) : Option (Query × L1Cur) :=
 (f60 c l).bind fun o1 =>
 (f24 o1.2 14).bind fun o3 =>
 (((if o3.1 = 0 then
 (f59 o3.2 ([-1, w64 (o1.1.VariableCount + 1), 5])).bind fun o8 =>
 some (o8.2.b, o8.2.i, o8.2.h, o8.1, o1.1.Atoms, o1.1.Free)
 else
 (((if o3.1 = 1 then
 (f24 o3.2 6).bind fun o13 =>
 (app 32 o1.1.Atoms ([({ Relation := w64 (o13.1 - 1), Terms := [0, 0] } : Atom)])).bind fun l_15 =>
 some (o13.2.b, o13.2.i, o13.2.h, l_15, o1.1.Free)
 else
 (((if o3.1 = 2 then
 (ix o1.1.Atoms 0).bind fun v_20 =>
 (f59 o3.2 ([-11, 4, 3])).bind fun o22 =>
 (ix v_20.Terms 0).bind fun v_24 =>
 some (o22.2.b, o22.2.i, o22.2.h, (o1.1.Atoms.set (0 : Int).toNat ({ Relation := v_20.Relation, Terms := (v_20.Terms.set (0 : Int).toNat o22.1) } : Atom)), o1.1.Free)
 else
 (((if o3.1 = 3 then
 (f24 o3.2 5).bind fun o31 =>
 (app 8 o1.1.Free ([o31.1])).bind fun l_33 =>
 some (o31.2.b, o31.2.i, o31.2.h, l_33)
 else
 some (o3.2.b, o3.2.i, o3.2.h, o1.1.Free)) : Option ((List Int) × Int × Int × (List Int)))).bind fun (c_35, c_36, c_37, q_38) =>
 some (c_35, c_36, c_37, o1.1.Atoms, q_38)) : Option ((List Int) × Int × Int × (List Atom) × (List Int)))).bind fun (c_39, c_40, c_41, q_42, q_43) =>
 some (c_39, c_40, c_41, q_42, q_43)) : Option ((List Int) × Int × Int × (List Atom) × (List Int)))).bind fun (c_44, c_45, c_46, q_47, q_48) =>
 some (c_44, c_45, c_46, o1.1.VariableCount, q_47, q_48)) : Option ((List Int) × Int × Int × Int × (List Atom) × (List Int)))).bind fun (c_49, c_50, c_51, q_52, q_53, q_54) =>
 some (({ VariableCount := q_52, Atoms := q_53, Free := q_54 } : Query), ({ b := c_49, i := c_50, h := c_51 } : L1Cur))
def f23 (code : (List Int)) : Option (L1Cur × (List Relation) × Query) :=
 (f42 code).bind fun o1 =>
 (f43 o1).bind fun o3 =>
 (f44 o3.2 o3.1).bind fun o5 =>
 some (o5.2, o3.1, o5.1)
def f6 (code : (List Int)) : Option ((List Relation) × Query × Int × Int) :=
 (f23 code).bind fun o1 =>
 (f24 o1.1 4).bind fun o3 =>
 (f24 o3.2 5).bind fun o5 =>
 some (o1.2.1, o1.2.2, o3.1, w64 (o5.1 - 1))
def f26 (n0 : Int) (low : Int) (high : Int) : Option Bool :=
 (((if low ≤ n0 then
 some (decide (n0 ≤ high))
 else
 some false) : Option (Bool))).bind fun x_1 =>
 some x_1
def f61 (relation : Relation) : Option Bool :=
 (((if (relation.Name.length : Int) = 1 then
 (ix relation.Name 0).bind fun c_4 =>
 (((if (c_4.toNat : Int) ≥ 97 then
 (((if (c_4.toNat : Int) ≤ 122 then
 (f26 relation.Arity 1 3).bind fun o12 =>
 (((if o12 = true then
 (f26 relation.KeyLength 0 relation.Arity).bind fun o17 =>
 some o17
 else
 some false) : Option (Bool))).bind fun x_14 =>
 some x_14
 else
 some false) : Option (Bool))).bind fun x_9 =>
 some x_9
 else
 some false) : Option (Bool))).bind fun x_6 =>
 some x_6
 else
 some false) : Option (Bool))).bind fun x_1 =>
 some x_1
def f46_0 (relations : (List Relation)) : Int → Option (Int ⊕ (Unit ⊕ Bool))
 | x_1 =>
  if x_1 < (relations.length : Int) then
  (ix relations x_1).bind fun v_3 =>
  (f61 v_3).bind fun o5 =>
  (((if ¬ (o5 = true) then
  some true
  else
  (((if x_1 > 0 then
  (ix relations (w64 (x_1 - 1))).bind fun v_13 =>
  some (!(Op.bytesLess v_13.Name v_3.Name))
  else
  some false) : Option (Bool))).bind fun x_10 =>
  some x_10) : Option (Bool))).bind fun x_7 =>
  if x_7 = true then
  some (.inr (.inr false))
  else
  some (.inl (w64 (x_1 + 1)))
  else
  some (.inr (.inl ()))
def f46 (relations : (List Relation)) : Option Bool :=
 (iter (f46_0 relations) 0).bind fun o => match o with
 | .inl _ =>
 some (decide ((relations.length : Int) ≤ 4))
 | .inr x_18 =>
 some x_18
def f47_0 (indices : (List Int)) (n1 : Int) : Int → Option (Int ⊕ (Unit ⊕ Bool))
 | x_1 =>
  if x_1 < (indices.length : Int) then
  (ix indices x_1).bind fun v_3 =>
  (f26 v_3 0 (w64 (n1 - 1))).bind fun o5 =>
  (((if ¬ (o5 = true) then
  some true
  else
  (((if x_1 > 0 then
  (ix indices (w64 (x_1 - 1))).bind fun v_13 =>
  some (decide (v_13 ≥ v_3))
  else
  some false) : Option (Bool))).bind fun x_10 =>
  some x_10) : Option (Bool))).bind fun x_7 =>
  if x_7 = true then
  some (.inr (.inr false))
  else
  some (.inl (w64 (x_1 + 1)))
  else
  some (.inr (.inl ()))
def f47 (indices : (List Int)) (n1 : Int) : Option Bool :=
 (iter (f47_0 indices n1) 0).bind fun o => match o with
 | .inl _ =>
 some true
 | .inr x_18 =>
 some x_18
def f62_0 (s0 : (List Atom)) (f : Atom → Option Bool) : Int → Option (Int ⊕ (Unit ⊕ Int))
 | x_1 =>
  if x_1 < (s0.length : Int) then
  (ix s0 x_1).bind fun v_3 =>
  (f v_3).bind fun o5 =>
  if o5 = true then
  some (.inr (.inr x_1))
  else
  some (.inl (w64 (x_1 + 1)))
  else
  some (.inr (.inl ()))
def f62 (s0 : (List Atom)) (f : Atom → Option Bool) : Option Int :=
 (iter (f62_0 s0 f) 0).bind fun o => match o with
 | .inl _ =>
 some (-1)
 | .inr x_10 =>
 some x_10
def f48 (s0 : (List Atom)) (f : Atom → Option Bool) : Option Bool :=
 (f62 s0 f).bind fun o1 =>
 some (decide (o1 ≥ 0))
def f49 (own : Atom) (c : Atom) : Option Bool :=
 some (decide (own.Relation = c.Relation))
def f69 (n : Int) : Option Nat := growN 8 n
def f57_0 (slices : (List (List Int))) : Int × Int → Option ((Int × Int) ⊕ Int)
 | (size_1, x_2) =>
  if x_2 < (slices.length : Int) then
  (ix slices x_2).bind fun v_4 =>
  (((if (w64 (size_1 + (v_4.length : Int))) < 0 then
  none
  else
  some ()) : Option Unit)).bind fun _ =>
  some (.inl (w64 (size_1 + (v_4.length : Int)), w64 (x_2 + 1)))
  else
  some (.inr size_1)
def f57_1 (slices : (List (List Int))) : Nat × (List Int) × Int → Option ((Nat × (List Int) × Int) ⊕ (Nat × (List Int)))
 | (newslice_14, newslice_15, x_16) =>
  if x_16 < (slices.length : Int) then
  (ix slices x_16).bind fun v_18 =>
  (apps 8 newslice_15 newslice_14 v_18).bind fun l_20 =>
  some (.inl (l_20.2, l_20.1, w64 (x_16 + 1)))
  else
  some (.inr (newslice_14, newslice_15))
def f57 (slices : (List (List Int))) : Option (List Int) :=
 (iter (f57_0 slices) (0, 0)).bind fun size_11 =>
 (f69 size_11).bind fun o12 =>
 (iter (f57_1 slices) (o12, [], 0)).bind fun (newslice_24, newslice_25) =>
 (nsk newslice_24).bind fun _ =>
 some newslice_25
def f90 (x : Int) : Option Int :=
 (((if x ≥ 4294967296 then
 some (sshr .u64 x 32, 32)
 else
 some (x, 0)) : Option (Int × Int))).bind fun (x_4, n_5) =>
 (((if x_4 ≥ 65536 then
 some (sshr .u64 x_4 16, w64 (n_5 + 16))
 else
 some (x_4, n_5)) : Option (Int × Int))).bind fun (x_9, n_10) =>
 (((if x_9 ≥ 256 then
 some (sshr .u64 x_9 8, w64 (n_10 + 8))
 else
 some (x_9, n_10)) : Option (Int × Int))).bind fun (x_14, n_15) =>
 (ix ([0, 1, 2, 2, 3, 3, 3, 3, 4, 4, 4, 4, 4, 4, 4, 4, 5, 5, 5, 5, 5, 5, 5, 5, 5, 5, 5, 5, 5, 5, 5, 5, 6, 6, 6, 6, 6, 6, 6, 6, 6, 6, 6, 6, 6, 6, 6, 6, 6, 6, 6, 6, 6, 6, 6, 6, 6, 6, 6, 6, 6, 6, 6, 6, 7, 7, 7, 7, 7, 7, 7, 7, 7, 7, 7, 7, 7, 7, 7, 7, 7, 7, 7, 7, 7, 7, 7, 7, 7, 7, 7, 7, 7, 7, 7, 7, 7, 7, 7, 7, 7, 7, 7, 7, 7, 7, 7, 7, 7, 7, 7, 7, 7, 7, 7, 7, 7, 7, 7, 7, 7, 7, 7, 7, 7, 7, 7, 7, 8, 8, 8, 8, 8, 8, 8, 8, 8, 8, 8, 8, 8, 8, 8, 8, 8, 8, 8, 8, 8, 8, 8, 8, 8, 8, 8, 8, 8, 8, 8, 8, 8, 8, 8, 8, 8, 8, 8, 8, 8, 8, 8, 8, 8, 8, 8, 8, 8, 8, 8, 8, 8, 8, 8, 8, 8, 8, 8, 8, 8, 8, 8, 8, 8, 8, 8, 8, 8, 8, 8, 8, 8, 8, 8, 8, 8, 8, 8, 8, 8, 8, 8, 8, 8, 8, 8, 8, 8, 8, 8, 8, 8, 8, 8, 8, 8, 8, 8, 8, 8, 8, 8, 8, 8, 8, 8, 8, 8, 8, 8, 8, 8, 8, 8, 8, 8, 8, 8, 8, 8, 8, 8, 8, 8, 8, 8, 8] : List UInt8) (w8 x_14)).bind fun c_16 =>
 some (w64 (n_15 + (w64 (c_16.toNat : Int))))
def f74 (x : Int) : Option Int :=
 (f90 x).bind fun o1 =>
 some o1
def f101 (x : Int) : Option Bool :=
 some (decide (x ≠ x))
def f86 (x : Int) (y : Int) : Option Bool :=
 (f101 x).bind fun o1 =>
 (((if o1 = true then
 (f101 y).bind fun o6 =>
 (((if ¬ (o6 = true) then
 some true
 else
 some (decide (x < y))) : Option (Bool))).bind fun x_8 =>
 some x_8
 else
 some (decide (x < y))) : Option (Bool))).bind fun x_3 =>
 some x_3
def f80_1 (a : Int) : (List Int) × Int → Option (((List Int) × Int) ⊕ (List Int))
 | (data_4, j_5) =>
  (((if j_5 > a then
  (ix data_4 j_5).bind fun v_9 =>
  (ix data_4 (w64 (j_5 - 1))).bind fun v_11 =>
  (f86 v_9 v_11).bind fun o13 =>
  some o13
  else
  some false) : Option (Bool))).bind fun x_6 =>
  if x_6 = true then
  (ix data_4 (w64 (j_5 - 1))).bind fun v_16 =>
  (ix data_4 j_5).bind fun v_18 =>
  (ix (data_4.set j_5.toNat v_16) (w64 (j_5 - 1))).bind fun v_21 =>
  some (.inl (((data_4.set j_5.toNat v_16).set (w64 (j_5 - 1)).toNat v_18), w64 (j_5 - 1)))
  else
  some (.inr data_4)
def f80_0 (a : Int) (b : Int) : (List Int) × Int → Option (((List Int) × Int) ⊕ (List Int))
 | (data_1, i_2) =>
  if i_2 < b then
  (iter ((f80_1 a)) (data_1, i_2)).bind fun data_26 =>
  some (.inl (data_26, w64 (i_2 + 1)))
  else
  some (.inr data_1)
def f80 (data : (List Int)) (a : Int) (b : Int) : Option (List Int) :=
 (iter (f80_0 a b) (data, w64 (a + 1))).bind fun data_29 =>
 some data_29
def f96_0 (hi : Int) (first : Int) : (List Int) × Int → Option (((List Int) × Int) ⊕ ((List Int) ⊕ (List Int)))
 | (data_1, root_2) =>
  if (w64 ((w64 (2 * root_2)) + 1)) ≥ hi then
  some (.inr (.inl data_1))
  else
  (((if (w64 ((w64 ((w64 (2 * root_2)) + 1)) + 1)) < hi then
  (ix data_1 (w64 (first + (w64 ((w64 (2 * root_2)) + 1))))).bind fun v_7 =>
  (ix data_1 (w64 ((w64 (first + (w64 ((w64 (2 * root_2)) + 1)))) + 1))).bind fun v_9 =>
  (f86 v_7 v_9).bind fun o11 =>
  some o11
  else
  some false) : Option (Bool))).bind fun x_4 =>
  (((if x_4 = true then
  some (w64 ((w64 ((w64 (2 * root_2)) + 1)) + 1))
  else
  some (w64 ((w64 (2 * root_2)) + 1))) : Option Int)).bind fun child_16 =>
  (ix data_1 (w64 (first + root_2))).bind fun v_17 =>
  (ix data_1 (w64 (first + child_16))).bind fun v_19 =>
  (f86 v_17 v_19).bind fun o21 =>
  if ¬ (o21 = true) then
  some (.inr (.inr data_1))
  else
  (ix (data_1.set (w64 (first + root_2)).toNat v_19) (w64 (first + child_16))).bind fun v_25 =>
  some (.inl (((data_1.set (w64 (first + root_2)).toNat v_19).set (w64 (first + child_16)).toNat v_17), child_16))
def f96 (data : (List Int)) (lo : Int) (hi : Int) (first : Int) : Option (List Int) :=
 (iter (f96_0 hi first) (data, lo)).bind fun o => match o with
 | .inl data_30 =>
 some data_30
 | .inr data_31 =>
 some data_31
def f81_0 (a : Int) (b : Int) : (List Int) × Int → Option (((List Int) × Int) ⊕ (List Int))
 | (data_1, i_2) =>
  if i_2 ≥ 0 then
  (f96 data_1 i_2 (w64 (b - a)) a).bind fun o4 =>
  some (.inl (o4, w64 (i_2 - 1)))
  else
  some (.inr data_1)
def f81_1 (a : Int) : (List Int) × Int → Option (((List Int) × Int) ⊕ (List Int))
 | (data_9, i_10) =>
  if i_10 ≥ 0 then
  (ix data_9 (w64 (a + i_10))).bind fun v_12 =>
  (ix data_9 a).bind fun v_14 =>
  (ix (data_9.set a.toNat v_12) (w64 (a + i_10))).bind fun v_17 =>
  (f96 ((data_9.set a.toNat v_12).set (w64 (a + i_10)).toNat v_14) 0 i_10 a).bind fun o20 =>
  some (.inl (o20, w64 (i_10 - 1)))
  else
  some (.inr data_9)
def f81 (data : (List Int)) (a : Int) (b : Int) : Option (List Int) :=
 (iter (f81_0 a b) (data, w64 ((w64 ((w64 (b - a)) - 1)).tdiv 2))).bind fun data_8 =>
 (iter (f81_1 a) (data_8, w64 ((w64 (b - a)) - 1))).bind fun data_24 =>
 some data_24
def f97 (length : Int) : Option Int :=
 (f74 (IntKind.u64.wrap length)).bind fun o1 =>
 (nn o1).bind fun z_3 =>
 some (sshl .u64 1 o1)
def f98 (r0 : Int) : Option (Int × Int) :=
 some (bxor .u64 (bxor .u64 (bxor .u64 r0 (sshl .u64 r0 13)) (sshr .u64 (bxor .u64 r0 (sshl .u64 r0 13)) 7)) (sshl .u64 (bxor .u64 (bxor .u64 r0 (sshl .u64 r0 13)) (sshr .u64 (bxor .u64 r0 (sshl .u64 r0 13)) 7)) 17), bxor .u64 (bxor .u64 (bxor .u64 r0 (sshl .u64 r0 13)) (sshr .u64 (bxor .u64 r0 (sshl .u64 r0 13)) 7)) (sshl .u64 (bxor .u64 (bxor .u64 r0 (sshl .u64 r0 13)) (sshr .u64 (bxor .u64 r0 (sshl .u64 r0 13)) 7)) 17))
def f82_0 (a : Int) (b : Int) (o4 : Int) : (List Int) × Int × Int → Option (((List Int) × Int × Int) ⊕ (List Int))
 | (data_6, random_7, idx_8) =>
  if idx_8 ≤ (w64 ((w64 (a + (w64 ((w64 ((w64 (b - a)).tdiv 4)) * 2)))) + 1)) then
  (f98 random_7).bind fun o10 =>
  (((if (w64 (band .u64 o10.1 (IntKind.u64.wrap (o4 - 1)))) ≥ (w64 (b - a)) then
  some (w64 ((w64 (band .u64 o10.1 (IntKind.u64.wrap (o4 - 1)))) - (w64 (b - a))))
  else
  some (w64 (band .u64 o10.1 (IntKind.u64.wrap (o4 - 1))))) : Option Int)).bind fun other_15 =>
  (ix data_6 (w64 (a + other_15))).bind fun v_16 =>
  (ix data_6 idx_8).bind fun v_18 =>
  (ix (data_6.set idx_8.toNat v_16) (w64 (a + other_15))).bind fun v_21 =>
  some (.inl (((data_6.set idx_8.toNat v_16).set (w64 (a + other_15)).toNat v_18), o10.2, w64 (idx_8 + 1)))
  else
  some (.inr data_6)
def f82 (data : (List Int)) (a : Int) (b : Int) : Option (List Int) :=
 (((if (w64 (b - a)) ≥ 8 then
 (f97 (w64 (b - a))).bind fun o4 =>
 (iter (f82_0 a b o4) (data, IntKind.u64.wrap (w64 (b - a)), w64 ((w64 (a + (w64 ((w64 ((w64 (b - a)).tdiv 4)) * 2)))) - 1))).bind fun data_26 =>
 some data_26
 else
 some data) : Option (List Int))).bind fun data_27 =>
 some data_27
def f104 (data : (List Int)) (a : Int) (b : Int) (swaps : Int) : Option (Int × Int × Int) :=
 (ix data b).bind fun v_1 =>
 (ix data a).bind fun v_3 =>
 (f86 v_1 v_3).bind fun o5 =>
 if o5 = true then
 some (b, a, w64 (swaps + 1))
 else
 some (a, b, swaps)
def f100 (data : (List Int)) (a : Int) (b : Int) (c : Int) (swaps : Int) : Option (Int × Int) :=
 (f104 data a b swaps).bind fun o1 =>
 (f104 data o1.2.1 c o1.2.2).bind fun o3 =>
 (f104 data o1.1 o3.1 o3.2.2).bind fun o5 =>
 some (o5.2.1, o5.2.2)
def f99 (data : (List Int)) (a : Int) (swaps : Int) : Option (Int × Int) :=
 (f100 data (w64 (a - 1)) a (w64 (a + 1)) swaps).bind fun o1 =>
 some (o1.1, o1.2)
def f83 (data : (List Int)) (a : Int) (b : Int) : Option (Int × Int) :=
 (((if (w64 (b - a)) ≥ 8 then
 (((if (w64 (b - a)) ≥ 50 then
 (f99 data (w64 (a + (w64 (w64 ((w64 (b - a)).tdiv 4))))) 0).bind fun o7 =>
 (f99 data (w64 (a + (w64 ((w64 ((w64 (b - a)).tdiv 4)) * 2)))) o7.2).bind fun o9 =>
 (f99 data (w64 (a + (w64 ((w64 ((w64 (b - a)).tdiv 4)) * 3)))) o9.2).bind fun o11 =>
 some (o11.2, o7.1, o9.1, o11.1)
 else
 some (0, w64 (a + (w64 (w64 ((w64 (b - a)).tdiv 4)))), w64 (a + (w64 ((w64 ((w64 (b - a)).tdiv 4)) * 2))), w64 (a + (w64 ((w64 ((w64 (b - a)).tdiv 4)) * 3))))) : Option (Int × Int × Int × Int))).bind fun (swaps_13, i_14, j_15, k_16) =>
 (f100 data i_14 j_15 k_16 swaps_13).bind fun o17 =>
 some (o17.2, o17.1)
 else
 some (0, w64 (a + (w64 ((w64 ((w64 (b - a)).tdiv 4)) * 2))))) : Option (Int × Int))).bind fun (swaps_19, j_20) =>
 if swaps_19 = 0 then
 some (j_20, 1)
 else
 if swaps_19 = 12 then
 some (j_20, 2)
 else
 some (j_20, 0)
def f84_0 : (List Int) × Int × Int → Option (((List Int) × Int × Int) ⊕ (List Int))
 | (data_1, i_2, j_3) =>
  if i_2 < j_3 then
  (ix data_1 j_3).bind fun v_5 =>
  (ix data_1 i_2).bind fun v_7 =>
  (ix (data_1.set i_2.toNat v_5) j_3).bind fun v_10 =>
  some (.inl (((data_1.set i_2.toNat v_5).set j_3.toNat v_7), w64 (i_2 + 1), w64 (j_3 - 1)))
  else
  some (.inr data_1)
def f84 (data : (List Int)) (a : Int) (b : Int) : Option (List Int) :=
 (iter f84_0 (data, a, w64 (b - 1))).bind fun data_15 =>
 some data_15
def f85_1 (b : Int) (data_1 : (List Int)) : Int → Option (Int ⊕ Int)
 | i_5 =>
  (((if i_5 < b then
  (ix data_1 i_5).bind fun v_9 =>
  (ix data_1 (w64 (i_5 - 1))).bind fun v_11 =>
  (f86 v_9 v_11).bind fun o13 =>
  some (decide (¬ (o13 = true)))
  else
  some false) : Option (Bool))).bind fun x_6 =>
  if x_6 = true then
  some (.inl (w64 (i_5 + 1)))
  else
  some (.inr i_5)
def f85_2 : (List Int) × Int → Option (((List Int) × Int) ⊕ (List Int))
 | (data_32, j_33) =>
  if j_33 ≥ 1 then
  (ix data_32 j_33).bind fun v_35 =>
  (ix data_32 (w64 (j_33 - 1))).bind fun v_37 =>
  (f86 v_35 v_37).bind fun o39 =>
  if ¬ (o39 = true) then
  some (.inr data_32)
  else
  (ix (data_32.set j_33.toNat v_37) (w64 (j_33 - 1))).bind fun v_43 =>
  some (.inl (((data_32.set j_33.toNat v_37).set (w64 (j_33 - 1)).toNat v_35), w64 (j_33 - 1)))
  else
  some (.inr data_32)
def f85_3 (b : Int) : (List Int) × Int → Option (((List Int) × Int) ⊕ (List Int))
 | (data_53, j_54) =>
  if j_54 < b then
  (ix data_53 j_54).bind fun v_56 =>
  (ix data_53 (w64 (j_54 - 1))).bind fun v_58 =>
  (f86 v_56 v_58).bind fun o60 =>
  if ¬ (o60 = true) then
  some (.inr data_53)
  else
  (ix (data_53.set j_54.toNat v_58) (w64 (j_54 - 1))).bind fun v_64 =>
  some (.inl (((data_53.set j_54.toNat v_58).set (w64 (j_54 - 1)).toNat v_56), w64 (j_54 + 1)))
  else
  some (.inr data_53)
def f85_0 (a : Int) (b : Int) : (List Int) × Int × Int → Option (((List Int) × Int × Int) ⊕ ((List Int) ⊕ ((List Int) × Bool)))
 | (data_1, i_2, j_3) =>
  if j_3 < 5 then
  (iter ((f85_1 b data_1)) i_2).bind fun i_18 =>
  if i_18 = b then
  some (.inr (.inr (data_1, true)))
  else
  if (w64 (b - a)) < 50 then
  some (.inr (.inr (data_1, false)))
  else
  (ix data_1 (w64 (i_18 - 1))).bind fun v_21 =>
  (ix data_1 i_18).bind fun v_23 =>
  (ix (data_1.set i_18.toNat v_21) (w64 (i_18 - 1))).bind fun v_26 =>
  (((if (w64 (i_18 - a)) ≥ 2 then
  (iter (f85_2) (((data_1.set i_18.toNat v_21).set (w64 (i_18 - 1)).toNat v_23), w64 (i_18 - 1))).bind fun data_48 =>
  some data_48
  else
  some ((data_1.set i_18.toNat v_21).set (w64 (i_18 - 1)).toNat v_23)) : Option (List Int))).bind fun data_49 =>
  (((if (w64 (b - i_18)) ≥ 2 then
  (iter ((f85_3 b)) (data_49, w64 (i_18 + 1))).bind fun data_69 =>
  some data_69
  else
  some data_49) : Option (List Int))).bind fun data_70 =>
  some (.inl (data_70, i_18, w64 (j_3 + 1)))
  else
  some (.inr (.inl data_1))
def f85 (data : (List Int)) (a : Int) (b : Int) : Option (Bool × (List Int)) :=
 (iter (f85_0 a b) (data, w64 (a + 1), 0)).bind fun o => match o with
 | .inl data_73 =>
 some (false, data_73)
 | .inr (data_74, x_75) =>
 some (x_75, data_74)
def f87_1 (a : Int) (data_9 : (List Int)) (j_11 : Int) : Int → Option (Int ⊕ Int)
 | i_12 =>
  (((if i_12 ≤ j_11 then
  (ix data_9 a).bind fun v_16 =>
  (ix data_9 i_12).bind fun v_18 =>
  (f86 v_16 v_18).bind fun o20 =>
  some (decide (¬ (o20 = true)))
  else
  some false) : Option (Bool))).bind fun x_13 =>
  if x_13 = true then
  some (.inl (w64 (i_12 + 1)))
  else
  some (.inr i_12)
def f87_2 (a : Int) (data_9 : (List Int)) (i_25 : Int) : Int → Option (Int ⊕ Int)
 | j_26 =>
  (((if i_25 ≤ j_26 then
  (ix data_9 a).bind fun v_30 =>
  (ix data_9 j_26).bind fun v_32 =>
  (f86 v_30 v_32).bind fun o34 =>
  some o34
  else
  some false) : Option (Bool))).bind fun x_27 =>
  if x_27 = true then
  some (.inl (w64 (j_26 - 1)))
  else
  some (.inr j_26)
def f87_0 (a : Int) : (List Int) × Int × Int → Option (((List Int) × Int × Int) ⊕ ((List Int) × Int))
 | (data_9, i_10, j_11) =>
  (iter (f87_1 a data_9 j_11) i_10).bind fun i_25 =>
  (iter (f87_2 a data_9 i_25) j_11).bind fun j_39 =>
  if i_25 > j_39 then
  some (.inr (data_9, i_25))
  else
  (ix data_9 j_39).bind fun v_41 =>
  (ix data_9 i_25).bind fun v_43 =>
  (ix (data_9.set i_25.toNat v_41) j_39).bind fun v_46 =>
  some (.inl (((data_9.set i_25.toNat v_41).set j_39.toNat v_43), w64 (i_25 + 1), w64 (j_39 - 1)))
def f87 (data : (List Int)) (a : Int) (b : Int) (pivot : Int) : Option (Int × (List Int)) :=
 (ix data pivot).bind fun v_1 =>
 (ix data a).bind fun v_3 =>
 (ix (data.set a.toNat v_1) pivot).bind fun v_6 =>
 (iter (f87_0 a) (((data.set a.toNat v_1).set pivot.toNat v_3), w64 (a + 1), w64 (b - 1))).bind fun (data_51, i_52) =>
 some (i_52, data_51)
def f88_0 (data : (List Int)) (a : Int) (b : Int) (pivot : Int) (v_1 : Int) (v_3 : Int) : Int → Option (Int ⊕ Int)
 | i_9 =>
  (((if i_9 ≤ (w64 (b - 1)) then
  (ix ((data.set a.toNat v_1).set pivot.toNat v_3) i_9).bind fun v_13 =>
  (ix ((data.set a.toNat v_1).set pivot.toNat v_3) a).bind fun v_15 =>
  (f86 v_13 v_15).bind fun o17 =>
  some o17
  else
  some false) : Option (Bool))).bind fun x_10 =>
  if x_10 = true then
  some (.inl (w64 (i_9 + 1)))
  else
  some (.inr i_9)
def f88_1 (data : (List Int)) (a : Int) (pivot : Int) (v_1 : Int) (v_3 : Int) (i_22 : Int) : Int → Option (Int ⊕ Int)
 | j_23 =>
  (((if i_22 ≤ j_23 then
  (ix ((data.set a.toNat v_1).set pivot.toNat v_3) j_23).bind fun v_27 =>
  (ix ((data.set a.toNat v_1).set pivot.toNat v_3) a).bind fun v_29 =>
  (f86 v_27 v_29).bind fun o31 =>
  some (decide (¬ (o31 = true)))
  else
  some false) : Option (Bool))).bind fun x_24 =>
  if x_24 = true then
  some (.inl (w64 (j_23 - 1)))
  else
  some (.inr j_23)
def f88_3 (a : Int) (data_54 : (List Int)) (j_56 : Int) : Int → Option (Int ⊕ Int)
 | i_57 =>
  (((if i_57 ≤ j_56 then
  (ix data_54 i_57).bind fun v_61 =>
  (ix data_54 a).bind fun v_63 =>
  (f86 v_61 v_63).bind fun o65 =>
  some o65
  else
  some false) : Option (Bool))).bind fun x_58 =>
  if x_58 = true then
  some (.inl (w64 (i_57 + 1)))
  else
  some (.inr i_57)
def f88_4 (a : Int) (data_54 : (List Int)) (i_70 : Int) : Int → Option (Int ⊕ Int)
 | j_71 =>
  (((if i_70 ≤ j_71 then
  (ix data_54 j_71).bind fun v_75 =>
  (ix data_54 a).bind fun v_77 =>
  (f86 v_75 v_77).bind fun o79 =>
  some (decide (¬ (o79 = true)))
  else
  some false) : Option (Bool))).bind fun x_72 =>
  if x_72 = true then
  some (.inl (w64 (j_71 - 1)))
  else
  some (.inr j_71)
def f88_2 (a : Int) : (List Int) × Int × Int → Option (((List Int) × Int × Int) ⊕ ((List Int) × Int))
 | (data_54, i_55, j_56) =>
  (iter (f88_3 a data_54 j_56) i_55).bind fun i_70 =>
  (iter (f88_4 a data_54 i_70) j_56).bind fun j_84 =>
  if i_70 > j_84 then
  some (.inr (data_54, j_84))
  else
  (ix data_54 j_84).bind fun v_86 =>
  (ix data_54 i_70).bind fun v_88 =>
  (ix (data_54.set i_70.toNat v_86) j_84).bind fun v_91 =>
  some (.inl (((data_54.set i_70.toNat v_86).set j_84.toNat v_88), w64 (i_70 + 1), w64 (j_84 - 1)))
def f88 (data : (List Int)) (a : Int) (b : Int) (pivot : Int) : Option (Int × Bool × (List Int)) :=
 (ix data pivot).bind fun v_1 =>
 (ix data a).bind fun v_3 =>
 (ix (data.set a.toNat v_1) pivot).bind fun v_6 =>
 (iter (f88_0 data a b pivot v_1 v_3) (w64 (a + 1))).bind fun i_22 =>
 (iter (f88_1 data a pivot v_1 v_3 i_22) (w64 (b - 1))).bind fun j_36 =>
 if i_22 > j_36 then
 (ix ((data.set a.toNat v_1).set pivot.toNat v_3) a).bind fun v_38 =>
 (ix ((data.set a.toNat v_1).set pivot.toNat v_3) j_36).bind fun v_40 =>
 (ix (((data.set a.toNat v_1).set pivot.toNat v_3).set j_36.toNat v_38) a).bind fun v_43 =>
 some (j_36, true, ((((data.set a.toNat v_1).set pivot.toNat v_3).set j_36.toNat v_38).set a.toNat v_40))
 else
 (ix ((data.set a.toNat v_1).set pivot.toNat v_3) j_36).bind fun v_46 =>
 (ix ((data.set a.toNat v_1).set pivot.toNat v_3) i_22).bind fun v_48 =>
 (ix (((data.set a.toNat v_1).set pivot.toNat v_3).set i_22.toNat v_46) j_36).bind fun v_51 =>
 (iter (f88_2 a) (((((data.set a.toNat v_1).set pivot.toNat v_3).set i_22.toNat v_46).set j_36.toNat v_48), w64 (i_22 + 1), w64 (j_36 - 1))).bind fun (data_96, j_97) =>
 (ix data_96 a).bind fun v_98 =>
 (ix data_96 j_97).bind fun v_100 =>
 (ix (data_96.set j_97.toNat v_98) a).bind fun v_103 =>
 some (j_97, false, ((data_96.set j_97.toNat v_98).set a.toNat v_100))
def f73_0 (rec : (List Int) → Int → Int → Int → Option (List Int)) : (List Int) × Int × Int × Int × Bool × Bool → Option (((List Int) × Int × Int × Int × Bool × Bool) ⊕ (List Int))
 | (data_1, a_2, b_3, limit_4, wasBalanced_5, wasPartitioned_6) =>
  (((if (w64 (b_3 - a_2)) ≤ 12 then
  (f80 data_1 a_2 b_3).bind fun o10 =>
  some (.inr o10)
  else
  if limit_4 = 0 then
  (f81 data_1 a_2 b_3).bind fun o13 =>
  some (.inr o13)
  else
  (((if ¬ (wasBalanced_5 = true) then
  (f82 data_1 a_2 b_3).bind fun o18 =>
  some (o18, w64 (limit_4 - 1))
  else
  some (data_1, limit_4)) : Option ((List Int) × Int))).bind fun (data_20, limit_21) =>
  (f83 data_20 a_2 b_3).bind fun o22 =>
  (((if o22.2 = 2 then
  (f84 data_20 a_2 b_3).bind fun o27 =>
  some (o27, w64 ((w64 (b_3 - 1)) - (w64 (o22.1 - a_2))), 1)
  else
  some (data_20, o22.1, o22.2)) : Option ((List Int) × Int × Int))).bind fun (data_29, pivot_30, hint_31) =>
  (((if wasBalanced_5 = true then
  (((if wasPartitioned_6 = true then
  some (decide (hint_31 = 1))
  else
  some false) : Option (Bool))).bind fun x_35 =>
  some x_35
  else
  some false) : Option (Bool))).bind fun x_32 =>
  (((if x_32 = true then
  (f85 data_29 a_2 b_3).bind fun o41 =>
  if o41.1 = true then
  some (.inr o41.2)
  else
  some (.inl o41.2)
  else
  some (.inl data_29)) : Option ((List Int) ⊕ (List Int)))).bind fun o => match o with
  | .inl data_44 =>
  (((if a_2 > 0 then
  (ix data_44 (w64 (a_2 - 1))).bind fun v_49 =>
  (ix data_44 pivot_30).bind fun v_51 =>
  (f86 v_49 v_51).bind fun o53 =>
  some (decide (¬ (o53 = true)))
  else
  some false) : Option (Bool))).bind fun x_46 =>
  if x_46 = true then
  (f87 data_44 a_2 b_3 pivot_30).bind fun o56 =>
  some (.inl (o56.2, o56.1, b_3, limit_21, wasBalanced_5, wasPartitioned_6))
  else
  (f88 data_44 a_2 b_3 pivot_30).bind fun o58 =>
  (((if (w64 (o58.1 - a_2)) < (w64 (b_3 - o58.1)) then
  (rec o58.2.2 a_2 o58.1 limit_21).bind fun o63 =>
  some (o63, w64 (o58.1 + 1), b_3, (decide ((w64 (o58.1 - a_2)) ≥ (w64 ((w64 (b_3 - a_2)).tdiv 8)))))
  else
  (rec o58.2.2 (w64 (o58.1 + 1)) b_3 limit_21).bind fun o65 =>
  some (o65, a_2, o58.1, (decide ((w64 (b_3 - o58.1)) ≥ (w64 ((w64 (b_3 - a_2)).tdiv 8)))))) : Option ((List Int) × Int × Int × Bool))).bind fun (data_67, a_68, b_69, wasBalanced_70) =>
  some (.inl (data_67, a_68, b_69, limit_21, wasBalanced_70, o58.2.1))
  | .inr data_45 =>
  some (.inr data_45)) : Option (((List Int) × Int × Int × Int × Bool × Bool) ⊕ (List Int)))).bind fun o => match o with
  | .inl (data_71, a_72, b_73, limit_74, wasBalanced_75, wasPartitioned_76) =>
  some (.inl (data_71, a_72, b_73, limit_74, wasBalanced_75, wasPartitioned_76))
  | .inr data_77 =>
  some (.inr data_77)
def f73 : Nat → (List Int) → Int → Int → Int → Option (List Int)
 | 0 => fun _ _ _ _ => none
 | n + 1 => fun data a b limit =>
  (iter (f73_0 (f73 n)) (data, a, b, limit, true, true)).bind fun data_80 =>
  some data_80
def f63 (x : (List Int)) : Option (List Int) :=
 (f74 (IntKind.u64.wrap (x.length : Int))).bind fun o1 =>
 (f73 64 x 0 (x.length : Int) o1).bind fun o3 =>
 some o3
def f64 (l : List Int) : Option (List Int) := compactN l
def f50 (a : (List Int)) (b : (List Int)) : Option (List Int) :=
 (f57 ([a, b])).bind fun o1 =>
 (f63 o1).bind fun o3 =>
 (f64 o3).bind fun o5 =>
 some o5
def f51_0 (atom : Atom) : (List Int) × Int → Option (((List Int) × Int) ⊕ (List Int))
 | (out_1, x_2) =>
  if x_2 < (atom.Terms.length : Int) then
  (ix atom.Terms x_2).bind fun v_4 =>
  (f26 v_4 0 3).bind fun o6 =>
  (((if o6 = true then
  (app 8 out_1 ([v_4])).bind fun l_11 =>
  some l_11
  else
  some out_1) : Option (List Int))).bind fun out_13 =>
  some (.inl (out_13, w64 (x_2 + 1)))
  else
  some (.inr out_1)
def f51 (atom : Atom) : Option (List Int) :=
 (iter (f51_0 atom) ([], 0)).bind fun out_16 =>
 (f50 out_16 ([] : (List Int))).bind fun o17 =>
 some o17
def f25_1 (query : Query) (v_22 : Atom) : Int → Option (Int ⊕ (Unit ⊕ Bool))
 | x_39 =>
  if x_39 < (v_22.Terms.length : Int) then
  (ix v_22.Terms x_39).bind fun v_41 =>
  (f26 v_41 (-10) (w64 (query.VariableCount - 1))).bind fun o43 =>
  if ¬ (o43 = true) then
  some (.inr (.inr false))
  else
  some (.inl (w64 (x_39 + 1)))
  else
  some (.inr (.inl ()))
def f25_0 (relations : (List Relation)) (query : Query) : (List Int) × Int → Option (((List Int) × Int) ⊕ ((List Int) ⊕ Bool))
 | (occurring_19, x_20) =>
  if x_20 < (query.Atoms.length : Int) then
  (ix query.Atoms x_20).bind fun v_22 =>
  (f26 v_22.Relation 0 (w64 ((relations.length : Int) - 1))).bind fun o24 =>
  (((if ¬ (o24 = true) then
  some true
  else
  (ix relations v_22.Relation).bind fun v_29 =>
  (((if (v_22.Terms.length : Int) ≠ v_29.Arity then
  some true
  else
  (cutL query.Atoms 0 x_20).bind fun l_34 =>
  (f48 l_34 (fun x0 => f49 x0 v_22)).bind fun o36 =>
  some o36) : Option (Bool))).bind fun x_31 =>
  some x_31) : Option (Bool))).bind fun x_26 =>
  if x_26 = true then
  some (.inr (.inr false))
  else
  (iter ((f25_1 query v_22)) 0).bind fun o => match o with
  | .inl _ =>
  (f51 v_22).bind fun o49 =>
  (f50 occurring_19 o49).bind fun o51 =>
  some (.inl (o51, w64 (x_20 + 1)))
  | .inr x_48 =>
  some (.inr (.inr x_48))
  else
  some (.inr (.inl occurring_19))
def f25 (relations : (List Relation)) (query : Query) : Option Bool :=
 (f46 relations).bind fun o1 =>
 (((if ¬ (o1 = true) then
 some true
 else
 (f26 query.VariableCount 0 4).bind fun o6 =>
 (((if ¬ (o6 = true) then
 some true
 else
 (f26 (query.Atoms.length : Int) 1 3).bind fun o11 =>
 (((if ¬ (o11 = true) then
 some true
 else
 (f47 query.Free query.VariableCount).bind fun o16 =>
 some (decide (¬ (o16 = true)))) : Option (Bool))).bind fun x_13 =>
 some x_13) : Option (Bool))).bind fun x_8 =>
 some x_8) : Option (Bool))).bind fun x_3 =>
 if x_3 = true then
 some false
 else
 (iter (f25_0 relations query) ([], 0)).bind fun o => match o with
 | .inl occurring_55 =>
 some (decide ((occurring_55.length : Int) = query.VariableCount))
 | .inr x_56 =>
 some x_56
def f29 (relations : (List Relation)) (atom : Atom) : Option (List Int) :=
 (f26 atom.Relation 0 (w64 ((relations.length : Int) - 1))).bind fun o1 =>
 (((if ¬ (o1 = true) then
 some true
 else
 (ix relations atom.Relation).bind fun v_6 =>
 (f26 v_6.KeyLength 0 (atom.Terms.length : Int)).bind fun o8 =>
 some (decide (¬ (o8 = true)))) : Option (Bool))).bind fun x_3 =>
 if x_3 = true then
 some ([])
 else
 (ix relations atom.Relation).bind fun v_11 =>
 (cutL atom.Terms 0 v_11.KeyLength).bind fun l_13 =>
 (f51 ({ Relation := 0, Terms := l_13 } : Atom)).bind fun o15 =>
 some o15
def f76_0 (s0 : (List Int)) (f : Int → Option Bool) : Int → Option (Int ⊕ (Unit ⊕ Int))
 | x_1 =>
  if x_1 < (s0.length : Int) then
  (ix s0 x_1).bind fun v_3 =>
  (f v_3).bind fun o5 =>
  if o5 = true then
  some (.inr (.inr x_1))
  else
  some (.inl (w64 (x_1 + 1)))
  else
  some (.inr (.inl ()))
def f76 (s0 : (List Int)) (f : Int → Option Bool) : Option Int :=
 (iter (f76_0 s0 f) 0).bind fun o => match o with
 | .inl _ =>
 some (-1)
 | .inr x_10 =>
 some x_10
def f66 (s0 : (List Int)) (f : Int → Option Bool) : Option Bool :=
 (f76 s0 f).bind fun o1 =>
 some (decide (o1 ≥ 0))
def f75_0 (s0 : (List Int)) (v : Int) : Int → Option (Int ⊕ (Unit ⊕ Int))
 | x_1 =>
  if x_1 < (s0.length : Int) then
  (ix s0 x_1).bind fun v_3 =>
  if v = v_3 then
  some (.inr (.inr x_1))
  else
  some (.inl (w64 (x_1 + 1)))
  else
  some (.inr (.inl ()))
def f75 (s0 : (List Int)) (v : Int) : Option Int :=
 (iter (f75_0 s0 v) 0).bind fun o => match o with
 | .inl _ =>
 some (-1)
 | .inr x_8 =>
 some x_8
def f65 (s0 : (List Int)) (v : Int) : Option Bool :=
 (f75 s0 v).bind fun o1 =>
 some (decide (o1 ≥ 0))
def f67 (n0 : Int) (c : (List Int)) : Option Bool :=
 (f65 c n0).bind fun o1 =>
 some (decide (¬ (o1 = true)))
def f53 (a : (List Int)) (b : (List Int)) : Option Bool :=
 (f66 a (fun x0 => f67 x0 b)).bind fun o1 =>
 some (decide (¬ (o1 = true)))
def f56_1 (relations : (List Relation)) (atoms : (List Atom)) (skip : Int) : (List Int) × Int → Option (((List Int) × Int) ⊕ (List Int))
 | (larger_4, x_5) =>
  if x_5 < (atoms.length : Int) then
  (ix atoms x_5).bind fun v_7 =>
  (((if x_5 ≠ skip then
  (f29 relations v_7).bind fun o12 =>
  (f53 o12 larger_4).bind fun o14 =>
  some o14
  else
  some false) : Option (Bool))).bind fun x_9 =>
  (((if x_9 = true then
  (f51 v_7).bind fun o19 =>
  (f50 larger_4 o19).bind fun o21 =>
  some o21
  else
  some larger_4) : Option (List Int))).bind fun larger_23 =>
  some (.inl (larger_23, w64 (x_5 + 1)))
  else
  some (.inr larger_4)
def f56_0 (relations : (List Relation)) (atoms : (List Atom)) (skip : Int) : (List Int) → Option ((List Int) ⊕ (List Int))
 | out_3 =>
  (iter ((f56_1 relations atoms skip)) (out_3, 0)).bind fun larger_26 =>
  if (larger_26.length : Int) = (out_3.length : Int) then
  some (.inr out_3)
  else
  some (.inl larger_26)
def f56 (relations : (List Relation)) (atoms : (List Atom)) (skip : Int) (variables : (List Int)) : Option (List Int) :=
 (f50 variables ([] : (List Int))).bind fun o1 =>
 (iter (f56_0 relations atoms skip) o1).bind fun x_30 =>
 some x_30
def f52_0 (a : (List Int)) (b : (List Int)) : (List Int) × Int → Option (((List Int) × Int) ⊕ (List Int))
 | (out_1, x_2) =>
  if x_2 < (a.length : Int) then
  (ix a x_2).bind fun v_4 =>
  (f65 b v_4).bind fun o6 =>
  (((if ¬ (o6 = true) then
  (app 8 out_1 ([v_4])).bind fun l_11 =>
  some l_11
  else
  some out_1) : Option (List Int))).bind fun out_13 =>
  some (.inl (out_13, w64 (x_2 + 1)))
  else
  some (.inr out_1)
def f52 (a : (List Int)) (b : (List Int)) : Option (List Int) :=
 (iter (f52_0 a b) ([], 0)).bind fun out_16 =>
 some out_16
def f35_1 (atoms : (List Atom)) (o7 : (List Int)) : (List Int) × Int → Option (((List Int) × Int) ⊕ (List Int))
 | (larger_14, x_15) =>
  if x_15 < (atoms.length : Int) then
  (ix atoms x_15).bind fun v_17 =>
  (f51 v_17).bind fun o19 =>
  (f52 o19 o7).bind fun o21 =>
  (f52 o21 larger_14).bind fun o23 =>
  (((if (o23.length : Int) < (o21.length : Int) then
  (f50 larger_14 o21).bind fun o28 =>
  some o28
  else
  some larger_14) : Option (List Int))).bind fun larger_30 =>
  some (.inl (larger_30, w64 (x_15 + 1)))
  else
  some (.inr larger_14)
def f35_0 (atoms : (List Atom)) (o7 : (List Int)) : (List Int) → Option ((List Int) ⊕ (List Int))
 | out_13 =>
  (iter ((f35_1 atoms o7)) (out_13, 0)).bind fun larger_33 =>
  if (larger_33.length : Int) = (out_13.length : Int) then
  some (.inr out_13)
  else
  some (.inl larger_33)
def f35 (relations : (List Relation)) (atoms : (List Atom)) (free : (List Int)) (atom : Int) : Option (List Int) :=
 (ix atoms atom).bind fun v_1 =>
 (f29 relations v_1).bind fun o3 =>
 (f57 ([free, o3])).bind fun o5 =>
 (f56 relations atoms atom o5).bind fun o7 =>
 (f51 v_1).bind fun o9 =>
 (f52 o9 o7).bind fun o11 =>
 (iter ((f35_0 atoms o7)) o11).bind fun x_37 =>
 some x_37
def f27 (relations : (List Relation)) (atoms : (List Atom)) (free : (List Int)) (from3 : Int) (to : Int) : Option Bool :=
 (ix atoms to).bind fun v_1 =>
 (f51 v_1).bind fun o3 =>
 (((if from3 ≠ to then
 (f35 relations atoms free from3).bind fun o8 =>
 (f52 o3 o8).bind fun o10 =>
 some (decide ((o10.length : Int) < (o3.length : Int)))
 else
 some false) : Option (Bool))).bind fun x_5 =>
 some x_5
def f7 (relations : (List Relation)) (query : Query) (from2 : Int) (to : Int) : Option Bool :=
 (f25 relations query).bind fun o1 =>
 (((if o1 = true then
 (f26 from2 0 (w64 ((query.Atoms.length : Int) - 1))).bind fun o6 =>
 (((if o6 = true then
 (f26 to 0 (w64 ((query.Atoms.length : Int) - 1))).bind fun o11 =>
 (((if o11 = true then
 (f27 relations query.Atoms query.Free from2 to).bind fun o16 =>
 some o16
 else
 some false) : Option (Bool))).bind fun x_13 =>
 some x_13
 else
 some false) : Option (Bool))).bind fun x_8 =>
 some x_8
 else
 some false) : Option (Bool))).bind fun x_3 =>
 some x_3
def f68 (s0 : (List Int)) : Option (List Int) :=
 (app 8 ([]) s0).bind fun l_1 =>
 some l_1
def f54_0 (variables : (List Int)) : (List Int) × Int → Option (((List Int) × Int) ⊕ (List Int))
 | (given_6, x_7) =>
  if x_7 < (variables.length : Int) then
  (ix variables x_7).bind fun v_9 =>
  (f26 v_9 0 3).bind fun o11 =>
  (((if o11 = true then
  (app 8 given_6 ([v_9])).bind fun l_16 =>
  some l_16
  else
  some given_6) : Option (List Int))).bind fun given_18 =>
  some (.inl (given_18, w64 (x_7 + 1)))
  else
  some (.inr given_6)
def f54 (relations : (List Relation)) (query : Query) (skip : Int) (variables : (List Int)) : Option (List Int) :=
 (f25 relations query).bind fun o1 =>
 if ¬ (o1 = true) then
 some ([])
 else
 (f68 query.Free).bind fun o4 =>
 (iter ((f54_0 variables)) (o4, 0)).bind fun given_21 =>
 (f56 relations query.Atoms skip given_21).bind fun o22 =>
 some o22
def f28 (relations : (List Relation)) (query : Query) (from2 : (List Int)) (to : (List Int)) : Option Bool :=
 (f25 relations query).bind fun o1 =>
 (((if o1 = true then
 (f54 relations query (-1) from2).bind fun o6 =>
 (f53 to o6).bind fun o8 =>
 some o8
 else
 some false) : Option (Bool))).bind fun x_3 =>
 some x_3
def f8 (relations : (List Relation)) (query : Query) (from2 : Int) (to : Int) : Option Bool :=
 (f7 relations query from2 to).bind fun o1 =>
 (((if o1 = true then
 (ix query.Atoms from2).bind fun v_6 =>
 (ix query.Atoms to).bind fun v_8 =>
 (f29 relations v_6).bind fun o10 =>
 (f29 relations v_8).bind fun o12 =>
 (f28 relations query o10 o12).bind fun o14 =>
 some o14
 else
 some false) : Option (Bool))).bind fun x_3 =>
 some x_3
def f32_0 (l : (List Int)) (x : Int) : Int → Option (Int ⊕ (Unit ⊕ Bool))
 | i_1 =>
  if i_1 < (l.length : Int) then
  (ix l i_1).bind fun v_3 =>
  if v_3 = x then
  some (.inr (.inr true))
  else
  some (.inl (w64 (i_1 + 1)))
  else
  some (.inr (.inl ()))
def f32 (l : (List Int)) (x : Int) : Option Bool :=
 (iter (f32_0 l x) 0).bind fun o => match o with
 | .inl _ =>
 some false
 | .inr x_8 =>
 some x_8
def f31_0 (a : Atom) : (List Int) × Int → Option (((List Int) × Int) ⊕ (List Int))
 | (out_1, v_2) =>
  if v_2 < 4 then
  (f32 a.Terms v_2).bind fun o4 =>
  (((if o4 = true then
  (app 8 out_1 ([v_2])).bind fun l_9 =>
  some l_9
  else
  some out_1) : Option (List Int))).bind fun out_11 =>
  some (.inl (out_11, w64 (v_2 + 1)))
  else
  some (.inr out_1)
def f31 (a : Atom) : Option (List Int) :=
 (iter (f31_0 a) ([], 0)).bind fun out_14 =>
 some out_14
def f34 (l : (List Relation)) (a : Atom) : Option (List Int) :=
 (f30 a.Relation 0 (w64 ((l.length : Int) - 1))).bind fun o1 =>
 (((if ¬ (o1 = true) then
 some true
 else
 (ix l a.Relation).bind fun v_6 =>
 (f30 v_6.KeyLength 0 (a.Terms.length : Int)).bind fun o8 =>
 some (decide (¬ (o8 = true)))) : Option (Bool))).bind fun x_3 =>
 if x_3 = true then
 some ([])
 else
 (ix l a.Relation).bind fun v_11 =>
 (cutL a.Terms 0 v_11.KeyLength).bind fun l_13 =>
 (f31 ({ Relation := 0, Terms := l_13 } : Atom)).bind fun o15 =>
 some o15
def f37_0 (a : (List Int)) (b : (List Int)) : (List Int) × Int → Option (((List Int) × Int) ⊕ (List Int))
 | (out_1, v_2) =>
  if v_2 < 4 then
  (f32 a v_2).bind fun o4 =>
  (((if o4 = true then
  some true
  else
  (f32 b v_2).bind fun o9 =>
  some o9) : Option (Bool))).bind fun x_6 =>
  (((if x_6 = true then
  (app 8 out_1 ([v_2])).bind fun l_14 =>
  some l_14
  else
  some out_1) : Option (List Int))).bind fun out_16 =>
  some (.inl (out_16, w64 (v_2 + 1)))
  else
  some (.inr out_1)
def f37 (a : (List Int)) (b : (List Int)) : Option (List Int) :=
 (iter (f37_0 a b) ([], 0)).bind fun out_19 =>
 some out_19
def f55_0 (l : (List Int)) (want : (List Int)) : Int → Option (Int ⊕ (Unit ⊕ Bool))
 | i_1 =>
  if i_1 < (want.length : Int) then
  (ix want i_1).bind fun v_3 =>
  (f32 l v_3).bind fun o5 =>
  if ¬ (o5 = true) then
  some (.inr (.inr false))
  else
  some (.inl (w64 (i_1 + 1)))
  else
  some (.inr (.inl ()))
def f55 (l : (List Int)) (want : (List Int)) : Option Bool :=
 (iter (f55_0 l want) 0).bind fun o => match o with
 | .inl _ =>
 some true
 | .inr x_10 =>
 some x_10
def f36_1 (l : (List Relation)) (q : Query) (skip : Int) : (List Int) × Int → Option (((List Int) × Int) ⊕ (List Int))
 | (out_9, i_10) =>
  if i_10 < (q.Atoms.length : Int) then
  (((if i_10 ≠ skip then
  (ix q.Atoms i_10).bind fun v_15 =>
  (f34 l v_15).bind fun o17 =>
  (f55 out_9 o17).bind fun o19 =>
  some o19
  else
  some false) : Option (Bool))).bind fun x_12 =>
  (((if x_12 = true then
  (ix q.Atoms i_10).bind fun v_24 =>
  (f31 v_24).bind fun o26 =>
  (f37 out_9 o26).bind fun o28 =>
  some o28
  else
  some out_9) : Option (List Int))).bind fun out_30 =>
  some (.inl (out_30, w64 (i_10 + 1)))
  else
  some (.inr out_9)
def f36_0 (l : (List Relation)) (q : Query) (skip : Int) : (List Int) × Int → Option (((List Int) × Int) ⊕ (List Int))
 | (out_6, n_7) =>
  if n_7 < (q.Atoms.length : Int) then
  (iter ((f36_1 l q skip)) (out_6, 0)).bind fun out_33 =>
  some (.inl (out_33, w64 (n_7 + 1)))
  else
  some (.inr out_6)
def f36 (l : (List Relation)) (q : Query) (skip : Int) (vars : (List Int)) : Option (List Int) :=
 (f19 l q).bind fun o1 =>
 if ¬ (o1 = true) then
 some ([])
 else
 (f37 vars q.Free).bind fun o4 =>
 (iter (f36_0 l q skip) (o4, 0)).bind fun out_36 =>
 some out_36
def f12 (l : (List Relation)) (q : Query) (k : Int) : Option (List Int) :=
 (f19 l q).bind fun o1 =>
 (((if ¬ (o1 = true) then
 some true
 else
 (f30 k 0 (w64 ((q.Atoms.length : Int) - 1))).bind fun o6 =>
 some (decide (¬ (o6 = true)))) : Option (Bool))).bind fun x_3 =>
 if x_3 = true then
 some ([])
 else
 (ix q.Atoms k).bind fun v_9 =>
 (f34 l v_9).bind fun o11 =>
 (f36 l q k o11).bind fun o13 =>
 some o13
def f15_2 (out_14 : (List Int)) (o19 : (List Int)) : Bool × Int → Option ((Bool × Int) ⊕ Bool)
 | (met_21, j_22) =>
  if j_22 < (o19.length : Int) then
  (((if met_21 = true then
  some true
  else
  (ix o19 j_22).bind fun v_27 =>
  (f32 out_14 v_27).bind fun o29 =>
  some o29) : Option (Bool))).bind fun met_24 =>
  some (.inl (met_24, w64 (j_22 + 1)))
  else
  some (.inr met_21)
def f15_3 (o9 : (List Int)) (o19 : (List Int)) (met_33 : Bool) : (List Int) × Int → Option (((List Int) × Int) ⊕ (List Int))
 | (out_34, j_35) =>
  (((if j_35 < (o19.length : Int) then
  some met_33
  else
  some false) : Option (Bool))).bind fun x_36 =>
  if x_36 = true then
  (ix o19 j_35).bind fun v_40 =>
  (f32 o9 v_40).bind fun o42 =>
  (((if ¬ (o42 = true) then
  (f37 out_34 ([v_40])).bind fun o47 =>
  some o47
  else
  some out_34) : Option (List Int))).bind fun out_49 =>
  some (.inl (out_49, w64 (j_35 + 1)))
  else
  some (.inr out_34)
def f15_1 (q : Query) (k : Int) (o9 : (List Int)) : (List Int) × Int → Option (((List Int) × Int) ⊕ (List Int))
 | (out_14, i_15) =>
  if i_15 < (q.Atoms.length : Int) then
  (ix q.Atoms i_15).bind fun v_17 =>
  (f31 v_17).bind fun o19 =>
  (iter ((f15_2 out_14 o19)) ((decide (i_15 = k)), 0)).bind fun met_33 =>
  (iter ((f15_3 o9 o19 met_33)) (out_14, 0)).bind fun out_52 =>
  some (.inl (out_52, w64 (i_15 + 1)))
  else
  some (.inr out_14)
def f15_0 (q : Query) (k : Int) (o9 : (List Int)) : (List Int) × Int → Option (((List Int) × Int) ⊕ (List Int))
 | (out_11, n_12) =>
  if n_12 ≤ (q.Atoms.length : Int) then
  (iter ((f15_1 q k o9)) (out_11, 0)).bind fun out_55 =>
  some (.inl (out_55, w64 (n_12 + 1)))
  else
  some (.inr out_11)
def f15 (l : (List Relation)) (q : Query) (k : Int) : Option (List Int) :=
 (f19 l q).bind fun o1 =>
 (((if ¬ (o1 = true) then
 some true
 else
 (f30 k 0 (w64 ((q.Atoms.length : Int) - 1))).bind fun o6 =>
 some (decide (¬ (o6 = true)))) : Option (Bool))).bind fun x_3 =>
 if x_3 = true then
 some ([])
 else
 (f12 l q k).bind fun o9 =>
 (iter (f15_0 q k o9) ([], 0)).bind fun out_58 =>
 some out_58
def f9_0 (o17 : (List Int)) (o21 : (List Int)) : Int → Option (Int ⊕ (Unit ⊕ Bool))
 | j_23 =>
  if j_23 < (o21.length : Int) then
  (ix o21 j_23).bind fun v_25 =>
  (f32 o17 v_25).bind fun o27 =>
  if o27 = true then
  some (.inr (.inr true))
  else
  some (.inl (w64 (j_23 + 1)))
  else
  some (.inr (.inl ()))
def f9 (l : (List Relation)) (q : Query) (i : Int) (k : Int) : Option Bool :=
 (f19 l q).bind fun o1 =>
 (((if ¬ (o1 = true) then
 some true
 else
 (f30 i 0 (w64 ((q.Atoms.length : Int) - 1))).bind fun o6 =>
 (((if ¬ (o6 = true) then
 some true
 else
 (f30 k 0 (w64 ((q.Atoms.length : Int) - 1))).bind fun o11 =>
 (((if ¬ (o11 = true) then
 some true
 else
 some (decide (i = k))) : Option (Bool))).bind fun x_13 =>
 some x_13) : Option (Bool))).bind fun x_8 =>
 some x_8) : Option (Bool))).bind fun x_3 =>
 if x_3 = true then
 some false
 else
 (f15 l q i).bind fun o17 =>
 (ix q.Atoms k).bind fun v_19 =>
 (f31 v_19).bind fun o21 =>
 (iter (f9_0 o17 o21) 0).bind fun o => match o with
 | .inl _ =>
 some false
 | .inr x_32 =>
 some x_32
def f33 (l : (List Relation)) (q : Query) (from2 : (List Int)) (to : (List Int)) : Option Bool :=
 (f19 l q).bind fun o1 =>
 (((if o1 = true then
 (f36 l q (-1) from2).bind fun o6 =>
 (f55 o6 to).bind fun o8 =>
 some o8
 else
 some false) : Option (Bool))).bind fun x_3 =>
 some x_3
def f10 (l : (List Relation)) (q : Query) (i : Int) (k : Int) : Option Bool :=
 (f9 l q i k).bind fun o1 =>
 (((if o1 = true then
 (ix q.Atoms i).bind fun v_6 =>
 (ix q.Atoms k).bind fun v_8 =>
 (f34 l v_6).bind fun o10 =>
 (f34 l v_8).bind fun o12 =>
 (f33 l q o10 o12).bind fun o14 =>
 some o14
 else
 some false) : Option (Bool))).bind fun x_3 =>
 some x_3
def f11 (relations : (List Relation)) (query : Query) (atom : Int) : Option (List Int) :=
 (f25 relations query).bind fun o1 =>
 (((if ¬ (o1 = true) then
 some true
 else
 (f26 atom 0 (w64 ((query.Atoms.length : Int) - 1))).bind fun o6 =>
 some (decide (¬ (o6 = true)))) : Option (Bool))).bind fun x_3 =>
 if x_3 = true then
 some ([])
 else
 (f35 relations query.Atoms query.Free atom).bind fun o9 =>
 some o9
def f13_0 (l : (List Int)) (x : Int) : Int → Option (Int ⊕ (Unit ⊕ Bool))
 | i_1 =>
  if i_1 < (l.length : Int) then
  (ix l i_1).bind fun v_3 =>
  if v_3 = x then
  some (.inr (.inr true))
  else
  some (.inl (w64 (i_1 + 1)))
  else
  some (.inr (.inl ()))
def f13 (l : (List Int)) (x : Int) : Option Bool :=
 (iter (f13_0 l x) 0).bind fun o => match o with
 | .inl _ =>
 some false
 | .inr x_8 =>
 some x_8
def f14_0 (a : (List Int)) (b : (List Int)) : Int → Option (Int ⊕ (Unit ⊕ Bool))
 | i_2 =>
  if i_2 < (a.length : Int) then
  (ix a i_2).bind fun v_4 =>
  (ix b i_2).bind fun v_6 =>
  if v_4 ≠ v_6 then
  some (.inr (.inr false))
  else
  some (.inl (w64 (i_2 + 1)))
  else
  some (.inr (.inl ()))
def f14 (a : (List Int)) (b : (List Int)) : Option Bool :=
 if (a.length : Int) ≠ (b.length : Int) then
 some false
 else
 (iter (f14_0 a b) 0).bind fun o => match o with
 | .inl _ =>
 some true
 | .inr x_11 =>
 some x_11
def f16_1 (relations : (List Relation)) (query : Query) (v_19 : Int) : (List Bool) × (List Int) × Int → Option (((List Bool) × (List Int) × Int) ⊕ ((List Bool) × (List Int)))
 | (reached_23, todo_24, x_25) =>
  if x_25 < (query.Atoms.length : Int) then
  (ix reached_23 x_25).bind fun v_27 =>
  (((if ¬ (v_27 = true) then
  (f7 relations query v_19 x_25).bind fun o32 =>
  some o32
  else
  some false) : Option (Bool))).bind fun x_29 =>
  (((if x_29 = true then
  (app 8 todo_24 ([x_25])).bind fun l_38 =>
  some ((reached_23.set x_25.toNat true), l_38)
  else
  some (reached_23, todo_24)) : Option ((List Bool) × (List Int)))).bind fun (reached_40, todo_41) =>
  some (.inl (reached_40, todo_41, w64 (x_25 + 1)))
  else
  some (.inr (reached_23, todo_24))
def f16_0 (relations : (List Relation)) (query : Query) : (List Bool) × (List Int) → Option (((List Bool) × (List Int)) ⊕ (List Bool))
 | (reached_16, todo_17) =>
  if (todo_17.length : Int) > 0 then
  (ix todo_17 0).bind fun v_19 =>
  (cutL todo_17 1 todo_17.length).bind fun l_21 =>
  (iter ((f16_1 relations query v_19)) (reached_16, l_21, 0)).bind fun (reached_44, todo_45) =>
  some (.inl (reached_44, todo_45))
  else
  some (.inr reached_16)
def f16 (relations : (List Relation)) (query : Query) (from2 : Int) (to : Int) : Option Bool :=
 (f25 relations query).bind fun o1 =>
 (((if ¬ (o1 = true) then
 some true
 else
 (f26 from2 0 (w64 ((query.Atoms.length : Int) - 1))).bind fun o6 =>
 (((if ¬ (o6 = true) then
 some true
 else
 (f26 to 0 (w64 ((query.Atoms.length : Int) - 1))).bind fun o11 =>
 some (decide (¬ (o11 = true)))) : Option (Bool))).bind fun x_8 =>
 some x_8) : Option (Bool))).bind fun x_3 =>
 if x_3 = true then
 some false
 else
 (mkl 1 (w64 ((w64 ((query.Atoms.length : Int) - 1)) + 1)) false).bind fun l_14 =>
 (iter ((f16_0 relations query)) (l_14, [from2])).bind fun reached_48 =>
 (ix reached_48 to).bind fun v_49 =>
 some v_49
def f17_0 (relations : (List Relation)) (query : Query) : Int → Option (Int ⊕ (Unit ⊕ Bool))
 | x_1 =>
  if x_1 < (query.Atoms.length : Int) then
  (f16 relations query x_1 x_1).bind fun o3 =>
  if o3 = true then
  some (.inr (.inr true))
  else
  some (.inl (w64 (x_1 + 1)))
  else
  some (.inr (.inl ()))
def f17 (relations : (List Relation)) (query : Query) : Option Bool :=
 (iter (f17_0 relations query) 0).bind fun o => match o with
 | .inl _ =>
 some false
 | .inr x_8 =>
 some x_8
def f3_0 (o31 : (List Int)) (o33 : (List Int)) : Int → Option (Int ⊕ (Unit ⊕ Bool))
 | j_35 =>
  if j_35 < (o31.length : Int) then
  (ix o31 j_35).bind fun v_37 =>
  (f13 o33 v_37).bind fun o39 =>
  if o39 = true then
  some (.inr (.inr false))
  else
  some (.inl (w64 (j_35 + 1)))
  else
  some (.inr (.inl ()))
def f3 (code : (List Int)) : Option Bool :=
 (f5 code).bind fun o1 =>
 if o1 = true then
 some true
 else
 (f6 code).bind fun o4 =>
 (f7 o4.1 o4.2.1 o4.2.2.1 o4.2.2.2).bind fun o6 =>
 (f8 o4.1 o4.2.1 o4.2.2.1 o4.2.2.2).bind fun o8 =>
 (f9 o4.1 o4.2.1 o4.2.2.1 o4.2.2.2).bind fun o10 =>
 (((if (o6 != o10) = true then
 some true
 else
 (f10 o4.1 o4.2.1 o4.2.2.1 o4.2.2.2).bind fun o15 =>
 (((if (o8 != o15) = true then
 some true
 else
 (((if o8 = true then
 (((if ¬ (o6 = true) then
 some true
 else
 (f7 o4.1 o4.2.1 o4.2.2.1 o4.2.2.1).bind fun o26 =>
 some o26) : Option (Bool))).bind fun x_23 =>
 some x_23
 else
 (f7 o4.1 o4.2.1 o4.2.2.1 o4.2.2.1).bind fun o28 =>
 some o28) : Option (Bool))).bind fun x_20 =>
 some x_20) : Option (Bool))).bind fun x_17 =>
 some x_17) : Option (Bool))).bind fun x_12 =>
 if x_12 = true then
 some false
 else
 (f11 o4.1 o4.2.1 o4.2.2.1).bind fun o31 =>
 (f12 o4.1 o4.2.1 o4.2.2.1).bind fun o33 =>
 (iter ((f3_0 o31 o33)) 0).bind fun o => match o with
 | .inl _ =>
 (f15 o4.1 o4.2.1 o4.2.2.1).bind fun o45 =>
 (f14 o31 o45).bind fun o47 =>
 (((if o47 = true then
 (((if ¬ (o6 = true) then
 some true
 else
 (f16 o4.1 o4.2.1 o4.2.2.1 o4.2.2.2).bind fun o55 =>
 (((if o55 = true then
 (f7 o4.1 o4.2.1 o4.2.2.2 o4.2.2.1).bind fun o60 =>
 (((if ¬ (o60 = true) then
 some true
 else
 (f17 o4.1 o4.2.1).bind fun o65 =>
 some o65) : Option (Bool))).bind fun x_62 =>
 some x_62
 else
 some false) : Option (Bool))).bind fun x_57 =>
 some x_57) : Option (Bool))).bind fun x_52 =>
 some x_52
 else
 some false) : Option (Bool))).bind fun x_49 =>
 some x_49
 | .inr x_44 =>
 some x_44
end
end Go.Proofs.YtcllfkplpdppiaaH
