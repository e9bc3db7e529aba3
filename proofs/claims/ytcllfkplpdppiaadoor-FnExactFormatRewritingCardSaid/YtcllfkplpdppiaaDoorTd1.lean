import Derived.Test.YtcllfkplpdppiaaDoorX3
set_option linter.unusedVariables false
set_option linter.unusedSimpArgs false
set_option linter.defProp false
set_option linter.unusedSectionVars false
set_option maxRecDepth 100000
namespace Go.Proofs.YtcllfkplpdppiaaDoorH
open Go
noncomputable section
structure Relation where
 Name : (List UInt8)
 Arity : Int
 KeyLength : Int
 deriving DecidableEq, Inhabited
def eRelation : En Relation := ⟨3, fun _ a => [(.str a.Name), (.int .i64 a.Arity), (.int .i64 a.KeyLength)], fun b a => by cases b <;> rfl, by decide, fun b a => by cases b <;> simp [T.frz], fun a => by simp, fun a => by simp, fun b a => by cases b <;> simp⟩
@[simp] theorem eRelation_w : eRelation.w = 3 := rfl
@[simp] theorem eRelation_ct {a : Relation} : eRelation.c true a = [(.str a.Name), (.int .i64 a.Arity), (.int .i64 a.KeyLength)] := rfl
@[simp] theorem eRelation_cf {a : Relation} : eRelation.c false a = [(.str a.Name), (.int .i64 a.Arity), (.int .i64 a.KeyLength)] := rfl
@[simp] theorem arrRelation_len {b : Bool} {l : List Relation} : (arr eRelation b l).length = l.length * 3 := arr_len
@[simp] theorem eRelation_e (a : Relation) : Relation.mk a.Name a.Arity a.KeyLength = a := rfl
@[simp] def q0Relation {b l i o} := @arr_get2 _ eRelation b l i o 3 rfl
@[simp] def q1Relation {b l i} := @arr_get20 _ eRelation b l i 3 rfl
@[simp] def q2Relation {b l o} := @arr_get0 _ eRelation b l o 3 rfl
@[simp] def q3Relation {b l} := @arr_take0 _ eRelation b l 3 rfl
@[simp] def q4Relation {b l i o} := @arr_part _ eRelation b l i o 3 rfl
@[simp] def q5Relation {b l i o j} := @arr_part2 _ eRelation b l i o 3 j rfl
@[simp] def q6Relation {b l} := @arr_at2 _ eRelation b l 3 rfl
@[simp] def q7Relation {b l} := @arr_take2 _ eRelation b l 3 rfl
@[simp] def q8Relation {b l l' bs y} := @appT_w _ eRelation b l l' bs y 3 rfl
@[simp] def q10Relation {z0 z1 z2 n} := @rep_w _ eRelation true n ⟨z0, z1, z2⟩ [(.str z0), (.int .i64 z1), (.int .i64 z2)] rfl
@[simp] def q71Relation {b l} := @arr_tl _ eRelation b l 3 rfl
@[simp] def q70Relation {b l i} := @arr_tk _ eRelation b l i 3 rfl
@[simp] theorem q40Relation {b : Bool} {l' : List Relation} {bs : Nat} {y : Bool} (hb : bs ≠ 0) : appT 3 bs (.sl true y 3 0 []) (arr eRelation b l') = (app bs [] l').map fun v => .sl true y 3 0 (arr eRelation true v) := appT_w0 (E := eRelation) (b := b) rfl hb
@[simp] theorem q50Relation {l : List Relation} {i : Nat} {z : (List UInt8)} (h : i < l.length) : layT (arr eRelation true l) (i * 3) 1 [(.str z)] = arr eRelation true (l.set i ⟨z, (l[i]?.getD default).Arity, (l[i]?.getD default).KeyLength⟩) := by rw [List.getElem?_eq_getElem h]; exact lay_cell (E := eRelation) (b := true) (i := i) (o := 0) ⟨z, l[i].Arity, l[i].KeyLength⟩ (List.getElem?_eq_getElem h) (by decide) rfl
@[simp] theorem q60Relation {l : List Relation} {i : Nat} {z : (List UInt8)} (h : i < l.length) : (arr eRelation true l).set (i * 3) (.str z) = arr eRelation true (l.set i ⟨z, (l[i]?.getD default).Arity, (l[i]?.getD default).KeyLength⟩) := by rw [List.getElem?_eq_getElem h]; exact set_cell (E := eRelation) (b := true) (i := i) (o := 0) ⟨z, l[i].Arity, l[i].KeyLength⟩ (List.getElem?_eq_getElem h) (by decide) rfl
@[simp] theorem q51Relation {l : List Relation} {i : Nat} {z : Int} (h : i < l.length) : layT (arr eRelation true l) (i * 3 + 1) 1 [(.int .i64 z)] = arr eRelation true (l.set i ⟨(l[i]?.getD default).Name, z, (l[i]?.getD default).KeyLength⟩) := by rw [List.getElem?_eq_getElem h]; exact lay_cell (E := eRelation) (b := true) (i := i) (o := 1) ⟨l[i].Name, z, l[i].KeyLength⟩ (List.getElem?_eq_getElem h) (by decide) rfl
@[simp] theorem q61Relation {l : List Relation} {i : Nat} {z : Int} (h : i < l.length) : (arr eRelation true l).set (i * 3 + 1) (.int .i64 z) = arr eRelation true (l.set i ⟨(l[i]?.getD default).Name, z, (l[i]?.getD default).KeyLength⟩) := by rw [List.getElem?_eq_getElem h]; exact set_cell (E := eRelation) (b := true) (i := i) (o := 1) ⟨l[i].Name, z, l[i].KeyLength⟩ (List.getElem?_eq_getElem h) (by decide) rfl
@[simp] theorem q52Relation {l : List Relation} {i : Nat} {z : Int} (h : i < l.length) : layT (arr eRelation true l) (i * 3 + 2) 1 [(.int .i64 z)] = arr eRelation true (l.set i ⟨(l[i]?.getD default).Name, (l[i]?.getD default).Arity, z⟩) := by rw [List.getElem?_eq_getElem h]; exact lay_cell (E := eRelation) (b := true) (i := i) (o := 2) ⟨l[i].Name, l[i].Arity, z⟩ (List.getElem?_eq_getElem h) (by decide) rfl
@[simp] theorem q62Relation {l : List Relation} {i : Nat} {z : Int} (h : i < l.length) : (arr eRelation true l).set (i * 3 + 2) (.int .i64 z) = arr eRelation true (l.set i ⟨(l[i]?.getD default).Name, (l[i]?.getD default).Arity, z⟩) := by rw [List.getElem?_eq_getElem h]; exact set_cell (E := eRelation) (b := true) (i := i) (o := 2) ⟨l[i].Name, l[i].Arity, z⟩ (List.getElem?_eq_getElem h) (by decide) rfl
@[simp] def q20Relation {b z0 z1 z2 l bs y} := @appT_1w _ eRelation b l bs y 3 rfl ⟨z0, z1, z2⟩ [(.str z0), (.int .i64 z1), (.int .i64 z2)] rfl
@[simp] def q23Relation {b z0 z1 z2 l' bs y} := @appT_11 _ eRelation b l' bs y 3 rfl ⟨z0, z1, z2⟩ [(.str z0), (.int .i64 z1), (.int .i64 z2)] rfl
@[simp] def q22Relation {b z0 z1 z2 bs y} := @appT_10 _ eRelation b bs y 3 rfl ⟨z0, z1, z2⟩ [(.str z0), (.int .i64 z1), (.int .i64 z2)] rfl
@[simp] def q21Relation {b z0 z1 z2 l i} := @lay_w _ eRelation b l i 3 rfl ⟨z0, z1, z2⟩ [(.str z0), (.int .i64 z1), (.int .i64 z2)] rfl
structure Atom where
 Relation : Int
 Terms : (List Int)
 deriving DecidableEq, Inhabited
def eAtom : En Atom := ⟨2, fun b a => if b then [(.int .i64 a.Relation), (osl eI true a.Terms)] else [(.int .i64 a.Relation), (ssl eI a.Terms)], fun b a => by cases b <;> rfl, by decide, fun b a => by cases b <;> simp [T.frz], fun a => by simp, fun a => by simp, fun b a => by cases b <;> simp⟩
@[simp] theorem eAtom_w : eAtom.w = 2 := rfl
@[simp] theorem eAtom_ct {a : Atom} : eAtom.c true a = [(.int .i64 a.Relation), (osl eI true a.Terms)] := rfl
@[simp] theorem eAtom_cf {a : Atom} : eAtom.c false a = [(.int .i64 a.Relation), (ssl eI a.Terms)] := rfl
@[simp] theorem eAtom_e (a : Atom) : Atom.mk a.Relation a.Terms = a := rfl
structure RewritingStep where
 Atom : Atom
 Existential : (List Int)
 Universal : (List Int)
 deriving DecidableEq, Inhabited
def eRewritingStep : En RewritingStep := ⟨4, fun b a => if b then [(.int .i64 a.Atom.Relation), (osl eI true a.Atom.Terms), (osl eI true a.Existential), (osl eI true a.Universal)] else [(.int .i64 a.Atom.Relation), (ssl eI a.Atom.Terms), (ssl eI a.Existential), (ssl eI a.Universal)], fun b a => by cases b <;> rfl, by decide, fun b a => by cases b <;> simp [T.frz], fun a => by simp, fun a => by simp, fun b a => by cases b <;> simp⟩
@[simp] theorem eRewritingStep_w : eRewritingStep.w = 4 := rfl
@[simp] theorem eRewritingStep_ct {a : RewritingStep} : eRewritingStep.c true a = [(.int .i64 a.Atom.Relation), (osl eI true a.Atom.Terms), (osl eI true a.Existential), (osl eI true a.Universal)] := rfl
@[simp] theorem eRewritingStep_cf {a : RewritingStep} : eRewritingStep.c false a = [(.int .i64 a.Atom.Relation), (ssl eI a.Atom.Terms), (ssl eI a.Existential), (ssl eI a.Universal)] := rfl
@[simp] theorem arrRewritingStep_len {b : Bool} {l : List RewritingStep} : (arr eRewritingStep b l).length = l.length * 4 := arr_len
@[simp] theorem eRewritingStep_e (a : RewritingStep) : RewritingStep.mk a.Atom a.Existential a.Universal = a := rfl
@[simp] def q0RewritingStep {b l i o} := @arr_get2 _ eRewritingStep b l i o 4 rfl
@[simp] def q1RewritingStep {b l i} := @arr_get20 _ eRewritingStep b l i 4 rfl
@[simp] def q2RewritingStep {b l o} := @arr_get0 _ eRewritingStep b l o 4 rfl
@[simp] def q3RewritingStep {b l} := @arr_take0 _ eRewritingStep b l 4 rfl
@[simp] def q4RewritingStep {b l i o} := @arr_part _ eRewritingStep b l i o 4 rfl
@[simp] def q5RewritingStep {b l i o j} := @arr_part2 _ eRewritingStep b l i o 4 j rfl
@[simp] def q6RewritingStep {b l} := @arr_at2 _ eRewritingStep b l 4 rfl
@[simp] def q7RewritingStep {b l} := @arr_take2 _ eRewritingStep b l 4 rfl
@[simp] def q8RewritingStep {b l l' bs y} := @appT_w _ eRewritingStep b l l' bs y 4 rfl
@[simp] def q10RewritingStep {z0 z1 z2 n} := @rep_w _ eRewritingStep true n ⟨z0, z1, z2⟩ [(.int .i64 z0.Relation), (.sl true true 1 0 (arr eI true z0.Terms)), (.sl true true 1 0 (arr eI true z1)), (.sl true true 1 0 (arr eI true z2))] rfl
@[simp] def q71RewritingStep {b l} := @arr_tl _ eRewritingStep b l 4 rfl
@[simp] def q70RewritingStep {b l i} := @arr_tk _ eRewritingStep b l i 4 rfl
@[simp] def q40RewritingStep {b l' bs y} := @appT_w0 _ eRewritingStep b l' bs y 4 rfl
@[simp] theorem q51RewritingStep {l : List RewritingStep} {i : Nat} {z : (List Int)} (h : i < l.length) : layT (arr eRewritingStep true l) (i * 4 + 2) 1 [(.sl true true 1 0 (arr eI true z))] = arr eRewritingStep true (l.set i ⟨(l[i]?.getD default).Atom, z, (l[i]?.getD default).Universal⟩) := by rw [List.getElem?_eq_getElem h]; exact lay_cell (E := eRewritingStep) (b := true) (i := i) (o := 2) ⟨l[i].Atom, z, l[i].Universal⟩ (List.getElem?_eq_getElem h) (by decide) rfl
@[simp] theorem q61RewritingStep {l : List RewritingStep} {i : Nat} {z : (List Int)} (h : i < l.length) : (arr eRewritingStep true l).set (i * 4 + 2) (.sl true true 1 0 (arr eI true z)) = arr eRewritingStep true (l.set i ⟨(l[i]?.getD default).Atom, z, (l[i]?.getD default).Universal⟩) := by rw [List.getElem?_eq_getElem h]; exact set_cell (E := eRewritingStep) (b := true) (i := i) (o := 2) ⟨l[i].Atom, z, l[i].Universal⟩ (List.getElem?_eq_getElem h) (by decide) rfl
@[simp] theorem q52RewritingStep {l : List RewritingStep} {i : Nat} {z : (List Int)} (h : i < l.length) : layT (arr eRewritingStep true l) (i * 4 + 3) 1 [(.sl true true 1 0 (arr eI true z))] = arr eRewritingStep true (l.set i ⟨(l[i]?.getD default).Atom, (l[i]?.getD default).Existential, z⟩) := by rw [List.getElem?_eq_getElem h]; exact lay_cell (E := eRewritingStep) (b := true) (i := i) (o := 3) ⟨l[i].Atom, l[i].Existential, z⟩ (List.getElem?_eq_getElem h) (by decide) rfl
@[simp] theorem q62RewritingStep {l : List RewritingStep} {i : Nat} {z : (List Int)} (h : i < l.length) : (arr eRewritingStep true l).set (i * 4 + 3) (.sl true true 1 0 (arr eI true z)) = arr eRewritingStep true (l.set i ⟨(l[i]?.getD default).Atom, (l[i]?.getD default).Existential, z⟩) := by rw [List.getElem?_eq_getElem h]; exact set_cell (E := eRewritingStep) (b := true) (i := i) (o := 3) ⟨l[i].Atom, l[i].Existential, z⟩ (List.getElem?_eq_getElem h) (by decide) rfl
@[simp] def q20RewritingStep {z0 z1 z2 l bs y} := @appT_1w _ eRewritingStep true l bs y 4 rfl ⟨z0, z1, z2⟩ [(.int .i64 z0.Relation), (.sl true true 1 0 (arr eI true z0.Terms)), (.sl true true 1 0 (arr eI true z1)), (.sl true true 1 0 (arr eI true z2))] rfl
@[simp] def q23RewritingStep {z0 z1 z2 l' bs y} := @appT_11 _ eRewritingStep true l' bs y 4 rfl ⟨z0, z1, z2⟩ [(.int .i64 z0.Relation), (.sl true true 1 0 (arr eI true z0.Terms)), (.sl true true 1 0 (arr eI true z1)), (.sl true true 1 0 (arr eI true z2))] rfl
@[simp] def q22RewritingStep {z0 z1 z2 bs y} := @appT_10 _ eRewritingStep true bs y 4 rfl ⟨z0, z1, z2⟩ [(.int .i64 z0.Relation), (.sl true true 1 0 (arr eI true z0.Terms)), (.sl true true 1 0 (arr eI true z1)), (.sl true true 1 0 (arr eI true z2))] rfl
@[simp] def q21RewritingStep {z0 z1 z2 l i} := @lay_w _ eRewritingStep true l i 4 rfl ⟨z0, z1, z2⟩ [(.int .i64 z0.Relation), (.sl true true 1 0 (arr eI true z0.Terms)), (.sl true true 1 0 (arr eI true z1)), (.sl true true 1 0 (arr eI true z2))] rfl
@[simp] def q30RewritingStep {z0 z1 z2 l bs y} := @appT_1w _ eRewritingStep false l bs y 4 rfl ⟨z0, z1, z2⟩ [(.int .i64 z0.Relation), (.sl false false 1 1 (arr eI false z0.Terms)), (.sl false false 1 1 (arr eI false z1)), (.sl false false 1 1 (arr eI false z2))] rfl
@[simp] def q33RewritingStep {z0 z1 z2 l' bs y} := @appT_11 _ eRewritingStep false l' bs y 4 rfl ⟨z0, z1, z2⟩ [(.int .i64 z0.Relation), (.sl false false 1 1 (arr eI false z0.Terms)), (.sl false false 1 1 (arr eI false z1)), (.sl false false 1 1 (arr eI false z2))] rfl
@[simp] def q32RewritingStep {z0 z1 z2 bs y} := @appT_10 _ eRewritingStep false bs y 4 rfl ⟨z0, z1, z2⟩ [(.int .i64 z0.Relation), (.sl false false 1 1 (arr eI false z0.Terms)), (.sl false false 1 1 (arr eI false z1)), (.sl false false 1 1 (arr eI false z2))] rfl
@[simp] def q31RewritingStep {z0 z1 z2 l i} := @lay_w _ eRewritingStep false l i 4 rfl ⟨z0, z1, z2⟩ [(.int .i64 z0.Relation), (.sl false false 1 1 (arr eI false z0.Terms)), (.sl false false 1 1 (arr eI false z1)), (.sl false false 1 1 (arr eI false z2))] rfl
def f34 (a : Relation) (left : Int) : Option Int :=
 if (w64 (left - (a.Name.length : Int))) < 0 then
 some (-1)
 else
 some (w64 (left - (a.Name.length : Int)))
def f13_0 (a : (List Relation)) : Int × Int → Option ((Int × Int) ⊕ (Int ⊕ Int))
 | (left_2, i_3) =>
  if i_3 < (a.length : Int) then
  (ix a i_3).bind fun v_5 =>
  (f34 v_5 left_2).bind fun o7 =>
  if o7 < 0 then
  some (.inr (.inr (-1)))
  else
  some (.inl (o7, w64 (i_3 + 1)))
  else
  some (.inr (.inl left_2))
def f13 (a : (List Relation)) (left : Int) : Option Int :=
 if (w64 (left - (a.length : Int))) < 0 then
 some (-1)
 else
 (iter (f13_0 a) (w64 (left - (a.length : Int)), 0)).bind fun o => match o with
 | .inl left_12 =>
 some left_12
 | .inr x_13 =>
 some x_13
def f47 (a : (List Int)) (left : Int) : Option Int :=
 if (w64 (left - (a.length : Int))) < 0 then
 some (-1)
 else
 some (w64 (left - (a.length : Int)))
def f66 (a : Atom) (left : Int) : Option Int :=
 (f47 a.Terms left).bind fun o1 =>
 if o1 < 0 then
 some (-1)
 else
 some o1
def f35 (a : RewritingStep) (left : Int) : Option Int :=
 (f66 a.Atom left).bind fun o1 =>
 if o1 < 0 then
 some (-1)
 else
 (f47 a.Existential o1).bind fun o4 =>
 if o4 < 0 then
 some (-1)
 else
 (f47 a.Universal o4).bind fun o7 =>
 if o7 < 0 then
 some (-1)
 else
 some o7
def f14_0 (a : (List RewritingStep)) : Int × Int → Option ((Int × Int) ⊕ (Int ⊕ Int))
 | (left_2, i_3) =>
  if i_3 < (a.length : Int) then
  (ix a i_3).bind fun v_5 =>
  (f35 v_5 left_2).bind fun o7 =>
  if o7 < 0 then
  some (.inr (.inr (-1)))
  else
  some (.inl (o7, w64 (i_3 + 1)))
  else
  some (.inr (.inl left_2))
def f14 (a : (List RewritingStep)) (left : Int) : Option Int :=
 if (w64 (left - (a.length : Int))) < 0 then
 some (-1)
 else
 (iter (f14_0 a) (w64 (left - (a.length : Int)), 0)).bind fun o => match o with
 | .inl left_12 =>
 some left_12
 | .inr x_13 =>
 some x_13
def f39 (a : Relation) : Option Relation :=
 some a
def f16_0 (a : (List Relation)) : (List Relation) × Int → Option (((List Relation) × Int) ⊕ (List Relation))
 | (out_3, i_4) =>
  if i_4 < (a.length : Int) then
  (ix a i_4).bind fun v_6 =>
  (f39 v_6).bind fun o8 =>
  (ix out_3 i_4).bind fun v_10 =>
  some (.inl ((out_3.set i_4.toNat o8), w64 (i_4 + 1)))
  else
  some (.inr out_3)
def f16 (a : (List Relation)) : Option (List Relation) :=
 (mkl 32 (a.length : Int) ({ Name := [], Arity := 0, KeyLength := 0 } : Relation)).bind fun l_1 =>
 (iter (f16_0 a) (l_1, 0)).bind fun out_15 =>
 some out_15
def f54_0 (a : (List Int)) : (List Int) × Int → Option (((List Int) × Int) ⊕ (List Int))
 | (out_3, i_4) =>
  if i_4 < (a.length : Int) then
  (ix a i_4).bind fun v_6 =>
  (ix out_3 i_4).bind fun v_8 =>
  some (.inl ((out_3.set i_4.toNat v_6), w64 (i_4 + 1)))
  else
  some (.inr out_3)
def f54 (a : (List Int)) : Option (List Int) :=
 (mkl 8 (a.length : Int) 0).bind fun l_1 =>
 (iter (f54_0 a) (l_1, 0)).bind fun out_13 =>
 some out_13
def f72 (a : Atom) : Option Atom :=
 (f54 a.Terms).bind fun o1 =>
 some ({ Relation := a.Relation, Terms := o1 } : Atom)
def f40 (a : RewritingStep) : Option RewritingStep :=
 (f72 a.Atom).bind fun o1 =>
 (f54 a.Existential).bind fun o3 =>
 (f54 a.Universal).bind fun o5 =>
 some ({ Atom := o1, Existential := o3, Universal := o5 } : RewritingStep)
def f17_0 (a : (List RewritingStep)) : (List RewritingStep) × Int → Option (((List RewritingStep) × Int) ⊕ (List RewritingStep))
 | (out_3, i_4) =>
  if i_4 < (a.length : Int) then
  (ix a i_4).bind fun v_6 =>
  (f40 v_6).bind fun o8 =>
  (ix out_3 i_4).bind fun v_10 =>
  some (.inl ((out_3.set i_4.toNat o8), w64 (i_4 + 1)))
  else
  some (.inr out_3)
def f17 (a : (List RewritingStep)) : Option (List RewritingStep) :=
 (mkl 80 (a.length : Int) (({ Atom := ({ Relation := 0, Terms := [] } : Atom), Existential := [], Universal := [] } : RewritingStep) : RewritingStep)).bind fun l_1 =>
 (iter (f17_0 a) (l_1, 0)).bind fun out_15 =>
 some out_15
def f67 (x : Int) (low : Int) (high : Int) : Option Bool :=
 (((if x ≥ low then
 some (decide (x ≤ high))
 else
 some false) : Option (Bool))).bind fun x_1 =>
 some x_1
def f83 (s0 : Relation) : Option Bool :=
 (((if (s0.Name.length : Int) = 1 then
 (ix s0.Name 0).bind fun c_4 =>
 (((if (c_4.toNat : Int) ≥ 97 then
 (((if (c_4.toNat : Int) ≤ 122 then
 (f67 s0.Arity 1 3).bind fun o12 =>
 (((if o12 = true then
 (f67 s0.KeyLength 0 s0.Arity).bind fun o17 =>
 some o17
 else
 some false) : Option (Bool))).bind fun x_14 =>
 some x_14
 else
 some false) : Option (Bool))).bind fun x_9 =>
 some x_9
 else
 some false) : Option (Bool))).bind fun x_6 =>
 some x_6
 else
 some false) : Option (Bool))).bind fun x_1 =>
 some x_1
def f50_0 (l : (List Relation)) : Int → Option (Int ⊕ (Unit ⊕ Bool))
 | i_1 =>
  if i_1 < (l.length : Int) then
  (ix l i_1).bind fun v_3 =>
  (f83 v_3).bind fun o5 =>
  (((if ¬ (o5 = true) then
  some true
  else
  (((if i_1 > 0 then
  (ix l (w64 (i_1 - 1))).bind fun v_13 =>
  some (!(Op.bytesLess v_13.Name v_3.Name))
  else
  some false) : Option (Bool))).bind fun x_10 =>
  some x_10) : Option (Bool))).bind fun x_7 =>
  if x_7 = true then
  some (.inr (.inr false))
  else
  some (.inl (w64 (i_1 + 1)))
  else
  some (.inr (.inl ()))
def f50 (l : (List Relation)) : Option Bool :=
 (iter (f50_0 l) 0).bind fun o => match o with
 | .inl _ =>
 some (decide ((l.length : Int) ≤ 4))
 | .inr x_18 =>
 some x_18
def f94_0 (l : (List Int)) (x : Int) : Int → Option (Int ⊕ (Unit ⊕ Bool))
 | i_1 =>
  if i_1 < (l.length : Int) then
  (ix l i_1).bind fun v_3 =>
  if v_3 = x then
  some (.inr (.inr true))
  else
  some (.inl (w64 (i_1 + 1)))
  else
  some (.inr (.inl ()))
def f94 (l : (List Int)) (x : Int) : Option Bool :=
 (iter (f94_0 l x) 0).bind fun o => match o with
 | .inl _ =>
 some false
 | .inr x_8 =>
 some x_8
def f70_0 (a : Atom) : (List Int) × Int → Option (((List Int) × Int) ⊕ (List Int))
 | (out_1, v_2) =>
  if v_2 < 4 then
  (f94 a.Terms v_2).bind fun o4 =>
  (((if o4 = true then
  (app 8 out_1 ([v_2])).bind fun l_9 =>
  some l_9
  else
  some out_1) : Option (List Int))).bind fun out_11 =>
  some (.inl (out_11, w64 (v_2 + 1)))
  else
  some (.inr out_1)
def f70 (a : Atom) : Option (List Int) :=
 (iter (f70_0 a) ([], 0)).bind fun out_14 =>
 some out_14
def f69 (l : (List Relation)) (a : Atom) : Option (List Int) :=
 (f67 a.Relation 0 (w64 ((l.length : Int) - 1))).bind fun o1 =>
 (((if ¬ (o1 = true) then
 some true
 else
 (ix l a.Relation).bind fun v_6 =>
 (f67 v_6.KeyLength 0 (a.Terms.length : Int)).bind fun o8 =>
 some (decide (¬ (o8 = true)))) : Option (Bool))).bind fun x_3 =>
 if x_3 = true then
 some ([])
 else
 (ix l a.Relation).bind fun v_11 =>
 (cutL a.Terms 0 v_11.KeyLength).bind fun l_13 =>
 (f70 ({ Relation := 0, Terms := l_13 } : Atom)).bind fun o15 =>
 some o15
def f68_0 (l : (List Int)) (want : (List Int)) : Int → Option (Int ⊕ (Unit ⊕ Bool))
 | i_1 =>
  if i_1 < (want.length : Int) then
  (ix want i_1).bind fun v_3 =>
  (f94 l v_3).bind fun o5 =>
  if ¬ (o5 = true) then
  some (.inr (.inr false))
  else
  some (.inl (w64 (i_1 + 1)))
  else
  some (.inr (.inl ()))
def f68 (l : (List Int)) (want : (List Int)) : Option Bool :=
 (iter (f68_0 l want) 0).bind fun o => match o with
 | .inl _ =>
 some true
 | .inr x_10 =>
 some x_10
def f36_1 (v_3 : RewritingStep) : Int → Option (Int ⊕ (Unit ⊕ Bool))
 | k_18 =>
  if k_18 < (v_3.Atom.Terms.length : Int) then
  (ix v_3.Atom.Terms k_18).bind fun v_20 =>
  (f67 v_20 (-10) 3).bind fun o22 =>
  if ¬ (o22 = true) then
  some (.inr (.inr false))
  else
  some (.inl (w64 (k_18 + 1)))
  else
  some (.inr (.inl ()))
def f36_0 (l : (List Relation)) (f : (List RewritingStep)) : Int → Option (Int ⊕ (Unit ⊕ Bool))
 | i_1 =>
  if i_1 < (f.length : Int) then
  (ix f i_1).bind fun v_3 =>
  (f50 l).bind fun o5 =>
  (((if ¬ (o5 = true) then
  some true
  else
  (f67 v_3.Atom.Relation 0 (w64 ((l.length : Int) - 1))).bind fun o10 =>
  (((if ¬ (o10 = true) then
  some true
  else
  (ix l v_3.Atom.Relation).bind fun v_15 =>
  some (decide ((v_3.Atom.Terms.length : Int) ≠ v_15.Arity))) : Option (Bool))).bind fun x_12 =>
  some x_12) : Option (Bool))).bind fun x_7 =>
  if x_7 = true then
  some (.inr (.inr false))
  else
  (iter ((f36_1 v_3)) 0).bind fun o => match o with
  | .inl _ =>
  (f69 l v_3.Atom).bind fun o28 =>
  (f68 o28 v_3.Existential).bind fun o30 =>
  (((if ¬ (o30 = true) then
  some true
  else
  (f70 v_3.Atom).bind fun o35 =>
  (f68 o35 v_3.Universal).bind fun o37 =>
  some (decide (¬ (o37 = true)))) : Option (Bool))).bind fun x_32 =>
  if x_32 = true then
  some (.inr (.inr false))
  else
  some (.inl (w64 (i_1 + 1)))
  | .inr x_27 =>
  some (.inr (.inr x_27))
  else
  some (.inr (.inl ()))
def f36 (l : (List Relation)) (f : (List RewritingStep)) : Option Bool :=
 (iter (f36_0 l f) 0).bind fun o => match o with
 | .inl _ =>
 some (decide ((f.length : Int) ≤ 3))
 | .inr x_42 =>
 some x_42
def f95 (t : Int) : Option (Int × Bool) :=
 (((if t ≥ 0 then
 some true
 else
 (f67 (w64 ((-1) - t)) 0 9).bind fun o4 =>
 some (decide (¬ (o4 = true)))) : Option (Bool))).bind fun x_1 =>
 if x_1 = true then
 some (0, false)
 else
 some (w64 ((-1) - t), true)
def f25_0 : Int × (List UInt8) → Option ((Int × (List UInt8)) ⊕ (List UInt8))
 | (n_2, out_3) =>
  if n_2 ≠ 0 then
  (((if (n_2.tmod 10) < 0 then
  some (w64 (-(n_2.tmod 10)))
  else
  some (n_2.tmod 10)) : Option Int)).bind fun d_8 =>
  (cat ([UInt8.ofNat (w8 (w64 (48 + d_8))).toNat]) out_3).bind fun s_9 =>
  some (.inl (w64 (n_2.tdiv 10), s_9))
  else
  some (.inr out_3)
def f25 (n0 : Int) : Option (List UInt8) :=
 if n0 = 0 then
 some ([48])
 else
 (iter (f25_0) (n0, [])).bind fun out_13 =>
 if n0 < 0 then
 (cat ([45]) out_13).bind fun s_15 =>
 some s_15
 else
 some out_13
def f71 (t : Int) : Option (List UInt8) :=
 (f95 t).bind fun o1 =>
 if o1.2 = true then
 (f25 o1.1).bind fun o4 =>
 some o4
 else
 (f67 t 0 3).bind fun o6 =>
 if ¬ (o6 = true) then
 some ([])
 else
 (cutL ([120, 121, 122, 119]) t (w64 (t + 1))).bind fun l_9 =>
 some l_9
def f37_0 (l : (List Int)) : (List UInt8) × Int → Option (((List UInt8) × Int) ⊕ (List UInt8))
 | (s_1, i_2) =>
  if i_2 < (l.length : Int) then
  (ix l i_2).bind fun v_4 =>
  (f71 v_4).bind fun o6 =>
  (cat s_1 o6).bind fun s_8 =>
  some (.inl (s_8, w64 (i_2 + 1)))
  else
  some (.inr s_1)
def f37 (l : (List Int)) : Option (List UInt8) :=
 (iter (f37_0 l) ([], 0)).bind fun s_12 =>
 some s_12
def f38_0 (l : (List Relation)) (a : Atom) : (List UInt8) × Int → Option (((List UInt8) × Int) ⊕ (List UInt8))
 | (s_3, i_4) =>
  if i_4 < (a.Terms.length : Int) then
  (ix l a.Relation).bind fun v_6 =>
  (((if i_4 = v_6.KeyLength then
  (cat s_3 ([124])).bind fun s_11 =>
  some s_11
  else
  some s_3) : Option (List UInt8))).bind fun s_13 =>
  (ix a.Terms i_4).bind fun v_14 =>
  (f71 v_14).bind fun o16 =>
  (cat s_13 o16).bind fun s_18 =>
  some (.inl (s_18, w64 (i_4 + 1)))
  else
  some (.inr s_3)
def f38 (l : (List Relation)) (a : Atom) : Option (List UInt8) :=
 (ix l a.Relation).bind fun v_1 =>
 (iter (f38_0 l a) (v_1.Name, 0)).bind fun s_22 =>
 some s_22
def f15_0 (l : (List Relation)) (f : (List RewritingStep)) : (List UInt8) × Int → Option (((List UInt8) × Int) ⊕ (List UInt8))
 | (s_1, i_2) =>
  (((if i_2 < (f.length : Int) then
  (f36 l f).bind fun o6 =>
  some o6
  else
  some false) : Option (Bool))).bind fun x_3 =>
  if x_3 = true then
  (((if i_2 > 0 then
  (cat s_1 ([32])).bind fun s_12 =>
  some s_12
  else
  some s_1) : Option (List UInt8))).bind fun s_14 =>
  (cat s_14 ([69])).bind fun s_15 =>
  (ix f i_2).bind fun v_17 =>
  (f37 v_17.Existential).bind fun o19 =>
  (cat s_15 o19).bind fun s_21 =>
  (cat s_21 ([32, 65])).bind fun s_23 =>
  (f37 v_17.Universal).bind fun o25 =>
  (cat s_23 o25).bind fun s_27 =>
  (cat s_27 ([32])).bind fun s_29 =>
  (f38 l v_17.Atom).bind fun o31 =>
  (cat s_29 o31).bind fun s_33 =>
  some (.inl (s_33, w64 (i_2 + 1)))
  else
  some (.inr s_1)
def f15 (l : (List Relation)) (f : (List RewritingStep)) : Option (List UInt8) :=
 (iter (f15_0 l f) ([], 0)).bind fun s_37 =>
 some s_37
def f73 (n0 : Int) (low : Int) (high : Int) : Option Bool :=
 (((if low ≤ n0 then
 some (decide (n0 ≤ high))
 else
 some false) : Option (Bool))).bind fun x_1 =>
 some x_1
def f84 (relation : Relation) : Option Bool :=
 (((if (relation.Name.length : Int) = 1 then
 (ix relation.Name 0).bind fun c_4 =>
 (((if (c_4.toNat : Int) ≥ 97 then
 (((if (c_4.toNat : Int) ≤ 122 then
 (f73 relation.Arity 1 3).bind fun o12 =>
 (((if o12 = true then
 (f73 relation.KeyLength 0 relation.Arity).bind fun o17 =>
 some o17
 else
 some false) : Option (Bool))).bind fun x_14 =>
 some x_14
 else
 some false) : Option (Bool))).bind fun x_9 =>
 some x_9
 else
 some false) : Option (Bool))).bind fun x_6 =>
 some x_6
 else
 some false) : Option (Bool))).bind fun x_1 =>
 some x_1
def f55_0 (relations : (List Relation)) : Int → Option (Int ⊕ (Unit ⊕ Bool))
 | x_1 =>
  if x_1 < (relations.length : Int) then
  (ix relations x_1).bind fun v_3 =>
  (f84 v_3).bind fun o5 =>
  (((if ¬ (o5 = true) then
  some true
  else
  (((if x_1 > 0 then
  (ix relations (w64 (x_1 - 1))).bind fun v_13 =>
  some (!(Op.bytesLess v_13.Name v_3.Name))
  else
  some false) : Option (Bool))).bind fun x_10 =>
  some x_10) : Option (Bool))).bind fun x_7 =>
  if x_7 = true then
  some (.inr (.inr false))
  else
  some (.inl (w64 (x_1 + 1)))
  else
  some (.inr (.inl ()))
def f55 (relations : (List Relation)) : Option Bool :=
 (iter (f55_0 relations) 0).bind fun o => match o with
 | .inl _ =>
 some (decide ((relations.length : Int) ≤ 4))
 | .inr x_18 =>
 some x_18
def f96_0 (s0 : (List Int)) (f : Int → Option Bool) : Int → Option (Int ⊕ (Unit ⊕ Int))
 | x_1 =>
  if x_1 < (s0.length : Int) then
  (ix s0 x_1).bind fun v_3 =>
  (f v_3).bind fun o5 =>
  if o5 = true then
  some (.inr (.inr x_1))
  else
  some (.inl (w64 (x_1 + 1)))
  else
  some (.inr (.inl ()))
def f96 (s0 : (List Int)) (f : Int → Option Bool) : Option Int :=
 (iter (f96_0 s0 f) 0).bind fun o => match o with
 | .inl _ =>
 some (-1)
 | .inr x_10 =>
 some x_10
def f74 (s0 : (List Int)) (f : Int → Option Bool) : Option Bool :=
 (f96 s0 f).bind fun o1 =>
 some (decide (o1 ≥ 0))
def f75 (t : Int) : Option Bool :=
 (f73 t (-10) 3).bind fun o1 =>
 some (decide (¬ (o1 = true)))
def f116 (n : Int) : Option Nat := growN 8 n
def f108_0 (slices : (List (List Int))) : Int × Int → Option ((Int × Int) ⊕ Int)
 | (size_1, x_2) =>
  if x_2 < (slices.length : Int) then
  (ix slices x_2).bind fun v_4 =>
  (((if (w64 (size_1 + (v_4.length : Int))) < 0 then
  none
  else
  some ()) : Option Unit)).bind fun _ =>
  some (.inl (w64 (size_1 + (v_4.length : Int)), w64 (x_2 + 1)))
  else
  some (.inr size_1)
def f108_1 (slices : (List (List Int))) : Nat × (List Int) × Int → Option ((Nat × (List Int) × Int) ⊕ (Nat × (List Int)))
 | (newslice_14, newslice_15, x_16) =>
  if x_16 < (slices.length : Int) then
  (ix slices x_16).bind fun v_18 =>
  (apps 8 newslice_15 newslice_14 v_18).bind fun l_20 =>
  some (.inl (l_20.2, l_20.1, w64 (x_16 + 1)))
  else
  some (.inr (newslice_14, newslice_15))
def f108 (slices : (List (List Int))) : Option (List Int) :=
 (iter (f108_0 slices) (0, 0)).bind fun size_11 =>
 (f116 size_11).bind fun o12 =>
 (iter (f108_1 slices) (o12, [], 0)).bind fun (newslice_24, newslice_25) =>
 (nsk newslice_24).bind fun _ =>
 some newslice_25
def f120 (x : Int) : Option Int :=
 (((if x ≥ 4294967296 then
 some (sshr .u64 x 32, 32)
 else
 some (x, 0)) : Option (Int × Int))).bind fun (x_4, n_5) =>
 (((if x_4 ≥ 65536 then
 some (sshr .u64 x_4 16, w64 (n_5 + 16))
 else
 some (x_4, n_5)) : Option (Int × Int))).bind fun (x_9, n_10) =>
 (((if x_9 ≥ 256 then
 some (sshr .u64 x_9 8, w64 (n_10 + 8))
 else
 some (x_9, n_10)) : Option (Int × Int))).bind fun (x_14, n_15) =>
 (ix ([0, 1, 2, 2, 3, 3, 3, 3, 4, 4, 4, 4, 4, 4, 4, 4, 5, 5, 5, 5, 5, 5, 5, 5, 5, 5, 5, 5, 5, 5, 5, 5, 6, 6, 6, 6, 6, 6, 6, 6, 6, 6, 6, 6, 6, 6, 6, 6, 6, 6, 6, 6, 6, 6, 6, 6, 6, 6, 6, 6, 6, 6, 6, 6, 7, 7, 7, 7, 7, 7, 7, 7, 7, 7, 7, 7, 7, 7, 7, 7, 7, 7, 7, 7, 7, 7, 7, 7, 7, 7, 7, 7, 7, 7, 7, 7, 7, 7, 7, 7, 7, 7, 7, 7, 7, 7, 7, 7, 7, 7, 7, 7, 7, 7, 7, 7, 7, 7, 7, 7, 7, 7, 7, 7, 7, 7, 7, 7, 8, 8, 8, 8, 8, 8, 8, 8, 8, 8, 8, 8, 8, 8, 8, 8, 8, 8, 8, 8, 8, 8, 8, 8, 8, 8, 8, 8, 8, 8, 8, 8, 8, 8, 8, 8, 8, 8, 8, 8, 8, 8, 8, 8, 8, 8, 8, 8, 8, 8, 8, 8, 8, 8, 8, 8, 8, 8, 8, 8, 8, 8, 8, 8, 8, 8, 8, 8, 8, 8, 8, 8, 8, 8, 8, 8, 8, 8, 8, 8, 8, 8, 8, 8, 8, 8, 8, 8, 8, 8, 8, 8, 8, 8, 8, 8, 8, 8, 8, 8, 8, 8, 8, 8, 8, 8, 8, 8, 8, 8, 8, 8, 8, 8, 8, 8, 8, 8, 8, 8, 8, 8, 8, 8, 8, 8, 8, 8] : List UInt8) (w8 x_14)).bind fun c_16 =>
 some (w64 (n_15 + (w64 (c_16.toNat : Int))))
def f118 (x : Int) : Option Int :=
 (f120 x).bind fun o1 =>
 some o1
def f111 (x : Int) : Option Bool :=
 some (decide (x ≠ x))
def f130 (x : Int) (y : Int) : Option Bool :=
 (f111 x).bind fun o1 =>
 (((if o1 = true then
 (f111 y).bind fun o6 =>
 (((if ¬ (o6 = true) then
 some true
 else
 some (decide (x < y))) : Option (Bool))).bind fun x_8 =>
 some x_8
 else
 some (decide (x < y))) : Option (Bool))).bind fun x_3 =>
 some x_3
def f124_1 (a : Int) : (List Int) × Int → Option (((List Int) × Int) ⊕ (List Int))
 | (data_4, j_5) =>
  (((if j_5 > a then
  (ix data_4 j_5).bind fun v_9 =>
  (ix data_4 (w64 (j_5 - 1))).bind fun v_11 =>
  (f130 v_9 v_11).bind fun o13 =>
  some o13
  else
  some false) : Option (Bool))).bind fun x_6 =>
  if x_6 = true then
  (ix data_4 (w64 (j_5 - 1))).bind fun v_16 =>
  (ix data_4 j_5).bind fun v_18 =>
  (ix (data_4.set j_5.toNat v_16) (w64 (j_5 - 1))).bind fun v_21 =>
  some (.inl (((data_4.set j_5.toNat v_16).set (w64 (j_5 - 1)).toNat v_18), w64 (j_5 - 1)))
  else
  some (.inr data_4)
def f124_0 (a : Int) (b : Int) : (List Int) × Int → Option (((List Int) × Int) ⊕ (List Int))
 | (data_1, i_2) =>
  if i_2 < b then
  (iter ((f124_1 a)) (data_1, i_2)).bind fun data_26 =>
  some (.inl (data_26, w64 (i_2 + 1)))
  else
  some (.inr data_1)
def f124 (data : (List Int)) (a : Int) (b : Int) : Option (List Int) :=
 (iter (f124_0 a b) (data, w64 (a + 1))).bind fun data_29 =>
 some data_29
def f136_0 (hi : Int) (first : Int) : (List Int) × Int → Option (((List Int) × Int) ⊕ ((List Int) ⊕ (List Int)))
 | (data_1, root_2) =>
  if (w64 ((w64 (2 * root_2)) + 1)) ≥ hi then
  some (.inr (.inl data_1))
  else
  (((if (w64 ((w64 ((w64 (2 * root_2)) + 1)) + 1)) < hi then
  (ix data_1 (w64 (first + (w64 ((w64 (2 * root_2)) + 1))))).bind fun v_7 =>
  (ix data_1 (w64 ((w64 (first + (w64 ((w64 (2 * root_2)) + 1)))) + 1))).bind fun v_9 =>
  (f130 v_7 v_9).bind fun o11 =>
  some o11
  else
  some false) : Option (Bool))).bind fun x_4 =>
  (((if x_4 = true then
  some (w64 ((w64 ((w64 (2 * root_2)) + 1)) + 1))
  else
  some (w64 ((w64 (2 * root_2)) + 1))) : Option Int)).bind fun child_16 =>
  (ix data_1 (w64 (first + root_2))).bind fun v_17 =>
  (ix data_1 (w64 (first + child_16))).bind fun v_19 =>
  (f130 v_17 v_19).bind fun o21 =>
  if ¬ (o21 = true) then
  some (.inr (.inr data_1))
  else
  (ix (data_1.set (w64 (first + root_2)).toNat v_19) (w64 (first + child_16))).bind fun v_25 =>
  some (.inl (((data_1.set (w64 (first + root_2)).toNat v_19).set (w64 (first + child_16)).toNat v_17), child_16))
def f136 (data : (List Int)) (lo : Int) (hi : Int) (first : Int) : Option (List Int) :=
 (iter (f136_0 hi first) (data, lo)).bind fun o => match o with
 | .inl data_30 =>
 some data_30
 | .inr data_31 =>
 some data_31
def f125_0 (a : Int) (b : Int) : (List Int) × Int → Option (((List Int) × Int) ⊕ (List Int))
 | (data_1, i_2) =>
  if i_2 ≥ 0 then
  (f136 data_1 i_2 (w64 (b - a)) a).bind fun o4 =>
  some (.inl (o4, w64 (i_2 - 1)))
  else
  some (.inr data_1)
def f125_1 (a : Int) : (List Int) × Int → Option (((List Int) × Int) ⊕ (List Int))
 | (data_9, i_10) =>
  if i_10 ≥ 0 then
  (ix data_9 (w64 (a + i_10))).bind fun v_12 =>
  (ix data_9 a).bind fun v_14 =>
  (ix (data_9.set a.toNat v_12) (w64 (a + i_10))).bind fun v_17 =>
  (f136 ((data_9.set a.toNat v_12).set (w64 (a + i_10)).toNat v_14) 0 i_10 a).bind fun o20 =>
  some (.inl (o20, w64 (i_10 - 1)))
  else
  some (.inr data_9)
def f125 (data : (List Int)) (a : Int) (b : Int) : Option (List Int) :=
 (iter (f125_0 a b) (data, w64 ((w64 ((w64 (b - a)) - 1)).tdiv 2))).bind fun data_8 =>
 (iter (f125_1 a) (data_8, w64 ((w64 (b - a)) - 1))).bind fun data_24 =>
 some data_24
def f137 (length : Int) : Option Int :=
 (f118 (IntKind.u64.wrap length)).bind fun o1 =>
 (nn o1).bind fun z_3 =>
 some (sshl .u64 1 o1)
def f138 (r0 : Int) : Option (Int × Int) :=
 some (bxor .u64 (bxor .u64 (bxor .u64 r0 (sshl .u64 r0 13)) (sshr .u64 (bxor .u64 r0 (sshl .u64 r0 13)) 7)) (sshl .u64 (bxor .u64 (bxor .u64 r0 (sshl .u64 r0 13)) (sshr .u64 (bxor .u64 r0 (sshl .u64 r0 13)) 7)) 17), bxor .u64 (bxor .u64 (bxor .u64 r0 (sshl .u64 r0 13)) (sshr .u64 (bxor .u64 r0 (sshl .u64 r0 13)) 7)) (sshl .u64 (bxor .u64 (bxor .u64 r0 (sshl .u64 r0 13)) (sshr .u64 (bxor .u64 r0 (sshl .u64 r0 13)) 7)) 17))
def f126_0 (a : Int) (b : Int) (o4 : Int) : (List Int) × Int × Int → Option (((List Int) × Int × Int) ⊕ (List Int))
 | (data_6, random_7, idx_8) =>
  if idx_8 ≤ (w64 ((w64 (a + (w64 ((w64 ((w64 (b - a)).tdiv 4)) * 2)))) + 1)) then
  (f138 random_7).bind fun o10 =>
  (((if (w64 (band .u64 o10.1 (IntKind.u64.wrap (o4 - 1)))) ≥ (w64 (b - a)) then
  some (w64 ((w64 (band .u64 o10.1 (IntKind.u64.wrap (o4 - 1)))) - (w64 (b - a))))
  else
  some (w64 (band .u64 o10.1 (IntKind.u64.wrap (o4 - 1))))) : Option Int)).bind fun other_15 =>
  (ix data_6 (w64 (a + other_15))).bind fun v_16 =>
  (ix data_6 idx_8).bind fun v_18 =>
  (ix (data_6.set idx_8.toNat v_16) (w64 (a + other_15))).bind fun v_21 =>
  some (.inl (((data_6.set idx_8.toNat v_16).set (w64 (a + other_15)).toNat v_18), o10.2, w64 (idx_8 + 1)))
  else
  some (.inr data_6)
def f126 (data : (List Int)) (a : Int) (b : Int) : Option (List Int) :=
 (((if (w64 (b - a)) ≥ 8 then
 (f137 (w64 (b - a))).bind fun o4 =>
 (iter (f126_0 a b o4) (data, IntKind.u64.wrap (w64 (b - a)), w64 ((w64 (a + (w64 ((w64 ((w64 (b - a)).tdiv 4)) * 2)))) - 1))).bind fun data_26 =>
 some data_26
 else
 some data) : Option (List Int))).bind fun data_27 =>
 some data_27
def f141 (data : (List Int)) (a : Int) (b : Int) (swaps : Int) : Option (Int × Int × Int) :=
 (ix data b).bind fun v_1 =>
 (ix data a).bind fun v_3 =>
 (f130 v_1 v_3).bind fun o5 =>
 if o5 = true then
 some (b, a, w64 (swaps + 1))
 else
 some (a, b, swaps)
def f140 (data : (List Int)) (a : Int) (b : Int) (c : Int) (swaps : Int) : Option (Int × Int) :=
 (f141 data a b swaps).bind fun o1 =>
 (f141 data o1.2.1 c o1.2.2).bind fun o3 =>
 (f141 data o1.1 o3.1 o3.2.2).bind fun o5 =>
 some (o5.2.1, o5.2.2)
def f139 (data : (List Int)) (a : Int) (swaps : Int) : Option (Int × Int) :=
 (f140 data (w64 (a - 1)) a (w64 (a + 1)) swaps).bind fun o1 =>
 some (o1.1, o1.2)
def f127 (data : (List Int)) (a : Int) (b : Int) : Option (Int × Int) :=
 (((if (w64 (b - a)) ≥ 8 then
 (((if (w64 (b - a)) ≥ 50 then
 (f139 data (w64 (a + (w64 (w64 ((w64 (b - a)).tdiv 4))))) 0).bind fun o7 =>
 (f139 data (w64 (a + (w64 ((w64 ((w64 (b - a)).tdiv 4)) * 2)))) o7.2).bind fun o9 =>
 (f139 data (w64 (a + (w64 ((w64 ((w64 (b - a)).tdiv 4)) * 3)))) o9.2).bind fun o11 =>
 some (o11.2, o7.1, o9.1, o11.1)
 else
 some (0, w64 (a + (w64 (w64 ((w64 (b - a)).tdiv 4)))), w64 (a + (w64 ((w64 ((w64 (b - a)).tdiv 4)) * 2))), w64 (a + (w64 ((w64 ((w64 (b - a)).tdiv 4)) * 3))))) : Option (Int × Int × Int × Int))).bind fun (swaps_13, i_14, j_15, k_16) =>
 (f140 data i_14 j_15 k_16 swaps_13).bind fun o17 =>
 some (o17.2, o17.1)
 else
 some (0, w64 (a + (w64 ((w64 ((w64 (b - a)).tdiv 4)) * 2))))) : Option (Int × Int))).bind fun (swaps_19, j_20) =>
 if swaps_19 = 0 then
 some (j_20, 1)
 else
 if swaps_19 = 12 then
 some (j_20, 2)
 else
 some (j_20, 0)
def f128_0 : (List Int) × Int × Int → Option (((List Int) × Int × Int) ⊕ (List Int))
 | (data_1, i_2, j_3) =>
  if i_2 < j_3 then
  (ix data_1 j_3).bind fun v_5 =>
  (ix data_1 i_2).bind fun v_7 =>
  (ix (data_1.set i_2.toNat v_5) j_3).bind fun v_10 =>
  some (.inl (((data_1.set i_2.toNat v_5).set j_3.toNat v_7), w64 (i_2 + 1), w64 (j_3 - 1)))
  else
  some (.inr data_1)
def f128 (data : (List Int)) (a : Int) (b : Int) : Option (List Int) :=
 (iter f128_0 (data, a, w64 (b - 1))).bind fun data_15 =>
 some data_15
def f129_1 (b : Int) (data_1 : (List Int)) : Int → Option (Int ⊕ Int)
 | i_5 =>
  (((if i_5 < b then
  (ix data_1 i_5).bind fun v_9 =>
  (ix data_1 (w64 (i_5 - 1))).bind fun v_11 =>
  (f130 v_9 v_11).bind fun o13 =>
  some (decide (¬ (o13 = true)))
  else
  some false) : Option (Bool))).bind fun x_6 =>
  if x_6 = true then
  some (.inl (w64 (i_5 + 1)))
  else
  some (.inr i_5)
def f129_2 : (List Int) × Int → Option (((List Int) × Int) ⊕ (List Int))
 | (data_32, j_33) =>
  if j_33 ≥ 1 then
  (ix data_32 j_33).bind fun v_35 =>
  (ix data_32 (w64 (j_33 - 1))).bind fun v_37 =>
  (f130 v_35 v_37).bind fun o39 =>
  if ¬ (o39 = true) then
  some (.inr data_32)
  else
  (ix (data_32.set j_33.toNat v_37) (w64 (j_33 - 1))).bind fun v_43 =>
  some (.inl (((data_32.set j_33.toNat v_37).set (w64 (j_33 - 1)).toNat v_35), w64 (j_33 - 1)))
  else
  some (.inr data_32)
def f129_3 (b : Int) : (List Int) × Int → Option (((List Int) × Int) ⊕ (List Int))
 | (data_53, j_54) =>
  if j_54 < b then
  (ix data_53 j_54).bind fun v_56 =>
  (ix data_53 (w64 (j_54 - 1))).bind fun v_58 =>
  (f130 v_56 v_58).bind fun o60 =>
  if ¬ (o60 = true) then
  some (.inr data_53)
  else
  (ix (data_53.set j_54.toNat v_58) (w64 (j_54 - 1))).bind fun v_64 =>
  some (.inl (((data_53.set j_54.toNat v_58).set (w64 (j_54 - 1)).toNat v_56), w64 (j_54 + 1)))
  else
  some (.inr data_53)
def f129_0 (a : Int) (b : Int) : (List Int) × Int × Int → Option (((List Int) × Int × Int) ⊕ ((List Int) ⊕ ((List Int) × Bool)))
 | (data_1, i_2, j_3) =>
  if j_3 < 5 then
  (iter ((f129_1 b data_1)) i_2).bind fun i_18 =>
  if i_18 = b then
  some (.inr (.inr (data_1, true)))
  else
  if (w64 (b - a)) < 50 then
  some (.inr (.inr (data_1, false)))
  else
  (ix data_1 (w64 (i_18 - 1))).bind fun v_21 =>
  (ix data_1 i_18).bind fun v_23 =>
  (ix (data_1.set i_18.toNat v_21) (w64 (i_18 - 1))).bind fun v_26 =>
  (((if (w64 (i_18 - a)) ≥ 2 then
  (iter (f129_2) (((data_1.set i_18.toNat v_21).set (w64 (i_18 - 1)).toNat v_23), w64 (i_18 - 1))).bind fun data_48 =>
  some data_48
  else
  some ((data_1.set i_18.toNat v_21).set (w64 (i_18 - 1)).toNat v_23)) : Option (List Int))).bind fun data_49 =>
  (((if (w64 (b - i_18)) ≥ 2 then
  (iter ((f129_3 b)) (data_49, w64 (i_18 + 1))).bind fun data_69 =>
  some data_69
  else
  some data_49) : Option (List Int))).bind fun data_70 =>
  some (.inl (data_70, i_18, w64 (j_3 + 1)))
  else
  some (.inr (.inl data_1))
def f129 (data : (List Int)) (a : Int) (b : Int) : Option (Bool × (List Int)) :=
 (iter (f129_0 a b) (data, w64 (a + 1), 0)).bind fun o => match o with
 | .inl data_73 =>
 some (false, data_73)
 | .inr (data_74, x_75) =>
 some (x_75, data_74)
def f131_1 (a : Int) (data_9 : (List Int)) (j_11 : Int) : Int → Option (Int ⊕ Int)
 | i_12 =>
  (((if i_12 ≤ j_11 then
  (ix data_9 a).bind fun v_16 =>
  (ix data_9 i_12).bind fun v_18 =>
  (f130 v_16 v_18).bind fun o20 =>
  some (decide (¬ (o20 = true)))
  else
  some false) : Option (Bool))).bind fun x_13 =>
  if x_13 = true then
  some (.inl (w64 (i_12 + 1)))
  else
  some (.inr i_12)
def f131_2 (a : Int) (data_9 : (List Int)) (i_25 : Int) : Int → Option (Int ⊕ Int)
 | j_26 =>
  (((if i_25 ≤ j_26 then
  (ix data_9 a).bind fun v_30 =>
  (ix data_9 j_26).bind fun v_32 =>
  (f130 v_30 v_32).bind fun o34 =>
  some o34
  else
  some false) : Option (Bool))).bind fun x_27 =>
  if x_27 = true then
  some (.inl (w64 (j_26 - 1)))
  else
  some (.inr j_26)
def f131_0 (a : Int) : (List Int) × Int × Int → Option (((List Int) × Int × Int) ⊕ ((List Int) × Int))
 | (data_9, i_10, j_11) =>
  (iter (f131_1 a data_9 j_11) i_10).bind fun i_25 =>
  (iter (f131_2 a data_9 i_25) j_11).bind fun j_39 =>
  if i_25 > j_39 then
  some (.inr (data_9, i_25))
  else
  (ix data_9 j_39).bind fun v_41 =>
  (ix data_9 i_25).bind fun v_43 =>
  (ix (data_9.set i_25.toNat v_41) j_39).bind fun v_46 =>
  some (.inl (((data_9.set i_25.toNat v_41).set j_39.toNat v_43), w64 (i_25 + 1), w64 (j_39 - 1)))
def f131 (data : (List Int)) (a : Int) (b : Int) (pivot : Int) : Option (Int × (List Int)) :=
 (ix data pivot).bind fun v_1 =>
 (ix data a).bind fun v_3 =>
 (ix (data.set a.toNat v_1) pivot).bind fun v_6 =>
 (iter (f131_0 a) (((data.set a.toNat v_1).set pivot.toNat v_3), w64 (a + 1), w64 (b - 1))).bind fun (data_51, i_52) =>
 some (i_52, data_51)
def f132_0 (data : (List Int)) (a : Int) (b : Int) (pivot : Int) (v_1 : Int) (v_3 : Int) : Int → Option (Int ⊕ Int)
 | i_9 =>
  (((if i_9 ≤ (w64 (b - 1)) then
  (ix ((data.set a.toNat v_1).set pivot.toNat v_3) i_9).bind fun v_13 =>
  (ix ((data.set a.toNat v_1).set pivot.toNat v_3) a).bind fun v_15 =>
  (f130 v_13 v_15).bind fun o17 =>
  some o17
  else
  some false) : Option (Bool))).bind fun x_10 =>
  if x_10 = true then
  some (.inl (w64 (i_9 + 1)))
  else
  some (.inr i_9)
def f132_1 (data : (List Int)) (a : Int) (pivot : Int) (v_1 : Int) (v_3 : Int) (i_22 : Int) : Int → Option (Int ⊕ Int)
 | j_23 =>
  (((if i_22 ≤ j_23 then
  (ix ((data.set a.toNat v_1).set pivot.toNat v_3) j_23).bind fun v_27 =>
  (ix ((data.set a.toNat v_1).set pivot.toNat v_3) a).bind fun v_29 =>
  (f130 v_27 v_29).bind fun o31 =>
  some (decide (¬ (o31 = true)))
  else
  some false) : Option (Bool))).bind fun x_24 =>
  if x_24 = true then
  some (.inl (w64 (j_23 - 1)))
  else
  some (.inr j_23)
def f132_3 (a : Int) (data_54 : (List Int)) (j_56 : Int) : Int → Option (Int ⊕ Int)
 | i_57 =>
  (((if i_57 ≤ j_56 then
  (ix data_54 i_57).bind fun v_61 =>
  (ix data_54 a).bind fun v_63 =>
  (f130 v_61 v_63).bind fun o65 =>
  some o65
  else
  some false) : Option (Bool))).bind fun x_58 =>
  if x_58 = true then
  some (.inl (w64 (i_57 + 1)))
  else
  some (.inr i_57)
def f132_4 (a : Int) (data_54 : (List Int)) (i_70 : Int) : Int → Option (Int ⊕ Int)
 | j_71 =>
  (((if i_70 ≤ j_71 then
  (ix data_54 j_71).bind fun v_75 =>
  (ix data_54 a).bind fun v_77 =>
  (f130 v_75 v_77).bind fun o79 =>
  some (decide (¬ (o79 = true)))
  else
  some false) : Option (Bool))).bind fun x_72 =>
  if x_72 = true then
  some (.inl (w64 (j_71 - 1)))
  else
  some (.inr j_71)
def f132_2 (a : Int) : (List Int) × Int × Int → Option (((List Int) × Int × Int) ⊕ ((List Int) × Int))
 | (data_54, i_55, j_56) =>
  (iter (f132_3 a data_54 j_56) i_55).bind fun i_70 =>
  (iter (f132_4 a data_54 i_70) j_56).bind fun j_84 =>
  if i_70 > j_84 then
  some (.inr (data_54, j_84))
  else
  (ix data_54 j_84).bind fun v_86 =>
  (ix data_54 i_70).bind fun v_88 =>
  (ix (data_54.set i_70.toNat v_86) j_84).bind fun v_91 =>
  some (.inl (((data_54.set i_70.toNat v_86).set j_84.toNat v_88), w64 (i_70 + 1), w64 (j_84 - 1)))
def f132 (data : (List Int)) (a : Int) (b : Int) (pivot : Int) : Option (Int × Bool × (List Int)) :=
 (ix data pivot).bind fun v_1 =>
 (ix data a).bind fun v_3 =>
 (ix (data.set a.toNat v_1) pivot).bind fun v_6 =>
 (iter (f132_0 data a b pivot v_1 v_3) (w64 (a + 1))).bind fun i_22 =>
 (iter (f132_1 data a pivot v_1 v_3 i_22) (w64 (b - 1))).bind fun j_36 =>
 if i_22 > j_36 then
 (ix ((data.set a.toNat v_1).set pivot.toNat v_3) a).bind fun v_38 =>
 (ix ((data.set a.toNat v_1).set pivot.toNat v_3) j_36).bind fun v_40 =>
 (ix (((data.set a.toNat v_1).set pivot.toNat v_3).set j_36.toNat v_38) a).bind fun v_43 =>
 some (j_36, true, ((((data.set a.toNat v_1).set pivot.toNat v_3).set j_36.toNat v_38).set a.toNat v_40))
 else
 (ix ((data.set a.toNat v_1).set pivot.toNat v_3) j_36).bind fun v_46 =>
 (ix ((data.set a.toNat v_1).set pivot.toNat v_3) i_22).bind fun v_48 =>
 (ix (((data.set a.toNat v_1).set pivot.toNat v_3).set i_22.toNat v_46) j_36).bind fun v_51 =>
 (iter (f132_2 a) (((((data.set a.toNat v_1).set pivot.toNat v_3).set i_22.toNat v_46).set j_36.toNat v_48), w64 (i_22 + 1), w64 (j_36 - 1))).bind fun (data_96, j_97) =>
 (ix data_96 a).bind fun v_98 =>
 (ix data_96 j_97).bind fun v_100 =>
 (ix (data_96.set j_97.toNat v_98) a).bind fun v_103 =>
 some (j_97, false, ((data_96.set j_97.toNat v_98).set a.toNat v_100))
def f117_0 (rec : (List Int) → Int → Int → Int → Option (List Int)) : (List Int) × Int × Int × Int × Bool × Bool → Option (((List Int) × Int × Int × Int × Bool × Bool) ⊕ (List Int))
 | (data_1, a_2, b_3, limit_4, wasBalanced_5, wasPartitioned_6) =>
  (((if (w64 (b_3 - a_2)) ≤ 12 then
  (f124 data_1 a_2 b_3).bind fun o10 =>
  some (.inr o10)
  else
  if limit_4 = 0 then
  (f125 data_1 a_2 b_3).bind fun o13 =>
  some (.inr o13)
  else
  (((if ¬ (wasBalanced_5 = true) then
  (f126 data_1 a_2 b_3).bind fun o18 =>
  some (o18, w64 (limit_4 - 1))
  else
  some (data_1, limit_4)) : Option ((List Int) × Int))).bind fun (data_20, limit_21) =>
  (f127 data_20 a_2 b_3).bind fun o22 =>
  (((if o22.2 = 2 then
  (f128 data_20 a_2 b_3).bind fun o27 =>
  some (o27, w64 ((w64 (b_3 - 1)) - (w64 (o22.1 - a_2))), 1)
  else
  some (data_20, o22.1, o22.2)) : Option ((List Int) × Int × Int))).bind fun (data_29, pivot_30, hint_31) =>
  (((if wasBalanced_5 = true then
  (((if wasPartitioned_6 = true then
  some (decide (hint_31 = 1))
  else
  some false) : Option (Bool))).bind fun x_35 =>
  some x_35
  else
  some false) : Option (Bool))).bind fun x_32 =>
  (((if x_32 = true then
  (f129 data_29 a_2 b_3).bind fun o41 =>
  if o41.1 = true then
  some (.inr o41.2)
  else
  some (.inl o41.2)
  else
  some (.inl data_29)) : Option ((List Int) ⊕ (List Int)))).bind fun o => match o with
  | .inl data_44 =>
  (((if a_2 > 0 then
  (ix data_44 (w64 (a_2 - 1))).bind fun v_49 =>
  (ix data_44 pivot_30).bind fun v_51 =>
  (f130 v_49 v_51).bind fun o53 =>
  some (decide (¬ (o53 = true)))
  else
  some false) : Option (Bool))).bind fun x_46 =>
  if x_46 = true then
  (f131 data_44 a_2 b_3 pivot_30).bind fun o56 =>
  some (.inl (o56.2, o56.1, b_3, limit_21, wasBalanced_5, wasPartitioned_6))
  else
  (f132 data_44 a_2 b_3 pivot_30).bind fun o58 =>
  (((if (w64 (o58.1 - a_2)) < (w64 (b_3 - o58.1)) then
  (rec o58.2.2 a_2 o58.1 limit_21).bind fun o63 =>
  some (o63, w64 (o58.1 + 1), b_3, (decide ((w64 (o58.1 - a_2)) ≥ (w64 ((w64 (b_3 - a_2)).tdiv 8)))))
  else
  (rec o58.2.2 (w64 (o58.1 + 1)) b_3 limit_21).bind fun o65 =>
  some (o65, a_2, o58.1, (decide ((w64 (b_3 - o58.1)) ≥ (w64 ((w64 (b_3 - a_2)).tdiv 8)))))) : Option ((List Int) × Int × Int × Bool))).bind fun (data_67, a_68, b_69, wasBalanced_70) =>
  some (.inl (data_67, a_68, b_69, limit_21, wasBalanced_70, o58.2.1))
  | .inr data_45 =>
  some (.inr data_45)) : Option (((List Int) × Int × Int × Int × Bool × Bool) ⊕ (List Int)))).bind fun o => match o with
  | .inl (data_71, a_72, b_73, limit_74, wasBalanced_75, wasPartitioned_76) =>
  some (.inl (data_71, a_72, b_73, limit_74, wasBalanced_75, wasPartitioned_76))
  | .inr data_77 =>
  some (.inr data_77)
def f117 : Nat → (List Int) → Int → Int → Int → Option (List Int)
 | 0 => fun _ _ _ _ => none
 | n + 1 => fun data a b limit =>
  (iter (f117_0 (f117 n)) (data, a, b, limit, true, true)).bind fun data_80 =>
  some data_80
def f109 (x : (List Int)) : Option (List Int) :=
 (f118 (IntKind.u64.wrap (x.length : Int))).bind fun o1 =>
 (f117 64 x 0 (x.length : Int) o1).bind fun o3 =>
 some o3
def f110 (l : List Int) : Option (List Int) := compactN l
def f99 (a : (List Int)) (b : (List Int)) : Option (List Int) :=
 (f108 ([a, b])).bind fun o1 =>
 (f109 o1).bind fun o3 =>
 (f110 o3).bind fun o5 =>
 some o5
def f78_0 (atom : Atom) : (List Int) × Int → Option (((List Int) × Int) ⊕ (List Int))
 | (out_1, x_2) =>
  if x_2 < (atom.Terms.length : Int) then
  (ix atom.Terms x_2).bind fun v_4 =>
  (f73 v_4 0 3).bind fun o6 =>
  (((if o6 = true then
  (app 8 out_1 ([v_4])).bind fun l_11 =>
  some l_11
  else
  some out_1) : Option (List Int))).bind fun out_13 =>
  some (.inl (out_13, w64 (x_2 + 1)))
  else
  some (.inr out_1)
def f78 (atom : Atom) : Option (List Int) :=
 (iter (f78_0 atom) ([], 0)).bind fun out_16 =>
 (f99 out_16 ([] : (List Int))).bind fun o17 =>
 some o17
def f77 (relations : (List Relation)) (atom : Atom) : Option (List Int) :=
 (f73 atom.Relation 0 (w64 ((relations.length : Int) - 1))).bind fun o1 =>
 (((if ¬ (o1 = true) then
 some true
 else
 (ix relations atom.Relation).bind fun v_6 =>
 (f73 v_6.KeyLength 0 (atom.Terms.length : Int)).bind fun o8 =>
 some (decide (¬ (o8 = true)))) : Option (Bool))).bind fun x_3 =>
 if x_3 = true then
 some ([])
 else
 (ix relations atom.Relation).bind fun v_11 =>
 (cutL atom.Terms 0 v_11.KeyLength).bind fun l_13 =>
 (f78 ({ Relation := 0, Terms := l_13 } : Atom)).bind fun o15 =>
 some o15
def f107_0 (s0 : (List Int)) (v : Int) : Int → Option (Int ⊕ (Unit ⊕ Int))
 | x_1 =>
  if x_1 < (s0.length : Int) then
  (ix s0 x_1).bind fun v_3 =>
  if v = v_3 then
  some (.inr (.inr x_1))
  else
  some (.inl (w64 (x_1 + 1)))
  else
  some (.inr (.inl ()))
def f107 (s0 : (List Int)) (v : Int) : Option Int :=
 (iter (f107_0 s0 v) 0).bind fun o => match o with
 | .inl _ =>
 some (-1)
 | .inr x_8 =>
 some x_8
def f98 (s0 : (List Int)) (v : Int) : Option Bool :=
 (f107 s0 v).bind fun o1 =>
 some (decide (o1 ≥ 0))
def f97 (n0 : Int) (c : (List Int)) : Option Bool :=
 (f98 c n0).bind fun o1 =>
 some (decide (¬ (o1 = true)))
def f76 (a : (List Int)) (b : (List Int)) : Option Bool :=
 (f74 a (fun x0 => f97 x0 b)).bind fun o1 =>
 some (decide (¬ (o1 = true)))
def f41_0 (relations : (List Relation)) (rewriting : (List RewritingStep)) : Int → Option (Int ⊕ (Unit ⊕ Bool))
 | x_1 =>
  if x_1 < (rewriting.length : Int) then
  (ix rewriting x_1).bind fun v_3 =>
  (((if x_1 ≥ 3 then
  some true
  else
  (f55 relations).bind fun o8 =>
  (((if ¬ (o8 = true) then
  some true
  else
  (f73 v_3.Atom.Relation 0 (w64 ((relations.length : Int) - 1))).bind fun o13 =>
  (((if ¬ (o13 = true) then
  some true
  else
  (ix relations v_3.Atom.Relation).bind fun v_18 =>
  some (decide ((v_3.Atom.Terms.length : Int) ≠ v_18.Arity))) : Option (Bool))).bind fun x_15 =>
  some x_15) : Option (Bool))).bind fun x_10 =>
  some x_10) : Option (Bool))).bind fun x_5 =>
  if x_5 = true then
  some (.inr (.inr false))
  else
  (f74 v_3.Atom.Terms (fun x0 => f75 x0)).bind fun o21 =>
  if o21 = true then
  some (.inr (.inr false))
  else
  (f77 relations v_3.Atom).bind fun o24 =>
  (f76 v_3.Existential o24).bind fun o26 =>
  (((if ¬ (o26 = true) then
  some true
  else
  (f78 v_3.Atom).bind fun o31 =>
  (f76 v_3.Universal o31).bind fun o33 =>
  some (decide (¬ (o33 = true)))) : Option (Bool))).bind fun x_28 =>
  if x_28 = true then
  some (.inr (.inr false))
  else
  some (.inl (w64 (x_1 + 1)))
  else
  some (.inr (.inl ()))
def f41 (relations : (List Relation)) (rewriting : (List RewritingStep)) : Option Bool :=
 (iter (f41_0 relations rewriting) 0).bind fun o => match o with
 | .inl _ =>
 some true
 | .inr x_38 =>
 some x_38
def f100 (t : Int) : Option (Int × Bool) :=
 (f73 t (-10) (-1)).bind fun o1 =>
 if ¬ (o1 = true) then
 some (0, false)
 else
 some (w64 ((-1) - t), true)
def f60 (n : Int) : Option (List UInt8) := itoaN n
def f30 (n0 : Int) : Option (List UInt8) :=
 (f60 n0).bind fun o1 =>
 some o1
def f79 (t : Int) : Option (List UInt8) :=
 (f100 t).bind fun o1 =>
 if o1.2 = true then
 (f30 o1.1).bind fun o4 =>
 some o4
 else
 (f73 t 0 3).bind fun o6 =>
 if o6 = true then
 (cutL ([120, 121, 122, 119]) t (w64 (t + 1))).bind fun l_9 =>
 some l_9
 else
 some ([])
def f42_0 (terms : (List Int)) : (List (List UInt8)) × Int → Option (((List (List UInt8)) × Int) ⊕ (List (List UInt8)))
 | (out_1, x_2) =>
  if x_2 < (terms.length : Int) then
  (ix terms x_2).bind fun v_4 =>
  (f79 v_4).bind fun o6 =>
  (app 16 out_1 ([o6])).bind fun l_8 =>
  some (.inl (l_8, w64 (x_2 + 1)))
  else
  some (.inr out_1)
def f42 (terms : (List Int)) : Option (List (List UInt8)) :=
 (iter (f42_0 terms) ([], 0)).bind fun out_12 =>
 some out_12
def f31 (xs : List (List UInt8)) (sep : List UInt8) : Option (List UInt8) := joinN xs sep
def f80 (parts : (List (List UInt8))) (at1 : Int) : Option (List UInt8) :=
 (cutL parts 0 at1).bind fun l_1 =>
 (f31 l_1 ([])).bind fun o3 =>
 (((if at1 < (parts.length : Int) then
 (cutL parts at1 parts.length).bind fun l_8 =>
 (f31 l_8 ([])).bind fun o10 =>
 (cat ([124]) o10).bind fun s_12 =>
 (cat o3 s_12).bind fun s_14 =>
 some s_14
 else
 some o3) : Option (List UInt8))).bind fun out_16 =>
 some out_16
def f43 (relations : (List Relation)) (atom : Atom) : Option (List UInt8) :=
 (ix relations atom.Relation).bind fun v_1 =>
 (f42 atom.Terms).bind fun o3 =>
 (f80 o3 v_1.KeyLength).bind fun o5 =>
 (cat v_1.Name o5).bind fun s_7 =>
 some s_7
def f18_0 (relations : (List Relation)) (rewriting : (List RewritingStep)) : (List (List UInt8)) × Int → Option (((List (List UInt8)) × Int) ⊕ (List (List UInt8)))
 | (out_4, x_5) =>
  if x_5 < (rewriting.length : Int) then
  (ix rewriting x_5).bind fun v_7 =>
  (f42 v_7.Existential).bind fun o9 =>
  (f31 o9 ([])).bind fun o11 =>
  (cat ([69]) o11).bind fun s_13 =>
  (cat s_13 ([32, 65])).bind fun s_15 =>
  (f42 v_7.Universal).bind fun o17 =>
  (f31 o17 ([])).bind fun o19 =>
  (cat s_15 o19).bind fun s_21 =>
  (cat s_21 ([32])).bind fun s_23 =>
  (f43 relations v_7.Atom).bind fun o25 =>
  (cat s_23 o25).bind fun s_27 =>
  (app 16 out_4 ([s_27])).bind fun l_29 =>
  some (.inl (l_29, w64 (x_5 + 1)))
  else
  some (.inr out_4)
def f18 (relations : (List Relation)) (rewriting : (List RewritingStep)) : Option (List UInt8) :=
 (f41 relations rewriting).bind fun o1 =>
 if ¬ (o1 = true) then
 some ([])
 else
 (iter (f18_0 relations rewriting) ([], 0)).bind fun out_33 =>
 (f31 out_33 ([32])).bind fun o34 =>
 some o34
def f44 (a : Relation) (b : Relation) : Option Bool :=
 if a.Name ≠ b.Name then
 some false
 else
 if a.Arity ≠ b.Arity then
 some false
 else
 if a.KeyLength ≠ b.KeyLength then
 some false
 else
 some true
def f19_0 (a : (List Relation)) (b : (List Relation)) : Int → Option (Int ⊕ (Unit ⊕ Bool))
 | i_2 =>
  if i_2 < (a.length : Int) then
  (ix a i_2).bind fun v_4 =>
  (ix b i_2).bind fun v_6 =>
  (f44 v_4 v_6).bind fun o8 =>
  if ¬ (o8 = true) then
  some (.inr (.inr false))
  else
  some (.inl (w64 (i_2 + 1)))
  else
  some (.inr (.inl ()))
def f19 (a : (List Relation)) (b : (List Relation)) : Option Bool :=
 if (a.length : Int) ≠ (b.length : Int) then
 some false
 else
 (iter (f19_0 a b) 0).bind fun o => match o with
 | .inl _ =>
 some true
 | .inr x_13 =>
 some x_13
def f65_0 (a : (List Int)) (b : (List Int)) : Int → Option (Int ⊕ (Unit ⊕ Bool))
 | i_2 =>
  if i_2 < (a.length : Int) then
  (ix a i_2).bind fun v_4 =>
  (ix b i_2).bind fun v_6 =>
  if v_4 ≠ v_6 then
  some (.inr (.inr false))
  else
  some (.inl (w64 (i_2 + 1)))
  else
  some (.inr (.inl ()))
def f65 (a : (List Int)) (b : (List Int)) : Option Bool :=
 if (a.length : Int) ≠ (b.length : Int) then
 some false
 else
 (iter (f65_0 a b) 0).bind fun o => match o with
 | .inl _ =>
 some true
 | .inr x_11 =>
 some x_11
def f81 (a : Atom) (b : Atom) : Option Bool :=
 if a.Relation ≠ b.Relation then
 some false
 else
 (f65 a.Terms b.Terms).bind fun o2 =>
 if ¬ (o2 = true) then
 some false
 else
 some true
def f45 (a : RewritingStep) (b : RewritingStep) : Option Bool :=
 (f81 a.Atom b.Atom).bind fun o1 =>
 if ¬ (o1 = true) then
 some false
 else
 (f65 a.Existential b.Existential).bind fun o4 =>
 if ¬ (o4 = true) then
 some false
 else
 (f65 a.Universal b.Universal).bind fun o7 =>
 if ¬ (o7 = true) then
 some false
 else
 some true
def f20_0 (a : (List RewritingStep)) (b : (List RewritingStep)) : Int → Option (Int ⊕ (Unit ⊕ Bool))
 | i_2 =>
  if i_2 < (a.length : Int) then
  (ix a i_2).bind fun v_4 =>
  (ix b i_2).bind fun v_6 =>
  (f45 v_4 v_6).bind fun o8 =>
  if ¬ (o8 = true) then
  some (.inr (.inr false))
  else
  some (.inl (w64 (i_2 + 1)))
  else
  some (.inr (.inl ()))
def f20 (a : (List RewritingStep)) (b : (List RewritingStep)) : Option Bool :=
 if (a.length : Int) ≠ (b.length : Int) then
 some false
 else
 (iter (f20_0 a b) 0).bind fun o => match o with
 | .inl _ =>
 some true
 | .inr x_13 =>
 some x_13
def f4 (aRelations : (List Relation)) (aRewriting : (List RewritingStep)) : Option Bool :=
 (f13 aRelations 1048576).bind fun o1 =>
 if o1 < 0 then
 some true
 else
 (f14 aRewriting o1).bind fun o4 =>
 if o4 < 0 then
 some true
 else
 (f16 aRelations).bind fun o7 =>
 (f17 aRewriting).bind fun o9 =>
 (f15 o7 o9).bind fun o11 =>
 (f16 aRelations).bind fun o13 =>
 (f17 aRewriting).bind fun o15 =>
 (f18 o13 o15).bind fun o17 =>
 if o17 ≠ o11 then
 some false
 else
 (f16 aRelations).bind fun o20 =>
 (f19 o13 o20).bind fun o22 =>
 if ¬ (o22 = true) then
 some false
 else
 (f17 aRewriting).bind fun o25 =>
 (f20 o15 o25).bind fun o27 =>
 if ¬ (o27 = true) then
 some false
 else
 some true
end
end Go.Proofs.YtcllfkplpdppiaaDoorH
