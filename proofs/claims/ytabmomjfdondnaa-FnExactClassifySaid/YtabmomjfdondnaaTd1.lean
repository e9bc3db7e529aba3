import Derived.Test.YtabmomjfdondnaaX3
set_option linter.unusedVariables false
set_option linter.unusedSimpArgs false
set_option maxRecDepth 100000
namespace Go.Proofs.YtabmomjfdondnaaH
open Go
noncomputable section
structure Relation where
 Name : (List UInt8)
 Arity : Int
 KeyLength : Int
 deriving DecidableEq, Inhabited
def eRelation : En Relation := ⟨3, fun b a => if b then [(.str a.Name), (.int .i64 a.Arity), (.int .i64 a.KeyLength)] else [(.str a.Name), (.int .i64 a.Arity), (.int .i64 a.KeyLength)], fun b a => by cases b <;> rfl, by decide, fun b a => by cases b <;> simp [T.frz], fun a => by simp, fun a => by simp, fun b a => by cases b <;> simp⟩
@[simp] theorem eRelation_w : eRelation.w = 3 := rfl
@[simp] theorem eRelation_ct {a : Relation} : eRelation.c true a = [(.str a.Name), (.int .i64 a.Arity), (.int .i64 a.KeyLength)] := rfl
@[simp] theorem eRelation_cf {a : Relation} : eRelation.c false a = [(.str a.Name), (.int .i64 a.Arity), (.int .i64 a.KeyLength)] := rfl
@[simp] theorem arrRelation_len {b : Bool} {l : List Relation} : (arr eRelation b l).length = l.length * 3 := by rw [arr_len]; rfl
structure Atom where
 Relation : Int
 Terms : (List Int)
 deriving DecidableEq, Inhabited
def eAtom : En Atom := ⟨2, fun b a => if b then [(.int .i64 a.Relation), (osl eI true a.Terms)] else [(.int .i64 a.Relation), (ssl eI a.Terms)], fun b a => by cases b <;> rfl, by decide, fun b a => by cases b <;> simp [T.frz], fun a => by simp, fun a => by simp, fun b a => by cases b <;> simp⟩
@[simp] theorem eAtom_w : eAtom.w = 2 := rfl
@[simp] theorem eAtom_ct {a : Atom} : eAtom.c true a = [(.int .i64 a.Relation), (osl eI true a.Terms)] := rfl
@[simp] theorem eAtom_cf {a : Atom} : eAtom.c false a = [(.int .i64 a.Relation), (ssl eI a.Terms)] := rfl
@[simp] theorem arrAtom_len {b : Bool} {l : List Atom} : (arr eAtom b l).length = l.length * 2 := by rw [arr_len]; rfl
structure Query where
 VariableCount : Int
 Atoms : (List Atom)
 Free : (List Int)
 deriving DecidableEq, Inhabited
def eQuery : En Query := ⟨3, fun b a => if b then [(.int .i64 a.VariableCount), (osl eAtom true a.Atoms), (osl eI true a.Free)] else [(.int .i64 a.VariableCount), (ssl eAtom a.Atoms), (ssl eI a.Free)], fun b a => by cases b <;> rfl, by decide, fun b a => by cases b <;> simp [T.frz], fun a => by simp, fun a => by simp, fun b a => by cases b <;> simp⟩
@[simp] theorem eQuery_w : eQuery.w = 3 := rfl
@[simp] theorem eQuery_ct {a : Query} : eQuery.c true a = [(.int .i64 a.VariableCount), (osl eAtom true a.Atoms), (osl eI true a.Free)] := rfl
@[simp] theorem eQuery_cf {a : Query} : eQuery.c false a = [(.int .i64 a.VariableCount), (ssl eAtom a.Atoms), (ssl eI a.Free)] := rfl
@[simp] theorem arrQuery_len {b : Bool} {l : List Query} : (arr eQuery b l).length = l.length * 3 := by rw [arr_len]; rfl
def f109 (a : Relation) (left : Int) : Option Int :=
 if (w64 (left - (a.Name.length : Int))) < 0 then
 some (-1)
 else
 some (w64 (left - (a.Name.length : Int)))
def f47_0 (a : (List Relation)) : Int × Int → Option ((Int × Int) ⊕ (Int ⊕ Int))
 | (left_2, i_3) =>
  if i_3 < (a.length : Int) then
  (ix a i_3).bind fun v_5 =>
  (f109 v_5 left_2).bind fun o7 =>
  if o7 < 0 then
  some (.inr (.inr (-1)))
  else
  some (.inl (o7, w64 (i_3 + 1)))
  else
  some (.inr (.inl left_2))
def f47 (a : (List Relation)) (left : Int) : Option Int :=
 if (w64 (left - (a.length : Int))) < 0 then
 some (-1)
 else
 (iter (f47_0 a) (w64 (left - (a.length : Int)), 0)).bind fun o => match o with
 | .inl left_12 =>
 some left_12
 | .inr x_13 =>
 some x_13
def f64 (a : (List Int)) (left : Int) : Option Int :=
 if (w64 (left - (a.length : Int))) < 0 then
 some (-1)
 else
 some (w64 (left - (a.length : Int)))
def f161 (a : Atom) (left : Int) : Option Int :=
 (f64 a.Terms left).bind fun o1 =>
 if o1 < 0 then
 some (-1)
 else
 some o1
def f123_0 (a : (List Atom)) : Int × Int → Option ((Int × Int) ⊕ (Int ⊕ Int))
 | (left_2, i_3) =>
  if i_3 < (a.length : Int) then
  (ix a i_3).bind fun v_5 =>
  (f161 v_5 left_2).bind fun o7 =>
  if o7 < 0 then
  some (.inr (.inr (-1)))
  else
  some (.inl (o7, w64 (i_3 + 1)))
  else
  some (.inr (.inl left_2))
def f123 (a : (List Atom)) (left : Int) : Option Int :=
 if (w64 (left - (a.length : Int))) < 0 then
 some (-1)
 else
 (iter (f123_0 a) (w64 (left - (a.length : Int)), 0)).bind fun o => match o with
 | .inl left_12 =>
 some left_12
 | .inr x_13 =>
 some x_13
def f55 (a : Query) (left : Int) : Option Int :=
 (f123 a.Atoms left).bind fun o1 =>
 if o1 < 0 then
 some (-1)
 else
 (f64 a.Free o1).bind fun o4 =>
 if o4 < 0 then
 some (-1)
 else
 some o4
def f114 (a : Relation) : Option Relation :=
 some a
def f50_0 (a : (List Relation)) : (List Relation) × Int → Option (((List Relation) × Int) ⊕ (List Relation))
 | (out_3, i_4) =>
  if i_4 < (a.length : Int) then
  (ix a i_4).bind fun v_6 =>
  (f114 v_6).bind fun o8 =>
  (ix out_3 i_4).bind fun v_10 =>
  some (.inl ((out_3.set i_4.toNat o8), w64 (i_4 + 1)))
  else
  some (.inr out_3)
def f50 (a : (List Relation)) : Option (List Relation) :=
 (mkl 32 (a.length : Int) ({ Name := [], Arity := 0, KeyLength := 0 } : Relation)).bind fun l_1 =>
 (iter (f50_0 a) (l_1, 0)).bind fun out_15 =>
 some out_15
def f40_0 (a : (List Int)) : (List Int) × Int → Option (((List Int) × Int) ⊕ (List Int))
 | (out_3, i_4) =>
  if i_4 < (a.length : Int) then
  (ix a i_4).bind fun v_6 =>
  (ix out_3 i_4).bind fun v_8 =>
  some (.inl ((out_3.set i_4.toNat v_6), w64 (i_4 + 1)))
  else
  some (.inr out_3)
def f40 (a : (List Int)) : Option (List Int) :=
 (mkl 8 (a.length : Int) 0).bind fun l_1 =>
 (iter (f40_0 a) (l_1, 0)).bind fun out_13 =>
 some out_13
def f162 (a : Atom) : Option Atom :=
 (f40 a.Terms).bind fun o1 =>
 some ({ Relation := a.Relation, Terms := o1 } : Atom)
def f126_0 (a : (List Atom)) : (List Atom) × Int → Option (((List Atom) × Int) ⊕ (List Atom))
 | (out_3, i_4) =>
  if i_4 < (a.length : Int) then
  (ix a i_4).bind fun v_6 =>
  (f162 v_6).bind fun o8 =>
  (ix out_3 i_4).bind fun v_10 =>
  some (.inl ((out_3.set i_4.toNat o8), w64 (i_4 + 1)))
  else
  some (.inr out_3)
def f126 (a : (List Atom)) : Option (List Atom) :=
 (mkl 32 (a.length : Int) (({ Relation := 0, Terms := [] } : Atom) : Atom)).bind fun l_1 =>
 (iter (f126_0 a) (l_1, 0)).bind fun out_15 =>
 some out_15
def f57 (a : Query) : Option Query :=
 (f126 a.Atoms).bind fun o1 =>
 (f40 a.Free).bind fun o3 =>
 some ({ VariableCount := a.VariableCount, Atoms := o1, Free := o3 } : Query)
def f71 (x : Int) (low : Int) (high : Int) : Option Bool :=
 ((if x ≥ low then
 some (decide (x ≤ high))
 else
 some false) : Option (Bool)).bind fun x_1 =>
 some x_1
def f154 (s0 : Relation) : Option Bool :=
 ((if (s0.Name.length : Int) = 1 then
 (ix s0.Name 0).bind fun c_4 =>
 ((if (c_4.toNat : Int) ≥ 97 then
 ((if (c_4.toNat : Int) ≤ 122 then
 (f71 s0.Arity 1 3).bind fun o12 =>
 ((if o12 = true then
 (f71 s0.KeyLength 0 s0.Arity).bind fun o17 =>
 some o17
 else
 some false) : Option (Bool)).bind fun x_14 =>
 some x_14
 else
 some false) : Option (Bool)).bind fun x_9 =>
 some x_9
 else
 some false) : Option (Bool)).bind fun x_6 =>
 some x_6
 else
 some false) : Option (Bool)).bind fun x_1 =>
 some x_1
def f94_0 (l : (List Relation)) : Int → Option (Int ⊕ (Unit ⊕ Bool))
 | i_1 =>
  if i_1 < (l.length : Int) then
  (ix l i_1).bind fun v_3 =>
  (f154 v_3).bind fun o5 =>
  ((if ¬ (o5 = true) then
  some true
  else
  ((if i_1 > 0 then
  (ix l (w64 (i_1 - 1))).bind fun v_13 =>
  some (!(Op.bytesLess v_13.Name v_3.Name))
  else
  some false) : Option (Bool)).bind fun x_10 =>
  some x_10) : Option (Bool)).bind fun x_7 =>
  if x_7 = true then
  some (.inr (.inr false))
  else
  some (.inl (w64 (i_1 + 1)))
  else
  some (.inr (.inl ()))
def f94 (l : (List Relation)) : Option Bool :=
 (iter (f94_0 l) 0).bind fun o => match o with
 | .inl _ =>
 some (decide ((l.length : Int) ≤ 4))
 | .inr x_18 =>
 some x_18
def f124_3 (q : Query) (i_17 : Int) (v_19 : Atom) : Int → Option (Int ⊕ (Unit ⊕ Bool))
 | k_29 =>
  if k_29 < i_17 then
  (ix q.Atoms k_29).bind fun v_31 =>
  if v_31.Relation = v_19.Relation then
  some (.inr (.inr false))
  else
  some (.inl (w64 (k_29 + 1)))
  else
  some (.inr (.inl ()))
def f124_4 (q : Query) (v_19 : Atom) : (List Bool) × Int → Option (((List Bool) × Int) ⊕ ((List Bool) ⊕ Bool))
 | (met_37, k_38) =>
  if k_38 < (v_19.Terms.length : Int) then
  (ix v_19.Terms k_38).bind fun v_40 =>
  (f71 v_40 (-10) (w64 (q.VariableCount - 1))).bind fun o42 =>
  if ¬ (o42 = true) then
  some (.inr (.inr false))
  else
  ((if v_40 ≥ 0 then
  (ix met_37 v_40).bind fun v_48 =>
  some (met_37.set v_40.toNat true)
  else
  some met_37) : Option (List Bool)).bind fun met_51 =>
  some (.inl (met_51, w64 (k_38 + 1)))
  else
  some (.inr (.inl met_37))
def f124_0 (l : (List Relation)) (q : Query) : (List Bool) × Int → Option (((List Bool) × Int) ⊕ ((List Bool) ⊕ Bool))
 | (met_16, i_17) =>
  if i_17 < (q.Atoms.length : Int) then
  (ix q.Atoms i_17).bind fun v_19 =>
  (f71 v_19.Relation 0 (w64 ((l.length : Int) - 1))).bind fun o21 =>
  ((if ¬ (o21 = true) then
  some true
  else
  (ix l v_19.Relation).bind fun v_26 =>
  some (decide ((v_19.Terms.length : Int) ≠ v_26.Arity))) : Option (Bool)).bind fun x_23 =>
  if x_23 = true then
  some (.inr (.inr false))
  else
  (iter (f124_3 q i_17 v_19) 0).bind fun o => match o with
  | .inl _ =>
  ((iter (f124_4 q v_19) (met_16, 0)).bind fun o => match o with
  | .inl met_54 =>
  some (.inl (met_54, w64 (i_17 + 1)))
  | .inr x_55 =>
  some (.inr (.inr x_55)))
  | .inr x_36 =>
  some (.inr (.inr x_36))
  else
  some (.inr (.inl met_16))
def f124_1 (q : Query) (met_58 : (List Bool)) : Int → Option (Int ⊕ (Unit ⊕ Bool))
 | v_60 =>
  if v_60 < q.VariableCount then
  (ix met_58 v_60).bind fun v_62 =>
  if ¬ (v_62 = true) then
  some (.inr (.inr false))
  else
  some (.inl (w64 (v_60 + 1)))
  else
  some (.inr (.inl ()))
def f124_2 (q : Query) : Int → Option (Int ⊕ (Unit ⊕ Bool))
 | i_68 =>
  if i_68 < (q.Free.length : Int) then
  (ix q.Free i_68).bind fun v_70 =>
  (f71 v_70 0 (w64 (q.VariableCount - 1))).bind fun o72 =>
  ((if ¬ (o72 = true) then
  some true
  else
  ((if i_68 > 0 then
  (ix q.Free (w64 (i_68 - 1))).bind fun v_80 =>
  some (decide (v_70 ≤ v_80))
  else
  some false) : Option (Bool)).bind fun x_77 =>
  some x_77) : Option (Bool)).bind fun x_74 =>
  if x_74 = true then
  some (.inr (.inr false))
  else
  some (.inl (w64 (i_68 + 1)))
  else
  some (.inr (.inl ()))
def f124 (l : (List Relation)) (q : Query) : Option Bool :=
 (f94 l).bind fun o1 =>
 ((if ¬ (o1 = true) then
 some true
 else
 (f71 q.VariableCount 0 4).bind fun o6 =>
 ((if ¬ (o6 = true) then
 some true
 else
 (f71 (q.Atoms.length : Int) 1 3).bind fun o11 =>
 some (decide (¬ (o11 = true)))) : Option (Bool)).bind fun x_8 =>
 some x_8) : Option (Bool)).bind fun x_3 =>
 if x_3 = true then
 some false
 else
 (mkl 1 4 false).bind fun l_14 =>
 (iter (f124_0 l q) (l_14, 0)).bind fun o => match o with
 | .inl met_58 =>
 ((iter (f124_1 q met_58) 0).bind fun o => match o with
 | .inl _ =>
 ((iter (f124_2 q) 0).bind fun o => match o with
 | .inl _ =>
 some true
 | .inr x_85 =>
 some x_85)
 | .inr x_67 =>
 some x_67)
 | .inr x_59 =>
 some x_59
def f98_0 (l : (List Int)) (x : Int) : Int → Option (Int ⊕ (Unit ⊕ Bool))
 | i_1 =>
  if i_1 < (l.length : Int) then
  (ix l i_1).bind fun v_3 =>
  if v_3 = x then
  some (.inr (.inr true))
  else
  some (.inl (w64 (i_1 + 1)))
  else
  some (.inr (.inl ()))
def f98 (l : (List Int)) (x : Int) : Option Bool :=
 (iter (f98_0 l x) 0).bind fun o => match o with
 | .inl _ =>
 some false
 | .inr x_8 =>
 some x_8
def f113_0 (a : Atom) : (List Int) × Int → Option (((List Int) × Int) ⊕ (List Int))
 | (out_1, v_2) =>
  if v_2 < 4 then
  (f98 a.Terms v_2).bind fun o4 =>
  ((if o4 = true then
  (app 8 out_1 ([v_2])).bind fun l_9 =>
  some l_9
  else
  some out_1) : Option (List Int)).bind fun out_11 =>
  some (.inl (out_11, w64 (v_2 + 1)))
  else
  some (.inr out_1)
def f113 (a : Atom) : Option (List Int) :=
 (iter (f113_0 a) ([], 0)).bind fun out_14 =>
 some out_14
def f112 (l : (List Relation)) (a : Atom) : Option (List Int) :=
 (f71 a.Relation 0 (w64 ((l.length : Int) - 1))).bind fun o1 =>
 ((if ¬ (o1 = true) then
 some true
 else
 (ix l a.Relation).bind fun v_6 =>
 (f71 v_6.KeyLength 0 (a.Terms.length : Int)).bind fun o8 =>
 some (decide (¬ (o8 = true)))) : Option (Bool)).bind fun x_3 =>
 if x_3 = true then
 some ([])
 else
 (ix l a.Relation).bind fun v_11 =>
 (cutL a.Terms 0 v_11.KeyLength).bind fun l_13 =>
 (f113 ({ Relation := 0, Terms := l_13 } : Atom)).bind fun o15 =>
 some o15
def f188_0 (a : (List Int)) (b : (List Int)) : (List Int) × Int → Option (((List Int) × Int) ⊕ (List Int))
 | (out_1, v_2) =>
  if v_2 < 4 then
  (f98 a v_2).bind fun o4 =>
  ((if o4 = true then
  some true
  else
  (f98 b v_2).bind fun o9 =>
  some o9) : Option (Bool)).bind fun x_6 =>
  ((if x_6 = true then
  (app 8 out_1 ([v_2])).bind fun l_14 =>
  some l_14
  else
  some out_1) : Option (List Int)).bind fun out_16 =>
  some (.inl (out_16, w64 (v_2 + 1)))
  else
  some (.inr out_1)
def f188 (a : (List Int)) (b : (List Int)) : Option (List Int) :=
 (iter (f188_0 a b) ([], 0)).bind fun out_19 =>
 some out_19
def f111_0 (l : (List Int)) (want : (List Int)) : Int → Option (Int ⊕ (Unit ⊕ Bool))
 | i_1 =>
  if i_1 < (want.length : Int) then
  (ix want i_1).bind fun v_3 =>
  (f98 l v_3).bind fun o5 =>
  if ¬ (o5 = true) then
  some (.inr (.inr false))
  else
  some (.inl (w64 (i_1 + 1)))
  else
  some (.inr (.inl ()))
def f111 (l : (List Int)) (want : (List Int)) : Option Bool :=
 (iter (f111_0 l want) 0).bind fun o => match o with
 | .inl _ =>
 some true
 | .inr x_10 =>
 some x_10
def f191_1 (l : (List Relation)) (q : Query) (skip : Int) : (List Int) × Int → Option (((List Int) × Int) ⊕ (List Int))
 | (out_9, i_10) =>
  if i_10 < (q.Atoms.length : Int) then
  ((if i_10 ≠ skip then
  (ix q.Atoms i_10).bind fun v_15 =>
  (f112 l v_15).bind fun o17 =>
  (f111 out_9 o17).bind fun o19 =>
  some o19
  else
  some false) : Option (Bool)).bind fun x_12 =>
  ((if x_12 = true then
  (ix q.Atoms i_10).bind fun v_24 =>
  (f113 v_24).bind fun o26 =>
  (f188 out_9 o26).bind fun o28 =>
  some o28
  else
  some out_9) : Option (List Int)).bind fun out_30 =>
  some (.inl (out_30, w64 (i_10 + 1)))
  else
  some (.inr out_9)
def f191_0 (l : (List Relation)) (q : Query) (skip : Int) : (List Int) × Int → Option (((List Int) × Int) ⊕ (List Int))
 | (out_6, n_7) =>
  if n_7 < (q.Atoms.length : Int) then
  (iter (f191_1 l q skip) (out_6, 0)).bind fun out_33 =>
  some (.inl (out_33, w64 (n_7 + 1)))
  else
  some (.inr out_6)
def f191 (l : (List Relation)) (q : Query) (skip : Int) (vars : (List Int)) : Option (List Int) :=
 (f124 l q).bind fun o1 =>
 if ¬ (o1 = true) then
 some ([])
 else
 (f188 vars q.Free).bind fun o4 =>
 (iter (f191_0 l q skip) (o4, 0)).bind fun out_36 =>
 some out_36
def f187 (l : (List Relation)) (q : Query) (k : Int) : Option (List Int) :=
 (f124 l q).bind fun o1 =>
 ((if ¬ (o1 = true) then
 some true
 else
 (f71 k 0 (w64 ((q.Atoms.length : Int) - 1))).bind fun o6 =>
 some (decide (¬ (o6 = true)))) : Option (Bool)).bind fun x_3 =>
 if x_3 = true then
 some ([])
 else
 (ix q.Atoms k).bind fun v_9 =>
 (f112 l v_9).bind fun o11 =>
 (f191 l q k o11).bind fun o13 =>
 some o13
def f167_2 (out_14 : (List Int)) (o19 : (List Int)) : Bool × Int → Option ((Bool × Int) ⊕ Bool)
 | (met_21, j_22) =>
  if j_22 < (o19.length : Int) then
  ((if met_21 = true then
  some true
  else
  (ix o19 j_22).bind fun v_27 =>
  (f98 out_14 v_27).bind fun o29 =>
  some o29) : Option (Bool)).bind fun met_24 =>
  some (.inl (met_24, w64 (j_22 + 1)))
  else
  some (.inr met_21)
def f167_3 (o9 : (List Int)) (o19 : (List Int)) (met_33 : Bool) : (List Int) × Int → Option (((List Int) × Int) ⊕ (List Int))
 | (out_34, j_35) =>
  ((if j_35 < (o19.length : Int) then
  some met_33
  else
  some false) : Option (Bool)).bind fun x_36 =>
  if x_36 = true then
  (ix o19 j_35).bind fun v_40 =>
  (f98 o9 v_40).bind fun o42 =>
  ((if ¬ (o42 = true) then
  (f188 out_34 ([v_40])).bind fun o47 =>
  some o47
  else
  some out_34) : Option (List Int)).bind fun out_49 =>
  some (.inl (out_49, w64 (j_35 + 1)))
  else
  some (.inr out_34)
def f167_1 (q : Query) (k : Int) (o9 : (List Int)) : (List Int) × Int → Option (((List Int) × Int) ⊕ (List Int))
 | (out_14, i_15) =>
  if i_15 < (q.Atoms.length : Int) then
  (ix q.Atoms i_15).bind fun v_17 =>
  (f113 v_17).bind fun o19 =>
  (iter (f167_2 out_14 o19) ((decide (i_15 = k)), 0)).bind fun met_33 =>
  (iter (f167_3 o9 o19 met_33) (out_14, 0)).bind fun out_52 =>
  some (.inl (out_52, w64 (i_15 + 1)))
  else
  some (.inr out_14)
def f167_0 (q : Query) (k : Int) (o9 : (List Int)) : (List Int) × Int → Option (((List Int) × Int) ⊕ (List Int))
 | (out_11, n_12) =>
  if n_12 ≤ (q.Atoms.length : Int) then
  (iter (f167_1 q k o9) (out_11, 0)).bind fun out_55 =>
  some (.inl (out_55, w64 (n_12 + 1)))
  else
  some (.inr out_11)
def f167 (l : (List Relation)) (q : Query) (k : Int) : Option (List Int) :=
 (f124 l q).bind fun o1 =>
 ((if ¬ (o1 = true) then
 some true
 else
 (f71 k 0 (w64 ((q.Atoms.length : Int) - 1))).bind fun o6 =>
 some (decide (¬ (o6 = true)))) : Option (Bool)).bind fun x_3 =>
 if x_3 = true then
 some ([])
 else
 (f187 l q k).bind fun o9 =>
 (iter (f167_0 q k o9) ([], 0)).bind fun out_58 =>
 some out_58
def f125_0 (o17 : (List Int)) (o21 : (List Int)) : Int → Option (Int ⊕ (Unit ⊕ Bool))
 | j_23 =>
  if j_23 < (o21.length : Int) then
  (ix o21 j_23).bind fun v_25 =>
  (f98 o17 v_25).bind fun o27 =>
  if o27 = true then
  some (.inr (.inr true))
  else
  some (.inl (w64 (j_23 + 1)))
  else
  some (.inr (.inl ()))
def f125 (l : (List Relation)) (q : Query) (i : Int) (k : Int) : Option Bool :=
 (f124 l q).bind fun o1 =>
 ((if ¬ (o1 = true) then
 some true
 else
 (f71 i 0 (w64 ((q.Atoms.length : Int) - 1))).bind fun o6 =>
 ((if ¬ (o6 = true) then
 some true
 else
 (f71 k 0 (w64 ((q.Atoms.length : Int) - 1))).bind fun o11 =>
 ((if ¬ (o11 = true) then
 some true
 else
 some (decide (i = k))) : Option (Bool)).bind fun x_13 =>
 some x_13) : Option (Bool)).bind fun x_8 =>
 some x_8) : Option (Bool)).bind fun x_3 =>
 if x_3 = true then
 some false
 else
 (f167 l q i).bind fun o17 =>
 (ix q.Atoms k).bind fun v_19 =>
 (f113 v_19).bind fun o21 =>
 (iter (f125_0 o17 o21) 0).bind fun o => match o with
 | .inl _ =>
 some false
 | .inr x_32 =>
 some x_32
def f171 (l : (List Relation)) (q : Query) (from2 : (List Int)) (to : (List Int)) : Option Bool :=
 (f124 l q).bind fun o1 =>
 ((if o1 = true then
 (f191 l q (-1) from2).bind fun o6 =>
 (f111 o6 to).bind fun o8 =>
 some o8
 else
 some false) : Option (Bool)).bind fun x_3 =>
 some x_3
def f130 (l : (List Relation)) (q : Query) (i : Int) (k : Int) : Option Bool :=
 (f125 l q i k).bind fun o1 =>
 ((if o1 = true then
 (ix q.Atoms i).bind fun v_6 =>
 (ix q.Atoms k).bind fun v_8 =>
 (f112 l v_6).bind fun o10 =>
 (f112 l v_8).bind fun o12 =>
 (f171 l q o10 o12).bind fun o14 =>
 some o14
 else
 some false) : Option (Bool)).bind fun x_3 =>
 some x_3
def f56_2 (l : (List Relation)) (q : Query) (i : Int) (a_20 : Int) : (List Bool) × Int → Option (((List Bool) × Int) ⊕ (List Bool))
 | (met_22, b_23) =>
  if b_23 < (q.Atoms.length : Int) then
  ((if a_20 = i then
  (f125 l q a_20 b_23).bind fun o28 =>
  some o28
  else
  (ix met_22 a_20).bind fun v_30 =>
  ((if v_30 = true then
  (f125 l q a_20 b_23).bind fun o35 =>
  some o35
  else
  some false) : Option (Bool)).bind fun x_32 =>
  some x_32) : Option (Bool)).bind fun x_25 =>
  ((if x_25 = true then
  (ix met_22 b_23).bind fun v_40 =>
  some (met_22.set b_23.toNat true)
  else
  some met_22) : Option (List Bool)).bind fun met_43 =>
  some (.inl (met_43, w64 (b_23 + 1)))
  else
  some (.inr met_22)
def f56_1 (l : (List Relation)) (q : Query) (i : Int) : (List Bool) × Int → Option (((List Bool) × Int) ⊕ (List Bool))
 | (met_19, a_20) =>
  if a_20 < (q.Atoms.length : Int) then
  (iter (f56_2 l q i a_20) (met_19, 0)).bind fun met_46 =>
  some (.inl (met_46, w64 (a_20 + 1)))
  else
  some (.inr met_19)
def f56_0 (l : (List Relation)) (q : Query) (i : Int) : (List Bool) × Int → Option (((List Bool) × Int) ⊕ (List Bool))
 | (met_16, n_17) =>
  if n_17 ≤ (q.Atoms.length : Int) then
  (iter (f56_1 l q i) (met_16, 0)).bind fun met_49 =>
  some (.inl (met_49, w64 (n_17 + 1)))
  else
  some (.inr met_16)
def f56 (l : (List Relation)) (q : Query) (i : Int) (k : Int) : Option Bool :=
 (f124 l q).bind fun o1 =>
 ((if ¬ (o1 = true) then
 some true
 else
 (f71 i 0 (w64 ((q.Atoms.length : Int) - 1))).bind fun o6 =>
 ((if ¬ (o6 = true) then
 some true
 else
 (f71 k 0 (w64 ((q.Atoms.length : Int) - 1))).bind fun o11 =>
 some (decide (¬ (o11 = true)))) : Option (Bool)).bind fun x_8 =>
 some x_8) : Option (Bool)).bind fun x_3 =>
 if x_3 = true then
 some false
 else
 (mkl 1 (q.Atoms.length : Int) false).bind fun l_14 =>
 (iter (f56_0 l q i) (l_14, 0)).bind fun met_52 =>
 (ix met_52 k).bind fun v_53 =>
 some v_53
def f60_0 (l : (List Relation)) (q : Query) : Int → Option (Int ⊕ (Unit ⊕ Bool))
 | i_1 =>
  if i_1 < (q.Atoms.length : Int) then
  (f56 l q i_1 i_1).bind fun o3 =>
  if o3 = true then
  some (.inr (.inr true))
  else
  some (.inl (w64 (i_1 + 1)))
  else
  some (.inr (.inl ()))
def f60 (l : (List Relation)) (q : Query) : Option Bool :=
 (iter (f60_0 l q) 0).bind fun o => match o with
 | .inl _ =>
 some false
 | .inr x_8 =>
 some x_8
def f62_1 (l : (List Relation)) (q : Query) (i_4 : Int) : Int → Option (Int ⊕ (Unit ⊕ Int))
 | k_6 =>
  if k_6 < (q.Atoms.length : Int) then
  (f125 l q i_4 k_6).bind fun o8 =>
  ((if o8 = true then
  (f130 l q i_4 k_6).bind fun o13 =>
  ((if ¬ (o13 = true) then
  (f56 l q k_6 i_4).bind fun o18 =>
  some o18
  else
  some false) : Option (Bool)).bind fun x_15 =>
  some x_15
  else
  some false) : Option (Bool)).bind fun x_10 =>
  if x_10 = true then
  some (.inr (.inr 3))
  else
  some (.inl (w64 (k_6 + 1)))
  else
  some (.inr (.inl ()))
def f62_0 (l : (List Relation)) (q : Query) : Int → Option (Int ⊕ (Unit ⊕ Int))
 | i_4 =>
  if i_4 < (q.Atoms.length : Int) then
  (iter (f62_1 l q i_4) 0).bind fun o => match o with
  | .inl _ =>
  some (.inl (w64 (i_4 + 1)))
  | .inr x_23 =>
  some (.inr (.inr x_23))
  else
  some (.inr (.inl ()))
def f62 (l : (List Relation)) (q : Query) : Option Int :=
 (f124 l q).bind fun o1 =>
 if ¬ (o1 = true) then
 some 0
 else
 (iter (f62_0 l q) 0).bind fun o => match o with
 | .inl _ =>
 (f60 l q).bind fun o27 =>
 if o27 = true then
 some 2
 else
 some 1
 | .inr x_26 =>
 some x_26
def f87 (n0 : Int) (low : Int) (high : Int) : Option Bool :=
 ((if low ≤ n0 then
 some (decide (n0 ≤ high))
 else
 some false) : Option (Bool)).bind fun x_1 =>
 some x_1
def f163 (relation : Relation) : Option Bool :=
 ((if (relation.Name.length : Int) = 1 then
 (ix relation.Name 0).bind fun c_4 =>
 ((if (c_4.toNat : Int) ≥ 97 then
 ((if (c_4.toNat : Int) ≤ 122 then
 (f87 relation.Arity 1 3).bind fun o12 =>
 ((if o12 = true then
 (f87 relation.KeyLength 0 relation.Arity).bind fun o17 =>
 some o17
 else
 some false) : Option (Bool)).bind fun x_14 =>
 some x_14
 else
 some false) : Option (Bool)).bind fun x_9 =>
 some x_9
 else
 some false) : Option (Bool)).bind fun x_6 =>
 some x_6
 else
 some false) : Option (Bool)).bind fun x_1 =>
 some x_1
def f116_0 (relations : (List Relation)) : Int → Option (Int ⊕ (Unit ⊕ Bool))
 | x_1 =>
  if x_1 < (relations.length : Int) then
  (ix relations x_1).bind fun v_3 =>
  (f163 v_3).bind fun o5 =>
  ((if ¬ (o5 = true) then
  some true
  else
  ((if x_1 > 0 then
  (ix relations (w64 (x_1 - 1))).bind fun v_13 =>
  some (!(Op.bytesLess v_13.Name v_3.Name))
  else
  some false) : Option (Bool)).bind fun x_10 =>
  some x_10) : Option (Bool)).bind fun x_7 =>
  if x_7 = true then
  some (.inr (.inr false))
  else
  some (.inl (w64 (x_1 + 1)))
  else
  some (.inr (.inl ()))
def f116 (relations : (List Relation)) : Option Bool :=
 (iter (f116_0 relations) 0).bind fun o => match o with
 | .inl _ =>
 some (decide ((relations.length : Int) ≤ 4))
 | .inr x_18 =>
 some x_18
def f101_0 (indices : (List Int)) (n1 : Int) : Int → Option (Int ⊕ (Unit ⊕ Bool))
 | x_1 =>
  if x_1 < (indices.length : Int) then
  (ix indices x_1).bind fun v_3 =>
  (f87 v_3 0 (w64 (n1 - 1))).bind fun o5 =>
  ((if ¬ (o5 = true) then
  some true
  else
  ((if x_1 > 0 then
  (ix indices (w64 (x_1 - 1))).bind fun v_13 =>
  some (decide (v_13 ≥ v_3))
  else
  some false) : Option (Bool)).bind fun x_10 =>
  some x_10) : Option (Bool)).bind fun x_7 =>
  if x_7 = true then
  some (.inr (.inr false))
  else
  some (.inl (w64 (x_1 + 1)))
  else
  some (.inr (.inl ()))
def f101 (indices : (List Int)) (n1 : Int) : Option Bool :=
 (iter (f101_0 indices n1) 0).bind fun o => match o with
 | .inl _ =>
 some true
 | .inr x_18 =>
 some x_18
def f189_0 (s0 : (List Atom)) (f : Atom → Option Bool) : Int → Option (Int ⊕ (Unit ⊕ Int))
 | x_1 =>
  if x_1 < (s0.length : Int) then
  (ix s0 x_1).bind fun v_3 =>
  (f v_3).bind fun o5 =>
  if o5 = true then
  some (.inr (.inr x_1))
  else
  some (.inl (w64 (x_1 + 1)))
  else
  some (.inr (.inl ()))
def f189 (s0 : (List Atom)) (f : Atom → Option Bool) : Option Int :=
 (iter (f189_0 s0 f) 0).bind fun o => match o with
 | .inl _ =>
 some (-1)
 | .inr x_10 =>
 some x_10
def f168 (s0 : (List Atom)) (f : Atom → Option Bool) : Option Bool :=
 (f189 s0 f).bind fun o1 =>
 some (decide (o1 ≥ 0))
def f169 (own : Atom) (c : Atom) : Option Bool :=
 some (decide (own.Relation = c.Relation))
def f198 (n : Int) : Option Nat := growN 8 n
def f184_0 (slices : (List (List Int))) : Int × Int → Option ((Int × Int) ⊕ Int)
 | (size_1, x_2) =>
  if x_2 < (slices.length : Int) then
  (ix slices x_2).bind fun v_4 =>
  ((if (w64 (size_1 + (v_4.length : Int))) < 0 then
  none
  else
  some ()) : Option Unit).bind fun _ =>
  some (.inl (w64 (size_1 + (v_4.length : Int)), w64 (x_2 + 1)))
  else
  some (.inr size_1)
def f184_1 (slices : (List (List Int))) : Nat × (List Int) × Int → Option ((Nat × (List Int) × Int) ⊕ (Nat × (List Int)))
 | (newslice_14, newslice_15, x_16) =>
  if x_16 < (slices.length : Int) then
  (ix slices x_16).bind fun v_18 =>
  (apps 8 newslice_15 newslice_14 v_18).bind fun l_20 =>
  some (.inl (l_20.2, l_20.1, w64 (x_16 + 1)))
  else
  some (.inr (newslice_14, newslice_15))
def f184 (slices : (List (List Int))) : Option (List Int) :=
 (iter (f184_0 slices) (0, 0)).bind fun size_11 =>
 (f198 size_11).bind fun o12 =>
 (iter (f184_1 slices) (o12, [], 0)).bind fun (newslice_24, newslice_25) =>
 (nsk newslice_24).bind fun _ =>
 some newslice_25
def f214 (x : Int) : Option Int :=
 ((if x ≥ 4294967296 then
 some (sshr .u64 x 32, 32)
 else
 some (x, 0)) : Option (Int × Int)).bind fun (x_4, n_5) =>
 ((if x_4 ≥ 65536 then
 some (sshr .u64 x_4 16, w64 (n_5 + 16))
 else
 some (x_4, n_5)) : Option (Int × Int)).bind fun (x_9, n_10) =>
 ((if x_9 ≥ 256 then
 some (sshr .u64 x_9 8, w64 (n_10 + 8))
 else
 some (x_9, n_10)) : Option (Int × Int)).bind fun (x_14, n_15) =>
 (ix ([0, 1, 2, 2, 3, 3, 3, 3, 4, 4, 4, 4, 4, 4, 4, 4, 5, 5, 5, 5, 5, 5, 5, 5, 5, 5, 5, 5, 5, 5, 5, 5, 6, 6, 6, 6, 6, 6, 6, 6, 6, 6, 6, 6, 6, 6, 6, 6, 6, 6, 6, 6, 6, 6, 6, 6, 6, 6, 6, 6, 6, 6, 6, 6, 7, 7, 7, 7, 7, 7, 7, 7, 7, 7, 7, 7, 7, 7, 7, 7, 7, 7, 7, 7, 7, 7, 7, 7, 7, 7, 7, 7, 7, 7, 7, 7, 7, 7, 7, 7, 7, 7, 7, 7, 7, 7, 7, 7, 7, 7, 7, 7, 7, 7, 7, 7, 7, 7, 7, 7, 7, 7, 7, 7, 7, 7, 7, 7, 8, 8, 8, 8, 8, 8, 8, 8, 8, 8, 8, 8, 8, 8, 8, 8, 8, 8, 8, 8, 8, 8, 8, 8, 8, 8, 8, 8, 8, 8, 8, 8, 8, 8, 8, 8, 8, 8, 8, 8, 8, 8, 8, 8, 8, 8, 8, 8, 8, 8, 8, 8, 8, 8, 8, 8, 8, 8, 8, 8, 8, 8, 8, 8, 8, 8, 8, 8, 8, 8, 8, 8, 8, 8, 8, 8, 8, 8, 8, 8, 8, 8, 8, 8, 8, 8, 8, 8, 8, 8, 8, 8, 8, 8, 8, 8, 8, 8, 8, 8, 8, 8, 8, 8, 8, 8, 8, 8, 8, 8, 8, 8, 8, 8, 8, 8, 8, 8, 8, 8, 8, 8, 8, 8, 8, 8, 8, 8] : List UInt8) (w8 x_14)).bind fun c_16 =>
 some (w64 (n_15 + (w64 (c_16.toNat : Int))))
def f200 (x : Int) : Option Int :=
 (f214 x).bind fun o1 =>
 some o1
def f203 (x : Int) : Option Bool :=
 some (decide (x ≠ x))
def f210 (x : Int) (y : Int) : Option Bool :=
 (f203 x).bind fun o1 =>
 ((if o1 = true then
 (f203 y).bind fun o6 =>
 ((if ¬ (o6 = true) then
 some true
 else
 some (decide (x < y))) : Option (Bool)).bind fun x_8 =>
 some x_8
 else
 some (decide (x < y))) : Option (Bool)).bind fun x_3 =>
 some x_3
def f204_1 (a : Int) : (List Int) × Int → Option (((List Int) × Int) ⊕ (List Int))
 | (data_4, j_5) =>
  ((if j_5 > a then
  (ix data_4 j_5).bind fun v_9 =>
  (ix data_4 (w64 (j_5 - 1))).bind fun v_11 =>
  (f210 v_9 v_11).bind fun o13 =>
  some o13
  else
  some false) : Option (Bool)).bind fun x_6 =>
  if x_6 = true then
  (ix data_4 (w64 (j_5 - 1))).bind fun v_16 =>
  (ix data_4 j_5).bind fun v_18 =>
  (ix (data_4.set j_5.toNat v_16) (w64 (j_5 - 1))).bind fun v_21 =>
  some (.inl (((data_4.set j_5.toNat v_16).set (w64 (j_5 - 1)).toNat v_18), w64 (j_5 - 1)))
  else
  some (.inr data_4)
def f204_0 (a : Int) (b : Int) : (List Int) × Int → Option (((List Int) × Int) ⊕ (List Int))
 | (data_1, i_2) =>
  if i_2 < b then
  (iter (f204_1 a) (data_1, i_2)).bind fun data_26 =>
  some (.inl (data_26, w64 (i_2 + 1)))
  else
  some (.inr data_1)
def f204 (data : (List Int)) (a : Int) (b : Int) : Option (List Int) :=
 (iter (f204_0 a b) (data, w64 (a + 1))).bind fun data_29 =>
 some data_29
def f215_0 (hi : Int) (first : Int) : (List Int) × Int → Option (((List Int) × Int) ⊕ ((List Int) ⊕ (List Int)))
 | (data_1, root_2) =>
  if (w64 ((w64 (2 * root_2)) + 1)) ≥ hi then
  some (.inr (.inl data_1))
  else
  ((if (w64 ((w64 ((w64 (2 * root_2)) + 1)) + 1)) < hi then
  (ix data_1 (w64 (first + (w64 ((w64 (2 * root_2)) + 1))))).bind fun v_7 =>
  (ix data_1 (w64 ((w64 (first + (w64 ((w64 (2 * root_2)) + 1)))) + 1))).bind fun v_9 =>
  (f210 v_7 v_9).bind fun o11 =>
  some o11
  else
  some false) : Option (Bool)).bind fun x_4 =>
  ((if x_4 = true then
  some (w64 ((w64 ((w64 (2 * root_2)) + 1)) + 1))
  else
  some (w64 ((w64 (2 * root_2)) + 1))) : Option Int).bind fun child_16 =>
  (ix data_1 (w64 (first + root_2))).bind fun v_17 =>
  (ix data_1 (w64 (first + child_16))).bind fun v_19 =>
  (f210 v_17 v_19).bind fun o21 =>
  if ¬ (o21 = true) then
  some (.inr (.inr data_1))
  else
  (ix (data_1.set (w64 (first + root_2)).toNat v_19) (w64 (first + child_16))).bind fun v_25 =>
  some (.inl (((data_1.set (w64 (first + root_2)).toNat v_19).set (w64 (first + child_16)).toNat v_17), child_16))
def f215 (data : (List Int)) (lo : Int) (hi : Int) (first : Int) : Option (List Int) :=
 (iter (f215_0 hi first) (data, lo)).bind fun o => match o with
 | .inl data_30 =>
 some data_30
 | .inr data_31 =>
 some data_31
def f205_0 (a : Int) (b : Int) : (List Int) × Int → Option (((List Int) × Int) ⊕ (List Int))
 | (data_1, i_2) =>
  if i_2 ≥ 0 then
  (f215 data_1 i_2 (w64 (b - a)) a).bind fun o4 =>
  some (.inl (o4, w64 (i_2 - 1)))
  else
  some (.inr data_1)
def f205_1 (a : Int) : (List Int) × Int → Option (((List Int) × Int) ⊕ (List Int))
 | (data_9, i_10) =>
  if i_10 ≥ 0 then
  (ix data_9 (w64 (a + i_10))).bind fun v_12 =>
  (ix data_9 a).bind fun v_14 =>
  (ix (data_9.set a.toNat v_12) (w64 (a + i_10))).bind fun v_17 =>
  (f215 ((data_9.set a.toNat v_12).set (w64 (a + i_10)).toNat v_14) 0 i_10 a).bind fun o20 =>
  some (.inl (o20, w64 (i_10 - 1)))
  else
  some (.inr data_9)
def f205 (data : (List Int)) (a : Int) (b : Int) : Option (List Int) :=
 (iter (f205_0 a b) (data, w64 ((w64 ((w64 (b - a)) - 1)).tdiv 2))).bind fun data_8 =>
 (iter (f205_1 a) (data_8, w64 ((w64 (b - a)) - 1))).bind fun data_24 =>
 some data_24
def f216 (length : Int) : Option Int :=
 (f200 (IntKind.u64.wrap length)).bind fun o1 =>
 (nn o1).bind fun z_3 =>
 some (sshl .u64 1 o1)
def f217 (r0 : Int) : Option (Int × Int) :=
 some (bxor .u64 (bxor .u64 (bxor .u64 r0 (sshl .u64 r0 13)) (sshr .u64 (bxor .u64 r0 (sshl .u64 r0 13)) 7)) (sshl .u64 (bxor .u64 (bxor .u64 r0 (sshl .u64 r0 13)) (sshr .u64 (bxor .u64 r0 (sshl .u64 r0 13)) 7)) 17), bxor .u64 (bxor .u64 (bxor .u64 r0 (sshl .u64 r0 13)) (sshr .u64 (bxor .u64 r0 (sshl .u64 r0 13)) 7)) (sshl .u64 (bxor .u64 (bxor .u64 r0 (sshl .u64 r0 13)) (sshr .u64 (bxor .u64 r0 (sshl .u64 r0 13)) 7)) 17))
def f206_0 (a : Int) (b : Int) (o4 : Int) : (List Int) × Int × Int → Option (((List Int) × Int × Int) ⊕ (List Int))
 | (data_6, random_7, idx_8) =>
  if idx_8 ≤ (w64 ((w64 (a + (w64 ((w64 ((w64 (b - a)).tdiv 4)) * 2)))) + 1)) then
  (f217 random_7).bind fun o10 =>
  ((if (w64 (band .u64 o10.1 (IntKind.u64.wrap (o4 - 1)))) ≥ (w64 (b - a)) then
  some (w64 ((w64 (band .u64 o10.1 (IntKind.u64.wrap (o4 - 1)))) - (w64 (b - a))))
  else
  some (w64 (band .u64 o10.1 (IntKind.u64.wrap (o4 - 1))))) : Option Int).bind fun other_15 =>
  (ix data_6 (w64 (a + other_15))).bind fun v_16 =>
  (ix data_6 idx_8).bind fun v_18 =>
  (ix (data_6.set idx_8.toNat v_16) (w64 (a + other_15))).bind fun v_21 =>
  some (.inl (((data_6.set idx_8.toNat v_16).set (w64 (a + other_15)).toNat v_18), o10.2, w64 (idx_8 + 1)))
  else
  some (.inr data_6)
def f206 (data : (List Int)) (a : Int) (b : Int) : Option (List Int) :=
 ((if (w64 (b - a)) ≥ 8 then
 (f216 (w64 (b - a))).bind fun o4 =>
 (iter (f206_0 a b o4) (data, IntKind.u64.wrap (w64 (b - a)), w64 ((w64 (a + (w64 ((w64 ((w64 (b - a)).tdiv 4)) * 2)))) - 1))).bind fun data_26 =>
 some data_26
 else
 some data) : Option (List Int)).bind fun data_27 =>
 some data_27
def f220 (data : (List Int)) (a : Int) (b : Int) (swaps : Int) : Option (Int × Int × Int) :=
 (ix data b).bind fun v_1 =>
 (ix data a).bind fun v_3 =>
 (f210 v_1 v_3).bind fun o5 =>
 if o5 = true then
 some (b, a, w64 (swaps + 1))
 else
 some (a, b, swaps)
def f219 (data : (List Int)) (a : Int) (b : Int) (c : Int) (swaps : Int) : Option (Int × Int) :=
 (f220 data a b swaps).bind fun o1 =>
 (f220 data o1.2.1 c o1.2.2).bind fun o3 =>
 (f220 data o1.1 o3.1 o3.2.2).bind fun o5 =>
 some (o5.2.1, o5.2.2)
def f218 (data : (List Int)) (a : Int) (swaps : Int) : Option (Int × Int) :=
 (f219 data (w64 (a - 1)) a (w64 (a + 1)) swaps).bind fun o1 =>
 some (o1.1, o1.2)
def f207 (data : (List Int)) (a : Int) (b : Int) : Option (Int × Int) :=
 ((if (w64 (b - a)) ≥ 8 then
 ((if (w64 (b - a)) ≥ 50 then
 (f218 data (w64 (a + (w64 (w64 ((w64 (b - a)).tdiv 4))))) 0).bind fun o7 =>
 (f218 data (w64 (a + (w64 ((w64 ((w64 (b - a)).tdiv 4)) * 2)))) o7.2).bind fun o9 =>
 (f218 data (w64 (a + (w64 ((w64 ((w64 (b - a)).tdiv 4)) * 3)))) o9.2).bind fun o11 =>
 some (o11.2, o7.1, o9.1, o11.1)
 else
 some (0, w64 (a + (w64 (w64 ((w64 (b - a)).tdiv 4)))), w64 (a + (w64 ((w64 ((w64 (b - a)).tdiv 4)) * 2))), w64 (a + (w64 ((w64 ((w64 (b - a)).tdiv 4)) * 3))))) : Option (Int × Int × Int × Int)).bind fun (swaps_13, i_14, j_15, k_16) =>
 (f219 data i_14 j_15 k_16 swaps_13).bind fun o17 =>
 some (o17.2, o17.1)
 else
 some (0, w64 (a + (w64 ((w64 ((w64 (b - a)).tdiv 4)) * 2))))) : Option (Int × Int)).bind fun (swaps_19, j_20) =>
 if swaps_19 = 0 then
 some (j_20, 1)
 else
 if swaps_19 = 12 then
 some (j_20, 2)
 else
 some (j_20, 0)
def f208_0 : (List Int) × Int × Int → Option (((List Int) × Int × Int) ⊕ (List Int))
 | (data_1, i_2, j_3) =>
  if i_2 < j_3 then
  (ix data_1 j_3).bind fun v_5 =>
  (ix data_1 i_2).bind fun v_7 =>
  (ix (data_1.set i_2.toNat v_5) j_3).bind fun v_10 =>
  some (.inl (((data_1.set i_2.toNat v_5).set j_3.toNat v_7), w64 (i_2 + 1), w64 (j_3 - 1)))
  else
  some (.inr data_1)
def f208 (data : (List Int)) (a : Int) (b : Int) : Option (List Int) :=
 (iter f208_0 (data, a, w64 (b - 1))).bind fun data_15 =>
 some data_15
def f209_1 (b : Int) (data_1 : (List Int)) : Int → Option (Int ⊕ Int)
 | i_5 =>
  ((if i_5 < b then
  (ix data_1 i_5).bind fun v_9 =>
  (ix data_1 (w64 (i_5 - 1))).bind fun v_11 =>
  (f210 v_9 v_11).bind fun o13 =>
  some (decide (¬ (o13 = true)))
  else
  some false) : Option (Bool)).bind fun x_6 =>
  if x_6 = true then
  some (.inl (w64 (i_5 + 1)))
  else
  some (.inr i_5)
def f209_2 : (List Int) × Int → Option (((List Int) × Int) ⊕ (List Int))
 | (data_32, j_33) =>
  if j_33 ≥ 1 then
  (ix data_32 j_33).bind fun v_35 =>
  (ix data_32 (w64 (j_33 - 1))).bind fun v_37 =>
  (f210 v_35 v_37).bind fun o39 =>
  if ¬ (o39 = true) then
  some (.inr data_32)
  else
  (ix (data_32.set j_33.toNat v_37) (w64 (j_33 - 1))).bind fun v_43 =>
  some (.inl (((data_32.set j_33.toNat v_37).set (w64 (j_33 - 1)).toNat v_35), w64 (j_33 - 1)))
  else
  some (.inr data_32)
def f209_3 (b : Int) : (List Int) × Int → Option (((List Int) × Int) ⊕ (List Int))
 | (data_53, j_54) =>
  if j_54 < b then
  (ix data_53 j_54).bind fun v_56 =>
  (ix data_53 (w64 (j_54 - 1))).bind fun v_58 =>
  (f210 v_56 v_58).bind fun o60 =>
  if ¬ (o60 = true) then
  some (.inr data_53)
  else
  (ix (data_53.set j_54.toNat v_58) (w64 (j_54 - 1))).bind fun v_64 =>
  some (.inl (((data_53.set j_54.toNat v_58).set (w64 (j_54 - 1)).toNat v_56), w64 (j_54 + 1)))
  else
  some (.inr data_53)
def f209_0 (a : Int) (b : Int) : (List Int) × Int × Int → Option (((List Int) × Int × Int) ⊕ ((List Int) ⊕ ((List Int) × Bool)))
 | (data_1, i_2, j_3) =>
  if j_3 < 5 then
  (iter (f209_1 b data_1) i_2).bind fun i_18 =>
  if i_18 = b then
  some (.inr (.inr (data_1, true)))
  else
  if (w64 (b - a)) < 50 then
  some (.inr (.inr (data_1, false)))
  else
  (ix data_1 (w64 (i_18 - 1))).bind fun v_21 =>
  (ix data_1 i_18).bind fun v_23 =>
  (ix (data_1.set i_18.toNat v_21) (w64 (i_18 - 1))).bind fun v_26 =>
  ((if (w64 (i_18 - a)) ≥ 2 then
  (iter f209_2 (((data_1.set i_18.toNat v_21).set (w64 (i_18 - 1)).toNat v_23), w64 (i_18 - 1))).bind fun data_48 =>
  some data_48
  else
  some ((data_1.set i_18.toNat v_21).set (w64 (i_18 - 1)).toNat v_23)) : Option (List Int)).bind fun data_49 =>
  ((if (w64 (b - i_18)) ≥ 2 then
  (iter (f209_3 b) (data_49, w64 (i_18 + 1))).bind fun data_69 =>
  some data_69
  else
  some data_49) : Option (List Int)).bind fun data_70 =>
  some (.inl (data_70, i_18, w64 (j_3 + 1)))
  else
  some (.inr (.inl data_1))
def f209 (data : (List Int)) (a : Int) (b : Int) : Option (Bool × (List Int)) :=
 (iter (f209_0 a b) (data, w64 (a + 1), 0)).bind fun o => match o with
 | .inl data_73 =>
 some (false, data_73)
 | .inr (data_74, x_75) =>
 some (x_75, data_74)
def f211_1 (a : Int) (data_9 : (List Int)) (j_11 : Int) : Int → Option (Int ⊕ Int)
 | i_12 =>
  ((if i_12 ≤ j_11 then
  (ix data_9 a).bind fun v_16 =>
  (ix data_9 i_12).bind fun v_18 =>
  (f210 v_16 v_18).bind fun o20 =>
  some (decide (¬ (o20 = true)))
  else
  some false) : Option (Bool)).bind fun x_13 =>
  if x_13 = true then
  some (.inl (w64 (i_12 + 1)))
  else
  some (.inr i_12)
def f211_2 (a : Int) (data_9 : (List Int)) (i_25 : Int) : Int → Option (Int ⊕ Int)
 | j_26 =>
  ((if i_25 ≤ j_26 then
  (ix data_9 a).bind fun v_30 =>
  (ix data_9 j_26).bind fun v_32 =>
  (f210 v_30 v_32).bind fun o34 =>
  some o34
  else
  some false) : Option (Bool)).bind fun x_27 =>
  if x_27 = true then
  some (.inl (w64 (j_26 - 1)))
  else
  some (.inr j_26)
def f211_0 (a : Int) : (List Int) × Int × Int → Option (((List Int) × Int × Int) ⊕ ((List Int) × Int))
 | (data_9, i_10, j_11) =>
  (iter (f211_1 a data_9 j_11) i_10).bind fun i_25 =>
  (iter (f211_2 a data_9 i_25) j_11).bind fun j_39 =>
  if i_25 > j_39 then
  some (.inr (data_9, i_25))
  else
  (ix data_9 j_39).bind fun v_41 =>
  (ix data_9 i_25).bind fun v_43 =>
  (ix (data_9.set i_25.toNat v_41) j_39).bind fun v_46 =>
  some (.inl (((data_9.set i_25.toNat v_41).set j_39.toNat v_43), w64 (i_25 + 1), w64 (j_39 - 1)))
def f211 (data : (List Int)) (a : Int) (b : Int) (pivot : Int) : Option (Int × (List Int)) :=
 (ix data pivot).bind fun v_1 =>
 (ix data a).bind fun v_3 =>
 (ix (data.set a.toNat v_1) pivot).bind fun v_6 =>
 (iter (f211_0 a) (((data.set a.toNat v_1).set pivot.toNat v_3), w64 (a + 1), w64 (b - 1))).bind fun (data_51, i_52) =>
 some (i_52, data_51)
def f212_0 (data : (List Int)) (a : Int) (b : Int) (pivot : Int) (v_1 : Int) (v_3 : Int) : Int → Option (Int ⊕ Int)
 | i_9 =>
  ((if i_9 ≤ (w64 (b - 1)) then
  (ix ((data.set a.toNat v_1).set pivot.toNat v_3) i_9).bind fun v_13 =>
  (ix ((data.set a.toNat v_1).set pivot.toNat v_3) a).bind fun v_15 =>
  (f210 v_13 v_15).bind fun o17 =>
  some o17
  else
  some false) : Option (Bool)).bind fun x_10 =>
  if x_10 = true then
  some (.inl (w64 (i_9 + 1)))
  else
  some (.inr i_9)
def f212_1 (data : (List Int)) (a : Int) (pivot : Int) (v_1 : Int) (v_3 : Int) (i_22 : Int) : Int → Option (Int ⊕ Int)
 | j_23 =>
  ((if i_22 ≤ j_23 then
  (ix ((data.set a.toNat v_1).set pivot.toNat v_3) j_23).bind fun v_27 =>
  (ix ((data.set a.toNat v_1).set pivot.toNat v_3) a).bind fun v_29 =>
  (f210 v_27 v_29).bind fun o31 =>
  some (decide (¬ (o31 = true)))
  else
  some false) : Option (Bool)).bind fun x_24 =>
  if x_24 = true then
  some (.inl (w64 (j_23 - 1)))
  else
  some (.inr j_23)
def f212_3 (a : Int) (data_54 : (List Int)) (j_56 : Int) : Int → Option (Int ⊕ Int)
 | i_57 =>
  ((if i_57 ≤ j_56 then
  (ix data_54 i_57).bind fun v_61 =>
  (ix data_54 a).bind fun v_63 =>
  (f210 v_61 v_63).bind fun o65 =>
  some o65
  else
  some false) : Option (Bool)).bind fun x_58 =>
  if x_58 = true then
  some (.inl (w64 (i_57 + 1)))
  else
  some (.inr i_57)
def f212_4 (a : Int) (data_54 : (List Int)) (i_70 : Int) : Int → Option (Int ⊕ Int)
 | j_71 =>
  ((if i_70 ≤ j_71 then
  (ix data_54 j_71).bind fun v_75 =>
  (ix data_54 a).bind fun v_77 =>
  (f210 v_75 v_77).bind fun o79 =>
  some (decide (¬ (o79 = true)))
  else
  some false) : Option (Bool)).bind fun x_72 =>
  if x_72 = true then
  some (.inl (w64 (j_71 - 1)))
  else
  some (.inr j_71)
def f212_2 (a : Int) : (List Int) × Int × Int → Option (((List Int) × Int × Int) ⊕ ((List Int) × Int))
 | (data_54, i_55, j_56) =>
  (iter (f212_3 a data_54 j_56) i_55).bind fun i_70 =>
  (iter (f212_4 a data_54 i_70) j_56).bind fun j_84 =>
  if i_70 > j_84 then
  some (.inr (data_54, j_84))
  else
  (ix data_54 j_84).bind fun v_86 =>
  (ix data_54 i_70).bind fun v_88 =>
  (ix (data_54.set i_70.toNat v_86) j_84).bind fun v_91 =>
  some (.inl (((data_54.set i_70.toNat v_86).set j_84.toNat v_88), w64 (i_70 + 1), w64 (j_84 - 1)))
def f212 (data : (List Int)) (a : Int) (b : Int) (pivot : Int) : Option (Int × Bool × (List Int)) :=
 (ix data pivot).bind fun v_1 =>
 (ix data a).bind fun v_3 =>
 (ix (data.set a.toNat v_1) pivot).bind fun v_6 =>
 (iter (f212_0 data a b pivot v_1 v_3) (w64 (a + 1))).bind fun i_22 =>
 (iter (f212_1 data a pivot v_1 v_3 i_22) (w64 (b - 1))).bind fun j_36 =>
 if i_22 > j_36 then
 (ix ((data.set a.toNat v_1).set pivot.toNat v_3) a).bind fun v_38 =>
 (ix ((data.set a.toNat v_1).set pivot.toNat v_3) j_36).bind fun v_40 =>
 (ix (((data.set a.toNat v_1).set pivot.toNat v_3).set j_36.toNat v_38) a).bind fun v_43 =>
 some (j_36, true, ((((data.set a.toNat v_1).set pivot.toNat v_3).set j_36.toNat v_38).set a.toNat v_40))
 else
 (ix ((data.set a.toNat v_1).set pivot.toNat v_3) j_36).bind fun v_46 =>
 (ix ((data.set a.toNat v_1).set pivot.toNat v_3) i_22).bind fun v_48 =>
 (ix (((data.set a.toNat v_1).set pivot.toNat v_3).set i_22.toNat v_46) j_36).bind fun v_51 =>
 (iter (f212_2 a) (((((data.set a.toNat v_1).set pivot.toNat v_3).set i_22.toNat v_46).set j_36.toNat v_48), w64 (i_22 + 1), w64 (j_36 - 1))).bind fun (data_96, j_97) =>
 (ix data_96 a).bind fun v_98 =>
 (ix data_96 j_97).bind fun v_100 =>
 (ix (data_96.set j_97.toNat v_98) a).bind fun v_103 =>
 some (j_97, false, ((data_96.set j_97.toNat v_98).set a.toNat v_100))
def f199_0 (rec : (List Int) → Int → Int → Int → Option (List Int)) : (List Int) × Int × Int × Int × Bool × Bool → Option (((List Int) × Int × Int × Int × Bool × Bool) ⊕ (List Int))
 | (data_1, a_2, b_3, limit_4, wasBalanced_5, wasPartitioned_6) =>
  ((if (w64 (b_3 - a_2)) ≤ 12 then
  (f204 data_1 a_2 b_3).bind fun o10 =>
  some (.inr o10)
  else
  if limit_4 = 0 then
  (f205 data_1 a_2 b_3).bind fun o13 =>
  some (.inr o13)
  else
  ((if ¬ (wasBalanced_5 = true) then
  (f206 data_1 a_2 b_3).bind fun o18 =>
  some (o18, w64 (limit_4 - 1))
  else
  some (data_1, limit_4)) : Option ((List Int) × Int)).bind fun (data_20, limit_21) =>
  (f207 data_20 a_2 b_3).bind fun o22 =>
  ((if o22.2 = 2 then
  (f208 data_20 a_2 b_3).bind fun o27 =>
  some (o27, w64 ((w64 (b_3 - 1)) - (w64 (o22.1 - a_2))), 1)
  else
  some (data_20, o22.1, o22.2)) : Option ((List Int) × Int × Int)).bind fun (data_29, pivot_30, hint_31) =>
  ((if wasBalanced_5 = true then
  ((if wasPartitioned_6 = true then
  some (decide (hint_31 = 1))
  else
  some false) : Option (Bool)).bind fun x_35 =>
  some x_35
  else
  some false) : Option (Bool)).bind fun x_32 =>
  ((if x_32 = true then
  (f209 data_29 a_2 b_3).bind fun o41 =>
  if o41.1 = true then
  some (.inr o41.2)
  else
  some (.inl o41.2)
  else
  some (.inl data_29)) : Option ((List Int) ⊕ (List Int))).bind fun o => match o with
  | .inl data_44 =>
  ((if a_2 > 0 then
  (ix data_44 (w64 (a_2 - 1))).bind fun v_49 =>
  (ix data_44 pivot_30).bind fun v_51 =>
  (f210 v_49 v_51).bind fun o53 =>
  some (decide (¬ (o53 = true)))
  else
  some false) : Option (Bool)).bind fun x_46 =>
  if x_46 = true then
  (f211 data_44 a_2 b_3 pivot_30).bind fun o56 =>
  some (.inl (o56.2, o56.1, b_3, limit_21, wasBalanced_5, wasPartitioned_6))
  else
  (f212 data_44 a_2 b_3 pivot_30).bind fun o58 =>
  ((if (w64 (o58.1 - a_2)) < (w64 (b_3 - o58.1)) then
  (rec o58.2.2 a_2 o58.1 limit_21).bind fun o63 =>
  some (o63, w64 (o58.1 + 1), b_3, (decide ((w64 (o58.1 - a_2)) ≥ (w64 ((w64 (b_3 - a_2)).tdiv 8)))))
  else
  (rec o58.2.2 (w64 (o58.1 + 1)) b_3 limit_21).bind fun o65 =>
  some (o65, a_2, o58.1, (decide ((w64 (b_3 - o58.1)) ≥ (w64 ((w64 (b_3 - a_2)).tdiv 8)))))) : Option ((List Int) × Int × Int × Bool)).bind fun (data_67, a_68, b_69, wasBalanced_70) =>
  some (.inl (data_67, a_68, b_69, limit_21, wasBalanced_70, o58.2.1))
  | .inr data_45 =>
  some (.inr data_45)) : Option (((List Int) × Int × Int × Int × Bool × Bool) ⊕ (List Int))).bind fun o => match o with
  | .inl (data_71, a_72, b_73, limit_74, wasBalanced_75, wasPartitioned_76) =>
  some (.inl (data_71, a_72, b_73, limit_74, wasBalanced_75, wasPartitioned_76))
  | .inr data_77 =>
  some (.inr data_77)
def f199 : Nat → (List Int) → Int → Int → Int → Option (List Int)
 | 0 => fun _ _ _ _ => none
 | n + 1 => fun data a b limit =>
  (iter (f199_0 (f199 n)) (data, a, b, limit, true, true)).bind fun data_80 =>
  some data_80
def f185 (x : (List Int)) : Option (List Int) :=
 (f200 (IntKind.u64.wrap (x.length : Int))).bind fun o1 =>
 (f199 64 x 0 (x.length : Int) o1).bind fun o3 =>
 some o3
def f186 (l : List Int) : Option (List Int) := compactN l
def f165 (a : (List Int)) (b : (List Int)) : Option (List Int) :=
 (f184 ([a, b])).bind fun o1 =>
 (f185 o1).bind fun o3 =>
 (f186 o3).bind fun o5 =>
 some o5
def f120_0 (atom : Atom) : (List Int) × Int → Option (((List Int) × Int) ⊕ (List Int))
 | (out_1, x_2) =>
  if x_2 < (atom.Terms.length : Int) then
  (ix atom.Terms x_2).bind fun v_4 =>
  (f87 v_4 0 3).bind fun o6 =>
  ((if o6 = true then
  (app 8 out_1 ([v_4])).bind fun l_11 =>
  some l_11
  else
  some out_1) : Option (List Int)).bind fun out_13 =>
  some (.inl (out_13, w64 (x_2 + 1)))
  else
  some (.inr out_1)
def f120 (atom : Atom) : Option (List Int) :=
 (iter (f120_0 atom) ([], 0)).bind fun out_16 =>
 (f165 out_16 ([] : (List Int))).bind fun o17 =>
 some o17
def f127_1 (query : Query) (v_22 : Atom) : Int → Option (Int ⊕ (Unit ⊕ Bool))
 | x_39 =>
  if x_39 < (v_22.Terms.length : Int) then
  (ix v_22.Terms x_39).bind fun v_41 =>
  (f87 v_41 (-10) (w64 (query.VariableCount - 1))).bind fun o43 =>
  if ¬ (o43 = true) then
  some (.inr (.inr false))
  else
  some (.inl (w64 (x_39 + 1)))
  else
  some (.inr (.inl ()))
def f127_0 (relations : (List Relation)) (query : Query) : (List Int) × Int → Option (((List Int) × Int) ⊕ ((List Int) ⊕ Bool))
 | (occurring_19, x_20) =>
  if x_20 < (query.Atoms.length : Int) then
  (ix query.Atoms x_20).bind fun v_22 =>
  (f87 v_22.Relation 0 (w64 ((relations.length : Int) - 1))).bind fun o24 =>
  ((if ¬ (o24 = true) then
  some true
  else
  (ix relations v_22.Relation).bind fun v_29 =>
  ((if (v_22.Terms.length : Int) ≠ v_29.Arity then
  some true
  else
  (cutL query.Atoms 0 x_20).bind fun l_34 =>
  (f168 l_34 (fun x0 => f169 x0 v_22)).bind fun o36 =>
  some o36) : Option (Bool)).bind fun x_31 =>
  some x_31) : Option (Bool)).bind fun x_26 =>
  if x_26 = true then
  some (.inr (.inr false))
  else
  (iter (f127_1 query v_22) 0).bind fun o => match o with
  | .inl _ =>
  (f120 v_22).bind fun o49 =>
  (f165 occurring_19 o49).bind fun o51 =>
  some (.inl (o51, w64 (x_20 + 1)))
  | .inr x_48 =>
  some (.inr (.inr x_48))
  else
  some (.inr (.inl occurring_19))
def f127 (relations : (List Relation)) (query : Query) : Option Bool :=
 (f116 relations).bind fun o1 =>
 ((if ¬ (o1 = true) then
 some true
 else
 (f87 query.VariableCount 0 4).bind fun o6 =>
 ((if ¬ (o6 = true) then
 some true
 else
 (f87 (query.Atoms.length : Int) 1 3).bind fun o11 =>
 ((if ¬ (o11 = true) then
 some true
 else
 (f101 query.Free query.VariableCount).bind fun o16 =>
 some (decide (¬ (o16 = true)))) : Option (Bool)).bind fun x_13 =>
 some x_13) : Option (Bool)).bind fun x_8 =>
 some x_8) : Option (Bool)).bind fun x_3 =>
 if x_3 = true then
 some false
 else
 (iter (f127_0 relations query) ([], 0)).bind fun o => match o with
 | .inl occurring_55 =>
 some (decide ((occurring_55.length : Int) = query.VariableCount))
 | .inr x_56 =>
 some x_56
def f119 (relations : (List Relation)) (atom : Atom) : Option (List Int) :=
 (f87 atom.Relation 0 (w64 ((relations.length : Int) - 1))).bind fun o1 =>
 ((if ¬ (o1 = true) then
 some true
 else
 (ix relations atom.Relation).bind fun v_6 =>
 (f87 v_6.KeyLength 0 (atom.Terms.length : Int)).bind fun o8 =>
 some (decide (¬ (o8 = true)))) : Option (Bool)).bind fun x_3 =>
 if x_3 = true then
 some ([])
 else
 (ix relations atom.Relation).bind fun v_11 =>
 (cutL atom.Terms 0 v_11.KeyLength).bind fun l_13 =>
 (f120 ({ Relation := 0, Terms := l_13 } : Atom)).bind fun o15 =>
 some o15
def f103_0 (s0 : (List Int)) (f : Int → Option Bool) : Int → Option (Int ⊕ (Unit ⊕ Int))
 | x_1 =>
  if x_1 < (s0.length : Int) then
  (ix s0 x_1).bind fun v_3 =>
  (f v_3).bind fun o5 =>
  if o5 = true then
  some (.inr (.inr x_1))
  else
  some (.inl (w64 (x_1 + 1)))
  else
  some (.inr (.inl ()))
def f103 (s0 : (List Int)) (f : Int → Option Bool) : Option Int :=
 (iter (f103_0 s0 f) 0).bind fun o => match o with
 | .inl _ =>
 some (-1)
 | .inr x_10 =>
 some x_10
def f74 (s0 : (List Int)) (f : Int → Option Bool) : Option Bool :=
 (f103 s0 f).bind fun o1 =>
 some (decide (o1 ≥ 0))
def f158_0 (s0 : (List Int)) (v : Int) : Int → Option (Int ⊕ (Unit ⊕ Int))
 | x_1 =>
  if x_1 < (s0.length : Int) then
  (ix s0 x_1).bind fun v_3 =>
  if v = v_3 then
  some (.inr (.inr x_1))
  else
  some (.inl (w64 (x_1 + 1)))
  else
  some (.inr (.inl ()))
def f158 (s0 : (List Int)) (v : Int) : Option Int :=
 (iter (f158_0 s0 v) 0).bind fun o => match o with
 | .inl _ =>
 some (-1)
 | .inr x_8 =>
 some x_8
def f105 (s0 : (List Int)) (v : Int) : Option Bool :=
 (f158 s0 v).bind fun o1 =>
 some (decide (o1 ≥ 0))
def f164 (n0 : Int) (c : (List Int)) : Option Bool :=
 (f105 c n0).bind fun o1 =>
 some (decide (¬ (o1 = true)))
def f118 (a : (List Int)) (b : (List Int)) : Option Bool :=
 (f74 a (fun x0 => f164 x0 b)).bind fun o1 =>
 some (decide (¬ (o1 = true)))
def f201_1 (relations : (List Relation)) (atoms : (List Atom)) (skip : Int) : (List Int) × Int → Option (((List Int) × Int) ⊕ (List Int))
 | (larger_4, x_5) =>
  if x_5 < (atoms.length : Int) then
  (ix atoms x_5).bind fun v_7 =>
  ((if x_5 ≠ skip then
  (f119 relations v_7).bind fun o12 =>
  (f118 o12 larger_4).bind fun o14 =>
  some o14
  else
  some false) : Option (Bool)).bind fun x_9 =>
  ((if x_9 = true then
  (f120 v_7).bind fun o19 =>
  (f165 larger_4 o19).bind fun o21 =>
  some o21
  else
  some larger_4) : Option (List Int)).bind fun larger_23 =>
  some (.inl (larger_23, w64 (x_5 + 1)))
  else
  some (.inr larger_4)
def f201_0 (relations : (List Relation)) (atoms : (List Atom)) (skip : Int) : (List Int) → Option ((List Int) ⊕ (List Int))
 | out_3 =>
  (iter (f201_1 relations atoms skip) (out_3, 0)).bind fun larger_26 =>
  if (larger_26.length : Int) = (out_3.length : Int) then
  some (.inr out_3)
  else
  some (.inl larger_26)
def f201 (relations : (List Relation)) (atoms : (List Atom)) (skip : Int) (variables : (List Int)) : Option (List Int) :=
 (f165 variables ([] : (List Int))).bind fun o1 =>
 (iter (f201_0 relations atoms skip) o1).bind fun x_30 =>
 some x_30
def f141_0 (a : (List Int)) (b : (List Int)) : (List Int) × Int → Option (((List Int) × Int) ⊕ (List Int))
 | (out_1, x_2) =>
  if x_2 < (a.length : Int) then
  (ix a x_2).bind fun v_4 =>
  (f105 b v_4).bind fun o6 =>
  ((if ¬ (o6 = true) then
  (app 8 out_1 ([v_4])).bind fun l_11 =>
  some l_11
  else
  some out_1) : Option (List Int)).bind fun out_13 =>
  some (.inl (out_13, w64 (x_2 + 1)))
  else
  some (.inr out_1)
def f141 (a : (List Int)) (b : (List Int)) : Option (List Int) :=
 (iter (f141_0 a b) ([], 0)).bind fun out_16 =>
 some out_16
def f190_1 (atoms : (List Atom)) (o7 : (List Int)) : (List Int) × Int → Option (((List Int) × Int) ⊕ (List Int))
 | (larger_14, x_15) =>
  if x_15 < (atoms.length : Int) then
  (ix atoms x_15).bind fun v_17 =>
  (f120 v_17).bind fun o19 =>
  (f141 o19 o7).bind fun o21 =>
  (f141 o21 larger_14).bind fun o23 =>
  ((if (o23.length : Int) < (o21.length : Int) then
  (f165 larger_14 o21).bind fun o28 =>
  some o28
  else
  some larger_14) : Option (List Int)).bind fun larger_30 =>
  some (.inl (larger_30, w64 (x_15 + 1)))
  else
  some (.inr larger_14)
def f190_0 (atoms : (List Atom)) (o7 : (List Int)) : (List Int) → Option ((List Int) ⊕ (List Int))
 | out_13 =>
  (iter (f190_1 atoms o7) (out_13, 0)).bind fun larger_33 =>
  if (larger_33.length : Int) = (out_13.length : Int) then
  some (.inr out_13)
  else
  some (.inl larger_33)
def f190 (relations : (List Relation)) (atoms : (List Atom)) (free : (List Int)) (atom : Int) : Option (List Int) :=
 (ix atoms atom).bind fun v_1 =>
 (f119 relations v_1).bind fun o3 =>
 (f184 ([free, o3])).bind fun o5 =>
 (f201 relations atoms atom o5).bind fun o7 =>
 (f120 v_1).bind fun o9 =>
 (f141 o9 o7).bind fun o11 =>
 (iter (f190_0 atoms o7) o11).bind fun x_37 =>
 some x_37
def f170 (relations : (List Relation)) (atoms : (List Atom)) (free : (List Int)) (from3 : Int) (to : Int) : Option Bool :=
 (ix atoms to).bind fun v_1 =>
 (f120 v_1).bind fun o3 =>
 ((if from3 ≠ to then
 (f190 relations atoms free from3).bind fun o8 =>
 (f141 o3 o8).bind fun o10 =>
 some (decide ((o10.length : Int) < (o3.length : Int)))
 else
 some false) : Option (Bool)).bind fun x_5 =>
 some x_5
def f128 (relations : (List Relation)) (query : Query) (from2 : Int) (to : Int) : Option Bool :=
 (f127 relations query).bind fun o1 =>
 ((if o1 = true then
 (f87 from2 0 (w64 ((query.Atoms.length : Int) - 1))).bind fun o6 =>
 ((if o6 = true then
 (f87 to 0 (w64 ((query.Atoms.length : Int) - 1))).bind fun o11 =>
 ((if o11 = true then
 (f170 relations query.Atoms query.Free from2 to).bind fun o16 =>
 some o16
 else
 some false) : Option (Bool)).bind fun x_13 =>
 some x_13
 else
 some false) : Option (Bool)).bind fun x_8 =>
 some x_8
 else
 some false) : Option (Bool)).bind fun x_3 =>
 some x_3
def f135 (s0 : (List Int)) : Option (List Int) :=
 (app 8 ([]) s0).bind fun l_1 =>
 some l_1
def f192_0 (variables : (List Int)) : (List Int) × Int → Option (((List Int) × Int) ⊕ (List Int))
 | (given_6, x_7) =>
  if x_7 < (variables.length : Int) then
  (ix variables x_7).bind fun v_9 =>
  (f87 v_9 0 3).bind fun o11 =>
  ((if o11 = true then
  (app 8 given_6 ([v_9])).bind fun l_16 =>
  some l_16
  else
  some given_6) : Option (List Int)).bind fun given_18 =>
  some (.inl (given_18, w64 (x_7 + 1)))
  else
  some (.inr given_6)
def f192 (relations : (List Relation)) (query : Query) (skip : Int) (variables : (List Int)) : Option (List Int) :=
 (f127 relations query).bind fun o1 =>
 if ¬ (o1 = true) then
 some ([])
 else
 (f135 query.Free).bind fun o4 =>
 (iter (f192_0 variables) (o4, 0)).bind fun given_21 =>
 (f201 relations query.Atoms skip given_21).bind fun o22 =>
 some o22
def f172 (relations : (List Relation)) (query : Query) (from2 : (List Int)) (to : (List Int)) : Option Bool :=
 (f127 relations query).bind fun o1 =>
 ((if o1 = true then
 (f192 relations query (-1) from2).bind fun o6 =>
 (f118 to o6).bind fun o8 =>
 some o8
 else
 some false) : Option (Bool)).bind fun x_3 =>
 some x_3
def f131 (relations : (List Relation)) (query : Query) (from2 : Int) (to : Int) : Option Bool :=
 (f128 relations query from2 to).bind fun o1 =>
 ((if o1 = true then
 (ix query.Atoms from2).bind fun v_6 =>
 (ix query.Atoms to).bind fun v_8 =>
 (f119 relations v_6).bind fun o10 =>
 (f119 relations v_8).bind fun o12 =>
 (f172 relations query o10 o12).bind fun o14 =>
 some o14
 else
 some false) : Option (Bool)).bind fun x_3 =>
 some x_3
def f58_1 (relations : (List Relation)) (query : Query) (v_19 : Int) : (List Bool) × (List Int) × Int → Option (((List Bool) × (List Int) × Int) ⊕ ((List Bool) × (List Int)))
 | (reached_23, todo_24, x_25) =>
  if x_25 < (query.Atoms.length : Int) then
  (ix reached_23 x_25).bind fun v_27 =>
  ((if ¬ (v_27 = true) then
  (f128 relations query v_19 x_25).bind fun o32 =>
  some o32
  else
  some false) : Option (Bool)).bind fun x_29 =>
  ((if x_29 = true then
  (app 8 todo_24 ([x_25])).bind fun l_38 =>
  some ((reached_23.set x_25.toNat true), l_38)
  else
  some (reached_23, todo_24)) : Option ((List Bool) × (List Int))).bind fun (reached_40, todo_41) =>
  some (.inl (reached_40, todo_41, w64 (x_25 + 1)))
  else
  some (.inr (reached_23, todo_24))
def f58_0 (relations : (List Relation)) (query : Query) : (List Bool) × (List Int) → Option (((List Bool) × (List Int)) ⊕ (List Bool))
 | (reached_16, todo_17) =>
  if (todo_17.length : Int) > 0 then
  (ix todo_17 0).bind fun v_19 =>
  (cutL todo_17 1 todo_17.length).bind fun l_21 =>
  (iter (f58_1 relations query v_19) (reached_16, l_21, 0)).bind fun (reached_44, todo_45) =>
  some (.inl (reached_44, todo_45))
  else
  some (.inr reached_16)
def f58 (relations : (List Relation)) (query : Query) (from2 : Int) (to : Int) : Option Bool :=
 (f127 relations query).bind fun o1 =>
 ((if ¬ (o1 = true) then
 some true
 else
 (f87 from2 0 (w64 ((query.Atoms.length : Int) - 1))).bind fun o6 =>
 ((if ¬ (o6 = true) then
 some true
 else
 (f87 to 0 (w64 ((query.Atoms.length : Int) - 1))).bind fun o11 =>
 some (decide (¬ (o11 = true)))) : Option (Bool)).bind fun x_8 =>
 some x_8) : Option (Bool)).bind fun x_3 =>
 if x_3 = true then
 some false
 else
 (mkl 1 (w64 ((w64 ((query.Atoms.length : Int) - 1)) + 1)) false).bind fun l_14 =>
 (iter (f58_0 relations query) (l_14, [from2])).bind fun reached_48 =>
 (ix reached_48 to).bind fun v_49 =>
 some v_49
def f61_0 (relations : (List Relation)) (query : Query) : Int → Option (Int ⊕ (Unit ⊕ Bool))
 | x_1 =>
  if x_1 < (query.Atoms.length : Int) then
  (f58 relations query x_1 x_1).bind fun o3 =>
  if o3 = true then
  some (.inr (.inr true))
  else
  some (.inl (w64 (x_1 + 1)))
  else
  some (.inr (.inl ()))
def f61 (relations : (List Relation)) (query : Query) : Option Bool :=
 (iter (f61_0 relations query) 0).bind fun o => match o with
 | .inl _ =>
 some false
 | .inr x_8 =>
 some x_8
def f63_1 (relations : (List Relation)) (query : Query) (x_4 : Int) : Int → Option (Int ⊕ (Unit ⊕ Int))
 | x_6 =>
  if x_6 < (query.Atoms.length : Int) then
  (f128 relations query x_4 x_6).bind fun o8 =>
  ((if o8 = true then
  (f131 relations query x_4 x_6).bind fun o13 =>
  ((if ¬ (o13 = true) then
  (f58 relations query x_6 x_4).bind fun o18 =>
  some o18
  else
  some false) : Option (Bool)).bind fun x_15 =>
  some x_15
  else
  some false) : Option (Bool)).bind fun x_10 =>
  if x_10 = true then
  some (.inr (.inr 3))
  else
  some (.inl (w64 (x_6 + 1)))
  else
  some (.inr (.inl ()))
def f63_0 (relations : (List Relation)) (query : Query) : Int → Option (Int ⊕ (Unit ⊕ Int))
 | x_4 =>
  if x_4 < (query.Atoms.length : Int) then
  (iter (f63_1 relations query x_4) 0).bind fun o => match o with
  | .inl _ =>
  some (.inl (w64 (x_4 + 1)))
  | .inr x_23 =>
  some (.inr (.inr x_23))
  else
  some (.inr (.inl ()))
def f63 (relations : (List Relation)) (query : Query) : Option Int :=
 (f127 relations query).bind fun o1 =>
 if ¬ (o1 = true) then
 some 0
 else
 (iter (f63_0 relations query) 0).bind fun o => match o with
 | .inl _ =>
 (f61 relations query).bind fun o27 =>
 if o27 = true then
 some 2
 else
 some 1
 | .inr x_26 =>
 some x_26
def f121 (a : Relation) (b : Relation) : Option Bool :=
 if a.Name ≠ b.Name then
 some false
 else
 if a.Arity ≠ b.Arity then
 some false
 else
 if a.KeyLength ≠ b.KeyLength then
 some false
 else
 some true
def f53_0 (a : (List Relation)) (b : (List Relation)) : Int → Option (Int ⊕ (Unit ⊕ Bool))
 | i_2 =>
  if i_2 < (a.length : Int) then
  (ix a i_2).bind fun v_4 =>
  (ix b i_2).bind fun v_6 =>
  (f121 v_4 v_6).bind fun o8 =>
  if ¬ (o8 = true) then
  some (.inr (.inr false))
  else
  some (.inl (w64 (i_2 + 1)))
  else
  some (.inr (.inl ()))
def f53 (a : (List Relation)) (b : (List Relation)) : Option Bool :=
 if (a.length : Int) ≠ (b.length : Int) then
 some false
 else
 (iter (f53_0 a b) 0).bind fun o => match o with
 | .inl _ =>
 some true
 | .inr x_13 =>
 some x_13
def f42_0 (a : (List Int)) (b : (List Int)) : Int → Option (Int ⊕ (Unit ⊕ Bool))
 | i_2 =>
  if i_2 < (a.length : Int) then
  (ix a i_2).bind fun v_4 =>
  (ix b i_2).bind fun v_6 =>
  if v_4 ≠ v_6 then
  some (.inr (.inr false))
  else
  some (.inl (w64 (i_2 + 1)))
  else
  some (.inr (.inl ()))
def f42 (a : (List Int)) (b : (List Int)) : Option Bool :=
 if (a.length : Int) ≠ (b.length : Int) then
 some false
 else
 (iter (f42_0 a b) 0).bind fun o => match o with
 | .inl _ =>
 some true
 | .inr x_11 =>
 some x_11
def f166 (a : Atom) (b : Atom) : Option Bool :=
 if a.Relation ≠ b.Relation then
 some false
 else
 (f42 a.Terms b.Terms).bind fun o2 =>
 if ¬ (o2 = true) then
 some false
 else
 some true
def f129_0 (a : (List Atom)) (b : (List Atom)) : Int → Option (Int ⊕ (Unit ⊕ Bool))
 | i_2 =>
  if i_2 < (a.length : Int) then
  (ix a i_2).bind fun v_4 =>
  (ix b i_2).bind fun v_6 =>
  (f166 v_4 v_6).bind fun o8 =>
  if ¬ (o8 = true) then
  some (.inr (.inr false))
  else
  some (.inl (w64 (i_2 + 1)))
  else
  some (.inr (.inl ()))
def f129 (a : (List Atom)) (b : (List Atom)) : Option Bool :=
 if (a.length : Int) ≠ (b.length : Int) then
 some false
 else
 (iter (f129_0 a b) 0).bind fun o => match o with
 | .inl _ =>
 some true
 | .inr x_13 =>
 some x_13
def f59 (a : Query) (b : Query) : Option Bool :=
 if a.VariableCount ≠ b.VariableCount then
 some false
 else
 (f129 a.Atoms b.Atoms).bind fun o2 =>
 if ¬ (o2 = true) then
 some false
 else
 (f42 a.Free b.Free).bind fun o5 =>
 if ¬ (o5 = true) then
 some false
 else
 some true
def f11 (aRelations : (List Relation)) (aQuery : Query) : Option Bool :=
 (f47 aRelations 1048576).bind fun o1 =>
 if o1 < 0 then
 some true
 else
 (f55 aQuery o1).bind fun o4 =>
 if o4 < 0 then
 some true
 else
 (f50 aRelations).bind fun o7 =>
 (f57 aQuery).bind fun o9 =>
 (f62 o7 o9).bind fun o11 =>
 (f50 aRelations).bind fun o13 =>
 (f57 aQuery).bind fun o15 =>
 (f63 o13 o15).bind fun o17 =>
 if o17 ≠ o11 then
 some false
 else
 (f50 aRelations).bind fun o20 =>
 (f53 o13 o20).bind fun o22 =>
 if ¬ (o22 = true) then
 some false
 else
 (f57 aQuery).bind fun o25 =>
 (f59 o15 o25).bind fun o27 =>
 if ¬ (o27 = true) then
 some false
 else
 some true
end
end Go.Proofs.YtabmomjfdondnaaH
