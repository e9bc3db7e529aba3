import Derived.Test.YtjfeimhiiomgoaaGreatCx1
import Derived.Test.YtjfeimhiiomgoaaGreatX4
import Derived.Test.YtjfeimhiiomgoaaGreatTd1
set_option maxHeartbeats 2000000
set_option linter.unusedVariables false
set_option linter.unusedSimpArgs false
set_option linter.defProp false
set_option linter.unusedSectionVars false
set_option maxRecDepth 100000
namespace Go.Proofs.YtjfeimhiiomgoaaGreatH
open Go
noncomputable section
variable {slices : (List (List Int))} {atoms : (List Atom)} {a b free from2 indices not o19 o7 o9 plus_38 s0 s1 s2 terms vals values variables want : (List Int)} {l relations : (List Relation)} {rewriting : (List RewritingStep)} {atom v_19 : Atom} {d db : Database} {f : Fact} {high i i_15 i_17 k left low n0 n1 n_12 n_17 n_40 skip t to v x y : Int} {q query : Query}
abbrev iT (n : Int) : T := .int .i64 n
instance : Cl cx := ⟨fun j h => vsound (fun _ _ _ _ h => h) h, fun f ts t outs h => .ext h⟩
@[simp high] theorem ioz {f : Nat} [h : Io0 cx f] : ioTab f = [] := h.io
@[simp] theorem ioz58 : ioTab 58 = [0] := rfl
@[simp] theorem ioz123 : ioTab 123 = [0] := rfl
@[simp] theorem ioz124 : ioTab 124 = [0] := rfl
instance i39 {a : Relation} : Rn cx (f39 a left) 39 [(.agg [(.str a.Name), (iT a.Arity), (iT a.KeyLength)]), (iT left)] (fun (r : Int) => (iT r)) (fun r => []) := Rn.o rfl (by unfold f39; exact go)
instance : Io0 cx 39 := ⟨rfl⟩
instance i6_0 {a : (List Relation)} : Lp cx (f6_0 a) 27 L6_0 (fun (zs : Int × Int) => [(0, .v (ssl eRelation a)), (1, .v (iT zs.1)), (5, .v (iT zs.2))]) (QO (QX 0 (fun (y : Int) => [(1, .v (iT y))])) (QR (fun (y : Int) => [(4, .v (iT y))]))) := Lp.of (by unfold f6_0; exact go)
instance i6 {a : (List Relation)} : Rn cx (f6 a left) 6 [(ssl eRelation a), (iT left)] (fun (r : Int) => (iT r)) (fun r => []) := Rn.o rfl (by unfold f6; exact go)
instance : Io0 cx 6 := ⟨rfl⟩
instance i41 : Rn cx (f41 a left) 41 [(ssl eI a), (iT left)] (fun (r : Int) => (iT r)) (fun r => []) := Rn.o rfl (by unfold f41; exact go)
instance : Io0 cx 41 := ⟨rfl⟩
instance i126 {a : Fact} : Rn cx (f126 a left) 126 [(.agg [(iT a.Relation), (ssl eI a.Values)]), (iT left)] (fun (r : Int) => (iT r)) (fun r => []) := Rn.o rfl (by unfold f126; exact go)
instance : Io0 cx 126 := ⟨rfl⟩
instance i68_0 {a : (List Fact)} : Lp cx (f68_0 a) 27 L68_0 (fun (zs : Int × Int) => [(0, .v (ssl eFact a)), (1, .v (iT zs.1)), (5, .v (iT zs.2))]) (QO (QX 0 (fun (y : Int) => [(1, .v (iT y))])) (QR (fun (y : Int) => [(4, .v (iT y))]))) := Lp.of (by unfold f68_0; exact go)
instance i68 {a : (List Fact)} : Rn cx (f68 a left) 68 [(ssl eFact a), (iT left)] (fun (r : Int) => (iT r)) (fun r => []) := Rn.o rfl (by unfold f68; exact go)
instance : Io0 cx 68 := ⟨rfl⟩
instance i19 {a : Database} : Rn cx (f19 a left) 19 [(.agg [(ssl eRelation a.Relations), (ssl eFact a.Facts)]), (iT left)] (fun (r : Int) => (iT r)) (fun r => []) := Rn.o rfl (by unfold f19; exact go)
instance : Io0 cx 19 := ⟨rfl⟩
instance i104 {a : Atom} : Rn cx (f104 a left) 104 [(.agg [(iT a.Relation), (ssl eI a.Terms)]), (iT left)] (fun (r : Int) => (iT r)) (fun r => []) := Rn.o rfl (by unfold f104; exact go)
instance : Io0 cx 104 := ⟨rfl⟩
instance i40_0 {a : (List Atom)} : Lp cx (f40_0 a) 27 L40_0 (fun (zs : Int × Int) => [(0, .v (ssl eAtom a)), (1, .v (iT zs.1)), (5, .v (iT zs.2))]) (QO (QX 0 (fun (y : Int) => [(1, .v (iT y))])) (QR (fun (y : Int) => [(4, .v (iT y))]))) := Lp.of (by unfold f40_0; exact go)
instance i40 {a : (List Atom)} : Rn cx (f40 a left) 40 [(ssl eAtom a), (iT left)] (fun (r : Int) => (iT r)) (fun r => []) := Rn.o rfl (by unfold f40; exact go)
instance : Io0 cx 40 := ⟨rfl⟩
instance i7 {a : Query} : Rn cx (f7 a left) 7 [(.agg [(iT a.VariableCount), (ssl eAtom a.Atoms), (ssl eI a.Free)]), (iT left)] (fun (r : Int) => (iT r)) (fun r => []) := Rn.o rfl (by unfold f7; exact go)
instance : Io0 cx 7 := ⟨rfl⟩
instance i48 {a : Relation} : Rn cx (f48 a) 48 [(.agg [(.str a.Name), (iT a.Arity), (iT a.KeyLength)])] (fun (r : Relation) => (.agg [(.str r.Name), (iT r.Arity), (iT r.KeyLength)])) (fun r => []) := Rn.o rfl (by unfold f48; exact go)
instance : Io0 cx 48 := ⟨rfl⟩
instance i9_0 {a : (List Relation)} : Lp cx (f9_0 a) 23 L9_0 (fun (zs : (List Relation) × Int) => [(0, .v (ssl eRelation a)), (3, .v (osl eRelation true zs.1)), (4, .v (iT zs.2))]) (QX 0 (fun (y : (List Relation)) => [(3, .v (osl eRelation true y))])) := Lp.of (by unfold f9_0; exact go)
instance i9 {a : (List Relation)} : Rn cx (f9 a) 9 [(ssl eRelation a)] (fun (r : (List Relation)) => (osl eRelation true r)) (fun r => []) := Rn.o (e := (
  (mkl 32 (a.length : Int) ({ Name := [], Arity := 0, KeyLength := 0 } : Relation)).bind fun l_1 =>
  sn 5 3 (osl eRelation true l_1) <| 
  (iter (f9_0 a) (l_1, 0)).bind fun out_15 =>
  some out_15 : Option (List Relation))) rfl (by exact go)
instance : Io0 cx 9 := ⟨rfl⟩
instance i50_0 : Lp cx (f50_0 a) 22 L50_0 (fun (zs : (List Int) × Int) => [(0, .v (ssl eI a)), (3, .v (osl eI true zs.1)), (4, .v (iT zs.2))]) (QX 0 (fun (y : (List Int)) => [(3, .v (osl eI true y))])) := Lp.of (by unfold f50_0; exact go)
instance i50 : Rn cx (f50 a) 50 [(ssl eI a)] (fun (r : (List Int)) => (osl eI true r)) (fun r => []) := Rn.o (e := (
  (mkl 8 (a.length : Int) 0).bind fun l_1 =>
  sn 5 3 (osl eI true l_1) <| 
  (iter (f50_0 a) (l_1, 0)).bind fun out_13 =>
  some out_13 : Option (List Int))) rfl (by exact go)
instance : Io0 cx 50 := ⟨rfl⟩
instance i133 {a : Fact} : Rn cx (f133 a) 133 [(.agg [(iT a.Relation), (ssl eI a.Values)])] (fun (r : Fact) => (.agg [(iT r.Relation), (osl eI true r.Values)])) (fun r => []) := Rn.o (e := (
  sn 2 2 (.ptr true [(iT 0), (osl eI true ([]))]) <| 
  sn 1 3 (.ptr true [(iT 0), (osl eI true ([]))]) <| 
  (f50 a.Values).bind fun o1 =>
  some ({ Relation := a.Relation, Values := o1 } : Fact) : Option Fact)) rfl (by exact go)
instance : Io0 cx 133 := ⟨rfl⟩
instance i71_0 {a : (List Fact)} : Lp cx (f71_0 a) 23 L71_0 (fun (zs : (List Fact) × Int) => [(0, .v (ssl eFact a)), (3, .v (osl eFact true zs.1)), (4, .v (iT zs.2))]) (QX 0 (fun (y : (List Fact)) => [(3, .v (osl eFact true y))])) := Lp.of (by unfold f71_0; exact go)
instance i71 {a : (List Fact)} : Rn cx (f71 a) 71 [(ssl eFact a)] (fun (r : (List Fact)) => (osl eFact true r)) (fun r => []) := Rn.o (e := (
  (mkl 32 (a.length : Int) (({ Relation := 0, Values := [] } : Fact) : Fact)).bind fun l_1 =>
  sn 5 3 (osl eFact true l_1) <| 
  (iter (f71_0 a) (l_1, 0)).bind fun out_15 =>
  some out_15 : Option (List Fact))) rfl (by exact go)
instance : Io0 cx 71 := ⟨rfl⟩
instance i21 {a : Database} : Rn cx (f21 a) 21 [(.agg [(ssl eRelation a.Relations), (ssl eFact a.Facts)])] (fun (r : Database) => (.agg [(osl eRelation true r.Relations), (osl eFact true r.Facts)])) (fun r => []) := Rn.o (e := (
  sn 2 2 (.ptr true [(osl eRelation true ([])), (osl eFact true ([]))]) <| 
  sn 1 3 (.ptr true [(osl eRelation true ([])), (osl eFact true ([]))]) <| 
  (f9 a.Relations).bind fun o1 =>
  (f71 a.Facts).bind fun o3 =>
  some ({ Relations := o1, Facts := o3 } : Database) : Option Database)) rfl (by exact go)
instance : Io0 cx 21 := ⟨rfl⟩
instance i114 {a : Atom} : Rn cx (f114 a) 114 [(.agg [(iT a.Relation), (ssl eI a.Terms)])] (fun (r : Atom) => (.agg [(iT r.Relation), (osl eI true r.Terms)])) (fun r => []) := Rn.o (e := (
  sn 2 2 (.ptr true [(iT 0), (osl eI true ([]))]) <| 
  sn 1 3 (.ptr true [(iT 0), (osl eI true ([]))]) <| 
  (f50 a.Terms).bind fun o1 =>
  some ({ Relation := a.Relation, Terms := o1 } : Atom) : Option Atom)) rfl (by exact go)
instance : Io0 cx 114 := ⟨rfl⟩
instance i49_0 {a : (List Atom)} : Lp cx (f49_0 a) 23 L49_0 (fun (zs : (List Atom) × Int) => [(0, .v (ssl eAtom a)), (3, .v (osl eAtom true zs.1)), (4, .v (iT zs.2))]) (QX 0 (fun (y : (List Atom)) => [(3, .v (osl eAtom true y))])) := Lp.of (by unfold f49_0; exact go)
instance i49 {a : (List Atom)} : Rn cx (f49 a) 49 [(ssl eAtom a)] (fun (r : (List Atom)) => (osl eAtom true r)) (fun r => []) := Rn.o (e := (
  (mkl 32 (a.length : Int) (({ Relation := 0, Terms := [] } : Atom) : Atom)).bind fun l_1 =>
  sn 5 3 (osl eAtom true l_1) <| 
  (iter (f49_0 a) (l_1, 0)).bind fun out_15 =>
  some out_15 : Option (List Atom))) rfl (by exact go)
instance : Io0 cx 49 := ⟨rfl⟩
instance i10 {a : Query} : Rn cx (f10 a) 10 [(.agg [(iT a.VariableCount), (ssl eAtom a.Atoms), (ssl eI a.Free)])] (fun (r : Query) => (.agg [(iT r.VariableCount), (osl eAtom true r.Atoms), (osl eI true r.Free)])) (fun r => []) := Rn.o (e := (
  sn 2 2 (.ptr true [(iT 0), (osl eAtom true ([])), (osl eI true ([]))]) <| 
  sn 1 3 (.ptr true [(iT 0), (osl eAtom true ([])), (osl eI true ([]))]) <| 
  (f49 a.Atoms).bind fun o1 =>
  (f50 a.Free).bind fun o3 =>
  some ({ VariableCount := a.VariableCount, Atoms := o1, Free := o3 } : Query) : Option Query)) rfl (by exact go)
instance : Io0 cx 10 := ⟨rfl⟩
instance i110 : Rn cx (f110 x low high) 110 [(iT x), (iT low), (iT high)] (fun (r : Bool) => (.bool r)) (fun r => []) := Rn.o (e := (
  (jn (QN (fun (y : Bool) => [(6, .v (.bool y))])) ((if x >= low then
  some (decide (x <= high))
  else
  some false) : Option (Bool))).bind fun x_1 =>
  some x_1 : Option Bool)) rfl (by exact go)
instance : Io0 cx 110 := ⟨rfl⟩
instance i173 {s0 : Relation} : Rn cx (f173 s0) 173 [(.agg [(.str s0.Name), (iT s0.Arity), (iT s0.KeyLength)])] (fun (r : Bool) => (.bool r)) (fun r => []) := Rn.o (e := (
  (jn (QN (fun (y : Bool) => [(2, .v (.bool y))])) ((if (s0.Name.length : Int) = 1 then
  (ix s0.Name 0).bind fun c_4 =>
  (jn (QN (fun (y : Bool) => [(2, .v (.bool y))])) ((if (c_4.toNat : Int) >= 97 then
  (jn (QN (fun (y : Bool) => [(2, .v (.bool y))])) ((if (c_4.toNat : Int) <= 122 then
  (f110 s0.Arity 1 3).bind fun o12 =>
  (jn (QN (fun (y : Bool) => [(2, .v (.bool y))])) ((if o12 = true then
  (f110 s0.KeyLength 0 s0.Arity).bind fun o17 =>
  some o17
  else
  some false) : Option (Bool))).bind fun x_14 =>
  some x_14
  else
  some false) : Option (Bool))).bind fun x_9 =>
  some x_9
  else
  some false) : Option (Bool))).bind fun x_6 =>
  some x_6
  else
  some false) : Option (Bool))).bind fun x_1 =>
  some x_1 : Option Bool)) rfl (by exact go)
instance : Io0 cx 173 := ⟨rfl⟩
instance i129_0 : Lp cx (f129_0 l) 37 L129_0 (fun (zs : Int) => [(0, .v (ssl eRelation l)), (3, .v (iT zs))]) (QO (QX 0 (fun (y : Unit) => [(0, .v (ssl eRelation l))])) (QR (fun (y : Bool) => [(2, .v (.bool y))]))) := Lp.of (f := (fun
 | i_1 =>
  if i_1 < (l.length : Int) then
  (ix l i_1).bind fun v_3 =>
  (f173 v_3).bind fun o5 =>
  (jn (QN (fun (y : Bool) => [(0, .v (ssl eRelation l)), (3, .v (iT i_1)), (33, .v (.bool y))])) ((if ¬ (o5 = true) then
  some true
  else
  (jn (QN (fun (y : Bool) => [(0, .v (ssl eRelation l)), (3, .v (iT i_1)), (33, .v (.bool y))])) ((if i_1 > 0 then
  (ix l (w64 (i_1 - 1))).bind fun v_13 =>
  some (!(Op.bytesLess v_13.Name v_3.Name))
  else
  some false) : Option (Bool))).bind fun x_10 =>
  some x_10) : Option (Bool))).bind fun x_7 =>
  if x_7 = true then
  some (.inr (.inr false))
  else
  some (.inl (w64 (i_1 + 1)))
  else
  some (.inr (.inl ())) : Int -> Option (Int ⊕ (Unit ⊕ Bool)))) (by exact go)
instance i129 : Rn cx (f129 l) 129 [(ssl eRelation l)] (fun (r : Bool) => (.bool r)) (fun r => []) := Rn.o rfl (by unfold f129; exact go)
instance : Io0 cx 129 := ⟨rfl⟩
instance i80_3 {met_16 : (List Bool)} : Lp cx (lw (l, met_16) (f80_3 q i_17 v_19)) 150 L80_3 (fun (zs : Int) => [(0, .v (ssl eRelation l)), (3, .v (.ptr true [(iT q.VariableCount), (ssl eAtom q.Atoms), (ssl eI q.Free)])), (5, .v (osl eB true met_16)), (6, .v (iT i_17)), (7, .v (.ptr true [(iT v_19.Relation), (ssl eI v_19.Terms)])), (8, .v (iT zs))]) (QO (QX 2 (fun (y : Unit) => [(0, .v (ssl eRelation l)), (3, .v (.ptr true [(iT q.VariableCount), (ssl eAtom q.Atoms), (ssl eI q.Free)])), (5, .v (osl eB true met_16)), (6, .v (iT i_17)), (7, .v (.ptr true [(iT v_19.Relation), (ssl eI v_19.Terms)]))])) (QR (fun (y : Bool) => [(4, .v (.bool y))]))) := Lp.of (by unfold lw f80_3; exact go)
instance i80_4 : Lp cx (lw (l, i_17) (f80_4 q v_19)) 150 L80_4 (fun (zs : (List Bool) × Int) => [(0, .v (ssl eRelation l)), (3, .v (.ptr true [(iT q.VariableCount), (ssl eAtom q.Atoms), (ssl eI q.Free)])), (5, .v (osl eB true zs.1)), (6, .v (iT i_17)), (7, .v (.ptr true [(iT v_19.Relation), (ssl eI v_19.Terms)])), (9, .v (iT zs.2))]) (QO (QX 4 (fun (y : (List Bool)) => [(0, .v (ssl eRelation l)), (3, .v (.ptr true [(iT q.VariableCount), (ssl eAtom q.Atoms), (ssl eI q.Free)])), (5, .v (osl eB true y)), (6, .v (iT i_17))])) (QR (fun (y : Bool) => [(4, .v (.bool y))]))) := Lp.of (f := (fun
 | (met_37, k_38) =>
  if k_38 < (v_19.Terms.length : Int) then
  (ix v_19.Terms k_38).bind fun v_40 =>
  (f110 v_40 (-10) (w64 (q.VariableCount - 1))).bind fun o42 =>
  if ¬ (o42 = true) then
  some (.inr (.inr false))
  else
  (jn (QN (fun (y : (List Bool)) => [(0, .v (ssl eRelation l)), (3, .v (.ptr true [(iT q.VariableCount), (ssl eAtom q.Atoms), (ssl eI q.Free)])), (5, .v (osl eB true y)), (6, .v (iT i_17)), (7, .v (.ptr true [(iT v_19.Relation), (ssl eI v_19.Terms)])), (9, .v (iT k_38))])) ((if v_40 >= 0 then
  (ix met_37 v_40).bind fun v_48 =>
  some (met_37.set v_40.toNat true)
  else
  some met_37) : Option (List Bool))).bind fun met_51 =>
  some (.inl (met_51, w64 (k_38 + 1)))
  else
  some (.inr (.inl met_37)) : (List Bool) × Int -> Option (((List Bool) × Int) ⊕ ((List Bool) ⊕ Bool)))) (by exact go)
instance i80_0 : Lp cx (f80_0 l q) 150 L80_0 (fun (zs : (List Bool) × Int) => [(0, .v (ssl eRelation l)), (3, .v (.ptr true [(iT q.VariableCount), (ssl eAtom q.Atoms), (ssl eI q.Free)])), (5, .v (osl eB true zs.1)), (6, .v (iT zs.2))]) (QO (QX 0 (fun (y : (List Bool)) => [(3, .v (.ptr true [(iT q.VariableCount), (ssl eAtom q.Atoms), (ssl eI q.Free)])), (5, .v (osl eB true y))])) (QR (fun (y : Bool) => [(4, .v (.bool y))]))) := Lp.of (f := (fun
 | (met_16, i_17) =>
  if i_17 < (q.Atoms.length : Int) then
  (ix q.Atoms i_17).bind fun v_19 =>
  (f110 v_19.Relation 0 (w64 ((l.length : Int) - 1))).bind fun o21 =>
  (jn (QN (fun (y : Bool) => [(0, .v (ssl eRelation l)), (3, .v (.ptr true [(iT q.VariableCount), (ssl eAtom q.Atoms), (ssl eI q.Free)])), (5, .v (osl eB true met_16)), (6, .v (iT i_17)), (7, .v (.ptr true [(iT v_19.Relation), (ssl eI v_19.Terms)])), (59, .v (.bool y))])) ((if ¬ (o21 = true) then
  some true
  else
  (ix l v_19.Relation).bind fun v_26 =>
  some (decide ((v_19.Terms.length : Int) ≠ v_26.Arity))) : Option (Bool))).bind fun x_23 =>
  if x_23 = true then
  some (.inr (.inr false))
  else
  (iter (lw (l, met_16)  (f80_3 q i_17 v_19)) 0).bind fun o => match o with
  | .inl _ =>
  ((iter (lw (l, i_17)  (f80_4 q v_19)) (met_16, 0)).bind fun o => match o with
  | .inl met_54 =>
  some (.inl (met_54, w64 (i_17 + 1)))
  | .inr x_55 =>
  some (.inr (.inr x_55)))
  | .inr x_36 =>
  some (.inr (.inr x_36))
  else
  some (.inr (.inl met_16)) : (List Bool) × Int -> Option (((List Bool) × Int) ⊕ ((List Bool) ⊕ Bool)))) (by exact go)
instance i80_1 {met_58 : (List Bool)} : Lp cx (f80_1 q met_58) 150 L80_1 (fun (zs : Int) => [(3, .v (.ptr true [(iT q.VariableCount), (ssl eAtom q.Atoms), (ssl eI q.Free)])), (5, .v (osl eB true met_58)), (10, .v (iT zs))]) (QO (QX 6 (fun (y : Unit) => [(3, .v (.ptr true [(iT q.VariableCount), (ssl eAtom q.Atoms), (ssl eI q.Free)]))])) (QR (fun (y : Bool) => [(4, .v (.bool y))]))) := Lp.of (by unfold f80_1; exact go)
instance i80_2 : Lp cx (f80_2 q) 150 L80_2 (fun (zs : Int) => [(3, .v (.ptr true [(iT q.VariableCount), (ssl eAtom q.Atoms), (ssl eI q.Free)])), (11, .v (iT zs))]) (QO (QX 8 (fun (y : Unit) => [])) (QR (fun (y : Bool) => [(4, .v (.bool y))]))) := Lp.of (f := (fun
 | i_68 =>
  if i_68 < (q.Free.length : Int) then
  (ix q.Free i_68).bind fun v_70 =>
  (f110 v_70 0 (w64 (q.VariableCount - 1))).bind fun o72 =>
  (jn (QN (fun (y : Bool) => [(3, .v (.ptr true [(iT q.VariableCount), (ssl eAtom q.Atoms), (ssl eI q.Free)])), (11, .v (iT i_68)), (149, .v (.bool y))])) ((if ¬ (o72 = true) then
  some true
  else
  (jn (QN (fun (y : Bool) => [(3, .v (.ptr true [(iT q.VariableCount), (ssl eAtom q.Atoms), (ssl eI q.Free)])), (11, .v (iT i_68)), (149, .v (.bool y))])) ((if i_68 > 0 then
  (ix q.Free (w64 (i_68 - 1))).bind fun v_80 =>
  some (decide (v_70 <= v_80))
  else
  some false) : Option (Bool))).bind fun x_77 =>
  some x_77) : Option (Bool))).bind fun x_74 =>
  if x_74 = true then
  some (.inr (.inr false))
  else
  some (.inl (w64 (i_68 + 1)))
  else
  some (.inr (.inl ())) : Int -> Option (Int ⊕ (Unit ⊕ Bool)))) (by exact go)
instance i80 : Rn cx (f80 l q) 80 [(ssl eRelation l), (.agg [(iT q.VariableCount), (ssl eAtom q.Atoms), (ssl eI q.Free)])] (fun (r : Bool) => (.bool r)) (fun r => []) := Rn.o (e := (
  (f129 l).bind fun o1 =>
  (jn (QN (fun (y : Bool) => [(0, .v (ssl eRelation l)), (3, .v (.ptr true [(iT q.VariableCount), (ssl eAtom q.Atoms), (ssl eI q.Free)])), (27, .v (.bool y))])) ((if ¬ (o1 = true) then
  some true
  else
  (f110 q.VariableCount 0 4).bind fun o6 =>
  (jn (QN (fun (y : Bool) => [(0, .v (ssl eRelation l)), (3, .v (.ptr true [(iT q.VariableCount), (ssl eAtom q.Atoms), (ssl eI q.Free)])), (27, .v (.bool y))])) ((if ¬ (o6 = true) then
  some true
  else
  (f110 (q.Atoms.length : Int) 1 3).bind fun o11 =>
  some (decide (¬ (o11 = true)))) : Option (Bool))).bind fun x_8 =>
  some x_8) : Option (Bool))).bind fun x_3 =>
  if x_3 = true then
  some false
  else
  (mkl 1 4 false).bind fun l_14 =>
  sn 2 5 (osl eB true l_14) <| 
  (iter (f80_0 l q) (l_14, 0)).bind fun o => match o with
  | .inl met_58 =>
  ((iter (f80_1 q met_58) 0).bind fun o => match o with
  | .inl _ =>
  ((iter (f80_2 q) 0).bind fun o => match o with
  | .inl _ =>
  some true
  | .inr x_85 =>
  some x_85)
  | .inr x_67 =>
  some x_67)
  | .inr x_59 =>
  some x_59 : Option Bool)) rfl (by exact go)
instance : Io0 cx 80 := ⟨rfl⟩
instance i45_0 {l : (List Int)} : Lp cx (f45_0 l x) 18 L45_0 (fun (zs : Int) => [(0, .v (ssl eI l)), (1, .v (iT x)), (5, .v (iT zs))]) (QO (QX 0 (fun (y : Unit) => [])) (QR (fun (y : Bool) => [(4, .v (.bool y))]))) := Lp.of (by unfold f45_0; exact go)
instance i45 {l : (List Int)} : Rn cx (f45 l x) 45 [(ssl eI l), (iT x)] (fun (r : Bool) => (.bool r)) (fun r => []) := Rn.o rfl (by unfold f45; exact go)
instance : Io0 cx 45 := ⟨rfl⟩
instance i111_0 {a : Atom} : Lp cx (f111_0 a) 19 L111_0 (fun (zs : (List Int) × Int) => [(1, .v (.ptr true [(iT a.Relation), (ssl eI a.Terms)])), (3, .v (osl eI true zs.1)), (4, .v (iT zs.2))]) (QX 0 (fun (y : (List Int)) => [(3, .v (osl eI true y))])) := Lp.of (f := (fun
 | (out_1, v_2) =>
  if v_2 < 4 then
  (f45 a.Terms v_2).bind fun o4 =>
  (jn (QN (fun (y : (List Int)) => [(1, .v (.ptr true [(iT a.Relation), (ssl eI a.Terms)])), (3, .v (osl eI true y)), (4, .v (iT v_2))])) ((if o4 = true then
  (app 8 out_1 ([v_2])).bind fun l_9 =>
  some l_9
  else
  some out_1) : Option (List Int))).bind fun out_11 =>
  some (.inl (out_11, w64 (v_2 + 1)))
  else
  some (.inr out_1) : (List Int) × Int -> Option (((List Int) × Int) ⊕ (List Int)))) (by exact go)
instance i111 {a : Atom} : Rn cx (f111 a) 111 [(.agg [(iT a.Relation), (ssl eI a.Terms)])] (fun (r : (List Int)) => (osl eI true r)) (fun r => []) := Rn.o (e := (
  sn 4 3 (osl eI true ([])) <| 
  (iter (f111_0 a) ([], 0)).bind fun out_14 =>
  some out_14 : Option (List Int))) rfl (by exact go)
instance : Io0 cx 111 := ⟨rfl⟩
instance i46 {a : Atom} : Rn cx (f46 l a) 46 [(ssl eRelation l), (.agg [(iT a.Relation), (ssl eI a.Terms)])] (fun (r : (List Int)) => (osl eI true r)) (fun r => []) := Rn.o (e := (
  (f110 a.Relation 0 (w64 ((l.length : Int) - 1))).bind fun o1 =>
  (jn (QN (fun (y : Bool) => [(0, .v (ssl eRelation l)), (3, .v (.ptr true [(iT a.Relation), (ssl eI a.Terms)])), (24, .v (.bool y))])) ((if ¬ (o1 = true) then
  some true
  else
  (ix l a.Relation).bind fun v_6 =>
  (f110 v_6.KeyLength 0 (a.Terms.length : Int)).bind fun o8 =>
  some (decide (¬ (o8 = true)))) : Option (Bool))).bind fun x_3 =>
  if x_3 = true then
  sn 2 4 (osl eI true ([])) <| 
  some ([])
  else
  (ix l a.Relation).bind fun v_11 =>
  (cutL a.Terms 0 v_11.KeyLength).bind fun l_13 =>
  (f111 ({ Relation := 0, Terms := l_13 } : Atom)).bind fun o15 =>
  some o15 : Option (List Int))) rfl (by exact go)
instance : Io0 cx 46 := ⟨rfl⟩
instance i113_0 : Lp cx (f113_0 a b) 25 L113_0 (fun (zs : (List Int) × Int) => [(0, .v (ssl eI a)), (1, .v (ssl eI b)), (5, .v (osl eI true zs.1)), (6, .v (iT zs.2))]) (QX 0 (fun (y : (List Int)) => [(5, .v (osl eI true y))])) := Lp.of (f := (fun
 | (out_1, v_2) =>
  if v_2 < 4 then
  (f45 a v_2).bind fun o4 =>
  (jn (QN (fun (y : Bool) => [(0, .v (ssl eI a)), (1, .v (ssl eI b)), (5, .v (osl eI true out_1)), (6, .v (iT v_2)), (19, .v (.bool y))])) ((if o4 = true then
  some true
  else
  (f45 b v_2).bind fun o9 =>
  some o9) : Option (Bool))).bind fun x_6 =>
  (jn (QN (fun (y : (List Int)) => [(0, .v (ssl eI a)), (1, .v (ssl eI b)), (5, .v (osl eI true y)), (6, .v (iT v_2))])) ((if x_6 = true then
  (app 8 out_1 ([v_2])).bind fun l_14 =>
  some l_14
  else
  some out_1) : Option (List Int))).bind fun out_16 =>
  some (.inl (out_16, w64 (v_2 + 1)))
  else
  some (.inr out_1) : (List Int) × Int -> Option (((List Int) × Int) ⊕ (List Int)))) (by exact go)
instance i113 : Rn cx (f113 a b) 113 [(ssl eI a), (ssl eI b)] (fun (r : (List Int)) => (osl eI true r)) (fun r => []) := Rn.o (e := (
  sn 3 5 (osl eI true ([])) <| 
  (iter (f113_0 a b) ([], 0)).bind fun out_19 =>
  some out_19 : Option (List Int))) rfl (by exact go)
instance : Io0 cx 113 := ⟨rfl⟩
instance i163_0 {l : (List Int)} : Lp cx (f163_0 l want) 19 L163_0 (fun (zs : Int) => [(0, .v (ssl eI l)), (1, .v (ssl eI want)), (5, .v (iT zs))]) (QO (QX 0 (fun (y : Unit) => [])) (QR (fun (y : Bool) => [(4, .v (.bool y))]))) := Lp.of (by unfold f163_0; exact go)
instance i163 {l : (List Int)} : Rn cx (f163 l want) 163 [(ssl eI l), (ssl eI want)] (fun (r : Bool) => (.bool r)) (fun r => []) := Rn.o rfl (by unfold f163; exact go)
instance : Io0 cx 163 := ⟨rfl⟩
instance i205_1 {n_7 : Int} : Lp cx (lw n_7 (f205_1 l q skip)) 58 L205_1 (fun (zs : (List Int) × Int) => [(0, .v (ssl eRelation l)), (2, .v (iT skip)), (5, .v (.ptr true [(iT q.VariableCount), (ssl eAtom q.Atoms), (ssl eI q.Free)])), (9, .v (osl eI true zs.1)), (10, .v (iT n_7)), (11, .v (iT zs.2))]) (QX 2 (fun (y : (List Int)) => [(0, .v (ssl eRelation l)), (2, .v (iT skip)), (5, .v (.ptr true [(iT q.VariableCount), (ssl eAtom q.Atoms), (ssl eI q.Free)])), (9, .v (osl eI true y)), (10, .v (iT n_7))])) := Lp.of (f := (fun
 | (out_9, i_10) =>
  if i_10 < (q.Atoms.length : Int) then
  (jn (QN (fun (y : Bool) => [(0, .v (ssl eRelation l)), (2, .v (iT skip)), (5, .v (.ptr true [(iT q.VariableCount), (ssl eAtom q.Atoms), (ssl eI q.Free)])), (9, .v (osl eI true out_9)), (10, .v (iT n_7)), (11, .v (iT i_10)), (48, .v (.bool y))])) ((if i_10 ≠ skip then
  (ix q.Atoms i_10).bind fun v_15 =>
  (f46 l v_15).bind fun o17 =>
  (f163 out_9 o17).bind fun o19 =>
  some o19
  else
  some false) : Option (Bool))).bind fun x_12 =>
  (jn (QN (fun (y : (List Int)) => [(0, .v (ssl eRelation l)), (2, .v (iT skip)), (5, .v (.ptr true [(iT q.VariableCount), (ssl eAtom q.Atoms), (ssl eI q.Free)])), (9, .v (osl eI true y)), (10, .v (iT n_7)), (11, .v (iT i_10))])) ((if x_12 = true then
  (ix q.Atoms i_10).bind fun v_24 =>
  (f111 v_24).bind fun o26 =>
  (f113 out_9 o26).bind fun o28 =>
  some o28
  else
  some out_9) : Option (List Int))).bind fun out_30 =>
  some (.inl (out_30, w64 (i_10 + 1)))
  else
  some (.inr out_9) : (List Int) × Int -> Option (((List Int) × Int) ⊕ (List Int)))) (by exact go)
instance i205_0 : Lp cx (f205_0 l q skip) 58 L205_0 (fun (zs : (List Int) × Int) => [(0, .v (ssl eRelation l)), (2, .v (iT skip)), (5, .v (.ptr true [(iT q.VariableCount), (ssl eAtom q.Atoms), (ssl eI q.Free)])), (9, .v (osl eI true zs.1)), (10, .v (iT zs.2))]) (QX 0 (fun (y : (List Int)) => [(9, .v (osl eI true y))])) := Lp.of (f := (fun
 | (out_6, n_7) =>
  if n_7 < (q.Atoms.length : Int) then
  (iter (lw n_7  (f205_1 l q skip)) (out_6, 0)).bind fun out_33 =>
  some (.inl (out_33, w64 (n_7 + 1)))
  else
  some (.inr out_6) : (List Int) × Int -> Option (((List Int) × Int) ⊕ (List Int)))) (by exact go)
instance i205 {vars : (List Int)} : Rn cx (f205 l q skip vars) 205 [(ssl eRelation l), (.agg [(iT q.VariableCount), (ssl eAtom q.Atoms), (ssl eI q.Free)]), (iT skip), (ssl eI vars)] (fun (r : (List Int)) => (osl eI true r)) (fun r => []) := Rn.o (e := (
  (f80 l q).bind fun o1 =>
  if ¬ (o1 = true) then
  sn 2 8 (osl eI true ([])) <| 
  some ([])
  else
  (f113 vars q.Free).bind fun o4 =>
  (iter (f205_0 l q skip) (o4, 0)).bind fun out_36 =>
  some out_36 : Option (List Int))) rfl (by exact go)
instance : Io0 cx 205 := ⟨rfl⟩
instance i204 : Rn cx (f204 l q k) 204 [(ssl eRelation l), (.agg [(iT q.VariableCount), (ssl eAtom q.Atoms), (ssl eI q.Free)]), (iT k)] (fun (r : (List Int)) => (osl eI true r)) (fun r => []) := Rn.o (e := (
  (f80 l q).bind fun o1 =>
  (jn (QN (fun (y : Bool) => [(0, .v (ssl eRelation l)), (2, .v (iT k)), (4, .v (.ptr true [(iT q.VariableCount), (ssl eAtom q.Atoms), (ssl eI q.Free)])), (19, .v (.bool y))])) ((if ¬ (o1 = true) then
  some true
  else
  (f110 k 0 (w64 ((q.Atoms.length : Int) - 1))).bind fun o6 =>
  some (decide (¬ (o6 = true)))) : Option (Bool))).bind fun x_3 =>
  if x_3 = true then
  sn 2 6 (osl eI true ([])) <| 
  some ([])
  else
  (ix q.Atoms k).bind fun v_9 =>
  (f46 l v_9).bind fun o11 =>
  (f205 l q k o11).bind fun o13 =>
  some o13 : Option (List Int))) rfl (by exact go)
instance : Io0 cx 204 := ⟨rfl⟩
instance i161_2 {out_14 : (List Int)} : Lp cx (lw (q, k, o9, n_12, i_15) (f161_2 out_14 o19)) 96 L161_2 (fun (zs : Bool × Int) => [(2, .v (iT k)), (4, .v (.ptr true [(iT q.VariableCount), (ssl eAtom q.Atoms), (ssl eI q.Free)])), (7, .v (osl eI true out_14)), (8, .v (osl eI true o9)), (9, .v (iT n_12)), (10, .v (iT i_15)), (11, .v (osl eI true o19)), (12, .v (.bool zs.1)), (13, .v (iT zs.2))]) (QX 4 (fun (y : Bool) => [(2, .v (iT k)), (4, .v (.ptr true [(iT q.VariableCount), (ssl eAtom q.Atoms), (ssl eI q.Free)])), (7, .v (osl eI true out_14)), (8, .v (osl eI true o9)), (9, .v (iT n_12)), (10, .v (iT i_15)), (11, .v (osl eI true o19)), (12, .v (.bool y))])) := Lp.of (f := (fun
 | (met_21, j_22) =>
  if j_22 < (o19.length : Int) then
  (jn (QN (fun (y : Bool) => [(2, .v (iT k)), (4, .v (.ptr true [(iT q.VariableCount), (ssl eAtom q.Atoms), (ssl eI q.Free)])), (7, .v (osl eI true out_14)), (8, .v (osl eI true o9)), (9, .v (iT n_12)), (10, .v (iT i_15)), (11, .v (osl eI true o19)), (12, .v (.bool y)), (13, .v (iT j_22))])) ((if met_21 = true then
  some true
  else
  (ix o19 j_22).bind fun v_27 =>
  (f45 out_14 v_27).bind fun o29 =>
  some o29) : Option (Bool))).bind fun met_24 =>
  some (.inl (met_24, w64 (j_22 + 1)))
  else
  some (.inr met_21) : Bool × Int -> Option ((Bool × Int) ⊕ Bool))) (by exact go)
instance i161_3 {met_33 : Bool} : Lp cx (lw (q, k, n_12, i_15) (f161_3 o9 o19 met_33)) 96 L161_3 (fun (zs : (List Int) × Int) => [(2, .v (iT k)), (4, .v (.ptr true [(iT q.VariableCount), (ssl eAtom q.Atoms), (ssl eI q.Free)])), (7, .v (osl eI true zs.1)), (8, .v (osl eI true o9)), (9, .v (iT n_12)), (10, .v (iT i_15)), (11, .v (osl eI true o19)), (12, .v (.bool met_33)), (14, .v (iT zs.2))]) (QX 6 (fun (y : (List Int)) => [(2, .v (iT k)), (4, .v (.ptr true [(iT q.VariableCount), (ssl eAtom q.Atoms), (ssl eI q.Free)])), (7, .v (osl eI true y)), (8, .v (osl eI true o9)), (9, .v (iT n_12)), (10, .v (iT i_15))])) := Lp.of (f := (fun
 | (out_34, j_35) =>
  (jn (QN (fun (y : Bool) => [(2, .v (iT k)), (4, .v (.ptr true [(iT q.VariableCount), (ssl eAtom q.Atoms), (ssl eI q.Free)])), (7, .v (osl eI true out_34)), (8, .v (osl eI true o9)), (9, .v (iT n_12)), (10, .v (iT i_15)), (11, .v (osl eI true o19)), (12, .v (.bool met_33)), (14, .v (iT j_35)), (78, .v (.bool y))])) ((if j_35 < (o19.length : Int) then
  some met_33
  else
  some false) : Option (Bool))).bind fun x_36 =>
  if x_36 = true then
  (ix o19 j_35).bind fun v_40 =>
  (f45 o9 v_40).bind fun o42 =>
  (jn (QN (fun (y : (List Int)) => [(2, .v (iT k)), (4, .v (.ptr true [(iT q.VariableCount), (ssl eAtom q.Atoms), (ssl eI q.Free)])), (7, .v (osl eI true y)), (8, .v (osl eI true o9)), (9, .v (iT n_12)), (10, .v (iT i_15)), (11, .v (osl eI true o19)), (12, .v (.bool met_33)), (14, .v (iT j_35))])) ((if ¬ (o42 = true) then
  sn 6 93 (osl eI true ([v_40])) <| 
  (f113 out_34 ([v_40])).bind fun o47 =>
  some o47
  else
  some out_34) : Option (List Int))).bind fun out_49 =>
  some (.inl (out_49, w64 (j_35 + 1)))
  else
  some (.inr out_34) : (List Int) × Int -> Option (((List Int) × Int) ⊕ (List Int)))) (by exact go)
instance i161_1 : Lp cx (lw n_12 (f161_1 q k o9)) 96 L161_1 (fun (zs : (List Int) × Int) => [(2, .v (iT k)), (4, .v (.ptr true [(iT q.VariableCount), (ssl eAtom q.Atoms), (ssl eI q.Free)])), (7, .v (osl eI true zs.1)), (8, .v (osl eI true o9)), (9, .v (iT n_12)), (10, .v (iT zs.2))]) (QX 2 (fun (y : (List Int)) => [(2, .v (iT k)), (4, .v (.ptr true [(iT q.VariableCount), (ssl eAtom q.Atoms), (ssl eI q.Free)])), (7, .v (osl eI true y)), (8, .v (osl eI true o9)), (9, .v (iT n_12))])) := Lp.of (f := (fun
 | (out_14, i_15) =>
  if i_15 < (q.Atoms.length : Int) then
  (ix q.Atoms i_15).bind fun v_17 =>
  (f111 v_17).bind fun o19 =>
  (iter (lw (q, k, o9, n_12, i_15)  (f161_2 out_14 o19)) ((decide (i_15 = k)), 0)).bind fun met_33 =>
  (iter (lw (q, k, n_12, i_15)  (f161_3 o9 o19 met_33)) (out_14, 0)).bind fun out_52 =>
  some (.inl (out_52, w64 (i_15 + 1)))
  else
  some (.inr out_14) : (List Int) × Int -> Option (((List Int) × Int) ⊕ (List Int)))) (by exact go)
instance i161_0 : Lp cx (f161_0 q k o9) 96 L161_0 (fun (zs : (List Int) × Int) => [(2, .v (iT k)), (4, .v (.ptr true [(iT q.VariableCount), (ssl eAtom q.Atoms), (ssl eI q.Free)])), (7, .v (osl eI true zs.1)), (8, .v (osl eI true o9)), (9, .v (iT zs.2))]) (QX 0 (fun (y : (List Int)) => [(7, .v (osl eI true y))])) := Lp.of (f := (fun
 | (out_11, n_12) =>
  if n_12 <= (q.Atoms.length : Int) then
  (iter (lw n_12  (f161_1 q k o9)) (out_11, 0)).bind fun out_55 =>
  some (.inl (out_55, w64 (n_12 + 1)))
  else
  some (.inr out_11) : (List Int) × Int -> Option (((List Int) × Int) ⊕ (List Int)))) (by exact go)
instance i161 : Rn cx (f161 l q k) 161 [(ssl eRelation l), (.agg [(iT q.VariableCount), (ssl eAtom q.Atoms), (ssl eI q.Free)]), (iT k)] (fun (r : (List Int)) => (osl eI true r)) (fun r => []) := Rn.o (e := (
  sn 4 7 (osl eI true ([])) <| 
  (f80 l q).bind fun o1 =>
  (jn (QN (fun (y : Bool) => [(0, .v (ssl eRelation l)), (2, .v (iT k)), (4, .v (.ptr true [(iT q.VariableCount), (ssl eAtom q.Atoms), (ssl eI q.Free)])), (7, .v (osl eI true ([]))), (28, .v (.bool y))])) ((if ¬ (o1 = true) then
  some true
  else
  (f110 k 0 (w64 ((q.Atoms.length : Int) - 1))).bind fun o6 =>
  some (decide (¬ (o6 = true)))) : Option (Bool))).bind fun x_3 =>
  if x_3 = true then
  some ([])
  else
  (f204 l q k).bind fun o9 =>
  (iter (f161_0 q k o9) ([], 0)).bind fun out_58 =>
  some out_58 : Option (List Int))) rfl (by exact go)
instance : Io0 cx 161 := ⟨rfl⟩
instance i105_0 {o17 : (List Int)} {o21 : (List Int)} : Lp cx (f105_0 o17 o21) 61 L105_0 (fun (zs : Int) => [(9, .v (osl eI true o17)), (10, .v (osl eI true o21)), (11, .v (iT zs))]) (QO (QX 0 (fun (y : Unit) => [])) (QR (fun (y : Bool) => [(8, .v (.bool y))]))) := Lp.of (by unfold f105_0; exact go)
instance i105 : Rn cx (f105 l q i k) 105 [(ssl eRelation l), (.agg [(iT q.VariableCount), (ssl eAtom q.Atoms), (ssl eI q.Free)]), (iT i), (iT k)] (fun (r : Bool) => (.bool r)) (fun r => []) := Rn.o (e := (
  (f80 l q).bind fun o1 =>
  (jn (QN (fun (y : Bool) => [(0, .v (ssl eRelation l)), (2, .v (iT i)), (3, .v (iT k)), (5, .v (.ptr true [(iT q.VariableCount), (ssl eAtom q.Atoms), (ssl eI q.Free)])), (38, .v (.bool y))])) ((if ¬ (o1 = true) then
  some true
  else
  (f110 i 0 (w64 ((q.Atoms.length : Int) - 1))).bind fun o6 =>
  (jn (QN (fun (y : Bool) => [(0, .v (ssl eRelation l)), (2, .v (iT i)), (3, .v (iT k)), (5, .v (.ptr true [(iT q.VariableCount), (ssl eAtom q.Atoms), (ssl eI q.Free)])), (38, .v (.bool y))])) ((if ¬ (o6 = true) then
  some true
  else
  (f110 k 0 (w64 ((q.Atoms.length : Int) - 1))).bind fun o11 =>
  (jn (QN (fun (y : Bool) => [(0, .v (ssl eRelation l)), (2, .v (iT i)), (3, .v (iT k)), (5, .v (.ptr true [(iT q.VariableCount), (ssl eAtom q.Atoms), (ssl eI q.Free)])), (38, .v (.bool y))])) ((if ¬ (o11 = true) then
  some true
  else
  some (decide (i = k))) : Option (Bool))).bind fun x_13 =>
  some x_13) : Option (Bool))).bind fun x_8 =>
  some x_8) : Option (Bool))).bind fun x_3 =>
  if x_3 = true then
  some false
  else
  (f161 l q i).bind fun o17 =>
  (ix q.Atoms k).bind fun v_19 =>
  (f111 v_19).bind fun o21 =>
  (iter (f105_0 o17 o21) 0).bind fun o => match o with
  | .inl _ =>
  some false
  | .inr x_32 =>
  some x_32 : Option Bool)) rfl (by exact go)
instance : Io0 cx 105 := ⟨rfl⟩
instance i162 {to : (List Int)} : Rn cx (f162 l q from2 to) 162 [(ssl eRelation l), (.agg [(iT q.VariableCount), (ssl eAtom q.Atoms), (ssl eI q.Free)]), (ssl eI from2), (ssl eI to)] (fun (r : Bool) => (.bool r)) (fun r => []) := Rn.o (e := (
  (f80 l q).bind fun o1 =>
  (jn (QN (fun (y : Bool) => [(8, .v (.bool y))])) ((if o1 = true then
  (f205 l q (-1) from2).bind fun o6 =>
  (f163 o6 to).bind fun o8 =>
  some o8
  else
  some false) : Option (Bool))).bind fun x_3 =>
  some x_3 : Option Bool)) rfl (by exact go)
instance : Io0 cx 162 := ⟨rfl⟩
instance i106 : Rn cx (f106 l q i k) 106 [(ssl eRelation l), (.agg [(iT q.VariableCount), (ssl eAtom q.Atoms), (ssl eI q.Free)]), (iT i), (iT k)] (fun (r : Bool) => (.bool r)) (fun r => []) := Rn.o (e := (
  (f105 l q i k).bind fun o1 =>
  (jn (QN (fun (y : Bool) => [(0, .v (ssl eRelation l)), (8, .v (.bool y))])) ((if o1 = true then
  (ix q.Atoms i).bind fun v_6 =>
  (ix q.Atoms k).bind fun v_8 =>
  (f46 l v_6).bind fun o10 =>
  (f46 l v_8).bind fun o12 =>
  (f162 l q o10 o12).bind fun o14 =>
  some o14
  else
  some false) : Option (Bool))).bind fun x_3 =>
  some x_3 : Option Bool)) rfl (by exact go)
instance : Io0 cx 106 := ⟨rfl⟩
instance i107_2 {a_20 : Int} : Lp cx (lw (k, n_17) (f107_2 l q i a_20)) 83 L107_2 (fun (zs : (List Bool) × Int) => [(0, .v (ssl eRelation l)), (2, .v (iT i)), (3, .v (iT k)), (5, .v (.ptr true [(iT q.VariableCount), (ssl eAtom q.Atoms), (ssl eI q.Free)])), (9, .v (osl eB true zs.1)), (10, .v (iT n_17)), (11, .v (iT a_20)), (12, .v (iT zs.2))]) (QX 4 (fun (y : (List Bool)) => [(0, .v (ssl eRelation l)), (2, .v (iT i)), (3, .v (iT k)), (5, .v (.ptr true [(iT q.VariableCount), (ssl eAtom q.Atoms), (ssl eI q.Free)])), (9, .v (osl eB true y)), (10, .v (iT n_17)), (11, .v (iT a_20))])) := Lp.of (f := (fun
 | (met_22, b_23) =>
  if b_23 < (q.Atoms.length : Int) then
  (jn (QN (fun (y : Bool) => [(0, .v (ssl eRelation l)), (2, .v (iT i)), (3, .v (iT k)), (5, .v (.ptr true [(iT q.VariableCount), (ssl eAtom q.Atoms), (ssl eI q.Free)])), (9, .v (osl eB true met_22)), (10, .v (iT n_17)), (11, .v (iT a_20)), (12, .v (iT b_23)), (75, .v (.bool y))])) ((if a_20 = i then
  (f105 l q a_20 b_23).bind fun o28 =>
  some o28
  else
  (ix met_22 a_20).bind fun v_30 =>
  (jn (QN (fun (y : Bool) => [(0, .v (ssl eRelation l)), (2, .v (iT i)), (3, .v (iT k)), (5, .v (.ptr true [(iT q.VariableCount), (ssl eAtom q.Atoms), (ssl eI q.Free)])), (9, .v (osl eB true met_22)), (10, .v (iT n_17)), (11, .v (iT a_20)), (12, .v (iT b_23)), (75, .v (.bool y))])) ((if v_30 = true then
  (f105 l q a_20 b_23).bind fun o35 =>
  some o35
  else
  some false) : Option (Bool))).bind fun x_32 =>
  some x_32) : Option (Bool))).bind fun x_25 =>
  (jn (QN (fun (y : (List Bool)) => [(0, .v (ssl eRelation l)), (2, .v (iT i)), (3, .v (iT k)), (5, .v (.ptr true [(iT q.VariableCount), (ssl eAtom q.Atoms), (ssl eI q.Free)])), (9, .v (osl eB true y)), (10, .v (iT n_17)), (11, .v (iT a_20)), (12, .v (iT b_23))])) ((if x_25 = true then
  (ix met_22 b_23).bind fun v_40 =>
  some (met_22.set b_23.toNat true)
  else
  some met_22) : Option (List Bool))).bind fun met_43 =>
  some (.inl (met_43, w64 (b_23 + 1)))
  else
  some (.inr met_22) : (List Bool) × Int -> Option (((List Bool) × Int) ⊕ (List Bool)))) (by exact go)
instance i107_1 : Lp cx (lw (k, n_17) (f107_1 l q i)) 83 L107_1 (fun (zs : (List Bool) × Int) => [(0, .v (ssl eRelation l)), (2, .v (iT i)), (3, .v (iT k)), (5, .v (.ptr true [(iT q.VariableCount), (ssl eAtom q.Atoms), (ssl eI q.Free)])), (9, .v (osl eB true zs.1)), (10, .v (iT n_17)), (11, .v (iT zs.2))]) (QX 2 (fun (y : (List Bool)) => [(0, .v (ssl eRelation l)), (2, .v (iT i)), (3, .v (iT k)), (5, .v (.ptr true [(iT q.VariableCount), (ssl eAtom q.Atoms), (ssl eI q.Free)])), (9, .v (osl eB true y)), (10, .v (iT n_17))])) := Lp.of (f := (fun
 | (met_19, a_20) =>
  if a_20 < (q.Atoms.length : Int) then
  (iter (lw (k, n_17)  (f107_2 l q i a_20)) (met_19, 0)).bind fun met_46 =>
  some (.inl (met_46, w64 (a_20 + 1)))
  else
  some (.inr met_19) : (List Bool) × Int -> Option (((List Bool) × Int) ⊕ (List Bool)))) (by exact go)
instance i107_0 : Lp cx (lw k (f107_0 l q i)) 83 L107_0 (fun (zs : (List Bool) × Int) => [(0, .v (ssl eRelation l)), (2, .v (iT i)), (3, .v (iT k)), (5, .v (.ptr true [(iT q.VariableCount), (ssl eAtom q.Atoms), (ssl eI q.Free)])), (9, .v (osl eB true zs.1)), (10, .v (iT zs.2))]) (QX 0 (fun (y : (List Bool)) => [(3, .v (iT k)), (9, .v (osl eB true y))])) := Lp.of (f := (fun
 | (met_16, n_17) =>
  if n_17 <= (q.Atoms.length : Int) then
  (iter (lw (k, n_17)  (f107_1 l q i)) (met_16, 0)).bind fun met_49 =>
  some (.inl (met_49, w64 (n_17 + 1)))
  else
  some (.inr met_16) : (List Bool) × Int -> Option (((List Bool) × Int) ⊕ (List Bool)))) (by exact go)
instance i107 : Rn cx (f107 l q i k) 107 [(ssl eRelation l), (.agg [(iT q.VariableCount), (ssl eAtom q.Atoms), (ssl eI q.Free)]), (iT i), (iT k)] (fun (r : Bool) => (.bool r)) (fun r => []) := Rn.o (e := (
  (f80 l q).bind fun o1 =>
  (jn (QN (fun (y : Bool) => [(0, .v (ssl eRelation l)), (2, .v (iT i)), (3, .v (iT k)), (5, .v (.ptr true [(iT q.VariableCount), (ssl eAtom q.Atoms), (ssl eI q.Free)])), (34, .v (.bool y))])) ((if ¬ (o1 = true) then
  some true
  else
  (f110 i 0 (w64 ((q.Atoms.length : Int) - 1))).bind fun o6 =>
  (jn (QN (fun (y : Bool) => [(0, .v (ssl eRelation l)), (2, .v (iT i)), (3, .v (iT k)), (5, .v (.ptr true [(iT q.VariableCount), (ssl eAtom q.Atoms), (ssl eI q.Free)])), (34, .v (.bool y))])) ((if ¬ (o6 = true) then
  some true
  else
  (f110 k 0 (w64 ((q.Atoms.length : Int) - 1))).bind fun o11 =>
  some (decide (¬ (o11 = true)))) : Option (Bool))).bind fun x_8 =>
  some x_8) : Option (Bool))).bind fun x_3 =>
  if x_3 = true then
  some false
  else
  (mkl 1 (q.Atoms.length : Int) false).bind fun l_14 =>
  sn 5 9 (osl eB true l_14) <| 
  (iter (lw k  (f107_0 l q i)) (l_14, 0)).bind fun met_52 =>
  (ix met_52 k).bind fun v_53 =>
  some v_53 : Option Bool)) rfl (by exact go)
instance : Io0 cx 107 := ⟨rfl⟩
instance i108_0 : Lp cx (f108_0 l q) 18 L108_0 (fun (zs : Int) => [(0, .v (ssl eRelation l)), (3, .v (.ptr true [(iT q.VariableCount), (ssl eAtom q.Atoms), (ssl eI q.Free)])), (5, .v (iT zs))]) (QO (QX 0 (fun (y : Unit) => [])) (QR (fun (y : Bool) => [(4, .v (.bool y))]))) := Lp.of (by unfold f108_0; exact go)
instance i108 : Rn cx (f108 l q) 108 [(ssl eRelation l), (.agg [(iT q.VariableCount), (ssl eAtom q.Atoms), (ssl eI q.Free)])] (fun (r : Bool) => (.bool r)) (fun r => []) := Rn.o rfl (by unfold f108; exact go)
instance : Io0 cx 108 := ⟨rfl⟩
instance i42_1 {i_4 : Int} : Lp cx (f42_1 l q i_4) 48 L42_1 (fun (zs : Int) => [(0, .v (ssl eRelation l)), (3, .v (.ptr true [(iT q.VariableCount), (ssl eAtom q.Atoms), (ssl eI q.Free)])), (5, .v (iT i_4)), (6, .v (iT zs))]) (QO (QX 2 (fun (y : Unit) => [(0, .v (ssl eRelation l)), (3, .v (.ptr true [(iT q.VariableCount), (ssl eAtom q.Atoms), (ssl eI q.Free)])), (5, .v (iT i_4))])) (QR (fun (y : Int) => [(4, .v (iT y))]))) := Lp.of (f := (fun
 | k_6 =>
  if k_6 < (q.Atoms.length : Int) then
  (f105 l q i_4 k_6).bind fun o8 =>
  (jn (QN (fun (y : Bool) => [(0, .v (ssl eRelation l)), (3, .v (.ptr true [(iT q.VariableCount), (ssl eAtom q.Atoms), (ssl eI q.Free)])), (5, .v (iT i_4)), (6, .v (iT k_6)), (44, .v (.bool y))])) ((if o8 = true then
  (f106 l q i_4 k_6).bind fun o13 =>
  (jn (QN (fun (y : Bool) => [(0, .v (ssl eRelation l)), (3, .v (.ptr true [(iT q.VariableCount), (ssl eAtom q.Atoms), (ssl eI q.Free)])), (5, .v (iT i_4)), (6, .v (iT k_6)), (44, .v (.bool y))])) ((if ¬ (o13 = true) then
  (f107 l q k_6 i_4).bind fun o18 =>
  some o18
  else
  some false) : Option (Bool))).bind fun x_15 =>
  some x_15
  else
  some false) : Option (Bool))).bind fun x_10 =>
  if x_10 = true then
  some (.inr (.inr 3))
  else
  some (.inl (w64 (k_6 + 1)))
  else
  some (.inr (.inl ())) : Int -> Option (Int ⊕ (Unit ⊕ Int)))) (by exact go)
instance i42_0 : Lp cx (f42_0 l q) 48 L42_0 (fun (zs : Int) => [(0, .v (ssl eRelation l)), (3, .v (.ptr true [(iT q.VariableCount), (ssl eAtom q.Atoms), (ssl eI q.Free)])), (5, .v (iT zs))]) (QO (QX 0 (fun (y : Unit) => [(0, .v (ssl eRelation l)), (3, .v (.ptr true [(iT q.VariableCount), (ssl eAtom q.Atoms), (ssl eI q.Free)]))])) (QR (fun (y : Int) => [(4, .v (iT y))]))) := Lp.of (by unfold f42_0; exact go)
instance i42 : Rn cx (f42 l q) 42 [(ssl eRelation l), (.agg [(iT q.VariableCount), (ssl eAtom q.Atoms), (ssl eI q.Free)])] (fun (r : Int) => (iT r)) (fun r => []) := Rn.o rfl (by unfold f42; exact go)
instance : Io0 cx 42 := ⟨rfl⟩
instance i43_0 : Lp cx (f43_0 q) 40 L43_0 (fun (zs : Int × (List Atom) × (List Int) × Int) => [(1, .v (.ptr true [(iT q.VariableCount), (ssl eAtom q.Atoms), (ssl eI q.Free)])), (2, .v (.ptr true [(iT 0), (osl eAtom true ([])), (osl eI true ([]))])), (3, .v (.ptr true [(iT zs.1), (osl eAtom true zs.2.1), (osl eI true zs.2.2.1)])), (4, .v (iT zs.2.2.2))]) (QX 0 (fun (y : Int × (List Atom) × (List Int)) => [(2, .v (.ptr true [(iT 0), (osl eAtom true ([])), (osl eI true ([]))])), (3, .v (.ptr true [(iT y.1), (osl eAtom true y.2.1), (osl eI true y.2.2)]))])) := Lp.of (f := (fun
 | (x_3, x_4, x_5, i_6) =>
  if i_6 < (q.Atoms.length : Int) then
  (ix q.Atoms i_6).bind fun v_8 =>
  (app 8 ([]) v_8.Terms).bind fun l_10 =>
  sn 16 34 (osl eI true l_10) <| 
  (app 32 x_4 ([({ Relation := v_8.Relation, Terms := l_10 } : Atom)])).bind fun l_12 =>
  some (.inl (x_3, l_12, x_5, w64 (i_6 + 1)))
  else
  some (.inr (x_3, x_4, x_5)) : Int × (List Atom) × (List Int) × Int -> Option ((Int × (List Atom) × (List Int) × Int) ⊕ (Int × (List Atom) × (List Int))))) (by exact go)
instance i43 : Rn cx (f43 q) 43 [(.agg [(iT q.VariableCount), (ssl eAtom q.Atoms), (ssl eI q.Free)])] (fun (r : Query) => (.agg [(iT r.VariableCount), (osl eAtom true r.Atoms), (osl eI true r.Free)])) (fun r => []) := Rn.o (e := (
  sn 2 2 (.ptr true [(iT 0), (osl eAtom true ([])), (osl eI true ([]))]) <| 
  (app 8 ([]) q.Free).bind fun l_1 =>
  sn 7 10 (osl eI true l_1) <| 
  sn 1 11 (.agg [(iT q.VariableCount), (osl eAtom true ([])), (osl eI true l_1)]) <| 
  (iter (f43_0 q) (q.VariableCount, [], l_1, 0)).bind fun (x_16, x_17, x_18) =>
  some ({ VariableCount := x_16, Atoms := x_17, Free := x_18 } : Query) : Option Query)) rfl (by exact go)
instance : Io0 cx 43 := ⟨rfl⟩
instance i164_0 : Lp cx (f164_0 a b not) 29 L164_0 (fun (zs : Int) => [(0, .v (ssl eI a)), (1, .v (ssl eI b)), (2, .v (ssl eI not)), (7, .v (iT zs))]) (QO (QX 0 (fun (y : Unit) => [])) (QR (fun (y : Bool) => [(6, .v (.bool y))]))) := Lp.of (f := (fun
 | i_1 =>
  if i_1 < (a.length : Int) then
  (ix a i_1).bind fun v_3 =>
  (f45 b v_3).bind fun o5 =>
  (jn (QN (fun (y : Bool) => [(0, .v (ssl eI a)), (1, .v (ssl eI b)), (2, .v (ssl eI not)), (7, .v (iT i_1)), (28, .v (.bool y))])) ((if o5 = true then
  (f45 not v_3).bind fun o10 =>
  some (decide (¬ (o10 = true)))
  else
  some false) : Option (Bool))).bind fun x_7 =>
  if x_7 = true then
  some (.inr (.inr true))
  else
  some (.inl (w64 (i_1 + 1)))
  else
  some (.inr (.inl ())) : Int -> Option (Int ⊕ (Unit ⊕ Bool)))) (by exact go)
instance i164 : Rn cx (f164 a b not) 164 [(ssl eI a), (ssl eI b), (ssl eI not)] (fun (r : Bool) => (.bool r)) (fun r => []) := Rn.o rfl (by unfold f164; exact go)
instance : Io0 cx 164 := ⟨rfl⟩
end
end Go.Proofs.YtjfeimhiiomgoaaGreatH
