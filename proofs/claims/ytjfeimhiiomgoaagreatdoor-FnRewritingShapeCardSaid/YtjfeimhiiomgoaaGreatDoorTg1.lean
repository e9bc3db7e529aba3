import Derived.Test.YtjfeimhiiomgoaaGreatDoorTg1d
set_option maxHeartbeats 2000000
set_option linter.unusedVariables false
set_option linter.unusedSimpArgs false
set_option linter.defProp false
set_option linter.unusedSectionVars false
set_option maxRecDepth 100000
namespace Go.Proofs.YtjfeimhiiomgoaaGreatDoorH
open Go
noncomputable section
variable {o4 : ((List Relation) × Query)} {o6 : ((List RewritingStep) × Bool)} {o1 o3 o5 : (Int × L1Cur)} {slices : (List (List Int))} {o24 : (List (List UInt8))} {atoms : (List Atom)} {a b code free indices l_43 not o19 o7 o9 plus_38 terms variables want : (List Int)} {l relations : (List Relation)} {f rewriting : (List RewritingStep)} {name s0 s1 : (List UInt8)} {atom : Atom} {from2 high i i_15 i_17 i_27 i_7 k low n n0 n1 n_12 n_17 n_40 sign skip t to v v_19 x : Int} {c : L1Cur} {q query : Query}
instance i3_2 {o45 : (List Int)} : Lp cx (lw (o4, o6, i_27) (f3_2 l_43 o45)) 166 L3_2 (fun (zs : Int) => [(3, .v (ssl eRelation o4.1)), (4, .v (.ptr true [(iT o4.2.VariableCount), (osl eAtom true o4.2.Atoms), (osl eI true o4.2.Free)])), (5, .v (osl eRewritingStep true o6.1)), (9, .v (osl eI true l_43)), (10, .v (iT i_27)), (12, .v (osl eI true o45)), (13, .v (iT zs))]) (QO (QX 4 (fun (y : Unit) => [(3, .v (ssl eRelation o4.1)), (4, .v (.ptr true [(iT o4.2.VariableCount), (osl eAtom true o4.2.Atoms), (osl eI true o4.2.Free)])), (5, .v (osl eRewritingStep true o6.1)), (9, .v (osl eI true l_43)), (10, .v (iT i_27))])) (QR (fun (y : Bool) => [(2, .v (.bool y))]))) := Lp.of (by unfold lw f3_2; exact go)
instance i3_3 : Lp cx (lw o4 (f3_3 o6 i_27 l_43)) 166 L3_3 (fun (zs : Int) => [(3, .v (ssl eRelation o4.1)), (4, .v (.ptr true [(iT o4.2.VariableCount), (osl eAtom true o4.2.Atoms), (osl eI true o4.2.Free)])), (5, .v (osl eRewritingStep true o6.1)), (9, .v (osl eI true l_43)), (10, .v (iT i_27)), (14, .v (iT zs))]) (QO (QX 6 (fun (y : Unit) => [(3, .v (ssl eRelation o4.1)), (4, .v (.ptr true [(iT o4.2.VariableCount), (osl eAtom true o4.2.Atoms), (osl eI true o4.2.Free)])), (5, .v (osl eRewritingStep true o6.1)), (9, .v (osl eI true l_43)), (10, .v (iT i_27))])) (QR (fun (y : Bool) => [(2, .v (.bool y))]))) := Lp.of (by unfold lw f3_3; exact go)
instance i3_0 : Lp cx (f3_0 o4 o6) 166 L3_0 (fun (zs : (List Int) × Int) => [(3, .v (ssl eRelation o4.1)), (4, .v (.ptr true [(iT o4.2.VariableCount), (osl eAtom true o4.2.Atoms), (osl eI true o4.2.Free)])), (5, .v (osl eRewritingStep true o6.1)), (9, .v (osl eI true zs.1)), (10, .v (iT zs.2))]) (QO (QX 0 (fun (y : (List Int)) => [(3, .v (ssl eRelation o4.1)), (4, .v (.ptr true [(iT o4.2.VariableCount), (osl eAtom true o4.2.Atoms), (osl eI true o4.2.Free)])), (5, .v (osl eRewritingStep true o6.1)), (9, .v (osl eI true y))])) (QR (fun (y : Bool) => [(2, .v (.bool y))]))) := Lp.of (f := (fun
 | (known_26, i_27) =>
  if i_27 < (o6.1.length : Int) then
  (iter (lw o4  (f3_1 o6 known_26 i_27)) 0).bind fun o => match o with
  | .inl _ =>
  ((ix o6.1 i_27).bind fun v_41 =>
  (app 8 known_26 v_41.Existential).bind fun l_43 =>
  (f12 o4.1 v_41.Atom).bind fun o45 =>
  (iter (lw (o4, o6, i_27)  (f3_2 l_43 o45)) 0).bind fun o => match o with
  | .inl _ =>
  ((iter (lw o4  (f3_3 o6 i_27 l_43)) 0).bind fun o => match o with
  | .inl _ =>
  (app 8 l_43 v_41.Universal).bind fun l_69 =>
  some (.inl (l_69, w64 (i_27 + 1)))
  | .inr x_68 =>
  some (.inr (.inr x_68)))
  | .inr x_56 =>
  some (.inr (.inr x_56)))
  | .inr x_40 =>
  some (.inr (.inr x_40))
  else
  some (.inr (.inl known_26)) : (List Int) × Int -> Option (((List Int) × Int) ⊕ ((List Int) ⊕ Bool)))) (by exact go)
instance i3 : Rn cx (f3 code) 3 [(ssl eU code)] (fun (r : Bool) => (.bool r)) (fun r => []) := Rn.o (e := (
  (f4 code).bind fun o1 =>
  if o1 = true then
  some true
  else
  (f5 code).bind fun o4 =>
  (f6 o4.1 o4.2).bind fun o6 =>
  (f7 o4.1 o4.2).bind fun o8 =>
  (jn (QN (fun (y : Bool) => [(3, .v (ssl eRelation o4.1)), (4, .v (.ptr true [(iT o4.2.VariableCount), (osl eAtom true o4.2.Atoms), (osl eI true o4.2.Free)])), (5, .v (osl eRewritingStep true o6.1)), (6, .v (.bool o6.2)), (53, .v (.bool y))])) ((if (o6.2 != o8.2) = true then
  some true
  else
  (f8 o4.1 o4.2).bind fun o13 =>
  (jn (QN (fun (y : Bool) => [(3, .v (ssl eRelation o4.1)), (4, .v (.ptr true [(iT o4.2.VariableCount), (osl eAtom true o4.2.Atoms), (osl eI true o4.2.Free)])), (5, .v (osl eRewritingStep true o6.1)), (6, .v (.bool o6.2)), (53, .v (.bool y))])) ((if (o6.2 != (decide (o13 = 1))) = true then
  some true
  else
  (f9 o4.1 o6.1).bind fun o18 =>
  (f10 o4.1 o8.1).bind fun o20 =>
  some (decide (o18 ≠ o20))) : Option (Bool))).bind fun x_15 =>
  some x_15) : Option (Bool))).bind fun x_10 =>
  if x_10 = true then
  some false
  else
  if ¬ (o6.2 = true) then
  some (decide ((o6.1.length : Int) = 0))
  else
  (app 8 ([]) o4.2.Free).bind fun l_24 =>
  sn 5 9 (osl eI true l_24) <| 
  (iter (f3_0 o4 o6) (l_24, 0)).bind fun o => match o with
  | .inl known_73 =>
  (jn (QN (fun (y : Bool) => [(2, .v (.bool y))])) ((if (o6.1.length : Int) = (o4.2.Atoms.length : Int) then
  (jn (QN (fun (y : Bool) => [(2, .v (.bool y))])) ((if (known_73.length : Int) = o4.2.VariableCount then
  (f13 o4.1 o6.1).bind fun o81 =>
  (jn (QN (fun (y : Bool) => [(2, .v (.bool y))])) ((if o81 = true then
  (f14 o4.1 o6.1).bind fun o86 =>
  some o86
  else
  some false) : Option (Bool))).bind fun x_83 =>
  some x_83
  else
  some false) : Option (Bool))).bind fun x_78 =>
  some x_78
  else
  some false) : Option (Bool))).bind fun x_75 =>
  some x_75
  | .inr x_74 =>
  some x_74 : Option Bool)) rfl (by exact go)
instance : Io0 cx 3 := ⟨rfl⟩
end
end Go.Proofs.YtjfeimhiiomgoaaGreatDoorH
