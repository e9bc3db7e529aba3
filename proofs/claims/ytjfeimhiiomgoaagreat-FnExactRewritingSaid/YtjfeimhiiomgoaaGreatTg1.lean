import Derived.Test.YtjfeimhiiomgoaaGreatTg1c
set_option maxHeartbeats 2000000
set_option linter.unusedVariables false
set_option linter.unusedSimpArgs false
set_option linter.defProp false
set_option linter.unusedSectionVars false
set_option maxRecDepth 100000
namespace Go.Proofs.YtjfeimhiiomgoaaGreatH
open Go
noncomputable section
variable {slices : (List (List Int))} {atoms : (List Atom)} {a b free indices not o19 o7 o9 plus_38 s0 variables want : (List Int)} {l relations : (List Relation)} {atom v_19 : Atom} {from2 high i i_15 i_17 k left low n0 n1 n_12 n_17 n_40 skip to v x : Int} {q query : Query}
instance i3 {aRelations : (List Relation)} {aQuery : Query} : Rn cx (f3 aRelations aQuery) 3 [(ssl eRelation aRelations), (.agg [(iT aQuery.VariableCount), (ssl eAtom aQuery.Atoms), (ssl eI aQuery.Free)])] (fun (r : Bool) => (.bool r)) (fun r => []) := Rn.o (e := (
  (f6 aRelations 1048576).bind fun o1 =>
  if o1 < 0 then
  some true
  else
  (f7 aQuery o1).bind fun o4 =>
  if o4 < 0 then
  some true
  else
  (f9 aRelations).bind fun o7 =>
  (f10 aQuery).bind fun o9 =>
  (f8 o7 o9).bind fun o11 =>
  (f9 aRelations).bind fun o13 =>
  (f10 aQuery).bind fun o15 =>
  (f11 o13 o15).bind fun o17 =>
  (f12 o17.1 o11.1).bind fun o19 =>
  (jn (QN (fun (y : Bool) => [(0, .v (ssl eRelation aRelations)), (3, .v (.ptr true [(iT aQuery.VariableCount), (ssl eAtom aQuery.Atoms), (ssl eI aQuery.Free)])), (6, .v (osl eRewritingStep true o11.1)), (7, .v (.bool o11.2)), (8, .v (osl eRelation true o13)), (9, .v (.ptr true [(iT o15.VariableCount), (osl eAtom true o15.Atoms), (osl eI true o15.Free)])), (10, .v (osl eRewritingStep true o17.1)), (11, .v (.bool o17.2)), (53, .v (.bool y))])) ((if ¬ (o19 = true) then
  some true
  else
  some (o17.2 != o11.2)) : Option (Bool))).bind fun x_21 =>
  if x_21 = true then
  some false
  else
  (f9 aRelations).bind fun o25 =>
  (f13 o13 o25).bind fun o27 =>
  if ¬ (o27 = true) then
  some false
  else
  (f10 aQuery).bind fun o30 =>
  (f14 o15 o30).bind fun o32 =>
  if ¬ (o32 = true) then
  some false
  else
  (f15 o13 1).bind fun o35 =>
  (f16 o15 o35.1).bind fun o37 =>
  (jn (QN (fun (y : Bool) => [(0, .v (ssl eRelation aRelations)), (3, .v (.ptr true [(iT aQuery.VariableCount), (ssl eAtom aQuery.Atoms), (ssl eI aQuery.Free)])), (6, .v (osl eRewritingStep true o11.1)), (7, .v (.bool o11.2)), (10, .v (osl eRewritingStep true o17.1)), (82, .v (.bool y))])) ((if o37 < 0 then
  some true
  else
  (f12 o17.1 o11.1).bind fun o42 =>
  (jn (QN (fun (y : Bool) => [(0, .v (ssl eRelation aRelations)), (3, .v (.ptr true [(iT aQuery.VariableCount), (ssl eAtom aQuery.Atoms), (ssl eI aQuery.Free)])), (6, .v (osl eRewritingStep true o11.1)), (7, .v (.bool o11.2)), (10, .v (osl eRewritingStep true o17.1)), (82, .v (.bool y))])) ((if ¬ (o42 = true) then
  some true
  else
  some (o17.2 != o11.2)) : Option (Bool))).bind fun x_44 =>
  some x_44) : Option (Bool))).bind fun x_39 =>
  if x_39 = true then
  some false
  else
  (f17 o17.1 1).bind fun o48 =>
  (f18 o48.2 1).bind fun o50 =>
  if o50 < 0 then
  some false
  else
  if o50 ≠ o48.1 then
  some false
  else
  (f9 aRelations).bind fun o54 =>
  (f10 aQuery).bind fun o56 =>
  (f11 o54 o56).bind fun o58 =>
  (f12 o58.1 o11.1).bind fun o60 =>
  (jn (QN (fun (y : Bool) => [(10, .v (osl eRewritingStep true o48.2)), (13, .v (iT o48.1)), (110, .v (.bool y))])) ((if ¬ (o60 = true) then
  some true
  else
  some (o58.2 != o11.2)) : Option (Bool))).bind fun x_62 =>
  if x_62 = true then
  some false
  else
  (f18 o48.2 1).bind fun o66 =>
  if o66 < 0 then
  some false
  else
  if o66 ≠ o48.1 then
  some false
  else
  some true : Option Bool)) rfl (by exact go)
instance : Io0 cx 3 := ⟨rfl⟩
end
end Go.Proofs.YtjfeimhiiomgoaaGreatH
