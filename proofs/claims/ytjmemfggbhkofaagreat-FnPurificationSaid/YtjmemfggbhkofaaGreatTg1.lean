import Derived.Test.YtjmemfggbhkofaaGreatTg1d
set_option maxHeartbeats 2000000
set_option linter.unusedVariables false
set_option linter.unusedSimpArgs false
set_option linter.defProp false
set_option linter.unusedSectionVars false
set_option maxRecDepth 100000
namespace Go.Proofs.YtjmemfggbhkofaaGreatH
open Go
noncomputable section
instance i52 {db : Database} {query : Query} {holds : Bool} : Rn cx (f52 db query holds) 52 [(.agg [(ssl eRelation db.Relations), (ssl eFact db.Facts)]), (.agg [(iT query.VariableCount), (ssl eAtom query.Atoms), (ssl eI query.Free)]), (.bool holds)] (fun (r : (List Int) × Int × Bool) => (.tup [(ssl eI r.1), (iT r.2.1), (.bool r.2.2)])) (fun r => []) := Rn.o (e := (
  (f45 db query).bind fun o1 =>
  if ¬ (o1 = true) then
  sn 3 6 (osl eI true ([])) <| 
  some ([], 0, false)
  else
  (f55 db query).bind fun o4 =>
  (f56 db).bind fun o6 =>
  sn 3 11 (osl eI true ([])) <| 
  (f97 o6).bind fun o8 =>
  (iter (f52_0 holds o4 o6 o8) ([], 0, 0)).bind fun (first_30, count_31) =>
  some (first_30, count_31, true) : Option ((List Int) × Int × Bool))) rfl (by exact go)
instance : Io0 cx 52 := ⟨rfl⟩
instance i22 {db : Database} {query : Query} : Rn cx (f22 db query) 22 [(.agg [(ssl eRelation db.Relations), (ssl eFact db.Facts)]), (.agg [(iT query.VariableCount), (ssl eAtom query.Atoms), (ssl eI query.Free)])] (fun (r : Bool) => (.bool r)) (fun r => []) := Rn.o (e := (
  (f52 db query false).bind fun o1 =>
  (jn (QN (fun (y : Bool) => [(4, .v (.bool y))])) ((if o1.2.2 = true then
  some (decide (o1.2.1 = 0))
  else
  some false) : Option (Bool))).bind fun x_3 =>
  some x_3 : Option Bool)) rfl (by exact go)
instance : Io0 cx 22 := ⟨rfl⟩
instance i3 {code : (List Int)} : Rn cx (f3 code) 3 [(ssl eU code)] (fun (r : Bool) => (.bool r)) (fun r => []) := Rn.o (e := (
  (f7 code).bind fun o1 =>
  if o1 = true then
  some true
  else
  (f8 code).bind fun o4 =>
  sn 7 4 (.ptr false [(iT o4.2.VariableCount), (ssl eAtom o4.2.Atoms), (ssl eI o4.2.Free)]) <| 
  (f9 o4.2).bind fun o6 =>
  (f10 o4.1 o6).bind fun o8 =>
  (f11 o4.1 o6).bind fun o10 =>
  (f12 o4.1 o6).bind fun o12 =>
  (f14 o4.1 o6).bind fun o14 =>
  (f13 o8 o14).bind fun o16 =>
  (jn (QN (fun (y : Bool) => [(3, .v (.ptr true [(ssl eRelation o4.1.Relations), (ssl eFact o4.1.Facts)])), (5, .v (.ptr true [(iT o6.VariableCount), (ssl eAtom o6.Atoms), (ssl eI o6.Free)])), (6, .v (.ptr true [(ssl eRelation o8.Relations), (ssl eFact o8.Facts)])), (7, .v (.ptr true [(ssl eRelation o10.1.Relations), (ssl eFact o10.1.Facts)])), (8, .v (.bool o10.2)), (65, .v (.bool y))])) ((if ¬ (o16 = true) then
  some true
  else
  (jn (QN (fun (y : Bool) => [(3, .v (.ptr true [(ssl eRelation o4.1.Relations), (ssl eFact o4.1.Facts)])), (5, .v (.ptr true [(iT o6.VariableCount), (ssl eAtom o6.Atoms), (ssl eI o6.Free)])), (6, .v (.ptr true [(ssl eRelation o8.Relations), (ssl eFact o8.Facts)])), (7, .v (.ptr true [(ssl eRelation o10.1.Relations), (ssl eFact o10.1.Facts)])), (8, .v (.bool o10.2)), (65, .v (.bool y))])) ((if (o10.2 != o12.2) = true then
  some true
  else
  (jn (QN (fun (y : Bool) => [(3, .v (.ptr true [(ssl eRelation o4.1.Relations), (ssl eFact o4.1.Facts)])), (5, .v (.ptr true [(iT o6.VariableCount), (ssl eAtom o6.Atoms), (ssl eI o6.Free)])), (6, .v (.ptr true [(ssl eRelation o8.Relations), (ssl eFact o8.Facts)])), (7, .v (.ptr true [(ssl eRelation o10.1.Relations), (ssl eFact o10.1.Facts)])), (8, .v (.bool o10.2)), (65, .v (.bool y))])) ((if ¬ (o10.2 = true) then
  (f13 o10.1 o4.1).bind fun o27 =>
  (jn (QN (fun (y : Bool) => [(3, .v (.ptr true [(ssl eRelation o4.1.Relations), (ssl eFact o4.1.Facts)])), (5, .v (.ptr true [(iT o6.VariableCount), (ssl eAtom o6.Atoms), (ssl eI o6.Free)])), (6, .v (.ptr true [(ssl eRelation o8.Relations), (ssl eFact o8.Facts)])), (7, .v (.ptr true [(ssl eRelation o10.1.Relations), (ssl eFact o10.1.Facts)])), (8, .v (.bool o10.2)), (65, .v (.bool y))])) ((if ¬ (o27 = true) then
  some true
  else
  (f16 o4.1 o6).bind fun o32 =>
  (f17 o4.1 o6).bind fun o34 =>
  (f15 o32 o34).bind fun o36 =>
  some (decide (¬ (o36 = true)))) : Option (Bool))).bind fun x_29 =>
  some x_29
  else
  (f16 o4.1 o6).bind fun o38 =>
  (f17 o4.1 o6).bind fun o40 =>
  (f15 o38 o40).bind fun o42 =>
  some (decide (¬ (o42 = true)))) : Option (Bool))).bind fun x_24 =>
  some x_24) : Option (Bool))).bind fun x_21 =>
  some x_21) : Option (Bool))).bind fun x_18 =>
  if x_18 = true then
  some false
  else
  (f18 o4.1 o6).bind fun o45 =>
  if ¬ (o45 = true) then
  (f13 o8 o4.1).bind fun o48 =>
  some o48
  else
  (f19 o8 o6).bind fun o50 =>
  (jn (QN (fun (y : Bool) => [(2, .v (.bool y))])) ((if o50 = true then
  (f20 o8 o6).bind fun o55 =>
  (jn (QN (fun (y : Bool) => [(2, .v (.bool y))])) ((if o55 = true then
  (f21 o8 o6).bind fun o60 =>
  (f21 o4.1 o6).bind fun o62 =>
  (jn (QN (fun (y : Bool) => [(2, .v (.bool y))])) ((if (o60 == o62) = true then
  (f22 o10.1 o6).bind fun o67 =>
  (f21 o4.1 o6).bind fun o69 =>
  (jn (QN (fun (y : Bool) => [(2, .v (.bool y))])) ((if (o67 == o69) = true then
  (f10 o8 o6).bind fun o74 =>
  (f13 o74 o8).bind fun o76 =>
  (jn (QN (fun (y : Bool) => [(2, .v (.bool y))])) ((if o76 = true then
  (f19 o4.1 o6).bind fun o81 =>
  some (o81 == (decide (¬ (o10.2 = true))))
  else
  some false) : Option (Bool))).bind fun x_78 =>
  some x_78
  else
  some false) : Option (Bool))).bind fun x_71 =>
  some x_71
  else
  some false) : Option (Bool))).bind fun x_64 =>
  some x_64
  else
  some false) : Option (Bool))).bind fun x_57 =>
  some x_57
  else
  some false) : Option (Bool))).bind fun x_52 =>
  some x_52 : Option Bool)) rfl (by exact go)
instance : Io0 cx 3 := ⟨rfl⟩
end
end Go.Proofs.YtjmemfggbhkofaaGreatH
