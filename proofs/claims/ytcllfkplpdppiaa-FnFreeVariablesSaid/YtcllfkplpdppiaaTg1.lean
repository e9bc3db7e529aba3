import Derived.Test.YtcllfkplpdppiaaTg1d
set_option maxHeartbeats 2000000
set_option linter.unusedVariables false
set_option linter.unusedSimpArgs false
set_option linter.defProp false
set_option linter.unusedSectionVars false
set_option maxRecDepth 100000
namespace Go.Proofs.YtcllfkplpdppiaaH
open Go
noncomputable section
instance i21 {l : (List Relation)} {q : Query} : Rn cx (f21 l q) 21 [(ssl eRelation l), (.agg [(iT q.VariableCount), (ssl eAtom q.Atoms), (ssl eI q.Free)])] (fun (r : Int) => (iT r)) (fun r => []) := by
 refine Rn.of rfl rfl (by decide) rfl ?_; unfold f21; exact go
instance : Io0 cx 21 := ⟨rfl⟩
instance i22 {q : Query} : Rn cx (f22 q) 22 [(.agg [(iT q.VariableCount), (ssl eAtom q.Atoms), (ssl eI q.Free)])] (fun (r : Query) => (.agg [(iT r.VariableCount), (ssl eAtom r.Atoms), (ssl eI r.Free)])) (fun r => []) := by
 refine Rn.of (e := (
  sn 2 2 (.ptr true [(iT 0), (osl eAtom true ([])), (osl eI true ([]))]) <| 
  sn 3 4 (.agg [(iT q.VariableCount), (ssl eAtom q.Atoms), (osl eI true ([]))]) <| 
  some ({ VariableCount := q.VariableCount, Atoms := q.Atoms, Free := [] } : Query) : Option Query)) rfl rfl (by decide) rfl ?_
 exact go
instance : Io0 cx 22 := ⟨rfl⟩
instance i4_1 {o4 : ((List Relation) × Query)} {o16 : Query} {i_18 : Int} : Lp cx (f4_1 o4 o16 i_18) 69 L4_1 (fun (zs : Int) => [(3, .v (ssl eRelation o4.1)), (4, .v (.ptr false [(iT o4.2.VariableCount), (ssl eAtom o4.2.Atoms), (ssl eI o4.2.Free)])), (5, .v (.ptr true [(iT o16.VariableCount), (ssl eAtom o16.Atoms), (ssl eI o16.Free)])), (6, .v (iT i_18)), (7, .v (iT zs))]) (QO (QX 2 (fun (y : Unit) => [(3, .v (ssl eRelation o4.1)), (4, .v (.ptr false [(iT o4.2.VariableCount), (ssl eAtom o4.2.Atoms), (ssl eI o4.2.Free)])), (5, .v (.ptr true [(iT o16.VariableCount), (ssl eAtom o16.Atoms), (ssl eI o16.Free)])), (6, .v (iT i_18))])) (QR (fun (y : Bool) => [(2, .v (.bool y))]))) := by
 refine Lp.of (f := (fun
 | k_20 =>
  if k_20 < (o16.Atoms.length : Int) then
  (f7 o4.1 o4.2 i_18 k_20).bind fun o22 =>
  (jn (QN (fun (y : Bool) => [(3, .v (ssl eRelation o4.1)), (4, .v (.ptr false [(iT o4.2.VariableCount), (ssl eAtom o4.2.Atoms), (ssl eI o4.2.Free)])), (5, .v (.ptr true [(iT o16.VariableCount), (ssl eAtom o16.Atoms), (ssl eI o16.Free)])), (6, .v (iT i_18)), (7, .v (iT k_20)), (58, .v (.bool y))])) ((if o22 = true then
  (f7 o4.1 o16 i_18 k_20).bind fun o27 =>
  some (decide (¬ (o27 = true)))
  else
  some false) : Option (Bool))).bind fun x_24 =>
  if x_24 = true then
  some (.inr (.inr false))
  else
  some (.inl (w64 (k_20 + 1)))
  else
  some (.inr (.inl ())) : Int → Option (Int ⊕ (Unit ⊕ Bool)))) ?_
 exact go
instance i4_0 {o4 : ((List Relation) × Query)} {o16 : Query} : Lp cx (f4_0 o4 o16) 69 L4_0 (fun (zs : Int) => [(3, .v (ssl eRelation o4.1)), (4, .v (.ptr false [(iT o4.2.VariableCount), (ssl eAtom o4.2.Atoms), (ssl eI o4.2.Free)])), (5, .v (.ptr true [(iT o16.VariableCount), (ssl eAtom o16.Atoms), (ssl eI o16.Free)])), (6, .v (iT zs))]) (QO (QX 0 (fun (y : Unit) => [(3, .v (ssl eRelation o4.1)), (4, .v (.ptr false [(iT o4.2.VariableCount), (ssl eAtom o4.2.Atoms), (ssl eI o4.2.Free)])), (5, .v (.ptr true [(iT o16.VariableCount), (ssl eAtom o16.Atoms), (ssl eI o16.Free)]))])) (QR (fun (y : Bool) => [(2, .v (.bool y))]))) := by
 refine Lp.of ?_; unfold f4_0; exact go
instance i4 {code : (List Int)} : Rn cx (f4 code) 4 [(ssl eU code)] (fun (r : Bool) => (.bool r)) (fun r => []) := by
 refine Rn.of (e := (
  (f5 code).bind fun o1 =>
  if o1 = true then
  some true
  else
  (f18 code).bind fun o4 =>
  sn 6 4 (.ptr false [(iT o4.2.VariableCount), (ssl eAtom o4.2.Atoms), (ssl eI o4.2.Free)]) <| 
  (f19 o4.1 o4.2).bind fun o6 =>
  if ¬ (o6 = true) then
  (f20 o4.1 o4.2).bind fun o9 =>
  some (decide (o9 = 0))
  else
  (f20 o4.1 o4.2).bind fun o11 =>
  (f21 o4.1 o4.2).bind fun o13 =>
  if o11 ≠ o13 then
  some false
  else
  (f22 o4.2).bind fun o16 =>
  (iter (f4_0 o4 o16) 0).bind fun o => match o with
  | .inl _ =>
  (f20 o4.1 o16).bind fun o36 =>
  (jn (QN (fun (y : Bool) => [(2, .v (.bool y))])) ((if o36 ≠ 1 then
  some true
  else
  (f20 o4.1 o4.2).bind fun o41 =>
  some (decide (o41 = 1))) : Option (Bool))).bind fun x_38 =>
  some x_38
  | .inr x_35 =>
  some x_35 : Option Bool)) rfl rfl (by decide) rfl ?_
 exact go
instance : Io0 cx 4 := ⟨rfl⟩
end
end Go.Proofs.YtcllfkplpdppiaaH
