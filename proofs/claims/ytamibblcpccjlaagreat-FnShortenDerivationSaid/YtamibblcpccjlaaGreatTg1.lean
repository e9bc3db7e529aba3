import Derived.Test.YtamibblcpccjlaaGreatTg1d
set_option maxHeartbeats 2000000
set_option linter.unusedVariables false
set_option linter.unusedSimpArgs false
set_option linter.defProp false
set_option linter.unusedSectionVars false
set_option maxRecDepth 100000
namespace Go.Proofs.YtamibblcpccjlaaGreatH
open Go
noncomputable section
variable {o1 o3 o5 : (Int × L1Cur)} {blocks known last_12 o32 o4 o6 out_11 slices : (List (List Int))} {o24 : (List (List UInt8))} {derivation steps : (List DerivationStep)} {a b block code from2 indices list s1 s2 set1 terms v_12 : (List Int)} {l relations : (List Relation)} {name s0 : (List UInt8)} {atom v_19 : Atom} {d db : Database} {v_1 : DerivationStep} {f : Fact} {high i i_1 i_17 i_7 k low n0 n1 n_13 sign t v val x y : Int} {c : L1Cur} {q query : Query}
instance i4 : Rn cx (f4 code) 4 [(ssl eU code)] (fun (r : Bool) => (.bool r)) (fun r => []) := Rn.o (e := (
  (f5 code).bind fun o1 =>
  if o1 = true then
  some true
  else
  (f12 code).bind fun o4 =>
  (f13 o4.1 o4.2.1 o4.2.2).bind fun o6 =>
  (f14 o4.1 o4.2.1 o4.2.2).bind fun o8 =>
  (jn (QN (fun (y : Bool) => [(3, .v (.ptr true [(ssl eRelation o4.1.Relations), (ssl eFact o4.1.Facts)])), (4, .v (.ptr true [(iT o4.2.1.VariableCount), (ssl eAtom o4.2.1.Atoms), (ssl eI o4.2.1.Free)])), (5, .v (ssl eDerivationStep o4.2.2)), (6, .v (ssl eDerivationStep o6)), (7, .v (ssl eDerivationStep o8)), (36, .v (.bool y))])) ((if (o6.length : Int) ≠ (o8.length : Int) then
  some true
  else
  some (decide ((o6.length : Int) > (o4.2.2.length : Int)))) : Option (Bool))).bind fun x_10 =>
  if x_10 = true then
  some false
  else
  (iter (lw o4  (f4_0 o6 o8)) 0).bind fun o => match o with
  | .inl _ =>
  (f16 o4.1 o4.2.1 o6).bind fun o29 =>
  (f17 o4.1 o4.2.1 o4.2.2).bind fun o31 =>
  some (o29 == o31)
  | .inr x_28 =>
  some x_28 : Option Bool)) rfl (by exact go)
instance : Io0 cx 4 := ⟨rfl⟩
end
end Go.Proofs.YtamibblcpccjlaaGreatH
