import Derived.Test.YtjfeimhiiomgoaaGreatTg1d
set_option maxHeartbeats 2000000
set_option linter.unusedVariables false
set_option linter.unusedSimpArgs false
set_option linter.defProp false
set_option linter.unusedSectionVars false
set_option maxRecDepth 100000
namespace Go.Proofs.YtjfeimhiiomgoaaGreatH
open Go
noncomputable section
variable {slices : (List (List Int))} {atoms : (List Atom)} {a b free from2 indices not o19 o7 o9 plus_38 s0 s1 s2 terms vals values variables want : (List Int)} {l relations : (List Relation)} {rewriting : (List RewritingStep)} {atom v_19 : Atom} {d db : Database} {f : Fact} {high i i_15 i_17 k left low n0 n1 n_12 n_17 n_40 skip t to v x y : Int} {q query : Query}
instance i22 : Rn cx (f22 db query) 22 [(.agg [(ssl eRelation db.Relations), (ssl eFact db.Facts)]), (.agg [(iT query.VariableCount), (ssl eAtom query.Atoms), (ssl eI query.Free)])] (fun (r : Bool × Bool) => (.tup [(.bool r.1), (.bool r.2)])) (fun r => []) := Rn.o (e := (
  (f11 db.Relations query).bind fun o1 =>
  (jn (QN (fun (y : Bool) => [(2, .v (.ptr true [(ssl eRelation db.Relations), (ssl eFact db.Facts)])), (6, .v (osl eRewritingStep true o1.1)), (27, .v (.bool y))])) ((if ¬ (o1.2 = true) then
  some true
  else
  (f72 db).bind fun o6 =>
  (jn (QN (fun (y : Bool) => [(2, .v (.ptr true [(ssl eRelation db.Relations), (ssl eFact db.Facts)])), (6, .v (osl eRewritingStep true o1.1)), (27, .v (.bool y))])) ((if ¬ (o6 = true) then
  some true
  else
  some (decide ((query.Free.length : Int) > 0))) : Option (Bool))).bind fun x_8 =>
  some x_8) : Option (Bool))).bind fun x_3 =>
  if x_3 = true then
  some (false, false)
  else
  (f73 db o1.1 ([] : (List Int))).bind fun o12 =>
  some (o12, true) : Option (Bool × Bool))) rfl (by exact go)
instance : Io0 cx 22 := ⟨rfl⟩
instance i61 {a : Relation} {b : Relation} : Rn cx (f61 a b) 61 [(.agg [(.str a.Name), (iT a.Arity), (iT a.KeyLength)]), (.agg [(.str b.Name), (iT b.Arity), (iT b.KeyLength)])] (fun (r : Bool) => (.bool r)) (fun r => []) := Rn.o rfl (by unfold f61; exact go)
instance : Io0 cx 61 := ⟨rfl⟩
instance i13_0 {a : (List Relation)} {b : (List Relation)} : Lp cx (f13_0 a b) 27 L13_0 (fun (zs : Int) => [(0, .v (ssl eRelation a)), (1, .v (ssl eRelation b)), (5, .v (iT zs))]) (QO (QX 0 (fun (y : Unit) => [])) (QR (fun (y : Bool) => [(4, .v (.bool y))]))) := Lp.of (by unfold f13_0; exact go)
instance i13 {a : (List Relation)} {b : (List Relation)} : Rn cx (f13 a b) 13 [(ssl eRelation a), (ssl eRelation b)] (fun (r : Bool) => (.bool r)) (fun r => []) := Rn.o rfl (by unfold f13; exact go)
instance : Io0 cx 13 := ⟨rfl⟩
instance i63_0 : Lp cx (f63_0 a b) 26 L63_0 (fun (zs : Int) => [(0, .v (ssl eI a)), (1, .v (ssl eI b)), (5, .v (iT zs))]) (QO (QX 0 (fun (y : Unit) => [])) (QR (fun (y : Bool) => [(4, .v (.bool y))]))) := Lp.of (by unfold f63_0; exact go)
instance i63 : Rn cx (f63 a b) 63 [(ssl eI a), (ssl eI b)] (fun (r : Bool) => (.bool r)) (fun r => []) := Rn.o rfl (by unfold f63; exact go)
instance : Io0 cx 63 := ⟨rfl⟩
instance i140 {a : Fact} {b : Fact} : Rn cx (f140 a b) 140 [(.agg [(iT a.Relation), (ssl eI a.Values)]), (.agg [(iT b.Relation), (ssl eI b.Values)])] (fun (r : Bool) => (.bool r)) (fun r => []) := Rn.o rfl (by unfold f140; exact go)
instance : Io0 cx 140 := ⟨rfl⟩
instance i74_0 {a : (List Fact)} {b : (List Fact)} : Lp cx (f74_0 a b) 27 L74_0 (fun (zs : Int) => [(0, .v (ssl eFact a)), (1, .v (ssl eFact b)), (5, .v (iT zs))]) (QO (QX 0 (fun (y : Unit) => [])) (QR (fun (y : Bool) => [(4, .v (.bool y))]))) := Lp.of (by unfold f74_0; exact go)
instance i74 {a : (List Fact)} {b : (List Fact)} : Rn cx (f74 a b) 74 [(ssl eFact a), (ssl eFact b)] (fun (r : Bool) => (.bool r)) (fun r => []) := Rn.o rfl (by unfold f74; exact go)
instance : Io0 cx 74 := ⟨rfl⟩
instance i23 {a : Database} {b : Database} : Rn cx (f23 a b) 23 [(.agg [(ssl eRelation a.Relations), (ssl eFact a.Facts)]), (.agg [(ssl eRelation b.Relations), (ssl eFact b.Facts)])] (fun (r : Bool) => (.bool r)) (fun r => []) := Rn.o rfl (by unfold f23; exact go)
instance : Io0 cx 23 := ⟨rfl⟩
instance i125 {a : Atom} {b : Atom} : Rn cx (f125 a b) 125 [(.agg [(iT a.Relation), (ssl eI a.Terms)]), (.agg [(iT b.Relation), (ssl eI b.Terms)])] (fun (r : Bool) => (.bool r)) (fun r => []) := Rn.o rfl (by unfold f125; exact go)
instance : Io0 cx 125 := ⟨rfl⟩
instance i62_0 {a : (List Atom)} {b : (List Atom)} : Lp cx (f62_0 a b) 27 L62_0 (fun (zs : Int) => [(0, .v (ssl eAtom a)), (1, .v (ssl eAtom b)), (5, .v (iT zs))]) (QO (QX 0 (fun (y : Unit) => [])) (QR (fun (y : Bool) => [(4, .v (.bool y))]))) := Lp.of (by unfold f62_0; exact go)
instance i62 {a : (List Atom)} {b : (List Atom)} : Rn cx (f62 a b) 62 [(ssl eAtom a), (ssl eAtom b)] (fun (r : Bool) => (.bool r)) (fun r => []) := Rn.o rfl (by unfold f62; exact go)
instance : Io0 cx 62 := ⟨rfl⟩
instance i14 {a : Query} {b : Query} : Rn cx (f14 a b) 14 [(.agg [(iT a.VariableCount), (ssl eAtom a.Atoms), (ssl eI a.Free)]), (.agg [(iT b.VariableCount), (ssl eAtom b.Atoms), (ssl eI b.Free)])] (fun (r : Bool) => (.bool r)) (fun r => []) := Rn.o rfl (by unfold f14; exact go)
instance : Io0 cx 14 := ⟨rfl⟩
instance i4 {aDb : Database} {aQuery : Query} : Rn cx (f4 aDb aQuery) 4 [(.agg [(ssl eRelation aDb.Relations), (ssl eFact aDb.Facts)]), (.agg [(iT aQuery.VariableCount), (ssl eAtom aQuery.Atoms), (ssl eI aQuery.Free)])] (fun (r : Bool) => (.bool r)) (fun r => []) := Rn.o (e := (
  (f19 aDb 1048576).bind fun o1 =>
  if o1 < 0 then
  some true
  else
  (f7 aQuery o1).bind fun o4 =>
  if o4 < 0 then
  some true
  else
  (f21 aDb).bind fun o7 =>
  (f10 aQuery).bind fun o9 =>
  (f20 o7 o9).bind fun o11 =>
  (f21 aDb).bind fun o13 =>
  (f10 aQuery).bind fun o15 =>
  (f22 o13 o15).bind fun o17 =>
  (jn (QN (fun (y : Bool) => [(2, .v (.ptr true [(ssl eRelation aDb.Relations), (ssl eFact aDb.Facts)])), (3, .v (.ptr true [(iT aQuery.VariableCount), (ssl eAtom aQuery.Atoms), (ssl eI aQuery.Free)])), (8, .v (.ptr true [(osl eRelation true o13.Relations), (osl eFact true o13.Facts)])), (9, .v (.ptr true [(iT o15.VariableCount), (osl eAtom true o15.Atoms), (osl eI true o15.Free)])), (47, .v (.bool y))])) ((if (o17.1 != o11.1) = true then
  some true
  else
  some (o17.2 != o11.2)) : Option (Bool))).bind fun x_19 =>
  if x_19 = true then
  some false
  else
  (f21 aDb).bind fun o23 =>
  (f23 o13 o23).bind fun o25 =>
  if ¬ (o25 = true) then
  some false
  else
  (f10 aQuery).bind fun o28 =>
  (f14 o15 o28).bind fun o30 =>
  if ¬ (o30 = true) then
  some false
  else
  some true : Option Bool)) rfl (by exact go)
instance : Io0 cx 4 := ⟨rfl⟩
end
end Go.Proofs.YtjfeimhiiomgoaaGreatH
