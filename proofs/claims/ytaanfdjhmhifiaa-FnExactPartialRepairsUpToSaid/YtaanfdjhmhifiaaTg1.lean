import Derived.Test.YtaanfdjhmhifiaaTg1a
set_option maxHeartbeats 2000000
set_option linter.unusedVariables false
set_option linter.unusedSimpArgs false
set_option linter.defProp false
set_option linter.unusedSectionVars false
set_option maxRecDepth 100000
namespace Go.Proofs.YtaanfdjhmhifiaaH
open Go
noncomputable section
instance i8 {db : Database} {size : Int} : Rn cx (f8 db size) 8 [(.agg [(ssl eRelation db.Relations), (ssl eFact db.Facts)]), (iT size)] (fun (r : (List (List Int))) => (osl (eL eI) true r)) (fun r => []) := by
 refine Rn.of (e := (
  sn 4 5 (osl (eL eI) true ([])) <| 
  (f25 db).bind fun o1 =>
  (jn (QN (fun (y : Bool) => [(1, .v (iT size)), (2, .v (.ptr true [(ssl eRelation db.Relations), (ssl eFact db.Facts)])), (5, .v (osl (eL eI) true ([]))), (15, .v (.bool y))])) ((if ¬ (o1 = true) then
  some true
  else
  (f26 size 0 3).bind fun o6 =>
  some (decide (¬ (o6 = true)))) : Option (Bool))).bind fun x_3 =>
  if x_3 = true then
  some ([])
  else
  (iter (f8_0 db size) ([], 0)).bind fun out_18 =>
  some out_18 : Option (List (List Int)))) rfl rfl (by decide) rfl ?_
 exact go
instance : Io0 cx 8 := ⟨rfl⟩
instance i28_0 {a : (List Int)} {b : (List Int)} : Lp cx (f28_0 a b) 26 L28_0 (fun (zs : Int) => [(0, .v (ssl eI a)), (1, .v (ssl eI b)), (5, .v (iT zs))]) (QO (QX 0 (fun (y : Unit) => [])) (QR (fun (y : Bool) => [(4, .v (.bool y))]))) := by
 refine Lp.of ?_; unfold f28_0; exact go
instance i28 {a : (List Int)} {b : (List Int)} : Rn cx (f28 a b) 28 [(ssl eI a), (ssl eI b)] (fun (r : Bool) => (.bool r)) (fun r => []) := by
 refine Rn.of rfl rfl (by decide) rfl ?_; unfold f28; exact go
instance : Io0 cx 28 := ⟨rfl⟩
instance i9_0 {a : (List (List Int))} {b : (List (List Int))} : Lp cx (f9_0 a b) 27 L9_0 (fun (zs : Int) => [(0, .v (ssl (eL eI) a)), (1, .v (ssl (eL eI) b)), (5, .v (iT zs))]) (QO (QX 0 (fun (y : Unit) => [])) (QR (fun (y : Bool) => [(4, .v (.bool y))]))) := by
 refine Lp.of ?_; unfold f9_0; exact go
instance i9 {a : (List (List Int))} {b : (List (List Int))} : Rn cx (f9 a b) 9 [(ssl (eL eI) a), (ssl (eL eI) b)] (fun (r : Bool) => (.bool r)) (fun r => []) := by
 refine Rn.of rfl rfl (by decide) rfl ?_; unfold f9; exact go
instance : Io0 cx 9 := ⟨rfl⟩
instance i58 {a : Relation} {b : Relation} : Rn cx (f58 a b) 58 [(.agg [(.str a.Name), (iT a.Arity), (iT a.KeyLength)]), (.agg [(.str b.Name), (iT b.Arity), (iT b.KeyLength)])] (fun (r : Bool) => (.bool r)) (fun r => []) := by
 refine Rn.of rfl rfl (by decide) rfl ?_; unfold f58; exact go
instance : Io0 cx 58 := ⟨rfl⟩
instance i29_0 {a : (List Relation)} {b : (List Relation)} : Lp cx (f29_0 a b) 27 L29_0 (fun (zs : Int) => [(0, .v (ssl eRelation a)), (1, .v (ssl eRelation b)), (5, .v (iT zs))]) (QO (QX 0 (fun (y : Unit) => [])) (QR (fun (y : Bool) => [(4, .v (.bool y))]))) := by
 refine Lp.of ?_; unfold f29_0; exact go
instance i29 {a : (List Relation)} {b : (List Relation)} : Rn cx (f29 a b) 29 [(ssl eRelation a), (ssl eRelation b)] (fun (r : Bool) => (.bool r)) (fun r => []) := by
 refine Rn.of rfl rfl (by decide) rfl ?_; unfold f29; exact go
instance : Io0 cx 29 := ⟨rfl⟩
instance i59 {a : Fact} {b : Fact} : Rn cx (f59 a b) 59 [(.agg [(iT a.Relation), (ssl eI a.Values)]), (.agg [(iT b.Relation), (ssl eI b.Values)])] (fun (r : Bool) => (.bool r)) (fun r => []) := by
 refine Rn.of rfl rfl (by decide) rfl ?_; unfold f59; exact go
instance : Io0 cx 59 := ⟨rfl⟩
instance i30_0 {a : (List Fact)} {b : (List Fact)} : Lp cx (f30_0 a b) 27 L30_0 (fun (zs : Int) => [(0, .v (ssl eFact a)), (1, .v (ssl eFact b)), (5, .v (iT zs))]) (QO (QX 0 (fun (y : Unit) => [])) (QR (fun (y : Bool) => [(4, .v (.bool y))]))) := by
 refine Lp.of ?_; unfold f30_0; exact go
instance i30 {a : (List Fact)} {b : (List Fact)} : Rn cx (f30 a b) 30 [(ssl eFact a), (ssl eFact b)] (fun (r : Bool) => (.bool r)) (fun r => []) := by
 refine Rn.of rfl rfl (by decide) rfl ?_; unfold f30; exact go
instance : Io0 cx 30 := ⟨rfl⟩
instance i10 {a : Database} {b : Database} : Rn cx (f10 a b) 10 [(.agg [(ssl eRelation a.Relations), (ssl eFact a.Facts)]), (.agg [(ssl eRelation b.Relations), (ssl eFact b.Facts)])] (fun (r : Bool) => (.bool r)) (fun r => []) := by
 refine Rn.of rfl rfl (by decide) rfl ?_; unfold f10; exact go
instance : Io0 cx 10 := ⟨rfl⟩
instance i60_0 : Lp cx f60_0 20 L60_0 (fun (zs : Int × (List UInt8)) => [(0, .v (iT zs.1)), (3, .v (.str zs.2))]) (QX 0 (fun (y : (List UInt8)) => [(3, .v (.str y))])) := by
 refine Lp.of ?_; unfold f60_0; exact go
instance i60 {k : Int} : Rn cx (f60 k) 60 [(iT k)] (fun (r : (List UInt8)) => (.str r)) (fun r => []) := by
 refine Rn.of rfl rfl (by decide) rfl ?_; unfold f60; exact go
instance : Io0 cx 60 := ⟨rfl⟩
instance i31_0 : Lp cx f31_0 35 L31_0 (fun (zs : (List Relation) × Int × Int) => [(0, .v (osl eRelation true zs.1)), (1, .v (iT zs.2.1)), (5, .v (iT zs.2.2))]) (QX 0 (fun (y : (List Relation) × Int) => [(0, .v (osl eRelation true y.1)), (1, .v (iT y.2))])) := by
 refine Lp.of ?_; unfold f31_0; exact go
instance i31 {a : (List Relation)} {k : Int} : Rn cx (f31 a k) 31 [(osl eRelation true a), (iT k)] (fun (r : Int × (List Relation)) => (iT r.1)) (fun r => [(osl eRelation true r.2)]) := by
 refine Rn.of rfl rfl (by decide) rfl ?_; unfold f31; exact go
instance i33_0 : Lp cx f33_0 19 L33_0 (fun (zs : (List Int) × Int × Int) => [(0, .v (osl eI true zs.1)), (1, .v (iT zs.2.1)), (5, .v (iT zs.2.2))]) (QX 0 (fun (y : (List Int) × Int) => [(0, .v (osl eI true y.1)), (1, .v (iT y.2))])) := by
 refine Lp.of ?_; unfold f33_0; exact go
instance i33 {a : (List Int)} {k : Int} : Rn cx (f33 a k) 33 [(osl eI true a), (iT k)] (fun (r : Int × (List Int)) => (iT r.1)) (fun r => [(osl eI true r.2)]) := by
 refine Rn.of rfl rfl (by decide) rfl ?_; unfold f33; exact go
instance i32_0 : Lp cx f32_0 27 L32_0 (fun (zs : (List Fact) × Int × Int) => [(0, .v (osl eFact true zs.1)), (1, .v (iT zs.2.1)), (5, .v (iT zs.2.2))]) (QX 0 (fun (y : (List Fact) × Int) => [(0, .v (osl eFact true y.1)), (1, .v (iT y.2))])) := by
 refine Lp.of ?_; unfold f32_0; exact go
instance i32 {a : (List Fact)} {k : Int} : Rn cx (f32 a k) 32 [(osl eFact true a), (iT k)] (fun (r : Int × (List Fact)) => (iT r.1)) (fun r => [(osl eFact true r.2)]) := by
 refine Rn.of rfl rfl (by decide) rfl ?_; unfold f32; exact go
instance i11 {a : Database} {k : Int} : Rn cx (f11 a k) 11 [(.agg [(osl eRelation true a.Relations), (osl eFact true a.Facts)]), (iT k)] (fun (r : Int) => (iT r)) (fun r => [.und]) := by
 refine Rn.of rfl rfl (by decide) rfl ?_; unfold f11; exact go
instance i12_0 : Lp cx f12_0 19 L12_0 (fun (zs : (List (List Int)) × Int × Int) => [(0, .v (osl (eL eI) true zs.1)), (1, .v (iT zs.2.1)), (5, .v (iT zs.2.2))]) (QX 0 (fun (y : (List (List Int)) × Int) => [(0, .v (osl (eL eI) true y.1)), (1, .v (iT y.2))])) := by
 refine Lp.of ?_; unfold f12_0; exact go
instance i12 {a : (List (List Int))} {k : Int} : Rn cx (f12 a k) 12 [(osl (eL eI) true a), (iT k)] (fun (r : Int × (List (List Int))) => (iT r.1)) (fun r => [(osl (eL eI) true r.2)]) := by
 refine Rn.of rfl rfl (by decide) rfl ?_; unfold f12; exact go
instance i34_0 {a : (List Int)} : Lp cx (f34_0 a) 21 L34_0 (fun (zs : Int × Int) => [(0, .v (ssl eI a)), (1, .v (iT zs.1)), (5, .v (iT zs.2))]) (QO (QX 0 (fun (y : Int) => [(1, .v (iT y))])) (QR (fun (y : Int) => [(4, .v (iT y))]))) := by
 refine Lp.of ?_; unfold f34_0; exact go
instance i34 {a : (List Int)} {k : Int} : Rn cx (f34 a k) 34 [(ssl eI a), (iT k)] (fun (r : Int) => (iT r)) (fun r => []) := by
 refine Rn.of rfl rfl (by decide) rfl ?_; unfold f34; exact go
instance : Io0 cx 34 := ⟨rfl⟩
instance i13_0 {a : (List (List Int))} : Lp cx (f13_0 a) 21 L13_0 (fun (zs : Int × Int) => [(0, .v (ssl (eL eI) a)), (1, .v (iT zs.1)), (5, .v (iT zs.2))]) (QO (QX 0 (fun (y : Int) => [(1, .v (iT y))])) (QR (fun (y : Int) => [(4, .v (iT y))]))) := by
 refine Lp.of ?_; unfold f13_0; exact go
instance i13 {a : (List (List Int))} {k : Int} : Rn cx (f13 a k) 13 [(ssl (eL eI) a), (iT k)] (fun (r : Int) => (iT r)) (fun r => []) := by
 refine Rn.of rfl rfl (by decide) rfl ?_; unfold f13; exact go
instance : Io0 cx 13 := ⟨rfl⟩
instance i3 {aDb : Database} {aSize : Int} : Rn cx (f3 aDb aSize) 3 [(.agg [(ssl eRelation aDb.Relations), (ssl eFact aDb.Facts)]), (iT aSize)] (fun (r : Bool) => (.bool r)) (fun r => []) := by
 refine Rn.of (e := (
  (f5 aDb 1048576).bind fun o1 =>
  if o1 < 0 then
  some true
  else
  (f7 aDb).bind fun o4 =>
  sn 0 19 (.agg [(ssl eRelation o4.Relations), (ssl eFact o4.Facts)]) <| 
  (f6 o4 aSize).bind fun o6 =>
  (f7 aDb).bind fun o8 =>
  (f8 o8 aSize).bind fun o10 =>
  (f9 o10 o6).bind fun o12 =>
  if ¬ (o12 = true) then
  some false
  else
  (f7 aDb).bind fun o15 =>
  (f10 o8 o15).bind fun o17 =>
  if ¬ (o17 = true) then
  some false
  else
  (f11 o8 1).bind fun o20 =>
  (jn (QN (fun (y : Bool) => [(1, .v (iT aSize)), (2, .v (.ptr true [(ssl eRelation aDb.Relations), (ssl eFact aDb.Facts)])), (6, .v (osl (eL eI) false o6)), (8, .v (osl (eL eI) true o10)), (46, .v (.bool y))])) ((if o20 < 0 then
  some true
  else
  (f9 o10 o6).bind fun o25 =>
  some (decide (¬ (o25 = true)))) : Option (Bool))).bind fun x_22 =>
  if x_22 = true then
  some false
  else
  (f12 o10 1).bind fun o28 =>
  (f13 o28.2 1).bind fun o30 =>
  if o30 < 0 then
  some false
  else
  if o30 ≠ o28.1 then
  some false
  else
  (f7 aDb).bind fun o34 =>
  (f8 o34 aSize).bind fun o36 =>
  (f9 o36 o6).bind fun o38 =>
  if ¬ (o38 = true) then
  some false
  else
  (f13 o28.2 1).bind fun o41 =>
  if o41 < 0 then
  some false
  else
  if o41 ≠ o28.1 then
  some false
  else
  some true : Option Bool)) rfl rfl (by decide) rfl ?_
 exact go
instance : Io0 cx 3 := ⟨rfl⟩
end
end Go.Proofs.YtaanfdjhmhifiaaH
