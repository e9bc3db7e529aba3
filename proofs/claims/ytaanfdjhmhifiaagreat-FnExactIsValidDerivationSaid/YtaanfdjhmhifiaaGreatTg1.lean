import Derived.Test.YtaanfdjhmhifiaaGreatTg1c
set_option maxHeartbeats 2000000
set_option linter.unusedVariables false
set_option linter.unusedSimpArgs false
set_option linter.defProp false
set_option linter.unusedSectionVars false
set_option maxRecDepth 100000
namespace Go.Proofs.YtaanfdjhmhifiaaGreatH
open Go
noncomputable section
instance i29_0 {db : Database} {derivation : (List DerivationStep)} {o7 : (List (List Int))} {o9 : (List (List Int))} : Lp cx (f29_0 db derivation o7 o9) 79 L29_0 (fun (zs : Int) => [(2, .v (ssl eDerivationStep derivation)), (3, .v (.ptr true [(ssl eRelation db.Relations), (ssl eFact db.Facts)])), (7, .v (osl (eL eI) true o7)), (8, .v (osl (eL eI) true o9)), (25, .v (ssl eDerivationStep derivation)), (26, .v (iT (derivation.length : Int))), (27, .v (iT zs))]) (QO (QX 0 (fun (y : Unit) => [(2, .v (ssl eDerivationStep derivation))])) (QR (fun (y : Bool) => [(6, .v (.bool y))]))) := by
 refine Lp.of (f := (fun
 | x_11 =>
  if x_11 < (derivation.length : Int) then
  (ix derivation x_11).bind fun v_13 =>
  (f81 db v_13.Facts).bind fun o15 =>
  if ¬ (o15 = true) then
  some (.inr (.inr false))
  else
  (jn (QO (QN (fun (y : Unit) => [(2, .v (ssl eDerivationStep derivation)), (3, .v (.ptr true [(ssl eRelation db.Relations), (ssl eFact db.Facts)])), (7, .v (osl (eL eI) true o7)), (8, .v (osl (eL eI) true o9)), (25, .v (ssl eDerivationStep derivation)), (26, .v (iT (derivation.length : Int))), (27, .v (iT x_11))])) (QR (fun (y : Bool) => [(6, .v (.bool y))]))) ((if v_13.Block = (-1) then
  (f73 o7 v_13.Facts).bind fun o21 =>
  if ¬ (o21 = true) then
  some (.inr false)
  else
  some (.inl ())
  else
  (f82 v_13.Block 0 (w64 ((o9.length : Int) - 1))).bind fun o24 =>
  (jn (QN (fun (y : Bool) => [(2, .v (ssl eDerivationStep derivation)), (3, .v (.ptr true [(ssl eRelation db.Relations), (ssl eFact db.Facts)])), (7, .v (osl (eL eI) true o7)), (8, .v (osl (eL eI) true o9)), (25, .v (ssl eDerivationStep derivation)), (26, .v (iT (derivation.length : Int))), (27, .v (iT x_11)), (46, .v (.bool y))])) ((if ¬ (o24 = true) then
  some true
  else
  (cutL derivation 0 x_11).bind fun l_29 =>
  (ix o9 v_13.Block).bind fun v_31 =>
  (f83 l_29).bind fun o33 =>
  (f76 o33 v_13.Facts v_31).bind fun o35 =>
  some (decide (¬ (o35 = true)))) : Option (Bool))).bind fun x_26 =>
  if x_26 = true then
  some (.inr false)
  else
  some (.inl ())) : Option (Unit ⊕ Bool))).bind fun o => match o with
  | .inl _ =>
  some (.inl (w64 (x_11 + 1)))
  | .inr x_38 =>
  some (.inr (.inr x_38))
  else
  some (.inr (.inl ())) : Int → Option (Int ⊕ (Unit ⊕ Bool)))) ?_
 exact go
instance i29 {db : Database} {query : Query} {derivation : (List DerivationStep)} : Rn cx (f29 db query derivation) 29 [(.agg [(ssl eRelation db.Relations), (ssl eFact db.Facts)]), (.agg [(iT query.VariableCount), (ssl eAtom query.Atoms), (ssl eI query.Free)]), (ssl eDerivationStep derivation)] (fun (r : Bool) => (.bool r)) (fun r => []) := by
 refine Rn.of (e := (
  (f69 db query).bind fun o1 =>
  (jn (QN (fun (y : Bool) => [(2, .v (ssl eDerivationStep derivation)), (3, .v (.ptr true [(ssl eRelation db.Relations), (ssl eFact db.Facts)])), (4, .v (.ptr true [(iT query.VariableCount), (ssl eAtom query.Atoms), (ssl eI query.Free)])), (19, .v (.bool y))])) ((if ¬ (o1 = true) then
  some true
  else
  some (decide ((derivation.length : Int) = 0))) : Option (Bool))).bind fun x_3 =>
  if x_3 = true then
  some false
  else
  (f70 db query).bind fun o7 =>
  (f71 db).bind fun o9 =>
  (iter (f29_0 db derivation o7 o9) 0).bind fun o => match o with
  | .inl _ =>
  (ix derivation (w64 ((derivation.length : Int) - 1))).bind fun v_42 =>
  some (decide ((v_42.Facts.length : Int) = 0))
  | .inr x_41 =>
  some x_41 : Option Bool)) rfl rfl (by decide) rfl ?_
 exact go
instance : Io0 cx 29 := ⟨rfl⟩
instance i105 {a : Relation} {b : Relation} : Rn cx (f105 a b) 105 [(.agg [(.str a.Name), (iT a.Arity), (iT a.KeyLength)]), (.agg [(.str b.Name), (iT b.Arity), (iT b.KeyLength)])] (fun (r : Bool) => (.bool r)) (fun r => []) := by
 refine Rn.of rfl rfl (by decide) rfl ?_; unfold f105; exact go
instance : Io0 cx 105 := ⟨rfl⟩
instance i53_0 {a : (List Relation)} {b : (List Relation)} : Lp cx (f53_0 a b) 27 L53_0 (fun (zs : Int) => [(0, .v (ssl eRelation a)), (1, .v (ssl eRelation b)), (5, .v (iT zs))]) (QO (QX 0 (fun (y : Unit) => [])) (QR (fun (y : Bool) => [(4, .v (.bool y))]))) := by
 refine Lp.of ?_; unfold f53_0; exact go
instance i53 {a : (List Relation)} {b : (List Relation)} : Rn cx (f53 a b) 53 [(ssl eRelation a), (ssl eRelation b)] (fun (r : Bool) => (.bool r)) (fun r => []) := by
 refine Rn.of rfl rfl (by decide) rfl ?_; unfold f53; exact go
instance : Io0 cx 53 := ⟨rfl⟩
instance i56_0 {a : (List Int)} {b : (List Int)} : Lp cx (f56_0 a b) 26 L56_0 (fun (zs : Int) => [(0, .v (ssl eI a)), (1, .v (ssl eI b)), (5, .v (iT zs))]) (QO (QX 0 (fun (y : Unit) => [])) (QR (fun (y : Bool) => [(4, .v (.bool y))]))) := by
 refine Lp.of ?_; unfold f56_0; exact go
instance i56 {a : (List Int)} {b : (List Int)} : Rn cx (f56 a b) 56 [(ssl eI a), (ssl eI b)] (fun (r : Bool) => (.bool r)) (fun r => []) := by
 refine Rn.of rfl rfl (by decide) rfl ?_; unfold f56; exact go
instance : Io0 cx 56 := ⟨rfl⟩
instance i106 {a : Fact} {b : Fact} : Rn cx (f106 a b) 106 [(.agg [(iT a.Relation), (ssl eI a.Values)]), (.agg [(iT b.Relation), (ssl eI b.Values)])] (fun (r : Bool) => (.bool r)) (fun r => []) := by
 refine Rn.of rfl rfl (by decide) rfl ?_; unfold f106; exact go
instance : Io0 cx 106 := ⟨rfl⟩
instance i54_0 {a : (List Fact)} {b : (List Fact)} : Lp cx (f54_0 a b) 27 L54_0 (fun (zs : Int) => [(0, .v (ssl eFact a)), (1, .v (ssl eFact b)), (5, .v (iT zs))]) (QO (QX 0 (fun (y : Unit) => [])) (QR (fun (y : Bool) => [(4, .v (.bool y))]))) := by
 refine Lp.of ?_; unfold f54_0; exact go
instance i54 {a : (List Fact)} {b : (List Fact)} : Rn cx (f54 a b) 54 [(ssl eFact a), (ssl eFact b)] (fun (r : Bool) => (.bool r)) (fun r => []) := by
 refine Rn.of rfl rfl (by decide) rfl ?_; unfold f54; exact go
instance : Io0 cx 54 := ⟨rfl⟩
instance i14 {a : Database} {b : Database} : Rn cx (f14 a b) 14 [(.agg [(ssl eRelation a.Relations), (ssl eFact a.Facts)]), (.agg [(ssl eRelation b.Relations), (ssl eFact b.Facts)])] (fun (r : Bool) => (.bool r)) (fun r => []) := by
 refine Rn.of rfl rfl (by decide) rfl ?_; unfold f14; exact go
instance : Io0 cx 14 := ⟨rfl⟩
instance i107 {a : Atom} {b : Atom} : Rn cx (f107 a b) 107 [(.agg [(iT a.Relation), (ssl eI a.Terms)]), (.agg [(iT b.Relation), (ssl eI b.Terms)])] (fun (r : Bool) => (.bool r)) (fun r => []) := by
 refine Rn.of rfl rfl (by decide) rfl ?_; unfold f107; exact go
instance : Io0 cx 107 := ⟨rfl⟩
instance i55_0 {a : (List Atom)} {b : (List Atom)} : Lp cx (f55_0 a b) 27 L55_0 (fun (zs : Int) => [(0, .v (ssl eAtom a)), (1, .v (ssl eAtom b)), (5, .v (iT zs))]) (QO (QX 0 (fun (y : Unit) => [])) (QR (fun (y : Bool) => [(4, .v (.bool y))]))) := by
 refine Lp.of ?_; unfold f55_0; exact go
instance i55 {a : (List Atom)} {b : (List Atom)} : Rn cx (f55 a b) 55 [(ssl eAtom a), (ssl eAtom b)] (fun (r : Bool) => (.bool r)) (fun r => []) := by
 refine Rn.of rfl rfl (by decide) rfl ?_; unfold f55; exact go
instance : Io0 cx 55 := ⟨rfl⟩
instance i15 {a : Query} {b : Query} : Rn cx (f15 a b) 15 [(.agg [(iT a.VariableCount), (ssl eAtom a.Atoms), (ssl eI a.Free)]), (.agg [(iT b.VariableCount), (ssl eAtom b.Atoms), (ssl eI b.Free)])] (fun (r : Bool) => (.bool r)) (fun r => []) := by
 refine Rn.of rfl rfl (by decide) rfl ?_; unfold f15; exact go
instance : Io0 cx 15 := ⟨rfl⟩
instance i84 {a : DerivationStep} {b : DerivationStep} : Rn cx (f84 a b) 84 [(.agg [(ssl eI a.Facts), (iT a.Block)]), (.agg [(ssl eI b.Facts), (iT b.Block)])] (fun (r : Bool) => (.bool r)) (fun r => []) := by
 refine Rn.of rfl rfl (by decide) rfl ?_; unfold f84; exact go
instance : Io0 cx 84 := ⟨rfl⟩
instance i30_0 {a : (List DerivationStep)} {b : (List DerivationStep)} : Lp cx (f30_0 a b) 27 L30_0 (fun (zs : Int) => [(0, .v (ssl eDerivationStep a)), (1, .v (ssl eDerivationStep b)), (5, .v (iT zs))]) (QO (QX 0 (fun (y : Unit) => [])) (QR (fun (y : Bool) => [(4, .v (.bool y))]))) := by
 refine Lp.of ?_; unfold f30_0; exact go
instance i30 {a : (List DerivationStep)} {b : (List DerivationStep)} : Rn cx (f30 a b) 30 [(ssl eDerivationStep a), (ssl eDerivationStep b)] (fun (r : Bool) => (.bool r)) (fun r => []) := by
 refine Rn.of rfl rfl (by decide) rfl ?_; unfold f30; exact go
instance : Io0 cx 30 := ⟨rfl⟩
instance i6 {aDb : Database} {aQuery : Query} {aDerivation : (List DerivationStep)} : Rn cx (f6 aDb aQuery aDerivation) 6 [(.agg [(ssl eRelation aDb.Relations), (ssl eFact aDb.Facts)]), (.agg [(iT aQuery.VariableCount), (ssl eAtom aQuery.Atoms), (ssl eI aQuery.Free)]), (ssl eDerivationStep aDerivation)] (fun (r : Bool) => (.bool r)) (fun r => []) := by
 refine Rn.of rfl rfl (by decide) rfl ?_; unfold f6; exact go
instance : Io0 cx 6 := ⟨rfl⟩
end
end Go.Proofs.YtaanfdjhmhifiaaGreatH
