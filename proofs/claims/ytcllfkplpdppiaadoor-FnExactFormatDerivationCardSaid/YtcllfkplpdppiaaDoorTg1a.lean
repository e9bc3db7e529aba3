import Derived.Test.YtcllfkplpdppiaaDoorCx1
import Derived.Test.YtcllfkplpdppiaaDoorX3
import Derived.Test.YtcllfkplpdppiaaDoorTd1
set_option maxHeartbeats 2000000
set_option linter.unusedVariables false
set_option linter.unusedSimpArgs false
set_option linter.defProp false
set_option linter.unusedSectionVars false
set_option maxRecDepth 100000
namespace Go.Proofs.YtcllfkplpdppiaaDoorH
open Go
noncomputable section
abbrev iT (n : Int) : T := .int .i64 n
instance : Cl cx := ⟨fun j h => vsound (fun _ _ _ _ h => h) h, fun f ts t outs h => .ext h⟩
@[simp high] theorem ioz {f : Nat} [h : Io0 cx f] : ioTab f = [] := h.io
instance i34 {a : Relation} {left : Int} : Rn cx (f34 a left) 34 [(.agg [(.str a.Name), (iT a.Arity), (iT a.KeyLength)]), (iT left)] (fun (r : Int) => (iT r)) (fun r => []) := by
 refine Rn.of rfl rfl (by decide) rfl ?_; unfold f34; exact go
instance : Io0 cx 34 := ⟨rfl⟩
instance i13_0 {a : (List Relation)} : Lp cx (f13_0 a) 27 L13_0 (fun (zs : Int × Int) => [(0, .v (ssl eRelation a)), (1, .v (iT zs.1)), (5, .v (iT zs.2))]) (QO (QX 0 (fun (y : Int) => [(1, .v (iT y))])) (QR (fun (y : Int) => [(4, .v (iT y))]))) := by
 refine Lp.of ?_; unfold f13_0; exact go
instance i13 {a : (List Relation)} {left : Int} : Rn cx (f13 a left) 13 [(ssl eRelation a), (iT left)] (fun (r : Int) => (iT r)) (fun r => []) := by
 refine Rn.of rfl rfl (by decide) rfl ?_; unfold f13; exact go
instance : Io0 cx 13 := ⟨rfl⟩
instance i47 {a : (List Int)} {left : Int} : Rn cx (f47 a left) 47 [(ssl eI a), (iT left)] (fun (r : Int) => (iT r)) (fun r => []) := by
 refine Rn.of rfl rfl (by decide) rfl ?_; unfold f47; exact go
instance : Io0 cx 47 := ⟨rfl⟩
instance i46 {a : Fact} {left : Int} : Rn cx (f46 a left) 46 [(.agg [(iT a.Relation), (ssl eI a.Values)]), (iT left)] (fun (r : Int) => (iT r)) (fun r => []) := by
 refine Rn.of rfl rfl (by decide) rfl ?_; unfold f46; exact go
instance : Io0 cx 46 := ⟨rfl⟩
instance i21_0 {a : (List Fact)} : Lp cx (f21_0 a) 27 L21_0 (fun (zs : Int × Int) => [(0, .v (ssl eFact a)), (1, .v (iT zs.1)), (5, .v (iT zs.2))]) (QO (QX 0 (fun (y : Int) => [(1, .v (iT y))])) (QR (fun (y : Int) => [(4, .v (iT y))]))) := by
 refine Lp.of ?_; unfold f21_0; exact go
instance i21 {a : (List Fact)} {left : Int} : Rn cx (f21 a left) 21 [(ssl eFact a), (iT left)] (fun (r : Int) => (iT r)) (fun r => []) := by
 refine Rn.of rfl rfl (by decide) rfl ?_; unfold f21; exact go
instance : Io0 cx 21 := ⟨rfl⟩
instance i5 {a : Database} {left : Int} : Rn cx (f5 a left) 5 [(.agg [(ssl eRelation a.Relations), (ssl eFact a.Facts)]), (iT left)] (fun (r : Int) => (iT r)) (fun r => []) := by
 refine Rn.of rfl rfl (by decide) rfl ?_; unfold f5; exact go
instance : Io0 cx 5 := ⟨rfl⟩
instance i22 {a : DerivationStep} {left : Int} : Rn cx (f22 a left) 22 [(.agg [(ssl eI a.Facts), (iT a.Block)]), (iT left)] (fun (r : Int) => (iT r)) (fun r => []) := by
 refine Rn.of rfl rfl (by decide) rfl ?_; unfold f22; exact go
instance : Io0 cx 22 := ⟨rfl⟩
instance i6_0 {a : (List DerivationStep)} : Lp cx (f6_0 a) 27 L6_0 (fun (zs : Int × Int) => [(0, .v (ssl eDerivationStep a)), (1, .v (iT zs.1)), (5, .v (iT zs.2))]) (QO (QX 0 (fun (y : Int) => [(1, .v (iT y))])) (QR (fun (y : Int) => [(4, .v (iT y))]))) := by
 refine Lp.of ?_; unfold f6_0; exact go
instance i6 {a : (List DerivationStep)} {left : Int} : Rn cx (f6 a left) 6 [(ssl eDerivationStep a), (iT left)] (fun (r : Int) => (iT r)) (fun r => []) := by
 refine Rn.of rfl rfl (by decide) rfl ?_; unfold f6; exact go
instance : Io0 cx 6 := ⟨rfl⟩
instance i39 {a : Relation} : Rn cx (f39 a) 39 [(.agg [(.str a.Name), (iT a.Arity), (iT a.KeyLength)])] (fun (r : Relation) => (.agg [(.str r.Name), (iT r.Arity), (iT r.KeyLength)])) (fun r => []) := by
 refine Rn.of rfl rfl (by decide) rfl ?_; unfold f39; exact go
instance : Io0 cx 39 := ⟨rfl⟩
instance i16_0 {a : (List Relation)} : Lp cx (f16_0 a) 23 L16_0 (fun (zs : (List Relation) × Int) => [(0, .v (ssl eRelation a)), (3, .v (osl eRelation true zs.1)), (4, .v (iT zs.2))]) (QX 0 (fun (y : (List Relation)) => [(3, .v (osl eRelation true y))])) := by
 refine Lp.of ?_; unfold f16_0; exact go
instance i16 {a : (List Relation)} : Rn cx (f16 a) 16 [(ssl eRelation a)] (fun (r : (List Relation)) => (osl eRelation true r)) (fun r => []) := by
 refine Rn.of (e := (
  (mkl 32 (a.length : Int) ({ Name := [], Arity := 0, KeyLength := 0 } : Relation)).bind fun l_1 =>
  sn 5 3 (osl eRelation true l_1) <| 
  (iter (f16_0 a) (l_1, 0)).bind fun out_15 =>
  some out_15 : Option (List Relation))) rfl rfl (by decide) rfl ?_
 exact go
instance : Io0 cx 16 := ⟨rfl⟩
instance i54_0 {a : (List Int)} : Lp cx (f54_0 a) 22 L54_0 (fun (zs : (List Int) × Int) => [(0, .v (ssl eI a)), (3, .v (osl eI true zs.1)), (4, .v (iT zs.2))]) (QX 0 (fun (y : (List Int)) => [(3, .v (osl eI true y))])) := by
 refine Lp.of ?_; unfold f54_0; exact go
instance i54 {a : (List Int)} : Rn cx (f54 a) 54 [(ssl eI a)] (fun (r : (List Int)) => (osl eI true r)) (fun r => []) := by
 refine Rn.of (e := (
  (mkl 8 (a.length : Int) 0).bind fun l_1 =>
  sn 5 3 (osl eI true l_1) <| 
  (iter (f54_0 a) (l_1, 0)).bind fun out_13 =>
  some out_13 : Option (List Int))) rfl rfl (by decide) rfl ?_
 exact go
instance : Io0 cx 54 := ⟨rfl⟩
instance i53 {a : Fact} : Rn cx (f53 a) 53 [(.agg [(iT a.Relation), (ssl eI a.Values)])] (fun (r : Fact) => (.agg [(iT r.Relation), (osl eI true r.Values)])) (fun r => []) := by
 refine Rn.of (e := (
  sn 2 2 (.ptr true [(iT 0), (osl eI true ([]))]) <| 
  sn 1 3 (.ptr true [(iT 0), (osl eI true ([]))]) <| 
  (f54 a.Values).bind fun o1 =>
  some ({ Relation := a.Relation, Values := o1 } : Fact) : Option Fact)) rfl rfl (by decide) rfl ?_
 exact go
instance : Io0 cx 53 := ⟨rfl⟩
instance i26_0 {a : (List Fact)} : Lp cx (f26_0 a) 23 L26_0 (fun (zs : (List Fact) × Int) => [(0, .v (ssl eFact a)), (3, .v (osl eFact true zs.1)), (4, .v (iT zs.2))]) (QX 0 (fun (y : (List Fact)) => [(3, .v (osl eFact true y))])) := by
 refine Lp.of ?_; unfold f26_0; exact go
instance i26 {a : (List Fact)} : Rn cx (f26 a) 26 [(ssl eFact a)] (fun (r : (List Fact)) => (osl eFact true r)) (fun r => []) := by
 refine Rn.of (e := (
  (mkl 32 (a.length : Int) (({ Relation := 0, Values := [] } : Fact) : Fact)).bind fun l_1 =>
  sn 5 3 (osl eFact true l_1) <| 
  (iter (f26_0 a) (l_1, 0)).bind fun out_15 =>
  some out_15 : Option (List Fact))) rfl rfl (by decide) rfl ?_
 exact go
instance : Io0 cx 26 := ⟨rfl⟩
instance i8 {a : Database} : Rn cx (f8 a) 8 [(.agg [(ssl eRelation a.Relations), (ssl eFact a.Facts)])] (fun (r : Database) => (.agg [(osl eRelation true r.Relations), (osl eFact true r.Facts)])) (fun r => []) := by
 refine Rn.of (e := (
  sn 2 2 (.ptr true [(osl eRelation true ([])), (osl eFact true ([]))]) <| 
  sn 1 3 (.ptr true [(osl eRelation true ([])), (osl eFact true ([]))]) <| 
  (f16 a.Relations).bind fun o1 =>
  (f26 a.Facts).bind fun o3 =>
  some ({ Relations := o1, Facts := o3 } : Database) : Option Database)) rfl rfl (by decide) rfl ?_
 exact go
instance : Io0 cx 8 := ⟨rfl⟩
instance i27 {a : DerivationStep} : Rn cx (f27 a) 27 [(.agg [(ssl eI a.Facts), (iT a.Block)])] (fun (r : DerivationStep) => (.agg [(osl eI true r.Facts), (iT r.Block)])) (fun r => []) := by
 refine Rn.of (e := (
  sn 2 2 (.ptr true [(osl eI true ([])), (iT 0)]) <| 
  sn 1 3 (.ptr true [(osl eI true ([])), (iT 0)]) <| 
  (f54 a.Facts).bind fun o1 =>
  some ({ Facts := o1, Block := a.Block } : DerivationStep) : Option DerivationStep)) rfl rfl (by decide) rfl ?_
 exact go
instance : Io0 cx 27 := ⟨rfl⟩
instance i9_0 {a : (List DerivationStep)} : Lp cx (f9_0 a) 23 L9_0 (fun (zs : (List DerivationStep) × Int) => [(0, .v (ssl eDerivationStep a)), (3, .v (osl eDerivationStep true zs.1)), (4, .v (iT zs.2))]) (QX 0 (fun (y : (List DerivationStep)) => [(3, .v (osl eDerivationStep true y))])) := by
 refine Lp.of ?_; unfold f9_0; exact go
instance i9 {a : (List DerivationStep)} : Rn cx (f9 a) 9 [(ssl eDerivationStep a)] (fun (r : (List DerivationStep)) => (osl eDerivationStep true r)) (fun r => []) := by
 refine Rn.of (e := (
  (mkl 32 (a.length : Int) (({ Facts := [], Block := 0 } : DerivationStep) : DerivationStep)).bind fun l_1 =>
  sn 5 3 (osl eDerivationStep true l_1) <| 
  (iter (f9_0 a) (l_1, 0)).bind fun out_15 =>
  some out_15 : Option (List DerivationStep))) rfl rfl (by decide) rfl ?_
 exact go
instance : Io0 cx 9 := ⟨rfl⟩
instance i67 {x : Int} {low : Int} {high : Int} : Rn cx (f67 x low high) 67 [(iT x), (iT low), (iT high)] (fun (r : Bool) => (.bool r)) (fun r => []) := by
 refine Rn.of (e := (
  (jn (QN (fun (y : Bool) => [(6, .v (.bool y))])) ((if x ≥ low then
  some (decide (x ≤ high))
  else
  some false) : Option (Bool))).bind fun x_1 =>
  some x_1 : Option Bool)) rfl rfl (by decide) rfl ?_
 exact go
instance : Io0 cx 67 := ⟨rfl⟩
instance i83 {s0 : Relation} : Rn cx (f83 s0) 83 [(.agg [(.str s0.Name), (iT s0.Arity), (iT s0.KeyLength)])] (fun (r : Bool) => (.bool r)) (fun r => []) := by
 refine Rn.of (e := (
  (jn (QN (fun (y : Bool) => [(2, .v (.bool y))])) ((if (s0.Name.length : Int) = 1 then
  (ix s0.Name 0).bind fun c_4 =>
  (jn (QN (fun (y : Bool) => [(2, .v (.bool y))])) ((if (c_4.toNat : Int) ≥ 97 then
  (jn (QN (fun (y : Bool) => [(2, .v (.bool y))])) ((if (c_4.toNat : Int) ≤ 122 then
  (f67 s0.Arity 1 3).bind fun o12 =>
  (jn (QN (fun (y : Bool) => [(2, .v (.bool y))])) ((if o12 = true then
  (f67 s0.KeyLength 0 s0.Arity).bind fun o17 =>
  some o17
  else
  some false) : Option (Bool))).bind fun x_14 =>
  some x_14
  else
  some false) : Option (Bool))).bind fun x_9 =>
  some x_9
  else
  some false) : Option (Bool))).bind fun x_6 =>
  some x_6
  else
  some false) : Option (Bool))).bind fun x_1 =>
  some x_1 : Option Bool)) rfl rfl (by decide) rfl ?_
 exact go
instance : Io0 cx 83 := ⟨rfl⟩
instance i50_0 {l : (List Relation)} : Lp cx (f50_0 l) 37 L50_0 (fun (zs : Int) => [(0, .v (ssl eRelation l)), (3, .v (iT zs))]) (QO (QX 0 (fun (y : Unit) => [(0, .v (ssl eRelation l))])) (QR (fun (y : Bool) => [(2, .v (.bool y))]))) := by
 refine Lp.of (f := (fun
 | i_1 =>
  if i_1 < (l.length : Int) then
  (ix l i_1).bind fun v_3 =>
  (f83 v_3).bind fun o5 =>
  (jn (QN (fun (y : Bool) => [(0, .v (ssl eRelation l)), (3, .v (iT i_1)), (33, .v (.bool y))])) ((if ¬ (o5 = true) then
  some true
  else
  (jn (QN (fun (y : Bool) => [(0, .v (ssl eRelation l)), (3, .v (iT i_1)), (33, .v (.bool y))])) ((if i_1 > 0 then
  (ix l (w64 (i_1 - 1))).bind fun v_13 =>
  some (!(Op.bytesLess v_13.Name v_3.Name))
  else
  some false) : Option (Bool))).bind fun x_10 =>
  some x_10) : Option (Bool))).bind fun x_7 =>
  if x_7 = true then
  some (.inr (.inr false))
  else
  some (.inl (w64 (i_1 + 1)))
  else
  some (.inr (.inl ())) : Int → Option (Int ⊕ (Unit ⊕ Bool)))) ?_
 exact go
instance i50 {l : (List Relation)} : Rn cx (f50 l) 50 [(ssl eRelation l)] (fun (r : Bool) => (.bool r)) (fun r => []) := by
 refine Rn.of rfl rfl (by decide) rfl ?_; unfold f50; exact go
instance : Io0 cx 50 := ⟨rfl⟩
instance i48_0 {f : Fact} : Lp cx (f48_0 f) 44 L48_0 (fun (zs : Int) => [(3, .v (.ptr true [(iT f.Relation), (ssl eI f.Values)])), (5, .v (iT zs))]) (QO (QX 0 (fun (y : Unit) => [])) (QR (fun (y : Bool) => [(4, .v (.bool y))]))) := by
 refine Lp.of ?_; unfold f48_0; exact go
instance i48 {l : (List Relation)} {f : Fact} : Rn cx (f48 l f) 48 [(ssl eRelation l), (.agg [(iT f.Relation), (ssl eI f.Values)])] (fun (r : Bool) => (.bool r)) (fun r => []) := by
 refine Rn.of (e := (
  (f50 l).bind fun o1 =>
  (jn (QN (fun (y : Bool) => [(3, .v (.ptr true [(iT f.Relation), (ssl eI f.Values)])), (29, .v (.bool y))])) ((if ¬ (o1 = true) then
  some true
  else
  (f67 f.Relation 0 (w64 ((l.length : Int) - 1))).bind fun o6 =>
  (jn (QN (fun (y : Bool) => [(3, .v (.ptr true [(iT f.Relation), (ssl eI f.Values)])), (29, .v (.bool y))])) ((if ¬ (o6 = true) then
  some true
  else
  (ix l f.Relation).bind fun v_11 =>
  some (decide ((f.Values.length : Int) ≠ v_11.Arity))) : Option (Bool))).bind fun x_8 =>
  some x_8) : Option (Bool))).bind fun x_3 =>
  if x_3 = true then
  some false
  else
  (iter (f48_0 f) 0).bind fun o => match o with
  | .inl _ =>
  some true
  | .inr x_23 =>
  some x_23 : Option Bool)) rfl rfl (by decide) rfl ?_
 exact go
instance : Io0 cx 48 := ⟨rfl⟩
instance i82_0 {a : (List Int)} {b : (List Int)} : Lp cx (f82_0 a b) 46 L82_0 (fun (zs : Int) => [(0, .v (ssl eI a)), (1, .v (ssl eI b)), (5, .v (iT zs))]) (QO (QX 0 (fun (y : Unit) => [(0, .v (ssl eI a)), (1, .v (ssl eI b))])) (QR (fun (y : Int) => [(4, .v (iT y))]))) := by
 refine Lp.of (f := (fun
 | i_1 =>
  (jn (QN (fun (y : Bool) => [(0, .v (ssl eI a)), (1, .v (ssl eI b)), (5, .v (iT i_1)), (15, .v (.bool y))])) ((if i_1 < (a.length : Int) then
  some (decide (i_1 < (b.length : Int)))
  else
  some false) : Option (Bool))).bind fun x_2 =>
  if x_2 = true then
  (ix a i_1).bind fun v_6 =>
  (ix b i_1).bind fun v_8 =>
  if v_6 < v_8 then
  some (.inr (.inr (-1)))
  else
  if v_6 > v_8 then
  some (.inr (.inr 1))
  else
  some (.inl (w64 (i_1 + 1)))
  else
  some (.inr (.inl ())) : Int → Option (Int ⊕ (Unit ⊕ Int)))) ?_
 exact go
instance i82 {a : (List Int)} {b : (List Int)} : Rn cx (f82 a b) 82 [(ssl eI a), (ssl eI b)] (fun (r : Int) => (iT r)) (fun r => []) := by
 refine Rn.of rfl rfl (by decide) rfl ?_; unfold f82; exact go
instance : Io0 cx 82 := ⟨rfl⟩
instance i49 {a : Fact} {b : Fact} : Rn cx (f49 a b) 49 [(.agg [(iT a.Relation), (ssl eI a.Values)]), (.agg [(iT b.Relation), (ssl eI b.Values)])] (fun (r : Int) => (iT r)) (fun r => []) := by
 refine Rn.of rfl rfl (by decide) rfl ?_; unfold f49; exact go
instance : Io0 cx 49 := ⟨rfl⟩
instance i23_0 {d : Database} : Lp cx (f23_0 d) 48 L23_0 (fun (zs : Int) => [(1, .v (.ptr true [(ssl eRelation d.Relations), (ssl eFact d.Facts)])), (3, .v (iT zs))]) (QO (QX 0 (fun (y : Unit) => [(1, .v (.ptr true [(ssl eRelation d.Relations), (ssl eFact d.Facts)]))])) (QR (fun (y : Bool) => [(2, .v (.bool y))]))) := by
 refine Lp.of (f := (fun
 | i_1 =>
  if i_1 < (d.Facts.length : Int) then
  (ix d.Facts i_1).bind fun v_3 =>
  (f48 d.Relations v_3).bind fun o5 =>
  (jn (QN (fun (y : Bool) => [(1, .v (.ptr true [(ssl eRelation d.Relations), (ssl eFact d.Facts)])), (3, .v (iT i_1)), (38, .v (.bool y))])) ((if ¬ (o5 = true) then
  some true
  else
  (jn (QN (fun (y : Bool) => [(1, .v (.ptr true [(ssl eRelation d.Relations), (ssl eFact d.Facts)])), (3, .v (iT i_1)), (38, .v (.bool y))])) ((if i_1 > 0 then
  (ix d.Facts (w64 (i_1 - 1))).bind fun v_13 =>
  (f49 v_13 v_3).bind fun o15 =>
  some (decide (o15 ≥ 0))
  else
  some false) : Option (Bool))).bind fun x_10 =>
  some x_10) : Option (Bool))).bind fun x_7 =>
  if x_7 = true then
  some (.inr (.inr false))
  else
  some (.inl (w64 (i_1 + 1)))
  else
  some (.inr (.inl ())) : Int → Option (Int ⊕ (Unit ⊕ Bool)))) ?_
 exact go
instance i23 {d : Database} : Rn cx (f23 d) 23 [(.agg [(ssl eRelation d.Relations), (ssl eFact d.Facts)])] (fun (r : Bool) => (.bool r)) (fun r => []) := by
 refine Rn.of (e := (
  (iter (f23_0 d) 0).bind fun o => match o with
  | .inl _ =>
  (f50 d.Relations).bind fun o21 =>
  (jn (QN (fun (y : Bool) => [(2, .v (.bool y))])) ((if o21 = true then
  some (decide ((d.Facts.length : Int) ≤ 14))
  else
  some false) : Option (Bool))).bind fun x_23 =>
  some x_23
  | .inr x_20 =>
  some x_20 : Option Bool)) rfl rfl (by decide) rfl ?_
 exact go
instance : Io0 cx 23 := ⟨rfl⟩
instance i51_0 {d : Database} {l : (List Int)} : Lp cx (f51_0 d l) 38 L51_0 (fun (zs : Int) => [(1, .v (ssl eI l)), (2, .v (.ptr true [(ssl eRelation d.Relations), (ssl eFact d.Facts)])), (5, .v (iT zs))]) (QO (QX 0 (fun (y : Unit) => [])) (QR (fun (y : Bool) => [(4, .v (.bool y))]))) := by
 refine Lp.of (f := (fun
 | i_1 =>
  if i_1 < (l.length : Int) then
  (ix l i_1).bind fun v_3 =>
  (f67 v_3 0 (w64 ((d.Facts.length : Int) - 1))).bind fun o5 =>
  (jn (QN (fun (y : Bool) => [(1, .v (ssl eI l)), (2, .v (.ptr true [(ssl eRelation d.Relations), (ssl eFact d.Facts)])), (5, .v (iT i_1)), (37, .v (.bool y))])) ((if ¬ (o5 = true) then
  some true
  else
  (jn (QN (fun (y : Bool) => [(1, .v (ssl eI l)), (2, .v (.ptr true [(ssl eRelation d.Relations), (ssl eFact d.Facts)])), (5, .v (iT i_1)), (37, .v (.bool y))])) ((if i_1 > 0 then
  (ix l (w64 (i_1 - 1))).bind fun v_13 =>
  some (decide (v_3 ≤ v_13))
  else
  some false) : Option (Bool))).bind fun x_10 =>
  some x_10) : Option (Bool))).bind fun x_7 =>
  if x_7 = true then
  some (.inr (.inr false))
  else
  some (.inl (w64 (i_1 + 1)))
  else
  some (.inr (.inl ())) : Int → Option (Int ⊕ (Unit ⊕ Bool)))) ?_
 exact go
instance i51 {d : Database} {l : (List Int)} : Rn cx (f51 d l) 51 [(.agg [(ssl eRelation d.Relations), (ssl eFact d.Facts)]), (ssl eI l)] (fun (r : Bool) => (.bool r)) (fun r => []) := by
 refine Rn.of rfl rfl (by decide) rfl ?_; unfold f51; exact go
instance : Io0 cx 51 := ⟨rfl⟩
instance i25_0 {n0 : Int} : Lp cx (lw n0 f25_0) 31 L25_0 (fun (zs : Int × (List UInt8)) => [(0, .v (iT zs.1)), (3, .v (.str zs.2)), (4, .v (.bool (decide (n0 < 0))))]) (QX 0 (fun (y : (List UInt8)) => [(3, .v (.str y)), (4, .v (.bool (decide (n0 < 0))))])) := by
 refine Lp.of (f := (fun
 | (n_2, out_3) =>
  if n_2 ≠ 0 then
  (jn (QN (fun (y : Int) => [(0, .v (iT n_2)), (3, .v (.str out_3)), (4, .v (.bool (decide (n0 < 0)))), (5, .v (iT y))])) ((if (n_2.tmod 10) < 0 then
  some (w64 (-(n_2.tmod 10)))
  else
  some (n_2.tmod 10)) : Option Int)).bind fun d_8 =>
  (cat ([UInt8.ofNat (w8 (w64 (48 + d_8))).toNat]) out_3).bind fun s_9 =>
  some (.inl (w64 (n_2.tdiv 10), s_9))
  else
  some (.inr out_3) : Int × (List UInt8) → Option ((Int × (List UInt8)) ⊕ (List UInt8)))) ?_
 exact go
instance i25 {n0 : Int} : Rn cx (f25 n0) 25 [(iT n0)] (fun (r : (List UInt8)) => (.str r)) (fun r => []) := by
 refine Rn.of (e := (
  if n0 = 0 then
  some ([48])
  else
  (iter (lw n0  f25_0) (n0, [])).bind fun out_13 =>
  if n0 < 0 then
  (cat ([45]) out_13).bind fun s_15 =>
  some s_15
  else
  some out_13 : Option (List UInt8))) rfl rfl (by decide) rfl ?_
 exact go
instance : Io0 cx 25 := ⟨rfl⟩
instance i52_0 {l : (List Relation)} {f : Fact} : Lp cx (f52_0 l f) 43 L52_0 (fun (zs : (List UInt8) × Int) => [(0, .v (ssl eRelation l)), (3, .v (.ptr true [(iT f.Relation), (ssl eI f.Values)])), (5, .v (.str zs.1)), (6, .v (iT zs.2))]) (QX 0 (fun (y : (List UInt8)) => [(5, .v (.str y))])) := by
 refine Lp.of (f := (fun
 | (s_6, i_7) =>
  if i_7 < (f.Values.length : Int) then
  (ix l f.Relation).bind fun v_9 =>
  (jn (QN (fun (y : (List UInt8)) => [(0, .v (ssl eRelation l)), (3, .v (.ptr true [(iT f.Relation), (ssl eI f.Values)])), (5, .v (.str y)), (6, .v (iT i_7))])) ((if i_7 = v_9.KeyLength then
  (cat s_6 ([124])).bind fun s_14 =>
  some s_14
  else
  some s_6) : Option (List UInt8))).bind fun s_16 =>
  (ix f.Values i_7).bind fun v_17 =>
  (f25 v_17).bind fun o19 =>
  (cat s_16 o19).bind fun s_21 =>
  some (.inl (s_21, w64 (i_7 + 1)))
  else
  some (.inr s_6) : (List UInt8) × Int → Option (((List UInt8) × Int) ⊕ (List UInt8)))) ?_
 exact go
instance i52 {l : (List Relation)} {f : Fact} : Rn cx (f52 l f) 52 [(ssl eRelation l), (.agg [(iT f.Relation), (ssl eI f.Values)])] (fun (r : (List UInt8)) => (.str r)) (fun r => []) := by
 refine Rn.of rfl rfl (by decide) rfl ?_; unfold f52; exact go
instance : Io0 cx 52 := ⟨rfl⟩
instance i24_0 {d : Database} {l : (List Int)} : Lp cx (f24_0 d l) 40 L24_0 (fun (zs : (List UInt8) × Int) => [(1, .v (ssl eI l)), (2, .v (.ptr true [(ssl eRelation d.Relations), (ssl eFact d.Facts)])), (5, .v (.str zs.1)), (6, .v (iT zs.2))]) (QX 0 (fun (y : (List UInt8)) => [(5, .v (.str y))])) := by
 refine Lp.of (f := (fun
 | (s_1, i_2) =>
  (jn (QN (fun (y : Bool) => [(1, .v (ssl eI l)), (2, .v (.ptr true [(ssl eRelation d.Relations), (ssl eFact d.Facts)])), (5, .v (.str s_1)), (6, .v (iT i_2)), (19, .v (.bool y))])) ((if i_2 < (l.length : Int) then
  (f23 d).bind fun o6 =>
  (jn (QN (fun (y : Bool) => [(1, .v (ssl eI l)), (2, .v (.ptr true [(ssl eRelation d.Relations), (ssl eFact d.Facts)])), (5, .v (.str s_1)), (6, .v (iT i_2)), (19, .v (.bool y))])) ((if o6 = true then
  (f51 d l).bind fun o11 =>
  some o11
  else
  some false) : Option (Bool))).bind fun x_8 =>
  some x_8
  else
  some false) : Option (Bool))).bind fun x_3 =>
  if x_3 = true then
  (jn (QN (fun (y : (List UInt8)) => [(1, .v (ssl eI l)), (2, .v (.ptr true [(ssl eRelation d.Relations), (ssl eFact d.Facts)])), (5, .v (.str y)), (6, .v (iT i_2))])) ((if i_2 > 0 then
  (cat s_1 ([32])).bind fun s_17 =>
  some s_17
  else
  some s_1) : Option (List UInt8))).bind fun s_19 =>
  (ix l i_2).bind fun v_20 =>
  (ix d.Facts v_20).bind fun v_22 =>
  (f52 d.Relations v_22).bind fun o24 =>
  (cat s_19 o24).bind fun s_26 =>
  some (.inl (s_26, w64 (i_2 + 1)))
  else
  some (.inr s_1) : (List UInt8) × Int → Option (((List UInt8) × Int) ⊕ (List UInt8)))) ?_
 exact go
instance i24 {d : Database} {l : (List Int)} : Rn cx (f24 d l) 24 [(.agg [(ssl eRelation d.Relations), (ssl eFact d.Facts)]), (ssl eI l)] (fun (r : (List UInt8)) => (.str r)) (fun r => []) := by
 refine Rn.of rfl rfl (by decide) rfl ?_; unfold f24; exact go
instance : Io0 cx 24 := ⟨rfl⟩
instance i7_0 {d : Database} {l : (List DerivationStep)} : Lp cx (f7_0 d l) 48 L7_0 (fun (zs : (List UInt8) × Int) => [(1, .v (ssl eDerivationStep l)), (2, .v (.ptr true [(ssl eRelation d.Relations), (ssl eFact d.Facts)])), (5, .v (.str zs.1)), (6, .v (iT zs.2))]) (QX 0 (fun (y : (List UInt8)) => [(5, .v (.str y))])) := by
 refine Lp.of (f := (fun
 | (s_1, i_2) =>
  (jn (QN (fun (y : Bool) => [(1, .v (ssl eDerivationStep l)), (2, .v (.ptr true [(ssl eRelation d.Relations), (ssl eFact d.Facts)])), (5, .v (.str s_1)), (6, .v (iT i_2)), (14, .v (.bool y))])) ((if i_2 < (l.length : Int) then
  (f23 d).bind fun o6 =>
  some o6
  else
  some false) : Option (Bool))).bind fun x_3 =>
  if x_3 = true then
  (jn (QN (fun (y : (List UInt8)) => [(1, .v (ssl eDerivationStep l)), (2, .v (.ptr true [(ssl eRelation d.Relations), (ssl eFact d.Facts)])), (5, .v (.str y)), (6, .v (iT i_2))])) ((if i_2 > 0 then
  (cat s_1 ([32])).bind fun s_12 =>
  some s_12
  else
  some s_1) : Option (List UInt8))).bind fun s_14 =>
  (cat s_14 ([123])).bind fun s_15 =>
  (ix l i_2).bind fun v_17 =>
  (f24 d v_17.Facts).bind fun o19 =>
  (cat s_15 o19).bind fun s_21 =>
  (cat s_21 ([125])).bind fun s_23 =>
  (jn (QN (fun (y : (List UInt8)) => [(1, .v (ssl eDerivationStep l)), (2, .v (.ptr true [(ssl eRelation d.Relations), (ssl eFact d.Facts)])), (5, .v (.str y)), (6, .v (iT i_2))])) ((if v_17.Block ≥ 0 then
  (cat s_23 ([98, 121])).bind fun s_28 =>
  (f25 v_17.Block).bind fun o30 =>
  (cat s_28 o30).bind fun s_32 =>
  some s_32
  else
  some s_23) : Option (List UInt8))).bind fun s_34 =>
  some (.inl (s_34, w64 (i_2 + 1)))
  else
  some (.inr s_1) : (List UInt8) × Int → Option (((List UInt8) × Int) ⊕ (List UInt8)))) ?_
 exact go
instance i7 {d : Database} {l : (List DerivationStep)} : Rn cx (f7 d l) 7 [(.agg [(ssl eRelation d.Relations), (ssl eFact d.Facts)]), (ssl eDerivationStep l)] (fun (r : (List UInt8)) => (.str r)) (fun r => []) := by
 refine Rn.of rfl rfl (by decide) rfl ?_; unfold f7; exact go
instance : Io0 cx 7 := ⟨rfl⟩
instance i73 {n0 : Int} {low : Int} {high : Int} : Rn cx (f73 n0 low high) 73 [(iT n0), (iT low), (iT high)] (fun (r : Bool) => (.bool r)) (fun r => []) := by
 refine Rn.of (e := (
  (jn (QN (fun (y : Bool) => [(6, .v (.bool y))])) ((if low ≤ n0 then
  some (decide (n0 ≤ high))
  else
  some false) : Option (Bool))).bind fun x_1 =>
  some x_1 : Option Bool)) rfl rfl (by decide) rfl ?_
 exact go
instance : Io0 cx 73 := ⟨rfl⟩
instance i84 {relation : Relation} : Rn cx (f84 relation) 84 [(.agg [(.str relation.Name), (iT relation.Arity), (iT relation.KeyLength)])] (fun (r : Bool) => (.bool r)) (fun r => []) := by
 refine Rn.of (e := (
  (jn (QN (fun (y : Bool) => [(2, .v (.bool y))])) ((if (relation.Name.length : Int) = 1 then
  (ix relation.Name 0).bind fun c_4 =>
  (jn (QN (fun (y : Bool) => [(2, .v (.bool y))])) ((if (c_4.toNat : Int) ≥ 97 then
  (jn (QN (fun (y : Bool) => [(2, .v (.bool y))])) ((if (c_4.toNat : Int) ≤ 122 then
  (f73 relation.Arity 1 3).bind fun o12 =>
  (jn (QN (fun (y : Bool) => [(2, .v (.bool y))])) ((if o12 = true then
  (f73 relation.KeyLength 0 relation.Arity).bind fun o17 =>
  some o17
  else
  some false) : Option (Bool))).bind fun x_14 =>
  some x_14
  else
  some false) : Option (Bool))).bind fun x_9 =>
  some x_9
  else
  some false) : Option (Bool))).bind fun x_6 =>
  some x_6
  else
  some false) : Option (Bool))).bind fun x_1 =>
  some x_1 : Option Bool)) rfl rfl (by decide) rfl ?_
 exact go
instance : Io0 cx 84 := ⟨rfl⟩
instance i55_0 {relations : (List Relation)} : Lp cx (f55_0 relations) 34 L55_0 (fun (zs : Int) => [(0, .v (ssl eRelation relations)), (5, .v (ssl eRelation relations)), (6, .v (iT (relations.length : Int))), (7, .v (iT zs))]) (QO (QX 0 (fun (y : Unit) => [(0, .v (ssl eRelation relations))])) (QR (fun (y : Bool) => [(2, .v (.bool y))]))) := by
 refine Lp.of (f := (fun
 | x_1 =>
  if x_1 < (relations.length : Int) then
  (ix relations x_1).bind fun v_3 =>
  (f84 v_3).bind fun o5 =>
  (jn (QN (fun (y : Bool) => [(0, .v (ssl eRelation relations)), (5, .v (ssl eRelation relations)), (6, .v (iT (relations.length : Int))), (7, .v (iT x_1)), (29, .v (.bool y))])) ((if ¬ (o5 = true) then
  some true
  else
  (jn (QN (fun (y : Bool) => [(0, .v (ssl eRelation relations)), (5, .v (ssl eRelation relations)), (6, .v (iT (relations.length : Int))), (7, .v (iT x_1)), (29, .v (.bool y))])) ((if x_1 > 0 then
  (ix relations (w64 (x_1 - 1))).bind fun v_13 =>
  some (!(Op.bytesLess v_13.Name v_3.Name))
  else
  some false) : Option (Bool))).bind fun x_10 =>
  some x_10) : Option (Bool))).bind fun x_7 =>
  if x_7 = true then
  some (.inr (.inr false))
  else
  some (.inl (w64 (x_1 + 1)))
  else
  some (.inr (.inl ())) : Int → Option (Int ⊕ (Unit ⊕ Bool)))) ?_
 exact go
instance i55 {relations : (List Relation)} : Rn cx (f55 relations) 55 [(ssl eRelation relations)] (fun (r : Bool) => (.bool r)) (fun r => []) := by
 refine Rn.of rfl rfl (by decide) rfl ?_; unfold f55; exact go
instance : Io0 cx 55 := ⟨rfl⟩
instance i96_0 {s0 : (List Int)} {g_f : Nat} {cp_f : List T} {f : Int → Option Bool} [hp_f : ∀ x0, Rn cx (f x0) g_f ((iT x0) :: cp_f) (fun o => (.bool o)) (fun _ => [])] [Io0 cx g_f] : Lp cx (f96_0 s0 f) 19 L96_0 (fun (zs : Int) => [(0, .v (ssl eI s0)), (1, .v (.fn g_f cp_f)), (7, .v (iT (s0.length : Int))), (8, .v (iT zs))]) (QO (QX 0 (fun (y : Unit) => [])) (QR (fun (y : Int) => [(4, .v (iT y))]))) := by
 refine Lp.of ?_; unfold f96_0; exact go
instance i96 {s0 : (List Int)} {g_f : Nat} {cp_f : List T} {f : Int → Option Bool} [hp_f : ∀ x0, Rn cx (f x0) g_f ((iT x0) :: cp_f) (fun o => (.bool o)) (fun _ => [])] [Io0 cx g_f] : Rn cx (f96 s0 f) 96 [(ssl eI s0), (.fn g_f cp_f)] (fun (r : Int) => (iT r)) (fun r => []) := by
 refine Rn.of rfl rfl (by decide) rfl ?_; unfold f96; exact go
instance : Io0 cx 96 := ⟨rfl⟩
instance i74 {s0 : (List Int)} {g_f : Nat} {cp_f : List T} {f : Int → Option Bool} [hp_f : ∀ x0, Rn cx (f x0) g_f ((iT x0) :: cp_f) (fun o => (.bool o)) (fun _ => [])] [Io0 cx g_f] : Rn cx (f74 s0 f) 74 [(ssl eI s0), (.fn g_f cp_f)] (fun (r : Bool) => (.bool r)) (fun r => []) := by
 refine Rn.of rfl rfl (by decide) rfl ?_; unfold f74; exact go
instance : Io0 cx 74 := ⟨rfl⟩
instance i101 {v : Int} : Rn cx (f101 v) 101 [(iT v)] (fun (r : Bool) => (.bool r)) (fun r => []) := by
 refine Rn.of rfl rfl (by decide) rfl ?_; unfold f101; exact go
instance : Io0 cx 101 := ⟨rfl⟩
instance i85 {list : (List Int)} : Rn cx (f85 list) 85 [(ssl eI list)] (fun (r : Bool) => (.bool r)) (fun r => []) := by
 refine Rn.of rfl rfl (by decide) rfl ?_; unfold f85; exact go
instance : Io0 cx 85 := ⟨rfl⟩
instance i56 {relations : (List Relation)} {fact : Fact} : Rn cx (f56 relations fact) 56 [(ssl eRelation relations), (.agg [(iT fact.Relation), (ssl eI fact.Values)])] (fun (r : Bool) => (.bool r)) (fun r => []) := by
 refine Rn.of (e := (
  (f73 fact.Relation 0 (w64 ((relations.length : Int) - 1))).bind fun o1 =>
  (jn (QN (fun (y : Bool) => [(4, .v (.bool y))])) ((if o1 = true then
  (ix relations fact.Relation).bind fun v_6 =>
  (jn (QN (fun (y : Bool) => [(4, .v (.bool y))])) ((if (fact.Values.length : Int) = v_6.Arity then
  (f85 fact.Values).bind fun o11 =>
  some o11
  else
  some false) : Option (Bool))).bind fun x_8 =>
  some x_8
  else
  some false) : Option (Bool))).bind fun x_3 =>
  some x_3 : Option Bool)) rfl rfl (by decide) rfl ?_
 exact go
instance : Io0 cx 56 := ⟨rfl⟩
instance i86 {a : Int} {b : Int} : Rn cx (f86 a b) 86 [(iT a), (iT b)] (fun (r : Int) => (iT r)) (fun r => []) := by
 refine Rn.of rfl rfl (by decide) rfl ?_; unfold f86; exact go
instance : Io0 cx 86 := ⟨rfl⟩
instance i111 {x : Int} : Rn cx (f111 x) 111 [(iT x)] (fun (r : Bool) => (.bool r)) (fun r => []) := by
 refine Rn.of rfl rfl (by decide) rfl ?_; unfold f111; exact go
instance : Io0 cx 111 := ⟨rfl⟩
instance i102 {x : Int} {y : Int} : Rn cx (f102 x y) 102 [(iT x), (iT y)] (fun (r : Int) => (iT r)) (fun r => []) := by
 refine Rn.of rfl rfl (by decide) rfl ?_; unfold f102; exact go
instance : Io0 cx 102 := ⟨rfl⟩
instance i87_0 {s1 : (List Int)} {s2 : (List Int)} : Lp cx (f87_0 s1 s2) 36 L87_0 (fun (zs : Int) => [(0, .v (ssl eI s1)), (1, .v (ssl eI s2)), (9, .v (ssl eI s1)), (10, .v (iT (s1.length : Int))), (11, .v (iT zs))]) (QO (QX 0 (fun (y : Unit) => [(0, .v (ssl eI s1)), (1, .v (ssl eI s2))])) (QR (fun (y : Int) => [(4, .v (iT y))]))) := by
 refine Lp.of ?_; unfold f87_0; exact go
instance i87 {s1 : (List Int)} {s2 : (List Int)} : Rn cx (f87 s1 s2) 87 [(ssl eI s1), (ssl eI s2)] (fun (r : Int) => (iT r)) (fun r => []) := by
 refine Rn.of rfl rfl (by decide) rfl ?_; unfold f87; exact go
instance : Io0 cx 87 := ⟨rfl⟩
instance i57 {a : Fact} {b : Fact} : Rn cx (f57 a b) 57 [(.agg [(iT a.Relation), (ssl eI a.Values)]), (.agg [(iT b.Relation), (ssl eI b.Values)])] (fun (r : Int) => (iT r)) (fun r => []) := by
 refine Rn.of rfl rfl (by decide) rfl ?_; unfold f57; exact go
instance : Io0 cx 57 := ⟨rfl⟩
instance i28_0 {db : Database} : Lp cx (f28_0 db) 44 L28_0 (fun (zs : Int) => [(1, .v (.ptr true [(ssl eRelation db.Relations), (ssl eFact db.Facts)])), (16, .v (ssl eFact db.Facts)), (17, .v (iT (db.Facts.length : Int))), (18, .v (iT zs))]) (QO (QX 0 (fun (y : Unit) => [])) (QR (fun (y : Bool) => [(2, .v (.bool y))]))) := by
 refine Lp.of (f := (fun
 | x_7 =>
  if x_7 < (db.Facts.length : Int) then
  (ix db.Facts x_7).bind fun v_9 =>
  (f56 db.Relations v_9).bind fun o11 =>
  (jn (QN (fun (y : Bool) => [(1, .v (.ptr true [(ssl eRelation db.Relations), (ssl eFact db.Facts)])), (16, .v (ssl eFact db.Facts)), (17, .v (iT (db.Facts.length : Int))), (18, .v (iT x_7)), (42, .v (.bool y))])) ((if ¬ (o11 = true) then
  some true
  else
  (jn (QN (fun (y : Bool) => [(1, .v (.ptr true [(ssl eRelation db.Relations), (ssl eFact db.Facts)])), (16, .v (ssl eFact db.Facts)), (17, .v (iT (db.Facts.length : Int))), (18, .v (iT x_7)), (42, .v (.bool y))])) ((if x_7 > 0 then
  (ix db.Facts (w64 (x_7 - 1))).bind fun v_19 =>
  (f57 v_19 v_9).bind fun o21 =>
  some (decide (o21 ≥ 0))
  else
  some false) : Option (Bool))).bind fun x_16 =>
  some x_16) : Option (Bool))).bind fun x_13 =>
  if x_13 = true then
  some (.inr (.inr false))
  else
  some (.inl (w64 (x_7 + 1)))
  else
  some (.inr (.inl ())) : Int → Option (Int ⊕ (Unit ⊕ Bool)))) ?_
 exact go
instance i28 {db : Database} : Rn cx (f28 db) 28 [(.agg [(ssl eRelation db.Relations), (ssl eFact db.Facts)])] (fun (r : Bool) => (.bool r)) (fun r => []) := by
 refine Rn.of (e := (
  (f55 db.Relations).bind fun o1 =>
  (jn (QN (fun (y : Bool) => [(1, .v (.ptr true [(ssl eRelation db.Relations), (ssl eFact db.Facts)])), (14, .v (.bool y))])) ((if ¬ (o1 = true) then
  some true
  else
  some (decide ((db.Facts.length : Int) > 14))) : Option (Bool))).bind fun x_3 =>
  if x_3 = true then
  some false
  else
  (iter (f28_0 db) 0).bind fun o => match o with
  | .inl _ =>
  some true
  | .inr x_26 =>
  some x_26 : Option Bool)) rfl rfl (by decide) rfl ?_
 exact go
instance : Io0 cx 28 := ⟨rfl⟩
instance i88_0 {indices : (List Int)} {n1 : Int} : Lp cx (f88_0 indices n1) 33 L88_0 (fun (zs : Int) => [(0, .v (ssl eI indices)), (1, .v (iT n1)), (7, .v (ssl eI indices)), (8, .v (iT (indices.length : Int))), (9, .v (iT zs))]) (QO (QX 0 (fun (y : Unit) => [])) (QR (fun (y : Bool) => [(4, .v (.bool y))]))) := by
 refine Lp.of (f := (fun
 | x_1 =>
  if x_1 < (indices.length : Int) then
  (ix indices x_1).bind fun v_3 =>
  (f73 v_3 0 (w64 (n1 - 1))).bind fun o5 =>
  (jn (QN (fun (y : Bool) => [(0, .v (ssl eI indices)), (1, .v (iT n1)), (7, .v (ssl eI indices)), (8, .v (iT (indices.length : Int))), (9, .v (iT x_1)), (31, .v (.bool y))])) ((if ¬ (o5 = true) then
  some true
  else
  (jn (QN (fun (y : Bool) => [(0, .v (ssl eI indices)), (1, .v (iT n1)), (7, .v (ssl eI indices)), (8, .v (iT (indices.length : Int))), (9, .v (iT x_1)), (31, .v (.bool y))])) ((if x_1 > 0 then
  (ix indices (w64 (x_1 - 1))).bind fun v_13 =>
  some (decide (v_13 ≥ v_3))
  else
  some false) : Option (Bool))).bind fun x_10 =>
  some x_10) : Option (Bool))).bind fun x_7 =>
  if x_7 = true then
  some (.inr (.inr false))
  else
  some (.inl (w64 (x_1 + 1)))
  else
  some (.inr (.inl ())) : Int → Option (Int ⊕ (Unit ⊕ Bool)))) ?_
 exact go
instance i88 {indices : (List Int)} {n1 : Int} : Rn cx (f88 indices n1) 88 [(ssl eI indices), (iT n1)] (fun (r : Bool) => (.bool r)) (fun r => []) := by
 refine Rn.of rfl rfl (by decide) rfl ?_; unfold f88; exact go
instance : Io0 cx 88 := ⟨rfl⟩
instance i89_0 {db : Database} : Lp cx (f89_0 db) 33 L89_0 (fun (zs : (List Relation) × (List Fact) × Int) => [(1, .v (.ptr true [(ssl eRelation db.Relations), (ssl eFact db.Facts)])), (2, .v (.ptr true [(osl eRelation true ([])), (osl eFact true ([]))])), (3, .v (.ptr true [(osl eRelation true zs.1), (osl eFact true zs.2.1)])), (13, .v (ssl eFact db.Facts)), (14, .v (iT (db.Facts.length : Int))), (15, .v (iT zs.2.2))]) (QX 0 (fun (y : (List Relation) × (List Fact)) => [(2, .v (.ptr true [(osl eRelation true ([])), (osl eFact true ([]))])), (3, .v (.ptr true [(osl eRelation true y.1), (osl eFact true y.2)]))])) := by
 refine Lp.of (f := (fun
 | (out_3, out_4, x_5) =>
  if x_5 < (db.Facts.length : Int) then
  (ix db.Facts x_5).bind fun v_7 =>
  (app 8 ([]) v_7.Values).bind fun l_9 =>
  sn 12 26 (osl eI true l_9) <| 
  (app 32 out_4 ([({ Relation := v_7.Relation, Values := l_9 } : Fact)])).bind fun l_11 =>
  some (.inl (out_3, l_11, w64 (x_5 + 1)))
  else
  some (.inr (out_3, out_4)) : (List Relation) × (List Fact) × Int → Option (((List Relation) × (List Fact) × Int) ⊕ ((List Relation) × (List Fact))))) ?_
 exact go
instance i89 {db : Database} : Rn cx (f89 db) 89 [(.agg [(ssl eRelation db.Relations), (ssl eFact db.Facts)])] (fun (r : Database) => (.agg [(osl eRelation true r.Relations), (osl eFact true r.Facts)])) (fun r => []) := by
 refine Rn.of (e := (
  sn 2 2 (.ptr true [(osl eRelation true ([])), (osl eFact true ([]))]) <| 
  (app 32 ([]) db.Relations).bind fun l_1 =>
  sn 5 9 (osl eRelation true l_1) <| 
  sn 0 10 (osl eFact true ([])) <| 
  (iter (f89_0 db) (l_1, [], 0)).bind fun (out_15, out_16) =>
  some ({ Relations := out_15, Facts := out_16 } : Database) : Option Database)) rfl rfl (by decide) rfl ?_
 exact go
instance : Io0 cx 89 := ⟨rfl⟩
instance i58_0 {indices : (List Int)} {o9 : Database} : Lp cx (f58_0 indices o9) 45 L58_0 (fun (zs : (List Relation) × (List Fact) × Int) => [(4, .v (.ptr true [(osl eRelation true ([])), (osl eFact true ([]))])), (6, .v (.ptr false [(ssl eRelation o9.Relations), (ssl eFact o9.Facts)])), (7, .v (.ptr true [(ssl eRelation zs.1), (osl eFact false zs.2.1)])), (27, .v (ssl eI indices)), (28, .v (iT (indices.length : Int))), (29, .v (iT zs.2.2))]) (QX 0 (fun (y : (List Relation) × (List Fact)) => [(4, .v (.ptr true [(osl eRelation true ([])), (osl eFact true ([]))])), (7, .v (.ptr true [(ssl eRelation y.1), (osl eFact false y.2)]))])) := by
 refine Lp.of ?_; unfold f58_0; exact go
instance i58 {db : Database} {indices : (List Int)} : Rn cx (f58 db indices) 58 [(.agg [(ssl eRelation db.Relations), (ssl eFact db.Facts)]), (ssl eI indices)] (fun (r : Database × Bool) => (.tup [(.agg [(ssl eRelation r.1.Relations), (osl eFact false r.1.Facts)]), (.bool r.2)])) (fun r => []) := by
 refine Rn.of (e := (
  sn 3 4 (.ptr true [(osl eRelation true ([])), (osl eFact true ([]))]) <| 
  (f28 db).bind fun o1 =>
  (jn (QN (fun (y : Bool) => [(1, .v (ssl eI indices)), (2, .v (.ptr true [(ssl eRelation db.Relations), (ssl eFact db.Facts)])), (4, .v (.ptr true [(osl eRelation true ([])), (osl eFact true ([]))])), (20, .v (.bool y))])) ((if ¬ (o1 = true) then
  some true
  else
  (f88 indices (db.Facts.length : Int)).bind fun o6 =>
  some (decide (¬ (o6 = true)))) : Option (Bool))).bind fun x_3 =>
  if x_3 = true then
  sn 1 21 (.agg [(osl eRelation true ([])), (osl eFact true ([]))]) <| 
  some (({ Relations := [], Facts := [] } : Database), false)
  else
  (f89 db).bind fun o9 =>
  sn 2 6 (.ptr false [(ssl eRelation o9.Relations), (ssl eFact o9.Facts)]) <| 
  sn 4 26 (.agg [(ssl eRelation o9.Relations), (osl eFact true ([]))]) <| 
  (iter (f58_0 indices o9) (o9.Relations, [], 0)).bind fun (out_23, out_24) =>
  some (({ Relations := out_23, Facts := out_24 } : Database), true) : Option (Database × Bool))) rfl rfl (by decide) rfl ?_
 exact go
instance : Io0 cx 58 := ⟨rfl⟩
instance i103 {relations : (List Relation)} {fact : Fact} : Rn cx (f103 relations fact) 103 [(ssl eRelation relations), (.agg [(iT fact.Relation), (ssl eI fact.Values)])] (fun (r : Bool) => (.bool r)) (fun r => []) := by
 refine Rn.of (e := (
  (f55 relations).bind fun o1 =>
  (jn (QN (fun (y : Bool) => [(4, .v (.bool y))])) ((if o1 = true then
  (f56 relations fact).bind fun o6 =>
  some o6
  else
  some false) : Option (Bool))).bind fun x_3 =>
  some x_3 : Option Bool)) rfl rfl (by decide) rfl ?_
 exact go
instance : Io0 cx 103 := ⟨rfl⟩
theorem r60 {n : Int} {r : List UInt8} (h : f60 n = some r) : VJx cx (.ca 60 [.int .i64 n] (.str r) []) := by
 exact ca_itoa (fun _ _ _ _ h => h) rfl h
instance i60 {n : Int} : Rn cx (f60 n) 60 [.int .i64 n] (fun r => .str r) (fun _ => []) := ⟨fun _ h => r60 h⟩
instance : Io0 cx 60 := ⟨rfl⟩
instance i30 {n0 : Int} : Rn cx (f30 n0) 30 [(iT n0)] (fun (r : (List UInt8)) => (.str r)) (fun r => []) := by
 refine Rn.of rfl rfl (by decide) rfl ?_; unfold f30; exact go
instance : Io0 cx 30 := ⟨rfl⟩
theorem r31 {xs : List (List UInt8)} {sep : List UInt8} {r : List UInt8} (h : f31 xs sep = some r) : VJx cx (.ca 31 [ssl eS xs, .str sep] (.str r) []) := by
 exact ca_join (fun _ _ _ _ h => h) rfl h
instance i31 {xs : List (List UInt8)} {sep : List UInt8} : Rn cx (f31 xs sep) 31 [ssl eS xs, .str sep] (fun r => .str r) (fun _ => []) := ⟨fun _ h => r31 h⟩
instance : Io0 cx 31 := ⟨rfl⟩
instance i80 {parts : (List (List UInt8))} {at1 : Int} : Rn cx (f80 parts at1) 80 [(ssl eS parts), (iT at1)] (fun (r : (List UInt8)) => (.str r)) (fun r => []) := by
 refine Rn.of (e := (
  (cutL parts 0 at1).bind fun l_1 =>
  (f31 l_1 ([])).bind fun o3 =>
  (jn (QN (fun (y : (List UInt8)) => [(5, .v (.str y))])) ((if at1 < (parts.length : Int) then
  (cutL parts at1 parts.length).bind fun l_8 =>
  (f31 l_8 ([])).bind fun o10 =>
  (cat ([124]) o10).bind fun s_12 =>
  (cat o3 s_12).bind fun s_14 =>
  some s_14
  else
  some o3) : Option (List UInt8))).bind fun out_16 =>
  some out_16 : Option (List UInt8))) rfl rfl (by decide) rfl ?_
 exact go
instance : Io0 cx 80 := ⟨rfl⟩
instance i90_0 {relations : (List Relation)} {fact : Fact} : Lp cx (lw relations (f90_0 fact)) 39 L90_0 (fun (zs : (List (List UInt8)) × Int) => [(0, .v (ssl eRelation relations)), (3, .v (.ptr true [(iT fact.Relation), (ssl eI fact.Values)])), (5, .v (osl eS true zs.1)), (15, .v (ssl eI fact.Values)), (16, .v (iT (fact.Values.length : Int))), (17, .v (iT zs.2))]) (QX 0 (fun (y : (List (List UInt8))) => [(0, .v (ssl eRelation relations)), (3, .v (.ptr true [(iT fact.Relation), (ssl eI fact.Values)])), (5, .v (osl eS true y))])) := by
 refine Lp.of ?_; unfold lw f90_0; exact go
instance i90 {relations : (List Relation)} {fact : Fact} : Rn cx (f90 relations fact) 90 [(ssl eRelation relations), (.agg [(iT fact.Relation), (ssl eI fact.Values)])] (fun (r : (List UInt8)) => (.str r)) (fun r => []) := by
 refine Rn.of (e := (
  (f103 relations fact).bind fun o1 =>
  if ¬ (o1 = true) then
  some ([])
  else
  sn 2 5 (osl eS true ([])) <| 
  (iter (lw relations  (f90_0 fact)) ([], 0)).bind fun parts_15 =>
  (ix relations fact.Relation).bind fun v_16 =>
  (f80 parts_15 v_16.KeyLength).bind fun o18 =>
  (cat v_16.Name o18).bind fun s_20 =>
  some s_20 : Option (List UInt8))) rfl rfl (by decide) rfl ?_
 exact go
instance : Io0 cx 90 := ⟨rfl⟩
instance i59_0 {db : Database} : Lp cx (f59_0 db) 24 L59_0 (fun (zs : (List (List UInt8)) × Int) => [(1, .v (.ptr true [(ssl eRelation db.Relations), (ssl eFact db.Facts)])), (3, .v (osl eS true zs.1)), (8, .v (ssl eFact db.Facts)), (9, .v (iT (db.Facts.length : Int))), (10, .v (iT zs.2))]) (QX 0 (fun (y : (List (List UInt8))) => [(3, .v (osl eS true y))])) := by
 refine Lp.of ?_; unfold f59_0; exact go
instance i59 {db : Database} : Rn cx (f59 db) 59 [(.agg [(ssl eRelation db.Relations), (ssl eFact db.Facts)])] (fun (r : (List UInt8)) => (.str r)) (fun r => []) := by
 refine Rn.of (e := (
  sn 4 3 (osl eS true ([])) <| 
  (iter (f59_0 db) ([], 0)).bind fun facts_12 =>
  (f31 facts_12 ([32])).bind fun o13 =>
  some o13 : Option (List UInt8))) rfl rfl (by decide) rfl ?_
 exact go
instance : Io0 cx 59 := ⟨rfl⟩
instance i29 {db : Database} {indices : (List Int)} : Rn cx (f29 db indices) 29 [(.agg [(ssl eRelation db.Relations), (ssl eFact db.Facts)]), (ssl eI indices)] (fun (r : (List UInt8)) => (.str r)) (fun r => []) := by
 refine Rn.of rfl rfl (by decide) rfl ?_; unfold f29; exact go
instance : Io0 cx 29 := ⟨rfl⟩
instance i10_0 {db : Database} {derivation : (List DerivationStep)} : Lp cx (f10_0 db derivation) 41 L10_0 (fun (zs : (List (List UInt8)) × Int) => [(2, .v (.ptr true [(ssl eRelation db.Relations), (ssl eFact db.Facts)])), (5, .v (osl eS true zs.1)), (13, .v (ssl eDerivationStep derivation)), (14, .v (iT (derivation.length : Int))), (15, .v (iT zs.2))]) (QX 0 (fun (y : (List (List UInt8))) => [(5, .v (osl eS true y))])) := by
 refine Lp.of (f := (fun
 | (out_4, x_5) =>
  if x_5 < (derivation.length : Int) then
  (ix derivation x_5).bind fun v_7 =>
  (f29 db v_7.Facts).bind fun o9 =>
  (cat ([123]) o9).bind fun s_11 =>
  (cat s_11 ([125])).bind fun s_13 =>
  (jn (QN (fun (y : (List UInt8)) => [(2, .v (.ptr true [(ssl eRelation db.Relations), (ssl eFact db.Facts)])), (5, .v (osl eS true out_4)), (8, .v (.str y)), (13, .v (ssl eDerivationStep derivation)), (14, .v (iT (derivation.length : Int))), (15, .v (iT x_5))])) ((if v_7.Block ≥ 0 then
  (f30 v_7.Block).bind fun o18 =>
  (cat ([98, 121]) o18).bind fun s_20 =>
  (cat s_13 s_20).bind fun s_22 =>
  some s_22
  else
  some s_13) : Option (List UInt8))).bind fun word_24 =>
  (app 16 out_4 ([word_24])).bind fun l_25 =>
  some (.inl (l_25, w64 (x_5 + 1)))
  else
  some (.inr out_4) : (List (List UInt8)) × Int → Option (((List (List UInt8)) × Int) ⊕ (List (List UInt8))))) ?_
 exact go
instance i10 {db : Database} {derivation : (List DerivationStep)} : Rn cx (f10 db derivation) 10 [(.agg [(ssl eRelation db.Relations), (ssl eFact db.Facts)]), (ssl eDerivationStep derivation)] (fun (r : (List UInt8)) => (.str r)) (fun r => []) := by
 refine Rn.of (e := (
  (f28 db).bind fun o1 =>
  if ¬ (o1 = true) then
  some ([])
  else
  sn 2 5 (osl eS true ([])) <| 
  (iter (f10_0 db derivation) ([], 0)).bind fun out_29 =>
  (f31 out_29 ([32])).bind fun o30 =>
  some o30 : Option (List UInt8))) rfl rfl (by decide) rfl ?_
 exact go
instance : Io0 cx 10 := ⟨rfl⟩
instance i44 {a : Relation} {b : Relation} : Rn cx (f44 a b) 44 [(.agg [(.str a.Name), (iT a.Arity), (iT a.KeyLength)]), (.agg [(.str b.Name), (iT b.Arity), (iT b.KeyLength)])] (fun (r : Bool) => (.bool r)) (fun r => []) := by
 refine Rn.of rfl rfl (by decide) rfl ?_; unfold f44; exact go
instance : Io0 cx 44 := ⟨rfl⟩
instance i19_0 {a : (List Relation)} {b : (List Relation)} : Lp cx (f19_0 a b) 27 L19_0 (fun (zs : Int) => [(0, .v (ssl eRelation a)), (1, .v (ssl eRelation b)), (5, .v (iT zs))]) (QO (QX 0 (fun (y : Unit) => [])) (QR (fun (y : Bool) => [(4, .v (.bool y))]))) := by
 refine Lp.of ?_; unfold f19_0; exact go
instance i19 {a : (List Relation)} {b : (List Relation)} : Rn cx (f19 a b) 19 [(ssl eRelation a), (ssl eRelation b)] (fun (r : Bool) => (.bool r)) (fun r => []) := by
 refine Rn.of rfl rfl (by decide) rfl ?_; unfold f19; exact go
instance : Io0 cx 19 := ⟨rfl⟩
instance i65_0 {a : (List Int)} {b : (List Int)} : Lp cx (f65_0 a b) 26 L65_0 (fun (zs : Int) => [(0, .v (ssl eI a)), (1, .v (ssl eI b)), (5, .v (iT zs))]) (QO (QX 0 (fun (y : Unit) => [])) (QR (fun (y : Bool) => [(4, .v (.bool y))]))) := by
 refine Lp.of ?_; unfold f65_0; exact go
end
end Go.Proofs.YtcllfkplpdppiaaDoorH
