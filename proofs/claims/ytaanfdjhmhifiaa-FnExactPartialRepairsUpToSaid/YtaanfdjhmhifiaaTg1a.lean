import Derived.Test.YtaanfdjhmhifiaaCx1
import Derived.Test.YtaanfdjhmhifiaaX3
import Derived.Test.YtaanfdjhmhifiaaTd1
set_option maxHeartbeats 2000000
set_option linter.unusedVariables false
set_option linter.unusedSimpArgs false
set_option linter.defProp false
set_option linter.unusedSectionVars false
set_option maxRecDepth 100000
namespace Go.Proofs.YtaanfdjhmhifiaaH
open Go
noncomputable section
abbrev iT (n : Int) : T := .int .i64 n
instance : Cl cx := ⟨fun j h => vsound (fun _ _ _ _ h => h) h, fun f ts t outs h => .ext h⟩
@[simp high] theorem ioz {f : Nat} [h : Io0 cx f] : ioTab f = [] := h.io
@[simp] theorem ioz11 : ioTab 11 = [0] := rfl
@[simp] theorem ioz12 : ioTab 12 = [0] := rfl
@[simp] theorem ioz31 : ioTab 31 = [0] := rfl
@[simp] theorem ioz32 : ioTab 32 = [0] := rfl
@[simp] theorem ioz33 : ioTab 33 = [0] := rfl
@[simp] theorem ioz53 : ioTab 53 = [3] := rfl
instance i44 {a : Relation} {left : Int} : Rn cx (f44 a left) 44 [(.agg [(.str a.Name), (iT a.Arity), (iT a.KeyLength)]), (iT left)] (fun (r : Int) => (iT r)) (fun r => []) := by
 refine Rn.of rfl rfl (by decide) rfl ?_; unfold f44; exact go
instance : Io0 cx 44 := ⟨rfl⟩
instance i19_0 {a : (List Relation)} : Lp cx (f19_0 a) 27 L19_0 (fun (zs : Int × Int) => [(0, .v (ssl eRelation a)), (1, .v (iT zs.1)), (5, .v (iT zs.2))]) (QO (QX 0 (fun (y : Int) => [(1, .v (iT y))])) (QR (fun (y : Int) => [(4, .v (iT y))]))) := by
 refine Lp.of ?_; unfold f19_0; exact go
instance i19 {a : (List Relation)} {left : Int} : Rn cx (f19 a left) 19 [(ssl eRelation a), (iT left)] (fun (r : Int) => (iT r)) (fun r => []) := by
 refine Rn.of rfl rfl (by decide) rfl ?_; unfold f19; exact go
instance : Io0 cx 19 := ⟨rfl⟩
instance i68 {a : (List Int)} {left : Int} : Rn cx (f68 a left) 68 [(ssl eI a), (iT left)] (fun (r : Int) => (iT r)) (fun r => []) := by
 refine Rn.of rfl rfl (by decide) rfl ?_; unfold f68; exact go
instance : Io0 cx 68 := ⟨rfl⟩
instance i45 {a : Fact} {left : Int} : Rn cx (f45 a left) 45 [(.agg [(iT a.Relation), (ssl eI a.Values)]), (iT left)] (fun (r : Int) => (iT r)) (fun r => []) := by
 refine Rn.of rfl rfl (by decide) rfl ?_; unfold f45; exact go
instance : Io0 cx 45 := ⟨rfl⟩
instance i20_0 {a : (List Fact)} : Lp cx (f20_0 a) 27 L20_0 (fun (zs : Int × Int) => [(0, .v (ssl eFact a)), (1, .v (iT zs.1)), (5, .v (iT zs.2))]) (QO (QX 0 (fun (y : Int) => [(1, .v (iT y))])) (QR (fun (y : Int) => [(4, .v (iT y))]))) := by
 refine Lp.of ?_; unfold f20_0; exact go
instance i20 {a : (List Fact)} {left : Int} : Rn cx (f20 a left) 20 [(ssl eFact a), (iT left)] (fun (r : Int) => (iT r)) (fun r => []) := by
 refine Rn.of rfl rfl (by decide) rfl ?_; unfold f20; exact go
instance : Io0 cx 20 := ⟨rfl⟩
instance i5 {a : Database} {left : Int} : Rn cx (f5 a left) 5 [(.agg [(ssl eRelation a.Relations), (ssl eFact a.Facts)]), (iT left)] (fun (r : Int) => (iT r)) (fun r => []) := by
 refine Rn.of rfl rfl (by decide) rfl ?_; unfold f5; exact go
instance : Io0 cx 5 := ⟨rfl⟩
instance i48 {a : Relation} : Rn cx (f48 a) 48 [(.agg [(.str a.Name), (iT a.Arity), (iT a.KeyLength)])] (fun (r : Relation) => (.agg [(.str r.Name), (iT r.Arity), (iT r.KeyLength)])) (fun r => []) := by
 refine Rn.of rfl rfl (by decide) rfl ?_; unfold f48; exact go
instance : Io0 cx 48 := ⟨rfl⟩
instance i23_0 {a : (List Relation)} : Lp cx (f23_0 a) 23 L23_0 (fun (zs : (List Relation) × Int) => [(0, .v (ssl eRelation a)), (3, .v (osl eRelation true zs.1)), (4, .v (iT zs.2))]) (QX 0 (fun (y : (List Relation)) => [(3, .v (osl eRelation true y))])) := by
 refine Lp.of ?_; unfold f23_0; exact go
instance i23 {a : (List Relation)} : Rn cx (f23 a) 23 [(ssl eRelation a)] (fun (r : (List Relation)) => (osl eRelation true r)) (fun r => []) := by
 refine Rn.of (e := (
  (mkl 32 (a.length : Int) ({ Name := [], Arity := 0, KeyLength := 0 } : Relation)).bind fun l_1 =>
  sn 5 3 (osl eRelation true l_1) <| 
  (iter (f23_0 a) (l_1, 0)).bind fun out_15 =>
  some out_15 : Option (List Relation))) rfl rfl (by decide) rfl ?_
 exact go
instance : Io0 cx 23 := ⟨rfl⟩
instance i71_0 {a : (List Int)} : Lp cx (f71_0 a) 22 L71_0 (fun (zs : (List Int) × Int) => [(0, .v (ssl eI a)), (3, .v (osl eI true zs.1)), (4, .v (iT zs.2))]) (QX 0 (fun (y : (List Int)) => [(3, .v (osl eI true y))])) := by
 refine Lp.of ?_; unfold f71_0; exact go
instance i71 {a : (List Int)} : Rn cx (f71 a) 71 [(ssl eI a)] (fun (r : (List Int)) => (osl eI true r)) (fun r => []) := by
 refine Rn.of (e := (
  (mkl 8 (a.length : Int) 0).bind fun l_1 =>
  sn 5 3 (osl eI true l_1) <| 
  (iter (f71_0 a) (l_1, 0)).bind fun out_13 =>
  some out_13 : Option (List Int))) rfl rfl (by decide) rfl ?_
 exact go
instance : Io0 cx 71 := ⟨rfl⟩
instance i49 {a : Fact} : Rn cx (f49 a) 49 [(.agg [(iT a.Relation), (ssl eI a.Values)])] (fun (r : Fact) => (.agg [(iT r.Relation), (osl eI true r.Values)])) (fun r => []) := by
 refine Rn.of (e := (
  sn 2 2 (.ptr true [(iT 0), (osl eI true ([]))]) <| 
  sn 1 3 (.ptr true [(iT 0), (osl eI true ([]))]) <| 
  (f71 a.Values).bind fun o1 =>
  some ({ Relation := a.Relation, Values := o1 } : Fact) : Option Fact)) rfl rfl (by decide) rfl ?_
 exact go
instance : Io0 cx 49 := ⟨rfl⟩
instance i24_0 {a : (List Fact)} : Lp cx (f24_0 a) 23 L24_0 (fun (zs : (List Fact) × Int) => [(0, .v (ssl eFact a)), (3, .v (osl eFact true zs.1)), (4, .v (iT zs.2))]) (QX 0 (fun (y : (List Fact)) => [(3, .v (osl eFact true y))])) := by
 refine Lp.of ?_; unfold f24_0; exact go
instance i24 {a : (List Fact)} : Rn cx (f24 a) 24 [(ssl eFact a)] (fun (r : (List Fact)) => (osl eFact true r)) (fun r => []) := by
 refine Rn.of (e := (
  (mkl 32 (a.length : Int) (({ Relation := 0, Values := [] } : Fact) : Fact)).bind fun l_1 =>
  sn 5 3 (osl eFact true l_1) <| 
  (iter (f24_0 a) (l_1, 0)).bind fun out_15 =>
  some out_15 : Option (List Fact))) rfl rfl (by decide) rfl ?_
 exact go
instance : Io0 cx 24 := ⟨rfl⟩
instance i7 {a : Database} : Rn cx (f7 a) 7 [(.agg [(ssl eRelation a.Relations), (ssl eFact a.Facts)])] (fun (r : Database) => (.agg [(osl eRelation true r.Relations), (osl eFact true r.Facts)])) (fun r => []) := by
 refine Rn.of (e := (
  sn 2 2 (.ptr true [(osl eRelation true ([])), (osl eFact true ([]))]) <| 
  sn 1 3 (.ptr true [(osl eRelation true ([])), (osl eFact true ([]))]) <| 
  (f23 a.Relations).bind fun o1 =>
  (f24 a.Facts).bind fun o3 =>
  some ({ Relations := o1, Facts := o3 } : Database) : Option Database)) rfl rfl (by decide) rfl ?_
 exact go
instance : Io0 cx 7 := ⟨rfl⟩
instance i21 {x : Int} {low : Int} {high : Int} : Rn cx (f21 x low high) 21 [(iT x), (iT low), (iT high)] (fun (r : Bool) => (.bool r)) (fun r => []) := by
 refine Rn.of (e := (
  (jn (QN (fun (y : Bool) => [(6, .v (.bool y))])) ((if x ≥ low then
  some (decide (x ≤ high))
  else
  some false) : Option (Bool))).bind fun x_1 =>
  some x_1 : Option Bool)) rfl rfl (by decide) rfl ?_
 exact go
instance : Io0 cx 21 := ⟨rfl⟩
instance i67 {s0 : Relation} : Rn cx (f67 s0) 67 [(.agg [(.str s0.Name), (iT s0.Arity), (iT s0.KeyLength)])] (fun (r : Bool) => (.bool r)) (fun r => []) := by
 refine Rn.of (e := (
  (jn (QN (fun (y : Bool) => [(2, .v (.bool y))])) ((if (s0.Name.length : Int) = 1 then
  (ix s0.Name 0).bind fun c_4 =>
  (jn (QN (fun (y : Bool) => [(2, .v (.bool y))])) ((if (c_4.toNat : Int) ≥ 97 then
  (jn (QN (fun (y : Bool) => [(2, .v (.bool y))])) ((if (c_4.toNat : Int) ≤ 122 then
  (f21 s0.Arity 1 3).bind fun o12 =>
  (jn (QN (fun (y : Bool) => [(2, .v (.bool y))])) ((if o12 = true then
  (f21 s0.KeyLength 0 s0.Arity).bind fun o17 =>
  some o17
  else
  some false) : Option (Bool))).bind fun x_14 =>
  some x_14
  else
  some false) : Option (Bool))).bind fun x_9 =>
  some x_9
  else
  some false) : Option (Bool))).bind fun x_6 =>
  some x_6
  else
  some false) : Option (Bool))).bind fun x_1 =>
  some x_1 : Option Bool)) rfl rfl (by decide) rfl ?_
 exact go
instance : Io0 cx 67 := ⟨rfl⟩
instance i43_0 {l : (List Relation)} : Lp cx (f43_0 l) 37 L43_0 (fun (zs : Int) => [(0, .v (ssl eRelation l)), (3, .v (iT zs))]) (QO (QX 0 (fun (y : Unit) => [(0, .v (ssl eRelation l))])) (QR (fun (y : Bool) => [(2, .v (.bool y))]))) := by
 refine Lp.of (f := (fun
 | i_1 =>
  if i_1 < (l.length : Int) then
  (ix l i_1).bind fun v_3 =>
  (f67 v_3).bind fun o5 =>
  (jn (QN (fun (y : Bool) => [(0, .v (ssl eRelation l)), (3, .v (iT i_1)), (33, .v (.bool y))])) ((if ¬ (o5 = true) then
  some true
  else
  (jn (QN (fun (y : Bool) => [(0, .v (ssl eRelation l)), (3, .v (iT i_1)), (33, .v (.bool y))])) ((if i_1 > 0 then
  (ix l (w64 (i_1 - 1))).bind fun v_13 =>
  some (!(Op.bytesLess v_13.Name v_3.Name))
  else
  some false) : Option (Bool))).bind fun x_10 =>
  some x_10) : Option (Bool))).bind fun x_7 =>
  if x_7 = true then
  some (.inr (.inr false))
  else
  some (.inl (w64 (i_1 + 1)))
  else
  some (.inr (.inl ())) : Int → Option (Int ⊕ (Unit ⊕ Bool)))) ?_
 exact go
instance i43 {l : (List Relation)} : Rn cx (f43 l) 43 [(ssl eRelation l)] (fun (r : Bool) => (.bool r)) (fun r => []) := by
 refine Rn.of rfl rfl (by decide) rfl ?_; unfold f43; exact go
instance : Io0 cx 43 := ⟨rfl⟩
instance i41_0 {f : Fact} : Lp cx (f41_0 f) 44 L41_0 (fun (zs : Int) => [(3, .v (.ptr true [(iT f.Relation), (ssl eI f.Values)])), (5, .v (iT zs))]) (QO (QX 0 (fun (y : Unit) => [])) (QR (fun (y : Bool) => [(4, .v (.bool y))]))) := by
 refine Lp.of ?_; unfold f41_0; exact go
instance i41 {l : (List Relation)} {f : Fact} : Rn cx (f41 l f) 41 [(ssl eRelation l), (.agg [(iT f.Relation), (ssl eI f.Values)])] (fun (r : Bool) => (.bool r)) (fun r => []) := by
 refine Rn.of (e := (
  (f43 l).bind fun o1 =>
  (jn (QN (fun (y : Bool) => [(3, .v (.ptr true [(iT f.Relation), (ssl eI f.Values)])), (29, .v (.bool y))])) ((if ¬ (o1 = true) then
  some true
  else
  (f21 f.Relation 0 (w64 ((l.length : Int) - 1))).bind fun o6 =>
  (jn (QN (fun (y : Bool) => [(3, .v (.ptr true [(iT f.Relation), (ssl eI f.Values)])), (29, .v (.bool y))])) ((if ¬ (o6 = true) then
  some true
  else
  (ix l f.Relation).bind fun v_11 =>
  some (decide ((f.Values.length : Int) ≠ v_11.Arity))) : Option (Bool))).bind fun x_8 =>
  some x_8) : Option (Bool))).bind fun x_3 =>
  if x_3 = true then
  some false
  else
  (iter (f41_0 f) 0).bind fun o => match o with
  | .inl _ =>
  some true
  | .inr x_23 =>
  some x_23 : Option Bool)) rfl rfl (by decide) rfl ?_
 exact go
instance : Io0 cx 41 := ⟨rfl⟩
instance i66_0 {a : (List Int)} {b : (List Int)} : Lp cx (f66_0 a b) 46 L66_0 (fun (zs : Int) => [(0, .v (ssl eI a)), (1, .v (ssl eI b)), (5, .v (iT zs))]) (QO (QX 0 (fun (y : Unit) => [(0, .v (ssl eI a)), (1, .v (ssl eI b))])) (QR (fun (y : Int) => [(4, .v (iT y))]))) := by
 refine Lp.of (f := (fun
 | i_1 =>
  (jn (QN (fun (y : Bool) => [(0, .v (ssl eI a)), (1, .v (ssl eI b)), (5, .v (iT i_1)), (15, .v (.bool y))])) ((if i_1 < (a.length : Int) then
  some (decide (i_1 < (b.length : Int)))
  else
  some false) : Option (Bool))).bind fun x_2 =>
  if x_2 = true then
  (ix a i_1).bind fun v_6 =>
  (ix b i_1).bind fun v_8 =>
  if v_6 < v_8 then
  some (.inr (.inr (-1)))
  else
  if v_6 > v_8 then
  some (.inr (.inr 1))
  else
  some (.inl (w64 (i_1 + 1)))
  else
  some (.inr (.inl ())) : Int → Option (Int ⊕ (Unit ⊕ Int)))) ?_
 exact go
instance i66 {a : (List Int)} {b : (List Int)} : Rn cx (f66 a b) 66 [(ssl eI a), (ssl eI b)] (fun (r : Int) => (iT r)) (fun r => []) := by
 refine Rn.of rfl rfl (by decide) rfl ?_; unfold f66; exact go
instance : Io0 cx 66 := ⟨rfl⟩
instance i42 {a : Fact} {b : Fact} : Rn cx (f42 a b) 42 [(.agg [(iT a.Relation), (ssl eI a.Values)]), (.agg [(iT b.Relation), (ssl eI b.Values)])] (fun (r : Int) => (iT r)) (fun r => []) := by
 refine Rn.of rfl rfl (by decide) rfl ?_; unfold f42; exact go
instance : Io0 cx 42 := ⟨rfl⟩
instance i18_0 {d : Database} : Lp cx (f18_0 d) 48 L18_0 (fun (zs : Int) => [(1, .v (.ptr true [(ssl eRelation d.Relations), (ssl eFact d.Facts)])), (3, .v (iT zs))]) (QO (QX 0 (fun (y : Unit) => [(1, .v (.ptr true [(ssl eRelation d.Relations), (ssl eFact d.Facts)]))])) (QR (fun (y : Bool) => [(2, .v (.bool y))]))) := by
 refine Lp.of (f := (fun
 | i_1 =>
  if i_1 < (d.Facts.length : Int) then
  (ix d.Facts i_1).bind fun v_3 =>
  (f41 d.Relations v_3).bind fun o5 =>
  (jn (QN (fun (y : Bool) => [(1, .v (.ptr true [(ssl eRelation d.Relations), (ssl eFact d.Facts)])), (3, .v (iT i_1)), (38, .v (.bool y))])) ((if ¬ (o5 = true) then
  some true
  else
  (jn (QN (fun (y : Bool) => [(1, .v (.ptr true [(ssl eRelation d.Relations), (ssl eFact d.Facts)])), (3, .v (iT i_1)), (38, .v (.bool y))])) ((if i_1 > 0 then
  (ix d.Facts (w64 (i_1 - 1))).bind fun v_13 =>
  (f42 v_13 v_3).bind fun o15 =>
  some (decide (o15 ≥ 0))
  else
  some false) : Option (Bool))).bind fun x_10 =>
  some x_10) : Option (Bool))).bind fun x_7 =>
  if x_7 = true then
  some (.inr (.inr false))
  else
  some (.inl (w64 (i_1 + 1)))
  else
  some (.inr (.inl ())) : Int → Option (Int ⊕ (Unit ⊕ Bool)))) ?_
 exact go
instance i18 {d : Database} : Rn cx (f18 d) 18 [(.agg [(ssl eRelation d.Relations), (ssl eFact d.Facts)])] (fun (r : Bool) => (.bool r)) (fun r => []) := by
 refine Rn.of (e := (
  (iter (f18_0 d) 0).bind fun o => match o with
  | .inl _ =>
  (f43 d.Relations).bind fun o21 =>
  (jn (QN (fun (y : Bool) => [(2, .v (.bool y))])) ((if o21 = true then
  some (decide ((d.Facts.length : Int) ≤ 14))
  else
  some false) : Option (Bool))).bind fun x_23 =>
  some x_23
  | .inr x_20 =>
  some x_20 : Option Bool)) rfl rfl (by decide) rfl ?_
 exact go
instance : Io0 cx 18 := ⟨rfl⟩
instance i69_0 {d : Database} {l : (List Int)} : Lp cx (f69_0 d l) 38 L69_0 (fun (zs : Int) => [(1, .v (ssl eI l)), (2, .v (.ptr true [(ssl eRelation d.Relations), (ssl eFact d.Facts)])), (5, .v (iT zs))]) (QO (QX 0 (fun (y : Unit) => [])) (QR (fun (y : Bool) => [(4, .v (.bool y))]))) := by
 refine Lp.of (f := (fun
 | i_1 =>
  if i_1 < (l.length : Int) then
  (ix l i_1).bind fun v_3 =>
  (f21 v_3 0 (w64 ((d.Facts.length : Int) - 1))).bind fun o5 =>
  (jn (QN (fun (y : Bool) => [(1, .v (ssl eI l)), (2, .v (.ptr true [(ssl eRelation d.Relations), (ssl eFact d.Facts)])), (5, .v (iT i_1)), (37, .v (.bool y))])) ((if ¬ (o5 = true) then
  some true
  else
  (jn (QN (fun (y : Bool) => [(1, .v (ssl eI l)), (2, .v (.ptr true [(ssl eRelation d.Relations), (ssl eFact d.Facts)])), (5, .v (iT i_1)), (37, .v (.bool y))])) ((if i_1 > 0 then
  (ix l (w64 (i_1 - 1))).bind fun v_13 =>
  some (decide (v_3 ≤ v_13))
  else
  some false) : Option (Bool))).bind fun x_10 =>
  some x_10) : Option (Bool))).bind fun x_7 =>
  if x_7 = true then
  some (.inr (.inr false))
  else
  some (.inl (w64 (i_1 + 1)))
  else
  some (.inr (.inl ())) : Int → Option (Int ⊕ (Unit ⊕ Bool)))) ?_
 exact go
instance i69 {d : Database} {l : (List Int)} : Rn cx (f69 d l) 69 [(.agg [(ssl eRelation d.Relations), (ssl eFact d.Facts)]), (ssl eI l)] (fun (r : Bool) => (.bool r)) (fun r => []) := by
 refine Rn.of rfl rfl (by decide) rfl ?_; unfold f69; exact go
instance : Io0 cx 69 := ⟨rfl⟩
instance i46_0 {d : Database} {l : (List Int)} : Lp cx (f46_0 d l) 51 L46_0 (fun (zs : (List Relation) × (List Fact) × Int) => [(1, .v (ssl eI l)), (2, .v (.ptr true [(ssl eRelation d.Relations), (ssl eFact d.Facts)])), (4, .v (.ptr true [(osl eRelation true ([])), (osl eFact true ([]))])), (6, .v (.ptr true [(osl eRelation true zs.1), (osl eFact true zs.2.1)])), (7, .v (iT zs.2.2))]) (QX 0 (fun (y : (List Relation) × (List Fact)) => [(4, .v (.ptr true [(osl eRelation true ([])), (osl eFact true ([]))])), (6, .v (.ptr true [(osl eRelation true y.1), (osl eFact true y.2)]))])) := by
 refine Lp.of (f := (fun
 | (x_11, x_12, i_13) =>
  if i_13 < (l.length : Int) then
  (ix l i_13).bind fun v_15 =>
  (ix d.Facts v_15).bind fun v_17 =>
  (app 8 ([]) v_17.Values).bind fun l_19 =>
  sn 18 45 (osl eI true l_19) <| 
  (app 32 x_12 ([({ Relation := v_17.Relation, Values := l_19 } : Fact)])).bind fun l_21 =>
  some (.inl (x_11, l_21, w64 (i_13 + 1)))
  else
  some (.inr (x_11, x_12)) : (List Relation) × (List Fact) × Int → Option (((List Relation) × (List Fact) × Int) ⊕ ((List Relation) × (List Fact))))) ?_
 exact go
instance i46 {d : Database} {l : (List Int)} : Rn cx (f46 d l) 46 [(.agg [(ssl eRelation d.Relations), (ssl eFact d.Facts)]), (ssl eI l)] (fun (r : Database × Bool) => (.tup [(.agg [(osl eRelation true r.1.Relations), (osl eFact true r.1.Facts)]), (.bool r.2)])) (fun r => []) := by
 refine Rn.of (e := (
  sn 3 4 (.ptr true [(osl eRelation true ([])), (osl eFact true ([]))]) <| 
  (f18 d).bind fun o1 =>
  (jn (QN (fun (y : Bool) => [(1, .v (ssl eI l)), (2, .v (.ptr true [(ssl eRelation d.Relations), (ssl eFact d.Facts)])), (4, .v (.ptr true [(osl eRelation true ([])), (osl eFact true ([]))])), (17, .v (.bool y))])) ((if ¬ (o1 = true) then
  some true
  else
  (f69 d l).bind fun o6 =>
  some (decide (¬ (o6 = true)))) : Option (Bool))).bind fun x_3 =>
  if x_3 = true then
  sn 1 18 (.agg [(osl eRelation true ([])), (osl eFact true ([]))]) <| 
  some (({ Relations := [], Facts := [] } : Database), false)
  else
  (app 32 ([]) d.Relations).bind fun l_9 =>
  sn 4 22 (osl eRelation true l_9) <| 
  sn 2 23 (.agg [(osl eRelation true l_9), (osl eFact true ([]))]) <| 
  (iter (f46_0 d l) (l_9, [], 0)).bind fun (x_25, x_26) =>
  some (({ Relations := x_25, Facts := x_26 } : Database), true) : Option (Database × Bool))) rfl rfl (by decide) rfl ?_
 exact go
instance : Io0 cx 46 := ⟨rfl⟩
instance i90 {l : (List Relation)} {f : Fact} : Rn cx (f90 l f) 90 [(ssl eRelation l), (.agg [(iT f.Relation), (ssl eI f.Values)])] (fun (r : (List Int)) => (osl eI true r)) (fun r => []) := by
 refine Rn.of (e := (
  (f41 l f).bind fun o1 =>
  if ¬ (o1 = true) then
  sn 2 4 (osl eI true ([])) <| 
  some ([])
  else
  (ix l f.Relation).bind fun v_4 =>
  (cutL f.Values 0 v_4.KeyLength).bind fun l_6 =>
  (app 8 ([]) l_6).bind fun l_8 =>
  sn 12 4 (osl eI true l_8) <| 
  some l_8 : Option (List Int))) rfl rfl (by decide) rfl ?_
 exact go
instance : Io0 cx 90 := ⟨rfl⟩
instance i87 {l : (List Relation)} {a : Fact} {b : Fact} : Rn cx (f87 l a b) 87 [(ssl eRelation l), (.agg [(iT a.Relation), (ssl eI a.Values)]), (.agg [(iT b.Relation), (ssl eI b.Values)])] (fun (r : Bool) => (.bool r)) (fun r => []) := by
 refine Rn.of (e := (
  (f41 l a).bind fun o1 =>
  (jn (QN (fun (y : Bool) => [(0, .v (ssl eRelation l)), (6, .v (.bool y))])) ((if o1 = true then
  (f41 l b).bind fun o6 =>
  (jn (QN (fun (y : Bool) => [(0, .v (ssl eRelation l)), (6, .v (.bool y))])) ((if o6 = true then
  (jn (QN (fun (y : Bool) => [(0, .v (ssl eRelation l)), (6, .v (.bool y))])) ((if a.Relation = b.Relation then
  (f90 l a).bind fun o14 =>
  (f90 l b).bind fun o16 =>
  (f66 o14 o16).bind fun o18 =>
  some (decide (o18 = 0))
  else
  some false) : Option (Bool))).bind fun x_11 =>
  some x_11
  else
  some false) : Option (Bool))).bind fun x_8 =>
  some x_8
  else
  some false) : Option (Bool))).bind fun x_3 =>
  some x_3 : Option Bool)) rfl rfl (by decide) rfl ?_
 exact go
instance : Io0 cx 87 := ⟨rfl⟩
instance i82_0 {d : Database} {i : Int} : Lp cx (f82_0 d i) 45 L82_0 (fun (zs : (List Int) × Int) => [(1, .v (iT i)), (2, .v (.ptr true [(ssl eRelation d.Relations), (ssl eFact d.Facts)])), (5, .v (osl eI true zs.1)), (6, .v (iT zs.2))]) (QX 0 (fun (y : (List Int)) => [(5, .v (osl eI true y))])) := by
 refine Lp.of (f := (fun
 | (out_1, k_2) =>
  (jn (QN (fun (y : Bool) => [(1, .v (iT i)), (2, .v (.ptr true [(ssl eRelation d.Relations), (ssl eFact d.Facts)])), (5, .v (osl eI true out_1)), (6, .v (iT k_2)), (24, .v (.bool y))])) ((if k_2 < (d.Facts.length : Int) then
  (f18 d).bind fun o6 =>
  (jn (QN (fun (y : Bool) => [(1, .v (iT i)), (2, .v (.ptr true [(ssl eRelation d.Relations), (ssl eFact d.Facts)])), (5, .v (osl eI true out_1)), (6, .v (iT k_2)), (24, .v (.bool y))])) ((if o6 = true then
  (f21 i 0 (w64 ((d.Facts.length : Int) - 1))).bind fun o11 =>
  some o11
  else
  some false) : Option (Bool))).bind fun x_8 =>
  some x_8
  else
  some false) : Option (Bool))).bind fun x_3 =>
  if x_3 = true then
  (ix d.Facts i).bind fun v_14 =>
  (ix d.Facts k_2).bind fun v_16 =>
  (f87 d.Relations v_14 v_16).bind fun o18 =>
  (jn (QN (fun (y : (List Int)) => [(1, .v (iT i)), (2, .v (.ptr true [(ssl eRelation d.Relations), (ssl eFact d.Facts)])), (5, .v (osl eI true y)), (6, .v (iT k_2))])) ((if o18 = true then
  (app 8 out_1 ([k_2])).bind fun l_23 =>
  some l_23
  else
  some out_1) : Option (List Int))).bind fun out_25 =>
  some (.inl (out_25, w64 (k_2 + 1)))
  else
  some (.inr out_1) : (List Int) × Int → Option (((List Int) × Int) ⊕ (List Int)))) ?_
 exact go
instance i82 {d : Database} {i : Int} : Rn cx (f82 d i) 82 [(.agg [(ssl eRelation d.Relations), (ssl eFact d.Facts)]), (iT i)] (fun (r : (List Int)) => (osl eI true r)) (fun r => []) := by
 refine Rn.of (e := (
  sn 4 5 (osl eI true ([])) <| 
  (iter (f82_0 d i) ([], 0)).bind fun out_28 =>
  some out_28 : Option (List Int))) rfl rfl (by decide) rfl ?_
 exact go
instance : Io0 cx 82 := ⟨rfl⟩
instance i70_0 {d : Database} : Lp cx (f70_0 d) 31 L70_0 (fun (zs : (List (List Int)) × Int) => [(1, .v (.ptr true [(ssl eRelation d.Relations), (ssl eFact d.Facts)])), (3, .v (osl (eL eI) true zs.1)), (4, .v (iT zs.2))]) (QX 0 (fun (y : (List (List Int))) => [(3, .v (osl (eL eI) true y))])) := by
 refine Lp.of (f := (fun
 | (out_1, i_2) =>
  (jn (QN (fun (y : Bool) => [(1, .v (.ptr true [(ssl eRelation d.Relations), (ssl eFact d.Facts)])), (3, .v (osl (eL eI) true out_1)), (4, .v (iT i_2)), (15, .v (.bool y))])) ((if i_2 < (d.Facts.length : Int) then
  (f18 d).bind fun o6 =>
  some o6
  else
  some false) : Option (Bool))).bind fun x_3 =>
  if x_3 = true then
  (f82 d i_2).bind fun o9 =>
  (ix o9 0).bind fun v_11 =>
  (jn (QN (fun (y : (List (List Int))) => [(1, .v (.ptr true [(ssl eRelation d.Relations), (ssl eFact d.Facts)])), (3, .v (osl (eL eI) true y)), (4, .v (iT i_2))])) ((if v_11 = i_2 then
  (app 24 out_1 ([o9])).bind fun l_16 =>
  some l_16
  else
  some out_1) : Option (List (List Int)))).bind fun out_18 =>
  some (.inl (out_18, w64 (i_2 + 1)))
  else
  some (.inr out_1) : (List (List Int)) × Int → Option (((List (List Int)) × Int) ⊕ (List (List Int))))) ?_
 exact go
instance i70 {d : Database} : Rn cx (f70 d) 70 [(.agg [(ssl eRelation d.Relations), (ssl eFact d.Facts)])] (fun (r : (List (List Int))) => (osl (eL eI) true r)) (fun r => []) := by
 refine Rn.of (e := (
  sn 4 3 (osl (eL eI) true ([])) <| 
  (iter (f70_0 d) ([], 0)).bind fun out_21 =>
  some out_21 : Option (List (List Int)))) rfl rfl (by decide) rfl ?_
 exact go
instance : Io0 cx 70 := ⟨rfl⟩
instance i47 {d : Database} : Rn cx (f47 d) 47 [(.agg [(ssl eRelation d.Relations), (ssl eFact d.Facts)])] (fun (r : Bool) => (.bool r)) (fun r => []) := by
 refine Rn.of (e := (
  (f18 d).bind fun o1 =>
  (jn (QN (fun (y : Bool) => [(2, .v (.bool y))])) ((if o1 = true then
  (f70 d).bind fun o6 =>
  some (decide ((o6.length : Int) = (d.Facts.length : Int)))
  else
  some false) : Option (Bool))).bind fun x_3 =>
  some x_3 : Option Bool)) rfl rfl (by decide) rfl ?_
 exact go
instance : Io0 cx 47 := ⟨rfl⟩
instance i22 {d : Database} {l : (List Int)} : Rn cx (f22 d l) 22 [(.agg [(ssl eRelation d.Relations), (ssl eFact d.Facts)]), (ssl eI l)] (fun (r : Bool) => (.bool r)) (fun r => []) := by
 refine Rn.of (e := (
  (f46 d l).bind fun o1 =>
  (jn (QN (fun (y : Bool) => [(4, .v (.bool y))])) ((if o1.2 = true then
  (f47 o1.1).bind fun o6 =>
  some o6
  else
  some false) : Option (Bool))).bind fun x_3 =>
  some x_3 : Option Bool)) rfl rfl (by decide) rfl ?_
 exact go
instance : Io0 cx 22 := ⟨rfl⟩
instance i6_2 {d : Database} {k : Int} {out_11 : (List (List Int))} {last_12 : (List (List Int))} {n_13 : Int} {i_16 : Int} : Lp cx (lw (k, out_11, n_13) (f6_2 d last_12 i_16)) 89 L6_2 (fun (zs : (List (List Int)) × Int) => [(1, .v (iT k)), (2, .v (.ptr true [(ssl eRelation d.Relations), (ssl eFact d.Facts)])), (5, .v (osl (eL eI) false out_11)), (6, .v (osl (eL eI) false last_12)), (7, .v (iT n_13)), (8, .v (osl (eL eI) false zs.1)), (9, .v (iT i_16)), (11, .v (iT zs.2))]) (QX 4 (fun (y : (List (List Int))) => [(1, .v (iT k)), (2, .v (.ptr true [(ssl eRelation d.Relations), (ssl eFact d.Facts)])), (5, .v (osl (eL eI) false out_11)), (6, .v (osl (eL eI) false last_12)), (7, .v (iT n_13)), (8, .v (osl (eL eI) false y)), (9, .v (iT i_16))])) := by
 refine Lp.of (f := (fun
 | (more_26, x_27) =>
  if x_27 < (d.Facts.length : Int) then
  (ix last_12 i_16).bind fun v_29 =>
  (app 8 ([]) v_29).bind fun l_31 =>
  (app 8 l_31 ([x_27])).bind fun l_33 =>
  sn 10 12 (osl eI true l_33) <| 
  (f22 d l_33).bind fun o35 =>
  (jn (QN (fun (y : (List (List Int))) => [(1, .v (iT k)), (2, .v (.ptr true [(ssl eRelation d.Relations), (ssl eFact d.Facts)])), (5, .v (osl (eL eI) false out_11)), (6, .v (osl (eL eI) false last_12)), (7, .v (iT n_13)), (8, .v (osl (eL eI) false y)), (9, .v (iT i_16)), (11, .v (iT x_27))])) ((if o35 = true then
  sn 3 82 (osl (eL eI) true ([l_33])) <| 
  sn 0 82 (ssl (eL eI) ([l_33])) <| 
  (app 24 more_26 ([l_33])).bind fun l_40 =>
  some l_40
  else
  some more_26) : Option (List (List Int)))).bind fun more_42 =>
  some (.inl (more_42, w64 (x_27 + 1)))
  else
  some (.inr more_26) : (List (List Int)) × Int → Option (((List (List Int)) × Int) ⊕ (List (List Int))))) ?_
 exact go
instance i6_1 {d : Database} {k : Int} {out_11 : (List (List Int))} {last_12 : (List (List Int))} {n_13 : Int} : Lp cx (lw (k, out_11, n_13) (f6_1 d last_12)) 89 L6_1 (fun (zs : (List (List Int)) × Int) => [(1, .v (iT k)), (2, .v (.ptr true [(ssl eRelation d.Relations), (ssl eFact d.Facts)])), (5, .v (osl (eL eI) false out_11)), (6, .v (osl (eL eI) false last_12)), (7, .v (iT n_13)), (8, .v (osl (eL eI) false zs.1)), (9, .v (iT zs.2))]) (QX 2 (fun (y : (List (List Int))) => [(1, .v (iT k)), (2, .v (.ptr true [(ssl eRelation d.Relations), (ssl eFact d.Facts)])), (5, .v (osl (eL eI) false out_11)), (7, .v (iT n_13)), (8, .v (osl (eL eI) false y))])) := by
 refine Lp.of (f := (fun
 | (more_15, i_16) =>
  if i_16 < (last_12.length : Int) then
  (ix last_12 i_16).bind fun v_18 =>
  (jn (QN (fun (y : Int) => [(1, .v (iT k)), (2, .v (.ptr true [(ssl eRelation d.Relations), (ssl eFact d.Facts)])), (5, .v (osl (eL eI) false out_11)), (6, .v (osl (eL eI) false last_12)), (7, .v (iT n_13)), (8, .v (osl (eL eI) false more_15)), (9, .v (iT i_16)), (10, .v (iT y))])) ((if (v_18.length : Int) > 0 then
  (ix v_18 (w64 ((v_18.length : Int) - 1))).bind fun v_23 =>
  some (w64 (v_23 + 1))
  else
  some 0) : Option Int)).bind fun from_25 =>
  (iter (lw (k, out_11, n_13)  (f6_2 d last_12 i_16)) (more_15, from_25)).bind fun more_45 =>
  some (.inl (more_45, w64 (i_16 + 1)))
  else
  some (.inr more_15) : (List (List Int)) × Int → Option (((List (List Int)) × Int) ⊕ (List (List Int))))) ?_
 exact go
instance i6_0 {d : Database} {k : Int} : Lp cx (f6_0 d k) 89 L6_0 (fun (zs : (List (List Int)) × (List (List Int)) × Int) => [(1, .v (iT k)), (2, .v (.ptr true [(ssl eRelation d.Relations), (ssl eFact d.Facts)])), (5, .v (osl (eL eI) false zs.1)), (6, .v (osl (eL eI) false zs.2.1)), (7, .v (iT zs.2.2))]) (QX 0 (fun (y : (List (List Int))) => [(5, .v (osl (eL eI) false y))])) := by
 refine Lp.of (f := (fun
 | (out_11, last_12, n_13) =>
  if n_13 < k then
  sn 2 8 (osl (eL eI) false ([])) <| 
  (iter (lw (k, out_11, n_13)  (f6_1 d last_12)) ([], 0)).bind fun more_48 =>
  (app 24 out_11 more_48).bind fun l_49 =>
  some (.inl (l_49, more_48, w64 (n_13 + 1)))
  else
  some (.inr out_11) : (List (List Int)) × (List (List Int)) × Int → Option (((List (List Int)) × (List (List Int)) × Int) ⊕ (List (List Int))))) ?_
 exact go
instance i6 {d : Database} {k : Int} : Rn cx (f6 d k) 6 [(.agg [(ssl eRelation d.Relations), (ssl eFact d.Facts)]), (iT k)] (fun (r : (List (List Int))) => (osl (eL eI) false r)) (fun r => []) := by
 refine Rn.of (e := (
  sn 4 5 (osl (eL eI) false ([])) <| 
  (f18 d).bind fun o1 =>
  (jn (QN (fun (y : Bool) => [(1, .v (iT k)), (2, .v (.ptr true [(ssl eRelation d.Relations), (ssl eFact d.Facts)])), (5, .v (osl (eL eI) false ([]))), (21, .v (.bool y))])) ((if ¬ (o1 = true) then
  some true
  else
  (f21 k 0 3).bind fun o6 =>
  some (decide (¬ (o6 = true)))) : Option (Bool))).bind fun x_3 =>
  if x_3 = true then
  some ([])
  else
  sn 1 23 (osl eI true ([])) <| 
  sn 0 23 (ssl eI ([])) <| 
  sn 2 6 (osl (eL eI) false ([[]])) <| 
  sn 2 26 (osl eI true ([])) <| 
  sn 1 27 (osl (eL eI) true ([[]])) <| 
  sn 0 27 (ssl (eL eI) ([[]])) <| 
  (app 24 ([]) ([[]])).bind fun l_9 =>
  (iter (f6_0 d k) (l_9, [[]], 0)).bind fun out_53 =>
  some out_53 : Option (List (List Int)))) rfl rfl (by decide) rfl ?_
 exact go
instance : Io0 cx 6 := ⟨rfl⟩
instance i26 {n0 : Int} {low : Int} {high : Int} : Rn cx (f26 n0 low high) 26 [(iT n0), (iT low), (iT high)] (fun (r : Bool) => (.bool r)) (fun r => []) := by
 refine Rn.of (e := (
  (jn (QN (fun (y : Bool) => [(6, .v (.bool y))])) ((if low ≤ n0 then
  some (decide (n0 ≤ high))
  else
  some false) : Option (Bool))).bind fun x_1 =>
  some x_1 : Option Bool)) rfl rfl (by decide) rfl ?_
 exact go
instance : Io0 cx 26 := ⟨rfl⟩
instance i72 {relation : Relation} : Rn cx (f72 relation) 72 [(.agg [(.str relation.Name), (iT relation.Arity), (iT relation.KeyLength)])] (fun (r : Bool) => (.bool r)) (fun r => []) := by
 refine Rn.of (e := (
  (jn (QN (fun (y : Bool) => [(2, .v (.bool y))])) ((if (relation.Name.length : Int) = 1 then
  (ix relation.Name 0).bind fun c_4 =>
  (jn (QN (fun (y : Bool) => [(2, .v (.bool y))])) ((if (c_4.toNat : Int) ≥ 97 then
  (jn (QN (fun (y : Bool) => [(2, .v (.bool y))])) ((if (c_4.toNat : Int) ≤ 122 then
  (f26 relation.Arity 1 3).bind fun o12 =>
  (jn (QN (fun (y : Bool) => [(2, .v (.bool y))])) ((if o12 = true then
  (f26 relation.KeyLength 0 relation.Arity).bind fun o17 =>
  some o17
  else
  some false) : Option (Bool))).bind fun x_14 =>
  some x_14
  else
  some false) : Option (Bool))).bind fun x_9 =>
  some x_9
  else
  some false) : Option (Bool))).bind fun x_6 =>
  some x_6
  else
  some false) : Option (Bool))).bind fun x_1 =>
  some x_1 : Option Bool)) rfl rfl (by decide) rfl ?_
 exact go
instance : Io0 cx 72 := ⟨rfl⟩
instance i50_0 {relations : (List Relation)} : Lp cx (f50_0 relations) 34 L50_0 (fun (zs : Int) => [(0, .v (ssl eRelation relations)), (5, .v (ssl eRelation relations)), (6, .v (iT (relations.length : Int))), (7, .v (iT zs))]) (QO (QX 0 (fun (y : Unit) => [(0, .v (ssl eRelation relations))])) (QR (fun (y : Bool) => [(2, .v (.bool y))]))) := by
 refine Lp.of (f := (fun
 | x_1 =>
  if x_1 < (relations.length : Int) then
  (ix relations x_1).bind fun v_3 =>
  (f72 v_3).bind fun o5 =>
  (jn (QN (fun (y : Bool) => [(0, .v (ssl eRelation relations)), (5, .v (ssl eRelation relations)), (6, .v (iT (relations.length : Int))), (7, .v (iT x_1)), (29, .v (.bool y))])) ((if ¬ (o5 = true) then
  some true
  else
  (jn (QN (fun (y : Bool) => [(0, .v (ssl eRelation relations)), (5, .v (ssl eRelation relations)), (6, .v (iT (relations.length : Int))), (7, .v (iT x_1)), (29, .v (.bool y))])) ((if x_1 > 0 then
  (ix relations (w64 (x_1 - 1))).bind fun v_13 =>
  some (!(Op.bytesLess v_13.Name v_3.Name))
  else
  some false) : Option (Bool))).bind fun x_10 =>
  some x_10) : Option (Bool))).bind fun x_7 =>
  if x_7 = true then
  some (.inr (.inr false))
  else
  some (.inl (w64 (x_1 + 1)))
  else
  some (.inr (.inl ())) : Int → Option (Int ⊕ (Unit ⊕ Bool)))) ?_
 exact go
instance i50 {relations : (List Relation)} : Rn cx (f50 relations) 50 [(ssl eRelation relations)] (fun (r : Bool) => (.bool r)) (fun r => []) := by
 refine Rn.of rfl rfl (by decide) rfl ?_; unfold f50; exact go
instance : Io0 cx 50 := ⟨rfl⟩
instance i76_0 {s0 : (List Int)} {g_f : Nat} {cp_f : List T} {f : Int → Option Bool} [hp_f : ∀ x0, Rn cx (f x0) g_f ((iT x0) :: cp_f) (fun o => (.bool o)) (fun _ => [])] [Io0 cx g_f] : Lp cx (f76_0 s0 f) 19 L76_0 (fun (zs : Int) => [(0, .v (ssl eI s0)), (1, .v (.fn g_f cp_f)), (7, .v (iT (s0.length : Int))), (8, .v (iT zs))]) (QO (QX 0 (fun (y : Unit) => [])) (QR (fun (y : Int) => [(4, .v (iT y))]))) := by
 refine Lp.of ?_; unfold f76_0; exact go
instance i76 {s0 : (List Int)} {g_f : Nat} {cp_f : List T} {f : Int → Option Bool} [hp_f : ∀ x0, Rn cx (f x0) g_f ((iT x0) :: cp_f) (fun o => (.bool o)) (fun _ => [])] [Io0 cx g_f] : Rn cx (f76 s0 f) 76 [(ssl eI s0), (.fn g_f cp_f)] (fun (r : Int) => (iT r)) (fun r => []) := by
 refine Rn.of rfl rfl (by decide) rfl ?_; unfold f76; exact go
instance : Io0 cx 76 := ⟨rfl⟩
instance i54 {s0 : (List Int)} {g_f : Nat} {cp_f : List T} {f : Int → Option Bool} [hp_f : ∀ x0, Rn cx (f x0) g_f ((iT x0) :: cp_f) (fun o => (.bool o)) (fun _ => [])] [Io0 cx g_f] : Rn cx (f54 s0 f) 54 [(ssl eI s0), (.fn g_f cp_f)] (fun (r : Bool) => (.bool r)) (fun r => []) := by
 refine Rn.of rfl rfl (by decide) rfl ?_; unfold f54; exact go
instance : Io0 cx 54 := ⟨rfl⟩
instance i83 {v : Int} : Rn cx (f83 v) 83 [(iT v)] (fun (r : Bool) => (.bool r)) (fun r => []) := by
 refine Rn.of rfl rfl (by decide) rfl ?_; unfold f83; exact go
instance : Io0 cx 83 := ⟨rfl⟩
instance i73 {list : (List Int)} : Rn cx (f73 list) 73 [(ssl eI list)] (fun (r : Bool) => (.bool r)) (fun r => []) := by
 refine Rn.of rfl rfl (by decide) rfl ?_; unfold f73; exact go
instance : Io0 cx 73 := ⟨rfl⟩
instance i51 {relations : (List Relation)} {fact : Fact} : Rn cx (f51 relations fact) 51 [(ssl eRelation relations), (.agg [(iT fact.Relation), (ssl eI fact.Values)])] (fun (r : Bool) => (.bool r)) (fun r => []) := by
 refine Rn.of (e := (
  (f26 fact.Relation 0 (w64 ((relations.length : Int) - 1))).bind fun o1 =>
  (jn (QN (fun (y : Bool) => [(4, .v (.bool y))])) ((if o1 = true then
  (ix relations fact.Relation).bind fun v_6 =>
  (jn (QN (fun (y : Bool) => [(4, .v (.bool y))])) ((if (fact.Values.length : Int) = v_6.Arity then
  (f73 fact.Values).bind fun o11 =>
  some o11
  else
  some false) : Option (Bool))).bind fun x_8 =>
  some x_8
  else
  some false) : Option (Bool))).bind fun x_3 =>
  some x_3 : Option Bool)) rfl rfl (by decide) rfl ?_
 exact go
instance : Io0 cx 51 := ⟨rfl⟩
instance i74 {a : Int} {b : Int} : Rn cx (f74 a b) 74 [(iT a), (iT b)] (fun (r : Int) => (iT r)) (fun r => []) := by
 refine Rn.of rfl rfl (by decide) rfl ?_; unfold f74; exact go
instance : Io0 cx 74 := ⟨rfl⟩
instance i88 {x : Int} : Rn cx (f88 x) 88 [(iT x)] (fun (r : Bool) => (.bool r)) (fun r => []) := by
 refine Rn.of rfl rfl (by decide) rfl ?_; unfold f88; exact go
instance : Io0 cx 88 := ⟨rfl⟩
instance i84 {x : Int} {y : Int} : Rn cx (f84 x y) 84 [(iT x), (iT y)] (fun (r : Int) => (iT r)) (fun r => []) := by
 refine Rn.of rfl rfl (by decide) rfl ?_; unfold f84; exact go
instance : Io0 cx 84 := ⟨rfl⟩
instance i75_0 {s1 : (List Int)} {s2 : (List Int)} : Lp cx (f75_0 s1 s2) 36 L75_0 (fun (zs : Int) => [(0, .v (ssl eI s1)), (1, .v (ssl eI s2)), (9, .v (ssl eI s1)), (10, .v (iT (s1.length : Int))), (11, .v (iT zs))]) (QO (QX 0 (fun (y : Unit) => [(0, .v (ssl eI s1)), (1, .v (ssl eI s2))])) (QR (fun (y : Int) => [(4, .v (iT y))]))) := by
 refine Lp.of ?_; unfold f75_0; exact go
instance i75 {s1 : (List Int)} {s2 : (List Int)} : Rn cx (f75 s1 s2) 75 [(ssl eI s1), (ssl eI s2)] (fun (r : Int) => (iT r)) (fun r => []) := by
 refine Rn.of rfl rfl (by decide) rfl ?_; unfold f75; exact go
instance : Io0 cx 75 := ⟨rfl⟩
instance i52 {a : Fact} {b : Fact} : Rn cx (f52 a b) 52 [(.agg [(iT a.Relation), (ssl eI a.Values)]), (.agg [(iT b.Relation), (ssl eI b.Values)])] (fun (r : Int) => (iT r)) (fun r => []) := by
 refine Rn.of rfl rfl (by decide) rfl ?_; unfold f52; exact go
instance : Io0 cx 52 := ⟨rfl⟩
instance i25_0 {db : Database} : Lp cx (f25_0 db) 44 L25_0 (fun (zs : Int) => [(1, .v (.ptr true [(ssl eRelation db.Relations), (ssl eFact db.Facts)])), (16, .v (ssl eFact db.Facts)), (17, .v (iT (db.Facts.length : Int))), (18, .v (iT zs))]) (QO (QX 0 (fun (y : Unit) => [])) (QR (fun (y : Bool) => [(2, .v (.bool y))]))) := by
 refine Lp.of (f := (fun
 | x_7 =>
  if x_7 < (db.Facts.length : Int) then
  (ix db.Facts x_7).bind fun v_9 =>
  (f51 db.Relations v_9).bind fun o11 =>
  (jn (QN (fun (y : Bool) => [(1, .v (.ptr true [(ssl eRelation db.Relations), (ssl eFact db.Facts)])), (16, .v (ssl eFact db.Facts)), (17, .v (iT (db.Facts.length : Int))), (18, .v (iT x_7)), (42, .v (.bool y))])) ((if ¬ (o11 = true) then
  some true
  else
  (jn (QN (fun (y : Bool) => [(1, .v (.ptr true [(ssl eRelation db.Relations), (ssl eFact db.Facts)])), (16, .v (ssl eFact db.Facts)), (17, .v (iT (db.Facts.length : Int))), (18, .v (iT x_7)), (42, .v (.bool y))])) ((if x_7 > 0 then
  (ix db.Facts (w64 (x_7 - 1))).bind fun v_19 =>
  (f52 v_19 v_9).bind fun o21 =>
  some (decide (o21 ≥ 0))
  else
  some false) : Option (Bool))).bind fun x_16 =>
  some x_16) : Option (Bool))).bind fun x_13 =>
  if x_13 = true then
  some (.inr (.inr false))
  else
  some (.inl (w64 (x_7 + 1)))
  else
  some (.inr (.inl ())) : Int → Option (Int ⊕ (Unit ⊕ Bool)))) ?_
 exact go
instance i25 {db : Database} : Rn cx (f25 db) 25 [(.agg [(ssl eRelation db.Relations), (ssl eFact db.Facts)])] (fun (r : Bool) => (.bool r)) (fun r => []) := by
 refine Rn.of (e := (
  (f50 db.Relations).bind fun o1 =>
  (jn (QN (fun (y : Bool) => [(1, .v (.ptr true [(ssl eRelation db.Relations), (ssl eFact db.Facts)])), (14, .v (.bool y))])) ((if ¬ (o1 = true) then
  some true
  else
  some (decide ((db.Facts.length : Int) > 14))) : Option (Bool))).bind fun x_3 =>
  if x_3 = true then
  some false
  else
  (iter (f25_0 db) 0).bind fun o => match o with
  | .inl _ =>
  some true
  | .inr x_26 =>
  some x_26 : Option Bool)) rfl rfl (by decide) rfl ?_
 exact go
instance : Io0 cx 25 := ⟨rfl⟩
instance i77_0 {s1 : (List Int)} {s2 : (List Int)} : Lp cx (f77_0 s1 s2) 26 L77_0 (fun (zs : Int) => [(0, .v (ssl eI s1)), (1, .v (ssl eI s2)), (12, .v (iT (s1.length : Int))), (13, .v (iT zs))]) (QO (QX 0 (fun (y : Unit) => [])) (QR (fun (y : Bool) => [(4, .v (.bool y))]))) := by
 refine Lp.of ?_; unfold f77_0; exact go
instance i77 {s1 : (List Int)} {s2 : (List Int)} : Rn cx (f77 s1 s2) 77 [(ssl eI s1), (ssl eI s2)] (fun (r : Bool) => (.bool r)) (fun r => []) := by
 refine Rn.of rfl rfl (by decide) rfl ?_; unfold f77; exact go
instance : Io0 cx 77 := ⟨rfl⟩
instance i56 {relations : (List Relation)} {a : Fact} {b : Fact} : Rn cx (f56 relations a b) 56 [(ssl eRelation relations), (.agg [(iT a.Relation), (ssl eI a.Values)]), (.agg [(iT b.Relation), (ssl eI b.Values)])] (fun (r : Bool) => (.bool r)) (fun r => []) := by
 refine Rn.of rfl rfl (by decide) rfl ?_; unfold f56; exact go
instance : Io0 cx 56 := ⟨rfl⟩
instance i55 {own : Int} {c : Database} {c2 : Int} : Rn cx (f55 own c c2) 55 [(iT own), (.ptr false [(ssl eRelation c.Relations), (ssl eFact c.Facts)]), (.ptr false [(iT c2)])] (fun (r : Bool) => (.bool r)) (fun r => []) := by
 refine Rn.of rfl rfl (by decide) rfl ?_; unfold f55; exact go
instance : Io0 cx 55 := ⟨rfl⟩
theorem r57 {s0 : (List Int)} {r : (List Int)} (h : f57 s0 = some r) : VJx cx (.ca 57 [(ssl eI s0)] (osl eI true r) []) := by
 unfold f57 at h
 refine ca_clone (X := noExt) (fun _ _ _ _ h => h) (fun _ _ _ _ h => h) rfl (by decide) rfl (cl_eq h) ?_
 refine Wc.start (V1 := [(0, .v (ssl eI s0))]) (by simp) ?_
 refine Wc.seq ?_
 obtain ⟨l_1, h2, h⟩ := bind_some h
 have gx2 := appT_arr2 (E := eI) (b := true) (b' := false) (y := false) h2 (by decide) (arr_sc rfl _)
 simp [-aI_app0, -aB_app0, -aS_app0, -aL_app0, -aLt_app1I, -aLf_app1I, -aLt_app10I, -aLf_app10I] at gx2
 refine Wc.evs (by conv => lhs; simp [-aI_app0, -aB_app0, -aS_app0, -aL_app0, -aI_app10, -aB_app10, -aS_app10, -aLt_app10I, -aLf_app10I, -aLt_app1I, -aLf_app1I, gx2]) ?_
 refine Wo.gh (vle_co (s := 2) (t1 := (osl eI true l_1)) rfl (by simp) (tle_own rfl) (by conv => lhs; simp)) ?_
 refine Wo.nil ?_
 refine Wc.ret (res_of (.inr rfl) ?_)
 cases h
 exact ⟨_, _, _, by conv => lhs; simp, by (conv => lhs; simp [cx, ioTab, List.range, List.range.loop]) <;> rfl, by first | rfl | simp [-aI_app0, -aB_app0, -aS_app0, -aL_app0, -aI_app10, -aB_app10, -aS_app10, -aLt_app10I, -aLf_app10I, -aLt_app1I, -aLf_app1I, gx2]⟩
instance i57 {s0 : (List Int)} : Rn cx (f57 s0) 57 [(ssl eI s0)] (fun (r : (List Int)) => (osl eI true r)) (fun r => []) := ⟨fun _ h => r57 h⟩
instance : Io0 cx 57 := ⟨rfl⟩
instance i53_0 {a2 : AV} {a3 : AV} {a4 : AV} {a5 : AV} {set0 : (List Int)} {c : Int} {c4 : Database} {rec : (List Int) → Int → Int → (List (List Int)) → Database → Option (List (List Int))} [hrec : ∀ set0 from1 c c3 c4, Rn cx (ag (a2, a3, a4, a5) <| rec set0 from1 c c3 c4) 53 [(ssl eI set0), (iT from1), (.at a2 (.ptr false [(iT c)])), (.at a3 (.ptr true [(osl (eL eI) true c3)])), (.at a4 (.ptr false [(ssl eRelation c4.Relations), (ssl eFact c4.Facts)])), (.at a5 (.ptr false [(.at (.fn 53 [a2, a3, a4, a5]) .und)]))] (fun o => (.tup [])) (fun o => [(.at a3 (.ptr true [(osl (eL eI) true o)]))])] : Lp cx (lw (a2, a3, a4, a5) (f53_0 set0 c c4 rec)) 41 L53_0 (fun (zs : (List (List Int)) × Int) => [(0, .v (ssl eI set0)), (2, .v (.at a2 (.ptr false [(iT c)]))), (3, .v (.at a3 (.ptr true [(osl (eL eI) true zs.1)]))), (4, .v (.at a4 (.ptr false [(ssl eRelation c4.Relations), (ssl eFact c4.Facts)]))), (5, .v (.at a5 (.ptr false [(.at (.fn 53 [a2, a3, a4, a5]) .und)]))), (8, .v (.ptr true [(iT zs.2)]))]) (QX 0 (fun (y : (List (List Int))) => [(3, .v (.at a3 (.ptr true [(osl (eL eI) true y)])))])) := by
 refine Lp.of (f := (fun
 | (x_6, i_7) =>
  if i_7 < (c4.Facts.length : Int) then
  (f54 set0 (fun x0 => f55 x0 c4 i_7)).bind fun o9 =>
  (jn (QN (fun (y : (List (List Int))) => [(0, .v (ssl eI set0)), (2, .v (.at a2 (.ptr false [(iT c)]))), (3, .v (.at a3 (.ptr true [(osl (eL eI) true y)]))), (4, .v (.at a4 (.ptr false [(ssl eRelation c4.Relations), (ssl eFact c4.Facts)]))), (5, .v (.at a5 (.ptr false [(.at (.fn 53 [a2, a3, a4, a5]) .und)]))), (8, .v (.ptr true [(iT i_7)]))])) ((if ¬ (o9 = true) then
  sn 6 35 (osl eI true ([i_7])) <| 
  (f57 set0).bind fun o14 =>
  (app 8 o14 ([i_7])).bind fun l_16 =>
  (ca [2, 3, 4, 5] <| ag (a2, a3, a4, a5) (rec l_16 (w64 (i_7 + 1)) c x_6 c4)).bind fun o18 =>
  some o18
  else
  some x_6) : Option (List (List Int)))).bind fun x_20 =>
  some (.inl (x_20, w64 (i_7 + 1)))
  else
  some (.inr x_6) : (List (List Int)) × Int → Option (((List (List Int)) × Int) ⊕ (List (List Int))))) ?_
 exact go
instance i53 : ∀ (n : Nat) set0 from1 c c3 c4 (a2 a3 a4 a5 : AV), Rn cx (ag (a2, a3, a4, a5) (f53 n set0 from1 c c3 c4)) 53 [(ssl eI set0), (iT from1), (.at a2 (.ptr false [(iT c)])), (.at a3 (.ptr true [(osl (eL eI) true c3)])), (.at a4 (.ptr false [(ssl eRelation c4.Relations), (ssl eFact c4.Facts)])), (.at a5 (.ptr false [(.at (.fn 53 [a2, a3, a4, a5]) .und)]))] (fun (r : (List (List Int))) => (.tup [])) (fun r => [(.at a3 (.ptr true [(osl (eL eI) true r)]))]) := by
 intro n
 induction n with
 | zero => intro set0 from1 c c3 c4 a2 a3 a4 a5; exact ⟨fun r h => by simp [ag, f53] at h⟩
 | succ n ih =>
  intro set0 from1 c c3 c4 a2 a3 a4 a5
  refine Rn.of (e := (
   if (set0.length : Int) = c then
   (app 8 ([]) set0).bind fun l_2 =>
   sn 4 16 (osl eI true l_2) <| 
   (app 24 c3 ([l_2])).bind fun l_4 =>
   some l_4
   else
   (iter (lw (a2, a3, a4, a5)  (f53_0 set0 c c4 (f53 n))) (c3, from1)).bind fun x_23 =>
   some x_23 : Option (List (List Int)))) rfl rfl (by decide) rfl ?_
  exact go
instance i27 {db : Database} {size : Int} : Rn cx (f27 db size) 27 [(.agg [(ssl eRelation db.Relations), (ssl eFact db.Facts)]), (iT size)] (fun (r : (List (List Int))) => (osl (eL eI) true r)) (fun r => []) := by
 refine Rn.of (e := (
  sn 5 7 (osl (eL eI) true ([])) <| 
  lc 2 6 fun (a5 : AV) => 
  lc 0 3 fun (a2 : AV) => 
  lc 0 5 fun (a3 : AV) => 
  lc 0 2 fun (a4 : AV) => 
  fa 0 [a2, a3, a4, a5] <| 
  (ca [3, 5, 2, 6] <| ag (a2, a3, a4, a5) (f53 64 ([] : (List Int)) 0 size ([]) db)).bind fun o1 =>
  some o1 : Option (List (List Int)))) rfl rfl (by decide) rfl ?_
 exact go
instance : Io0 cx 27 := ⟨rfl⟩
instance i8_0 {db : Database} {size : Int} : Lp cx (f8_0 db size) 29 L8_0 (fun (zs : (List (List Int)) × Int) => [(2, .v (.ptr true [(ssl eRelation db.Relations), (ssl eFact db.Facts)])), (5, .v (osl (eL eI) true zs.1)), (18, .v (iT (w64 (size + 1)))), (19, .v (iT zs.2))]) (QX 0 (fun (y : (List (List Int))) => [(5, .v (osl (eL eI) true y))])) := by
 refine Lp.of (f := (fun
 | (out_9, x_10) =>
  if x_10 < (w64 (size + 1)) then
  (f27 db x_10).bind fun o12 =>
  pl (plains (arr (eL eI) true o12)) <| 
  (app 24 out_9 o12).bind fun l_14 =>
  some (.inl (l_14, w64 (x_10 + 1)))
  else
  some (.inr out_9) : (List (List Int)) × Int → Option (((List (List Int)) × Int) ⊕ (List (List Int))))) ?_
 exact go
end
end Go.Proofs.YtaanfdjhmhifiaaH
