import Derived.Test.YtaanfdjhmhifiaaCx1
import Derived.Test.YtaanfdjhmhifiaaX3
import Derived.Test.YtaanfdjhmhifiaaTd1
set_option maxHeartbeats 2000000
set_option linter.unusedVariables false
set_option linter.unusedSimpArgs false
set_option linter.defProp false
set_option linter.unusedSectionVars false
set_option maxRecDepth 100000
namespace Go.Proofs.YtaanfdjhmhifiaaH
open Go
noncomputable section
abbrev iT (n : Int) : T := .int .i64 n
instance : Cl cx := ⟨fun j h => vsound (fun _ _ _ _ h => h) h, fun f ts t outs h => .ext h⟩
@[simp high] theorem ioz {f : Nat} [h : Io0 cx f] : ioTab f = [] := h.io
@[simp] theorem ioz36 : ioTab 36 = [0] := rfl
@[simp] theorem ioz37 : ioTab 37 = [0] := rfl
@[simp] theorem ioz53 : ioTab 53 = [3] := rfl
@[simp] theorem ioz61 : ioTab 61 = [0] := rfl
@[simp] theorem ioz62 : ioTab 62 = [0] := rfl
@[simp] theorem ioz78 : ioTab 78 = [0] := rfl
@[simp] theorem ioz79 : ioTab 79 = [0] := rfl
@[simp] theorem ioz81 : ioTab 81 = [0] := rfl
instance i14 {code : (List Int)} : Rn cx (f14 code) 14 [(ssl eU code)] (fun (r : Bool) => (.bool r)) (fun r => []) := by
 refine Rn.of rfl rfl (by decide) rfl ?_; unfold f14; exact go
instance : Io0 cx 14 := ⟨rfl⟩
instance i35_0 {code : (List Int)} : Lp cx (f35_0 code) 32 L35_0 (fun (zs : Int × Int) => [(0, .v (ssl eU code)), (3, .v (iT zs.1)), (4, .v (iT zs.2))]) (QX 0 (fun (y : Int) => [(0, .v (ssl eU code)), (3, .v (iT y))])) := by
 refine Lp.of (f := (fun
 | (h_1, i_2) =>
  (jn (QN (fun (y : Bool) => [(0, .v (ssl eU code)), (3, .v (iT h_1)), (4, .v (iT i_2)), (15, .v (.bool y))])) ((if i_2 < (code.length : Int) then
  some (decide (i_2 < 4000))
  else
  some false) : Option (Bool))).bind fun x_3 =>
  if x_3 = true then
  (ix code i_2).bind fun v_7 =>
  some (.inl (band .i64 (w64 ((w64 ((w64 (h_1 * 131)) + (w64 v_7))) + 7)) 1073741823, w64 (i_2 + 1)))
  else
  some (.inr h_1) : Int × Int → Option ((Int × Int) ⊕ Int))) ?_
 exact go
instance i35 {code : (List Int)} : Rn cx (f35 code) 35 [(ssl eU code)] (fun (r : L1Cur) => (.ptr true [(ssl eU r.b), (iT r.i), (iT r.h)])) (fun r => []) := by
 refine Rn.of rfl rfl (by decide) rfl ?_; unfold f35; exact go
instance : Io0 cx 35 := ⟨rfl⟩
instance i62 {c : L1Cur} : Rn cx (f62 c) 62 [(.ptr true [(ssl eU c.b), (iT c.i), (iT c.h)])] (fun (r : Int × L1Cur) => (iT r.1)) (fun r => [(.ptr true [(ssl eU r.2.b), (iT r.2.i), (iT r.2.h)])]) := by
 refine Rn.of (e := (
  (jn (QN (fun (y : Int × Int) => [(0, .v (.ptr true [(ssl eU c.b), (iT y.1), (iT (w64 ((w64 (c.h * 6364136223846793005)) + 1442695040888963407)))])), (3, .v (iT y.2))])) ((if c.i < (c.b.length : Int) then
  (ix c.b c.i).bind fun v_4 =>
  some (w64 (c.i + 1), band .i64 (w64 ((band .i64 (bxor .i64 (sshr .i64 (w64 ((w64 (c.h * 6364136223846793005)) + 1442695040888963407)) 33) (sshr .i64 (w64 ((w64 (c.h * 6364136223846793005)) + 1442695040888963407)) 45)) 255) + (w64 v_4))) 255)
  else
  some (c.i, band .i64 (bxor .i64 (sshr .i64 (w64 ((w64 (c.h * 6364136223846793005)) + 1442695040888963407)) 33) (sshr .i64 (w64 ((w64 (c.h * 6364136223846793005)) + 1442695040888963407)) 45)) 255)) : Option (Int × Int))).bind fun (c_6, x_7) =>
  some (x_7, ({ b := c.b, i := c_6, h := w64 ((w64 (c.h * 6364136223846793005)) + 1442695040888963407) } : L1Cur)) : Option (Int × L1Cur))) rfl rfl (by decide) rfl ?_
 exact go
instance i37 {c : L1Cur} {n1 : Int} : Rn cx (f37 c n1) 37 [(.ptr true [(ssl eU c.b), (iT c.i), (iT c.h)]), (iT n1)] (fun (r : Int × L1Cur) => (iT r.1)) (fun r => [(.ptr true [(ssl eU r.2.b), (iT r.2.i), (iT r.2.h)])]) := by
 refine Rn.of rfl rfl (by decide) rfl ?_; unfold f37; exact go
instance i79 {c : L1Cur} {list : (List Int)} : Rn cx (f79 c list) 79 [(.ptr true [(ssl eU c.b), (iT c.i), (iT c.h)]), (ssl eI list)] (fun (r : Int × L1Cur) => (iT r.1)) (fun r => [(.ptr true [(ssl eU r.2.b), (iT r.2.i), (iT r.2.h)])]) := by
 refine Rn.of rfl rfl (by decide) rfl ?_; unfold f79; exact go
instance i78 {c : L1Cur} : Rn cx (f78 c) 78 [(.ptr true [(ssl eU c.b), (iT c.i), (iT c.h)])] (fun (r : (List Relation) × L1Cur) => (osl eRelation true r.1)) (fun r => [(.ptr true [(ssl eU r.2.b), (iT r.2.i), (iT r.2.h)])]) := by
 refine Rn.of (e := (
  sn 5 6 (osl eI true ([1, 1, 2, 0])) <| 
  sn 0 6 (ssl eI ([1, 1, 2, 0])) <| 
  (f79 c ([1, 1, 2, 0])).bind fun o1 =>
  (f37 o1.2 2).bind fun o3 =>
  sn 4 2 (osl eRelation true ([({ Name := [114], Arity := 2, KeyLength := 1 } : Relation), ({ Name := [115], Arity := 2, KeyLength := 1 } : Relation), ({ Name := [116], Arity := 2, KeyLength := o1.1 } : Relation), ({ Name := [117], Arity := 3, KeyLength := w64 (1 + o3.1) } : Relation)])) <| 
  some ([({ Name := [114], Arity := 2, KeyLength := 1 } : Relation), ({ Name := [115], Arity := 2, KeyLength := 1 } : Relation), ({ Name := [116], Arity := 2, KeyLength := o1.1 } : Relation), ({ Name := [117], Arity := 3, KeyLength := w64 (1 + o3.1) } : Relation)], o3.2) : Option ((List Relation) × L1Cur))) rfl rfl (by decide) rfl ?_
 exact go
instance i81_0 {l : (List Relation)} {val : Int} : Lp cx (f81_0 l val) 32 L81_0 (fun (zs : (List Int) × Int × Int × Int × (List Int)) => [(0, .v (.ptr true [(ssl eU zs.1), (iT zs.2.1), (iT zs.2.2.1)])), (1, .v (ssl eRelation l)), (2, .v (iT val)), (6, .v (.ptr true [(iT 0), (osl eI true ([]))])), (7, .v (.ptr true [(iT zs.2.2.2.1), (osl eI true zs.2.2.2.2)]))]) (QX 0 (fun (y : (List Int) × Int × Int × Int × (List Int)) => [(0, .v (.ptr true [(ssl eU y.1), (iT y.2.1), (iT y.2.2.1)])), (6, .v (.ptr true [(iT 0), (osl eI true ([]))])), (7, .v (.ptr true [(iT y.2.2.2.1), (osl eI true y.2.2.2.2)]))])) := by
 refine Lp.of ?_; unfold f81_0; exact go
instance i81 {c : L1Cur} {l : (List Relation)} {val : Int} : Rn cx (f81 c l val) 81 [(.ptr true [(ssl eU c.b), (iT c.i), (iT c.h)]), (ssl eRelation l), (iT val)] (fun (r : Fact × L1Cur) => (.agg [(iT r.1.Relation), (osl eI true r.1.Values)])) (fun r => [(.ptr true [(ssl eU r.2.b), (iT r.2.i), (iT r.2.h)])]) := by
 refine Rn.of (e := (
  sn 1 6 (.ptr true [(iT 0), (osl eI true ([]))]) <| 
  (f37 c (l.length : Int)).bind fun o1 =>
  sn 2 12 (.agg [(iT o1.1), (osl eI true ([]))]) <| 
  (iter (f81_0 l val) (o1.2.b, o1.2.i, o1.2.h, o1.1, [])).bind fun (c_17, c_18, c_19, f_20, f_21) =>
  some (({ Relation := f_20, Values := f_21 } : Fact), ({ b := c_17, i := c_18, h := c_19 } : L1Cur)) : Option (Fact × L1Cur))) rfl rfl (by decide) rfl ?_
 exact go
instance i85_0 {d : Database} : Lp cx (f85_0 d) 38 L85_0 (fun (zs : (List Relation) × (List Fact) × Int) => [(1, .v (.ptr true [(ssl eRelation d.Relations), (ssl eFact d.Facts)])), (2, .v (.ptr true [(osl eRelation true ([])), (osl eFact true ([]))])), (3, .v (.ptr true [(osl eRelation true zs.1), (osl eFact true zs.2.1)])), (4, .v (iT zs.2.2))]) (QX 0 (fun (y : (List Relation) × (List Fact)) => [(2, .v (.ptr true [(osl eRelation true ([])), (osl eFact true ([]))])), (3, .v (.ptr true [(osl eRelation true y.1), (osl eFact true y.2)]))])) := by
 refine Lp.of (f := (fun
 | (x_3, x_4, i_5) =>
  if i_5 < (d.Facts.length : Int) then
  (ix d.Facts i_5).bind fun v_7 =>
  (app 8 ([]) v_7.Values).bind fun l_9 =>
  sn 16 32 (osl eI true l_9) <| 
  (app 32 x_4 ([({ Relation := v_7.Relation, Values := l_9 } : Fact)])).bind fun l_11 =>
  some (.inl (x_3, l_11, w64 (i_5 + 1)))
  else
  some (.inr (x_3, x_4)) : (List Relation) × (List Fact) × Int → Option (((List Relation) × (List Fact) × Int) ⊕ ((List Relation) × (List Fact))))) ?_
 exact go
instance i85 {d : Database} : Rn cx (f85 d) 85 [(.agg [(ssl eRelation d.Relations), (ssl eFact d.Facts)])] (fun (r : Database) => (.agg [(osl eRelation true r.Relations), (osl eFact true r.Facts)])) (fun r => []) := by
 refine Rn.of (e := (
  sn 2 2 (.ptr true [(osl eRelation true ([])), (osl eFact true ([]))]) <| 
  (app 32 ([]) d.Relations).bind fun l_1 =>
  sn 4 8 (osl eRelation true l_1) <| 
  sn 2 9 (.agg [(osl eRelation true l_1), (osl eFact true ([]))]) <| 
  (iter (f85_0 d) (l_1, [], 0)).bind fun (x_15, x_16) =>
  some ({ Relations := x_15, Facts := x_16 } : Database) : Option Database)) rfl rfl (by decide) rfl ?_
 exact go
instance : Io0 cx 85 := ⟨rfl⟩
instance i21 {x : Int} {low : Int} {high : Int} : Rn cx (f21 x low high) 21 [(iT x), (iT low), (iT high)] (fun (r : Bool) => (.bool r)) (fun r => []) := by
 refine Rn.of (e := (
  (jn (QN (fun (y : Bool) => [(6, .v (.bool y))])) ((if x ≥ low then
  some (decide (x ≤ high))
  else
  some false) : Option (Bool))).bind fun x_1 =>
  some x_1 : Option Bool)) rfl rfl (by decide) rfl ?_
 exact go
instance : Io0 cx 21 := ⟨rfl⟩
instance i67 {s0 : Relation} : Rn cx (f67 s0) 67 [(.agg [(.str s0.Name), (iT s0.Arity), (iT s0.KeyLength)])] (fun (r : Bool) => (.bool r)) (fun r => []) := by
 refine Rn.of (e := (
  (jn (QN (fun (y : Bool) => [(2, .v (.bool y))])) ((if (s0.Name.length : Int) = 1 then
  (ix s0.Name 0).bind fun c_4 =>
  (jn (QN (fun (y : Bool) => [(2, .v (.bool y))])) ((if (c_4.toNat : Int) ≥ 97 then
  (jn (QN (fun (y : Bool) => [(2, .v (.bool y))])) ((if (c_4.toNat : Int) ≤ 122 then
  (f21 s0.Arity 1 3).bind fun o12 =>
  (jn (QN (fun (y : Bool) => [(2, .v (.bool y))])) ((if o12 = true then
  (f21 s0.KeyLength 0 s0.Arity).bind fun o17 =>
  some o17
  else
  some false) : Option (Bool))).bind fun x_14 =>
  some x_14
  else
  some false) : Option (Bool))).bind fun x_9 =>
  some x_9
  else
  some false) : Option (Bool))).bind fun x_6 =>
  some x_6
  else
  some false) : Option (Bool))).bind fun x_1 =>
  some x_1 : Option Bool)) rfl rfl (by decide) rfl ?_
 exact go
instance : Io0 cx 67 := ⟨rfl⟩
instance i43_0 {l : (List Relation)} : Lp cx (f43_0 l) 37 L43_0 (fun (zs : Int) => [(0, .v (ssl eRelation l)), (3, .v (iT zs))]) (QO (QX 0 (fun (y : Unit) => [(0, .v (ssl eRelation l))])) (QR (fun (y : Bool) => [(2, .v (.bool y))]))) := by
 refine Lp.of (f := (fun
 | i_1 =>
  if i_1 < (l.length : Int) then
  (ix l i_1).bind fun v_3 =>
  (f67 v_3).bind fun o5 =>
  (jn (QN (fun (y : Bool) => [(0, .v (ssl eRelation l)), (3, .v (iT i_1)), (33, .v (.bool y))])) ((if ¬ (o5 = true) then
  some true
  else
  (jn (QN (fun (y : Bool) => [(0, .v (ssl eRelation l)), (3, .v (iT i_1)), (33, .v (.bool y))])) ((if i_1 > 0 then
  (ix l (w64 (i_1 - 1))).bind fun v_13 =>
  some (!(Op.bytesLess v_13.Name v_3.Name))
  else
  some false) : Option (Bool))).bind fun x_10 =>
  some x_10) : Option (Bool))).bind fun x_7 =>
  if x_7 = true then
  some (.inr (.inr false))
  else
  some (.inl (w64 (i_1 + 1)))
  else
  some (.inr (.inl ())) : Int → Option (Int ⊕ (Unit ⊕ Bool)))) ?_
 exact go
instance i43 {l : (List Relation)} : Rn cx (f43 l) 43 [(ssl eRelation l)] (fun (r : Bool) => (.bool r)) (fun r => []) := by
 refine Rn.of rfl rfl (by decide) rfl ?_; unfold f43; exact go
instance : Io0 cx 43 := ⟨rfl⟩
instance i41_0 {f : Fact} : Lp cx (f41_0 f) 44 L41_0 (fun (zs : Int) => [(3, .v (.ptr true [(iT f.Relation), (ssl eI f.Values)])), (5, .v (iT zs))]) (QO (QX 0 (fun (y : Unit) => [])) (QR (fun (y : Bool) => [(4, .v (.bool y))]))) := by
 refine Lp.of ?_; unfold f41_0; exact go
instance i41 {l : (List Relation)} {f : Fact} : Rn cx (f41 l f) 41 [(ssl eRelation l), (.agg [(iT f.Relation), (ssl eI f.Values)])] (fun (r : Bool) => (.bool r)) (fun r => []) := by
 refine Rn.of (e := (
  (f43 l).bind fun o1 =>
  (jn (QN (fun (y : Bool) => [(3, .v (.ptr true [(iT f.Relation), (ssl eI f.Values)])), (29, .v (.bool y))])) ((if ¬ (o1 = true) then
  some true
  else
  (f21 f.Relation 0 (w64 ((l.length : Int) - 1))).bind fun o6 =>
  (jn (QN (fun (y : Bool) => [(3, .v (.ptr true [(iT f.Relation), (ssl eI f.Values)])), (29, .v (.bool y))])) ((if ¬ (o6 = true) then
  some true
  else
  (ix l f.Relation).bind fun v_11 =>
  some (decide ((f.Values.length : Int) ≠ v_11.Arity))) : Option (Bool))).bind fun x_8 =>
  some x_8) : Option (Bool))).bind fun x_3 =>
  if x_3 = true then
  some false
  else
  (iter (f41_0 f) 0).bind fun o => match o with
  | .inl _ =>
  some true
  | .inr x_23 =>
  some x_23 : Option Bool)) rfl rfl (by decide) rfl ?_
 exact go
instance : Io0 cx 41 := ⟨rfl⟩
instance i66_0 {a : (List Int)} {b : (List Int)} : Lp cx (f66_0 a b) 46 L66_0 (fun (zs : Int) => [(0, .v (ssl eI a)), (1, .v (ssl eI b)), (5, .v (iT zs))]) (QO (QX 0 (fun (y : Unit) => [(0, .v (ssl eI a)), (1, .v (ssl eI b))])) (QR (fun (y : Int) => [(4, .v (iT y))]))) := by
 refine Lp.of (f := (fun
 | i_1 =>
  (jn (QN (fun (y : Bool) => [(0, .v (ssl eI a)), (1, .v (ssl eI b)), (5, .v (iT i_1)), (15, .v (.bool y))])) ((if i_1 < (a.length : Int) then
  some (decide (i_1 < (b.length : Int)))
  else
  some false) : Option (Bool))).bind fun x_2 =>
  if x_2 = true then
  (ix a i_1).bind fun v_6 =>
  (ix b i_1).bind fun v_8 =>
  if v_6 < v_8 then
  some (.inr (.inr (-1)))
  else
  if v_6 > v_8 then
  some (.inr (.inr 1))
  else
  some (.inl (w64 (i_1 + 1)))
  else
  some (.inr (.inl ())) : Int → Option (Int ⊕ (Unit ⊕ Int)))) ?_
 exact go
instance i66 {a : (List Int)} {b : (List Int)} : Rn cx (f66 a b) 66 [(ssl eI a), (ssl eI b)] (fun (r : Int) => (iT r)) (fun r => []) := by
 refine Rn.of rfl rfl (by decide) rfl ?_; unfold f66; exact go
instance : Io0 cx 66 := ⟨rfl⟩
instance i42 {a : Fact} {b : Fact} : Rn cx (f42 a b) 42 [(.agg [(iT a.Relation), (ssl eI a.Values)]), (.agg [(iT b.Relation), (ssl eI b.Values)])] (fun (r : Int) => (iT r)) (fun r => []) := by
 refine Rn.of rfl rfl (by decide) rfl ?_; unfold f42; exact go
instance : Io0 cx 42 := ⟨rfl⟩
instance i18_0 {d : Database} : Lp cx (f18_0 d) 48 L18_0 (fun (zs : Int) => [(1, .v (.ptr true [(ssl eRelation d.Relations), (ssl eFact d.Facts)])), (3, .v (iT zs))]) (QO (QX 0 (fun (y : Unit) => [(1, .v (.ptr true [(ssl eRelation d.Relations), (ssl eFact d.Facts)]))])) (QR (fun (y : Bool) => [(2, .v (.bool y))]))) := by
 refine Lp.of (f := (fun
 | i_1 =>
  if i_1 < (d.Facts.length : Int) then
  (ix d.Facts i_1).bind fun v_3 =>
  (f41 d.Relations v_3).bind fun o5 =>
  (jn (QN (fun (y : Bool) => [(1, .v (.ptr true [(ssl eRelation d.Relations), (ssl eFact d.Facts)])), (3, .v (iT i_1)), (38, .v (.bool y))])) ((if ¬ (o5 = true) then
  some true
  else
  (jn (QN (fun (y : Bool) => [(1, .v (.ptr true [(ssl eRelation d.Relations), (ssl eFact d.Facts)])), (3, .v (iT i_1)), (38, .v (.bool y))])) ((if i_1 > 0 then
  (ix d.Facts (w64 (i_1 - 1))).bind fun v_13 =>
  (f42 v_13 v_3).bind fun o15 =>
  some (decide (o15 ≥ 0))
  else
  some false) : Option (Bool))).bind fun x_10 =>
  some x_10) : Option (Bool))).bind fun x_7 =>
  if x_7 = true then
  some (.inr (.inr false))
  else
  some (.inl (w64 (i_1 + 1)))
  else
  some (.inr (.inl ())) : Int → Option (Int ⊕ (Unit ⊕ Bool)))) ?_
 exact go
instance i18 {d : Database} : Rn cx (f18 d) 18 [(.agg [(ssl eRelation d.Relations), (ssl eFact d.Facts)])] (fun (r : Bool) => (.bool r)) (fun r => []) := by
 refine Rn.of (e := (
  (iter (f18_0 d) 0).bind fun o => match o with
  | .inl _ =>
  (f43 d.Relations).bind fun o21 =>
  (jn (QN (fun (y : Bool) => [(2, .v (.bool y))])) ((if o21 = true then
  some (decide ((d.Facts.length : Int) ≤ 14))
  else
  some false) : Option (Bool))).bind fun x_23 =>
  some x_23
  | .inr x_20 =>
  some x_20 : Option Bool)) rfl rfl (by decide) rfl ?_
 exact go
instance : Io0 cx 18 := ⟨rfl⟩
instance i89_0 {d : Database} {f : Fact} : Lp cx (f89_0 d f) 22 L89_0 (fun (zs : Int) => [(2, .v (.ptr true [(ssl eRelation d.Relations), (ssl eFact d.Facts)])), (3, .v (.ptr true [(iT f.Relation), (ssl eI f.Values)])), (5, .v (iT zs))]) (QO (QX 0 (fun (y : Unit) => [])) (QR (fun (y : Int) => [(4, .v (iT y))]))) := by
 refine Lp.of ?_; unfold f89_0; exact go
instance i89 {d : Database} {f : Fact} : Rn cx (f89 d f) 89 [(.agg [(ssl eRelation d.Relations), (ssl eFact d.Facts)]), (.agg [(iT f.Relation), (ssl eI f.Values)])] (fun (r : Int) => (iT r)) (fun r => []) := by
 refine Rn.of rfl rfl (by decide) rfl ?_; unfold f89; exact go
instance : Io0 cx 89 := ⟨rfl⟩
instance i86 {d : Database} {f : Fact} : Rn cx (f86 d f) 86 [(.agg [(ssl eRelation d.Relations), (ssl eFact d.Facts)]), (.agg [(iT f.Relation), (ssl eI f.Values)])] (fun (r : Bool) => (.bool r)) (fun r => []) := by
 refine Rn.of (e := (
  (f18 d).bind fun o1 =>
  (jn (QN (fun (y : Bool) => [(4, .v (.bool y))])) ((if o1 = true then
  (f89 d f).bind fun o6 =>
  some (decide (o6 ≥ 0))
  else
  some false) : Option (Bool))).bind fun x_3 =>
  some x_3 : Option Bool)) rfl rfl (by decide) rfl ?_
 exact go
instance : Io0 cx 86 := ⟨rfl⟩
instance i80_0 {f : Fact} {o1 : Database} : Lp cx (f80_0 f o1) 73 L80_0 (fun (zs : Int) => [(3, .v (.ptr true [(iT f.Relation), (ssl eI f.Values)])), (4, .v (.ptr true [(osl eRelation true ([])), (osl eFact true ([]))])), (6, .v (.ptr true [(osl eRelation true o1.Relations), (osl eFact true o1.Facts)])), (7, .v (iT zs))]) (QX 0 (fun (y : Int) => [(3, .v (.ptr true [(iT f.Relation), (ssl eI f.Values)])), (4, .v (.ptr true [(osl eRelation true ([])), (osl eFact true ([]))])), (6, .v (.ptr true [(osl eRelation true o1.Relations), (osl eFact true o1.Facts)])), (7, .v (iT y))])) := by
 refine Lp.of (f := (fun
 | k_19 =>
  (jn (QN (fun (y : Bool) => [(3, .v (.ptr true [(iT f.Relation), (ssl eI f.Values)])), (4, .v (.ptr true [(osl eRelation true ([])), (osl eFact true ([]))])), (6, .v (.ptr true [(osl eRelation true o1.Relations), (osl eFact true o1.Facts)])), (7, .v (iT k_19)), (47, .v (.bool y))])) ((if k_19 < (o1.Facts.length : Int) then
  (ix o1.Facts k_19).bind fun v_23 =>
  (f42 v_23 f).bind fun o25 =>
  some (decide (o25 < 0))
  else
  some false) : Option (Bool))).bind fun x_20 =>
  if x_20 = true then
  some (.inl (w64 (k_19 + 1)))
  else
  some (.inr k_19) : Int → Option (Int ⊕ Int))) ?_
 exact go
instance i80 {d : Database} {f : Fact} : Rn cx (f80 d f) 80 [(.agg [(ssl eRelation d.Relations), (ssl eFact d.Facts)]), (.agg [(iT f.Relation), (ssl eI f.Values)])] (fun (r : Database × Bool) => (.tup [(.agg [(osl eRelation true r.1.Relations), (osl eFact false r.1.Facts)]), (.bool r.2)])) (fun r => []) := by
 refine Rn.of (e := (
  sn 4 4 (.ptr true [(osl eRelation true ([])), (osl eFact true ([]))]) <| 
  (f85 d).bind fun o1 =>
  (f18 d).bind fun o3 =>
  (jn (QN (fun (y : Bool) => [(3, .v (.ptr true [(iT f.Relation), (ssl eI f.Values)])), (4, .v (.ptr true [(osl eRelation true ([])), (osl eFact true ([]))])), (6, .v (.ptr true [(osl eRelation true o1.Relations), (osl eFact true o1.Facts)])), (31, .v (.bool y))])) ((if ¬ (o3 = true) then
  some true
  else
  (f41 d.Relations f).bind fun o8 =>
  (jn (QN (fun (y : Bool) => [(3, .v (.ptr true [(iT f.Relation), (ssl eI f.Values)])), (4, .v (.ptr true [(osl eRelation true ([])), (osl eFact true ([]))])), (6, .v (.ptr true [(osl eRelation true o1.Relations), (osl eFact true o1.Facts)])), (31, .v (.bool y))])) ((if ¬ (o8 = true) then
  some true
  else
  (f86 d f).bind fun o13 =>
  (jn (QN (fun (y : Bool) => [(3, .v (.ptr true [(iT f.Relation), (ssl eI f.Values)])), (4, .v (.ptr true [(osl eRelation true ([])), (osl eFact true ([]))])), (6, .v (.ptr true [(osl eRelation true o1.Relations), (osl eFact true o1.Facts)])), (31, .v (.bool y))])) ((if o13 = true then
  some true
  else
  some (decide ((d.Facts.length : Int) = 14))) : Option (Bool))).bind fun x_15 =>
  some x_15) : Option (Bool))).bind fun x_10 =>
  some x_10) : Option (Bool))).bind fun x_5 =>
  if x_5 = true then
  some (o1, false)
  else
  (iter (f80_0 f o1) 0).bind fun k_30 =>
  sn 5 6 (.ptr true [(osl eRelation true o1.Relations), (ssl eFact o1.Facts)]) <| 
  (cutL o1.Facts k_30 o1.Facts.length).bind fun l_31 =>
  (app 8 ([]) f.Values).bind fun l_33 =>
  sn 5 55 (osl eI true l_33) <| 
  sn 1 56 (.agg [(iT f.Relation), (ssl eI l_33)]) <| 
  (app 32 ([({ Relation := f.Relation, Values := l_33 } : Fact)]) l_31).bind fun l_35 =>
  sn 3 8 (osl eFact false l_35) <| 
  (cutL o1.Facts 0 k_30).bind fun l_37 =>
  (app 32 ([]) l_37).bind fun l_39 =>
  (app 32 l_39 l_35).bind fun l_41 =>
  sn 9 70 (osl eFact false l_41) <| 
  some (({ Relations := o1.Relations, Facts := l_41 } : Database), true) : Option (Database × Bool))) rfl rfl (by decide) rfl ?_
 exact go
instance : Io0 cx 80 := ⟨rfl⟩
instance i61_0 {o3 : (Int × L1Cur)} : Lp cx (f61_0 o3) 30 L61_0 (fun (zs : (List Int) × Int × Int × (List Relation) × (List Fact) × Int) => [(0, .v (.ptr true [(ssl eU zs.1), (iT zs.2.1), (iT zs.2.2.1)])), (2, .v (.ptr true [(osl eRelation true ([])), (osl eFact true ([]))])), (3, .v (.ptr true [(osl eRelation true zs.2.2.2.1), (osl eFact false zs.2.2.2.2.1)])), (4, .v (iT o3.1)), (5, .v (iT zs.2.2.2.2.2))]) (QX 0 (fun (y : (List Int) × Int × Int × (List Relation) × (List Fact)) => [(0, .v (.ptr true [(ssl eU y.1), (iT y.2.1), (iT y.2.2.1)])), (2, .v (.ptr true [(osl eRelation true ([])), (osl eFact true ([]))])), (3, .v (.ptr true [(osl eRelation true y.2.2.2.1), (osl eFact false y.2.2.2.2)]))])) := by
 refine Lp.of (f := (fun
 | (c_7, c_8, c_9, d_10, d_11, n_12) =>
  if n_12 > 0 then
  sn 0 3 (.ptr true [(ssl eRelation d_10), (ssl eFact d_11)]) <| 
  (f81 ({ b := c_7, i := c_8, h := c_9 } : L1Cur) d_10 o3.1).bind fun o14 =>
  sn 0 25 (.agg [(iT o14.1.Relation), (ssl eI o14.1.Values)]) <| 
  (f80 ({ Relations := d_10, Facts := d_11 } : Database) o14.1).bind fun o16 =>
  some (.inl (o14.2.b, o14.2.i, o14.2.h, o16.1.Relations, o16.1.Facts, w64 (n_12 - 1)))
  else
  some (.inr (c_7, c_8, c_9, d_10, d_11)) : (List Int) × Int × Int × (List Relation) × (List Fact) × Int → Option (((List Int) × Int × Int × (List Relation) × (List Fact) × Int) ⊕ ((List Int) × Int × Int × (List Relation) × (List Fact))))) ?_
 exact go
instance i61 {c : L1Cur} : Rn cx (f61 c) 61 [(.ptr true [(ssl eU c.b), (iT c.i), (iT c.h)])] (fun (r : Database × L1Cur) => (.agg [(osl eRelation true r.1.Relations), (osl eFact false r.1.Facts)])) (fun r => [(.ptr true [(ssl eU r.2.b), (iT r.2.i), (iT r.2.h)])]) := by
 refine Rn.of (e := (
  sn 1 2 (.ptr true [(osl eRelation true ([])), (osl eFact true ([]))]) <| 
  (f78 c).bind fun o1 =>
  sn 2 8 (.agg [(osl eRelation true o1.1), (osl eFact true ([]))]) <| 
  sn 3 10 (osl eI true ([2, 2, 3, 3])) <| 
  sn 0 10 (ssl eI ([2, 2, 3, 3])) <| 
  (f79 o1.2 ([2, 2, 3, 3])).bind fun o3 =>
  (f37 o3.2 11).bind fun o5 =>
  (iter (f61_0 o3) (o5.2.b, o5.2.i, o5.2.h, o1.1, [], w64 (2 + o5.1))).bind fun (c_20, c_21, c_22, d_23, d_24) =>
  some (({ Relations := d_23, Facts := d_24 } : Database), ({ b := c_20, i := c_21, h := c_22 } : L1Cur)) : Option (Database × L1Cur))) rfl rfl (by decide) rfl ?_
 exact go
instance i36_0 {o1 : (Database × L1Cur)} : Lp cx (lw o1 f36_0) 19 L36_0 (fun (zs : (List Relation) × (List Fact)) => [(0, .v (.ptr true [(ssl eU o1.2.b), (iT o1.2.i), (iT o1.2.h)])), (2, .v (.ptr true [(osl eRelation true ([])), (osl eFact true ([]))])), (3, .v (.ptr true [(osl eRelation true zs.1), (ssl eFact zs.2)]))]) (QX 0 (fun (y : (List Relation) × (List Fact)) => [(0, .v (.ptr true [(ssl eU o1.2.b), (iT o1.2.i), (iT o1.2.h)])), (2, .v (.ptr true [(osl eRelation true ([])), (osl eFact true ([]))])), (3, .v (.ptr true [(osl eRelation true y.1), (ssl eFact y.2)]))])) := by
 refine Lp.of ?_; unfold lw f36_0; exact go
instance i36 {c : L1Cur} : Rn cx (f36 c) 36 [(.ptr true [(ssl eU c.b), (iT c.i), (iT c.h)])] (fun (r : Database × L1Cur) => (.agg [(osl eRelation true r.1.Relations), (ssl eFact r.1.Facts)])) (fun r => [(.ptr true [(ssl eU r.2.b), (iT r.2.i), (iT r.2.h)])]) := by
 refine Rn.of (e := (
  sn 1 2 (.ptr true [(osl eRelation true ([])), (osl eFact true ([]))]) <| 
  (f61 c).bind fun o1 =>
  (iter (lw o1  f36_0) (o1.1.Relations, o1.1.Facts)).bind fun (d_10, d_11) =>
  some (({ Relations := d_10, Facts := d_11 } : Database), o1.2) : Option (Database × L1Cur))) rfl rfl (by decide) rfl ?_
 exact go
instance i15 {code : (List Int)} : Rn cx (f15 code) 15 [(ssl eU code)] (fun (r : Database × Int) => (.tup [(.agg [(ssl eRelation r.1.Relations), (ssl eFact r.1.Facts)]), (iT r.2)])) (fun r => []) := by
 refine Rn.of (e := (
  sn 2 2 (.ptr true [(osl eRelation true ([])), (osl eFact true ([]))]) <| 
  (f35 code).bind fun o1 =>
  (f36 o1).bind fun o3 =>
  (f37 o3.2 6).bind fun o5 =>
  some (o3.1, w64 (o5.1 - 1)) : Option (Database × Int))) rfl rfl (by decide) rfl ?_
 exact go
instance : Io0 cx 15 := ⟨rfl⟩
instance i26 {n0 : Int} {low : Int} {high : Int} : Rn cx (f26 n0 low high) 26 [(iT n0), (iT low), (iT high)] (fun (r : Bool) => (.bool r)) (fun r => []) := by
 refine Rn.of (e := (
  (jn (QN (fun (y : Bool) => [(6, .v (.bool y))])) ((if low ≤ n0 then
  some (decide (n0 ≤ high))
  else
  some false) : Option (Bool))).bind fun x_1 =>
  some x_1 : Option Bool)) rfl rfl (by decide) rfl ?_
 exact go
instance : Io0 cx 26 := ⟨rfl⟩
instance i72 {relation : Relation} : Rn cx (f72 relation) 72 [(.agg [(.str relation.Name), (iT relation.Arity), (iT relation.KeyLength)])] (fun (r : Bool) => (.bool r)) (fun r => []) := by
 refine Rn.of (e := (
  (jn (QN (fun (y : Bool) => [(2, .v (.bool y))])) ((if (relation.Name.length : Int) = 1 then
  (ix relation.Name 0).bind fun c_4 =>
  (jn (QN (fun (y : Bool) => [(2, .v (.bool y))])) ((if (c_4.toNat : Int) ≥ 97 then
  (jn (QN (fun (y : Bool) => [(2, .v (.bool y))])) ((if (c_4.toNat : Int) ≤ 122 then
  (f26 relation.Arity 1 3).bind fun o12 =>
  (jn (QN (fun (y : Bool) => [(2, .v (.bool y))])) ((if o12 = true then
  (f26 relation.KeyLength 0 relation.Arity).bind fun o17 =>
  some o17
  else
  some false) : Option (Bool))).bind fun x_14 =>
  some x_14
  else
  some false) : Option (Bool))).bind fun x_9 =>
  some x_9
  else
  some false) : Option (Bool))).bind fun x_6 =>
  some x_6
  else
  some false) : Option (Bool))).bind fun x_1 =>
  some x_1 : Option Bool)) rfl rfl (by decide) rfl ?_
 exact go
instance : Io0 cx 72 := ⟨rfl⟩
instance i50_0 {relations : (List Relation)} : Lp cx (f50_0 relations) 34 L50_0 (fun (zs : Int) => [(0, .v (ssl eRelation relations)), (5, .v (ssl eRelation relations)), (6, .v (iT (relations.length : Int))), (7, .v (iT zs))]) (QO (QX 0 (fun (y : Unit) => [(0, .v (ssl eRelation relations))])) (QR (fun (y : Bool) => [(2, .v (.bool y))]))) := by
 refine Lp.of (f := (fun
 | x_1 =>
  if x_1 < (relations.length : Int) then
  (ix relations x_1).bind fun v_3 =>
  (f72 v_3).bind fun o5 =>
  (jn (QN (fun (y : Bool) => [(0, .v (ssl eRelation relations)), (5, .v (ssl eRelation relations)), (6, .v (iT (relations.length : Int))), (7, .v (iT x_1)), (29, .v (.bool y))])) ((if ¬ (o5 = true) then
  some true
  else
  (jn (QN (fun (y : Bool) => [(0, .v (ssl eRelation relations)), (5, .v (ssl eRelation relations)), (6, .v (iT (relations.length : Int))), (7, .v (iT x_1)), (29, .v (.bool y))])) ((if x_1 > 0 then
  (ix relations (w64 (x_1 - 1))).bind fun v_13 =>
  some (!(Op.bytesLess v_13.Name v_3.Name))
  else
  some false) : Option (Bool))).bind fun x_10 =>
  some x_10) : Option (Bool))).bind fun x_7 =>
  if x_7 = true then
  some (.inr (.inr false))
  else
  some (.inl (w64 (x_1 + 1)))
  else
  some (.inr (.inl ())) : Int → Option (Int ⊕ (Unit ⊕ Bool)))) ?_
 exact go
instance i50 {relations : (List Relation)} : Rn cx (f50 relations) 50 [(ssl eRelation relations)] (fun (r : Bool) => (.bool r)) (fun r => []) := by
 refine Rn.of rfl rfl (by decide) rfl ?_; unfold f50; exact go
instance : Io0 cx 50 := ⟨rfl⟩
instance i76_0 {s0 : (List Int)} {g_f : Nat} {cp_f : List T} {f : Int → Option Bool} [hp_f : ∀ x0, Rn cx (f x0) g_f ((iT x0) :: cp_f) (fun o => (.bool o)) (fun _ => [])] [Io0 cx g_f] : Lp cx (f76_0 s0 f) 19 L76_0 (fun (zs : Int) => [(0, .v (ssl eI s0)), (1, .v (.fn g_f cp_f)), (7, .v (iT (s0.length : Int))), (8, .v (iT zs))]) (QO (QX 0 (fun (y : Unit) => [])) (QR (fun (y : Int) => [(4, .v (iT y))]))) := by
 refine Lp.of ?_; unfold f76_0; exact go
instance i76 {s0 : (List Int)} {g_f : Nat} {cp_f : List T} {f : Int → Option Bool} [hp_f : ∀ x0, Rn cx (f x0) g_f ((iT x0) :: cp_f) (fun o => (.bool o)) (fun _ => [])] [Io0 cx g_f] : Rn cx (f76 s0 f) 76 [(ssl eI s0), (.fn g_f cp_f)] (fun (r : Int) => (iT r)) (fun r => []) := by
 refine Rn.of rfl rfl (by decide) rfl ?_; unfold f76; exact go
instance : Io0 cx 76 := ⟨rfl⟩
instance i54 {s0 : (List Int)} {g_f : Nat} {cp_f : List T} {f : Int → Option Bool} [hp_f : ∀ x0, Rn cx (f x0) g_f ((iT x0) :: cp_f) (fun o => (.bool o)) (fun _ => [])] [Io0 cx g_f] : Rn cx (f54 s0 f) 54 [(ssl eI s0), (.fn g_f cp_f)] (fun (r : Bool) => (.bool r)) (fun r => []) := by
 refine Rn.of rfl rfl (by decide) rfl ?_; unfold f54; exact go
instance : Io0 cx 54 := ⟨rfl⟩
instance i83 {v : Int} : Rn cx (f83 v) 83 [(iT v)] (fun (r : Bool) => (.bool r)) (fun r => []) := by
 refine Rn.of rfl rfl (by decide) rfl ?_; unfold f83; exact go
instance : Io0 cx 83 := ⟨rfl⟩
instance i73 {list : (List Int)} : Rn cx (f73 list) 73 [(ssl eI list)] (fun (r : Bool) => (.bool r)) (fun r => []) := by
 refine Rn.of rfl rfl (by decide) rfl ?_; unfold f73; exact go
instance : Io0 cx 73 := ⟨rfl⟩
instance i51 {relations : (List Relation)} {fact : Fact} : Rn cx (f51 relations fact) 51 [(ssl eRelation relations), (.agg [(iT fact.Relation), (ssl eI fact.Values)])] (fun (r : Bool) => (.bool r)) (fun r => []) := by
 refine Rn.of (e := (
  (f26 fact.Relation 0 (w64 ((relations.length : Int) - 1))).bind fun o1 =>
  (jn (QN (fun (y : Bool) => [(4, .v (.bool y))])) ((if o1 = true then
  (ix relations fact.Relation).bind fun v_6 =>
  (jn (QN (fun (y : Bool) => [(4, .v (.bool y))])) ((if (fact.Values.length : Int) = v_6.Arity then
  (f73 fact.Values).bind fun o11 =>
  some o11
  else
  some false) : Option (Bool))).bind fun x_8 =>
  some x_8
  else
  some false) : Option (Bool))).bind fun x_3 =>
  some x_3 : Option Bool)) rfl rfl (by decide) rfl ?_
 exact go
instance : Io0 cx 51 := ⟨rfl⟩
instance i74 {a : Int} {b : Int} : Rn cx (f74 a b) 74 [(iT a), (iT b)] (fun (r : Int) => (iT r)) (fun r => []) := by
 refine Rn.of rfl rfl (by decide) rfl ?_; unfold f74; exact go
instance : Io0 cx 74 := ⟨rfl⟩
instance i88 {x : Int} : Rn cx (f88 x) 88 [(iT x)] (fun (r : Bool) => (.bool r)) (fun r => []) := by
 refine Rn.of rfl rfl (by decide) rfl ?_; unfold f88; exact go
instance : Io0 cx 88 := ⟨rfl⟩
instance i84 {x : Int} {y : Int} : Rn cx (f84 x y) 84 [(iT x), (iT y)] (fun (r : Int) => (iT r)) (fun r => []) := by
 refine Rn.of rfl rfl (by decide) rfl ?_; unfold f84; exact go
instance : Io0 cx 84 := ⟨rfl⟩
instance i75_0 {s1 : (List Int)} {s2 : (List Int)} : Lp cx (f75_0 s1 s2) 36 L75_0 (fun (zs : Int) => [(0, .v (ssl eI s1)), (1, .v (ssl eI s2)), (9, .v (ssl eI s1)), (10, .v (iT (s1.length : Int))), (11, .v (iT zs))]) (QO (QX 0 (fun (y : Unit) => [(0, .v (ssl eI s1)), (1, .v (ssl eI s2))])) (QR (fun (y : Int) => [(4, .v (iT y))]))) := by
 refine Lp.of ?_; unfold f75_0; exact go
instance i75 {s1 : (List Int)} {s2 : (List Int)} : Rn cx (f75 s1 s2) 75 [(ssl eI s1), (ssl eI s2)] (fun (r : Int) => (iT r)) (fun r => []) := by
 refine Rn.of rfl rfl (by decide) rfl ?_; unfold f75; exact go
instance : Io0 cx 75 := ⟨rfl⟩
instance i52 {a : Fact} {b : Fact} : Rn cx (f52 a b) 52 [(.agg [(iT a.Relation), (ssl eI a.Values)]), (.agg [(iT b.Relation), (ssl eI b.Values)])] (fun (r : Int) => (iT r)) (fun r => []) := by
 refine Rn.of rfl rfl (by decide) rfl ?_; unfold f52; exact go
instance : Io0 cx 52 := ⟨rfl⟩
instance i25_0 {db : Database} : Lp cx (f25_0 db) 44 L25_0 (fun (zs : Int) => [(1, .v (.ptr true [(ssl eRelation db.Relations), (ssl eFact db.Facts)])), (16, .v (ssl eFact db.Facts)), (17, .v (iT (db.Facts.length : Int))), (18, .v (iT zs))]) (QO (QX 0 (fun (y : Unit) => [])) (QR (fun (y : Bool) => [(2, .v (.bool y))]))) := by
 refine Lp.of (f := (fun
 | x_7 =>
  if x_7 < (db.Facts.length : Int) then
  (ix db.Facts x_7).bind fun v_9 =>
  (f51 db.Relations v_9).bind fun o11 =>
  (jn (QN (fun (y : Bool) => [(1, .v (.ptr true [(ssl eRelation db.Relations), (ssl eFact db.Facts)])), (16, .v (ssl eFact db.Facts)), (17, .v (iT (db.Facts.length : Int))), (18, .v (iT x_7)), (42, .v (.bool y))])) ((if ¬ (o11 = true) then
  some true
  else
  (jn (QN (fun (y : Bool) => [(1, .v (.ptr true [(ssl eRelation db.Relations), (ssl eFact db.Facts)])), (16, .v (ssl eFact db.Facts)), (17, .v (iT (db.Facts.length : Int))), (18, .v (iT x_7)), (42, .v (.bool y))])) ((if x_7 > 0 then
  (ix db.Facts (w64 (x_7 - 1))).bind fun v_19 =>
  (f52 v_19 v_9).bind fun o21 =>
  some (decide (o21 ≥ 0))
  else
  some false) : Option (Bool))).bind fun x_16 =>
  some x_16) : Option (Bool))).bind fun x_13 =>
  if x_13 = true then
  some (.inr (.inr false))
  else
  some (.inl (w64 (x_7 + 1)))
  else
  some (.inr (.inl ())) : Int → Option (Int ⊕ (Unit ⊕ Bool)))) ?_
 exact go
instance i25 {db : Database} : Rn cx (f25 db) 25 [(.agg [(ssl eRelation db.Relations), (ssl eFact db.Facts)])] (fun (r : Bool) => (.bool r)) (fun r => []) := by
 refine Rn.of (e := (
  (f50 db.Relations).bind fun o1 =>
  (jn (QN (fun (y : Bool) => [(1, .v (.ptr true [(ssl eRelation db.Relations), (ssl eFact db.Facts)])), (14, .v (.bool y))])) ((if ¬ (o1 = true) then
  some true
  else
  some (decide ((db.Facts.length : Int) > 14))) : Option (Bool))).bind fun x_3 =>
  if x_3 = true then
  some false
  else
  (iter (f25_0 db) 0).bind fun o => match o with
  | .inl _ =>
  some true
  | .inr x_26 =>
  some x_26 : Option Bool)) rfl rfl (by decide) rfl ?_
 exact go
instance : Io0 cx 25 := ⟨rfl⟩
instance i77_0 {s1 : (List Int)} {s2 : (List Int)} : Lp cx (f77_0 s1 s2) 26 L77_0 (fun (zs : Int) => [(0, .v (ssl eI s1)), (1, .v (ssl eI s2)), (12, .v (iT (s1.length : Int))), (13, .v (iT zs))]) (QO (QX 0 (fun (y : Unit) => [])) (QR (fun (y : Bool) => [(4, .v (.bool y))]))) := by
 refine Lp.of ?_; unfold f77_0; exact go
instance i77 {s1 : (List Int)} {s2 : (List Int)} : Rn cx (f77 s1 s2) 77 [(ssl eI s1), (ssl eI s2)] (fun (r : Bool) => (.bool r)) (fun r => []) := by
 refine Rn.of rfl rfl (by decide) rfl ?_; unfold f77; exact go
instance : Io0 cx 77 := ⟨rfl⟩
instance i56 {relations : (List Relation)} {a : Fact} {b : Fact} : Rn cx (f56 relations a b) 56 [(ssl eRelation relations), (.agg [(iT a.Relation), (ssl eI a.Values)]), (.agg [(iT b.Relation), (ssl eI b.Values)])] (fun (r : Bool) => (.bool r)) (fun r => []) := by
 refine Rn.of rfl rfl (by decide) rfl ?_; unfold f56; exact go
instance : Io0 cx 56 := ⟨rfl⟩
instance i55 {own : Int} {c : Database} {c2 : Int} : Rn cx (f55 own c c2) 55 [(iT own), (.ptr false [(ssl eRelation c.Relations), (ssl eFact c.Facts)]), (.ptr false [(iT c2)])] (fun (r : Bool) => (.bool r)) (fun r => []) := by
 refine Rn.of rfl rfl (by decide) rfl ?_; unfold f55; exact go
instance : Io0 cx 55 := ⟨rfl⟩
theorem r57 {s0 : (List Int)} {r : (List Int)} (h : f57 s0 = some r) : VJx cx (.ca 57 [(ssl eI s0)] (osl eI true r) []) := by
 unfold f57 at h
 refine ca_clone (X := noExt) (fun _ _ _ _ h => h) (fun _ _ _ _ h => h) rfl (by decide) rfl (cl_eq h) ?_
 refine Wc.start (V1 := [(0, .v (ssl eI s0))]) (by simp) ?_
 refine Wc.seq ?_
 obtain ⟨l_1, h2, h⟩ := bind_some h
 have gx2 := appT_arr2 (E := eI) (b := true) (b' := false) (y := false) h2 (by decide) (arr_sc rfl _)
 simp [-aI_app0, -aB_app0, -aS_app0, -aL_app0, -aLt_app1I, -aLf_app1I, -aLt_app10I, -aLf_app10I] at gx2
 refine Wc.evs (by conv => lhs; simp [-aI_app0, -aB_app0, -aS_app0, -aL_app0, -aI_app10, -aB_app10, -aS_app10, -aLt_app10I, -aLf_app10I, -aLt_app1I, -aLf_app1I, gx2]) ?_
 refine Wo.gh (vle_co (s := 2) (t1 := (osl eI true l_1)) rfl (by simp) (tle_own rfl) (by conv => lhs; simp)) ?_
 refine Wo.nil ?_
 refine Wc.ret (res_of (.inr rfl) ?_)
 cases h
 exact ⟨_, _, _, by conv => lhs; simp, by (conv => lhs; simp [cx, ioTab, List.range, List.range.loop]) <;> rfl, by first | rfl | simp [-aI_app0, -aB_app0, -aS_app0, -aL_app0, -aI_app10, -aB_app10, -aS_app10, -aLt_app10I, -aLf_app10I, -aLt_app1I, -aLf_app1I, gx2]⟩
instance i57 {s0 : (List Int)} : Rn cx (f57 s0) 57 [(ssl eI s0)] (fun (r : (List Int)) => (osl eI true r)) (fun r => []) := ⟨fun _ h => r57 h⟩
instance : Io0 cx 57 := ⟨rfl⟩
instance i53_0 {a2 : AV} {a3 : AV} {a4 : AV} {a5 : AV} {set0 : (List Int)} {c : Int} {c4 : Database} {rec : (List Int) → Int → Int → (List (List Int)) → Database → Option (List (List Int))} [hrec : ∀ set0 from1 c c3 c4, Rn cx (ag (a2, a3, a4, a5) <| rec set0 from1 c c3 c4) 53 [(ssl eI set0), (iT from1), (.at a2 (.ptr false [(iT c)])), (.at a3 (.ptr true [(osl (eL eI) true c3)])), (.at a4 (.ptr false [(ssl eRelation c4.Relations), (ssl eFact c4.Facts)])), (.at a5 (.ptr false [(.at (.fn 53 [a2, a3, a4, a5]) .und)]))] (fun o => (.tup [])) (fun o => [(.at a3 (.ptr true [(osl (eL eI) true o)]))])] : Lp cx (lw (a2, a3, a4, a5) (f53_0 set0 c c4 rec)) 41 L53_0 (fun (zs : (List (List Int)) × Int) => [(0, .v (ssl eI set0)), (2, .v (.at a2 (.ptr false [(iT c)]))), (3, .v (.at a3 (.ptr true [(osl (eL eI) true zs.1)]))), (4, .v (.at a4 (.ptr false [(ssl eRelation c4.Relations), (ssl eFact c4.Facts)]))), (5, .v (.at a5 (.ptr false [(.at (.fn 53 [a2, a3, a4, a5]) .und)]))), (8, .v (.ptr true [(iT zs.2)]))]) (QX 0 (fun (y : (List (List Int))) => [(3, .v (.at a3 (.ptr true [(osl (eL eI) true y)])))])) := by
 refine Lp.of (f := (fun
 | (x_6, i_7) =>
  if i_7 < (c4.Facts.length : Int) then
  (f54 set0 (fun x0 => f55 x0 c4 i_7)).bind fun o9 =>
  (jn (QN (fun (y : (List (List Int))) => [(0, .v (ssl eI set0)), (2, .v (.at a2 (.ptr false [(iT c)]))), (3, .v (.at a3 (.ptr true [(osl (eL eI) true y)]))), (4, .v (.at a4 (.ptr false [(ssl eRelation c4.Relations), (ssl eFact c4.Facts)]))), (5, .v (.at a5 (.ptr false [(.at (.fn 53 [a2, a3, a4, a5]) .und)]))), (8, .v (.ptr true [(iT i_7)]))])) ((if ¬ (o9 = true) then
  sn 6 35 (osl eI true ([i_7])) <| 
  (f57 set0).bind fun o14 =>
  (app 8 o14 ([i_7])).bind fun l_16 =>
  (ca [2, 3, 4, 5] <| ag (a2, a3, a4, a5) (rec l_16 (w64 (i_7 + 1)) c x_6 c4)).bind fun o18 =>
  some o18
  else
  some x_6) : Option (List (List Int)))).bind fun x_20 =>
  some (.inl (x_20, w64 (i_7 + 1)))
  else
  some (.inr x_6) : (List (List Int)) × Int → Option (((List (List Int)) × Int) ⊕ (List (List Int))))) ?_
 exact go
instance i53 : ∀ (n : Nat) set0 from1 c c3 c4 (a2 a3 a4 a5 : AV), Rn cx (ag (a2, a3, a4, a5) (f53 n set0 from1 c c3 c4)) 53 [(ssl eI set0), (iT from1), (.at a2 (.ptr false [(iT c)])), (.at a3 (.ptr true [(osl (eL eI) true c3)])), (.at a4 (.ptr false [(ssl eRelation c4.Relations), (ssl eFact c4.Facts)])), (.at a5 (.ptr false [(.at (.fn 53 [a2, a3, a4, a5]) .und)]))] (fun (r : (List (List Int))) => (.tup [])) (fun r => [(.at a3 (.ptr true [(osl (eL eI) true r)]))]) := by
 intro n
 induction n with
 | zero => intro set0 from1 c c3 c4 a2 a3 a4 a5; exact ⟨fun r h => by simp [ag, f53] at h⟩
 | succ n ih =>
  intro set0 from1 c c3 c4 a2 a3 a4 a5
  refine Rn.of (e := (
   if (set0.length : Int) = c then
   (app 8 ([]) set0).bind fun l_2 =>
   sn 4 16 (osl eI true l_2) <| 
   (app 24 c3 ([l_2])).bind fun l_4 =>
   some l_4
   else
   (iter (lw (a2, a3, a4, a5)  (f53_0 set0 c c4 (f53 n))) (c3, from1)).bind fun x_23 =>
   some x_23 : Option (List (List Int)))) rfl rfl (by decide) rfl ?_
  exact go
instance i27 {db : Database} {size : Int} : Rn cx (f27 db size) 27 [(.agg [(ssl eRelation db.Relations), (ssl eFact db.Facts)]), (iT size)] (fun (r : (List (List Int))) => (osl (eL eI) true r)) (fun r => []) := by
 refine Rn.of (e := (
  sn 5 7 (osl (eL eI) true ([])) <| 
  lc 2 6 fun (a5 : AV) => 
  lc 0 3 fun (a2 : AV) => 
  lc 0 5 fun (a3 : AV) => 
  lc 0 2 fun (a4 : AV) => 
  fa 0 [a2, a3, a4, a5] <| 
  (ca [3, 5, 2, 6] <| ag (a2, a3, a4, a5) (f53 64 ([] : (List Int)) 0 size ([]) db)).bind fun o1 =>
  some o1 : Option (List (List Int)))) rfl rfl (by decide) rfl ?_
 exact go
instance : Io0 cx 27 := ⟨rfl⟩
instance i8_0 {db : Database} {size : Int} : Lp cx (f8_0 db size) 29 L8_0 (fun (zs : (List (List Int)) × Int) => [(2, .v (.ptr true [(ssl eRelation db.Relations), (ssl eFact db.Facts)])), (5, .v (osl (eL eI) true zs.1)), (18, .v (iT (w64 (size + 1)))), (19, .v (iT zs.2))]) (QX 0 (fun (y : (List (List Int))) => [(5, .v (osl (eL eI) true y))])) := by
 refine Lp.of (f := (fun
 | (out_9, x_10) =>
  if x_10 < (w64 (size + 1)) then
  (f27 db x_10).bind fun o12 =>
  pl (plains (arr (eL eI) true o12)) <| 
  (app 24 out_9 o12).bind fun l_14 =>
  some (.inl (l_14, w64 (x_10 + 1)))
  else
  some (.inr out_9) : (List (List Int)) × Int → Option (((List (List Int)) × Int) ⊕ (List (List Int))))) ?_
 exact go
instance i8 {db : Database} {size : Int} : Rn cx (f8 db size) 8 [(.agg [(ssl eRelation db.Relations), (ssl eFact db.Facts)]), (iT size)] (fun (r : (List (List Int))) => (osl (eL eI) true r)) (fun r => []) := by
 refine Rn.of (e := (
  sn 4 5 (osl (eL eI) true ([])) <| 
  (f25 db).bind fun o1 =>
  (jn (QN (fun (y : Bool) => [(1, .v (iT size)), (2, .v (.ptr true [(ssl eRelation db.Relations), (ssl eFact db.Facts)])), (5, .v (osl (eL eI) true ([]))), (15, .v (.bool y))])) ((if ¬ (o1 = true) then
  some true
  else
  (f26 size 0 3).bind fun o6 =>
  some (decide (¬ (o6 = true)))) : Option (Bool))).bind fun x_3 =>
  if x_3 = true then
  some ([])
  else
  (iter (f8_0 db size) ([], 0)).bind fun out_18 =>
  some out_18 : Option (List (List Int)))) rfl rfl (by decide) rfl ?_
 exact go
instance : Io0 cx 8 := ⟨rfl⟩
instance i69_0 {d : Database} {l : (List Int)} : Lp cx (f69_0 d l) 38 L69_0 (fun (zs : Int) => [(1, .v (ssl eI l)), (2, .v (.ptr true [(ssl eRelation d.Relations), (ssl eFact d.Facts)])), (5, .v (iT zs))]) (QO (QX 0 (fun (y : Unit) => [])) (QR (fun (y : Bool) => [(4, .v (.bool y))]))) := by
 refine Lp.of (f := (fun
 | i_1 =>
  if i_1 < (l.length : Int) then
  (ix l i_1).bind fun v_3 =>
  (f21 v_3 0 (w64 ((d.Facts.length : Int) - 1))).bind fun o5 =>
  (jn (QN (fun (y : Bool) => [(1, .v (ssl eI l)), (2, .v (.ptr true [(ssl eRelation d.Relations), (ssl eFact d.Facts)])), (5, .v (iT i_1)), (37, .v (.bool y))])) ((if ¬ (o5 = true) then
  some true
  else
  (jn (QN (fun (y : Bool) => [(1, .v (ssl eI l)), (2, .v (.ptr true [(ssl eRelation d.Relations), (ssl eFact d.Facts)])), (5, .v (iT i_1)), (37, .v (.bool y))])) ((if i_1 > 0 then
  (ix l (w64 (i_1 - 1))).bind fun v_13 =>
  some (decide (v_3 ≤ v_13))
  else
  some false) : Option (Bool))).bind fun x_10 =>
  some x_10) : Option (Bool))).bind fun x_7 =>
  if x_7 = true then
  some (.inr (.inr false))
  else
  some (.inl (w64 (i_1 + 1)))
  else
  some (.inr (.inl ())) : Int → Option (Int ⊕ (Unit ⊕ Bool)))) ?_
 exact go
instance i69 {d : Database} {l : (List Int)} : Rn cx (f69 d l) 69 [(.agg [(ssl eRelation d.Relations), (ssl eFact d.Facts)]), (ssl eI l)] (fun (r : Bool) => (.bool r)) (fun r => []) := by
 refine Rn.of rfl rfl (by decide) rfl ?_; unfold f69; exact go
instance : Io0 cx 69 := ⟨rfl⟩
instance i46_0 {d : Database} {l : (List Int)} : Lp cx (f46_0 d l) 51 L46_0 (fun (zs : (List Relation) × (List Fact) × Int) => [(1, .v (ssl eI l)), (2, .v (.ptr true [(ssl eRelation d.Relations), (ssl eFact d.Facts)])), (4, .v (.ptr true [(osl eRelation true ([])), (osl eFact true ([]))])), (6, .v (.ptr true [(osl eRelation true zs.1), (osl eFact true zs.2.1)])), (7, .v (iT zs.2.2))]) (QX 0 (fun (y : (List Relation) × (List Fact)) => [(4, .v (.ptr true [(osl eRelation true ([])), (osl eFact true ([]))])), (6, .v (.ptr true [(osl eRelation true y.1), (osl eFact true y.2)]))])) := by
 refine Lp.of (f := (fun
 | (x_11, x_12, i_13) =>
  if i_13 < (l.length : Int) then
  (ix l i_13).bind fun v_15 =>
  (ix d.Facts v_15).bind fun v_17 =>
  (app 8 ([]) v_17.Values).bind fun l_19 =>
  sn 18 45 (osl eI true l_19) <| 
  (app 32 x_12 ([({ Relation := v_17.Relation, Values := l_19 } : Fact)])).bind fun l_21 =>
  some (.inl (x_11, l_21, w64 (i_13 + 1)))
  else
  some (.inr (x_11, x_12)) : (List Relation) × (List Fact) × Int → Option (((List Relation) × (List Fact) × Int) ⊕ ((List Relation) × (List Fact))))) ?_
 exact go
instance i46 {d : Database} {l : (List Int)} : Rn cx (f46 d l) 46 [(.agg [(ssl eRelation d.Relations), (ssl eFact d.Facts)]), (ssl eI l)] (fun (r : Database × Bool) => (.tup [(.agg [(osl eRelation true r.1.Relations), (osl eFact true r.1.Facts)]), (.bool r.2)])) (fun r => []) := by
 refine Rn.of (e := (
  sn 3 4 (.ptr true [(osl eRelation true ([])), (osl eFact true ([]))]) <| 
  (f18 d).bind fun o1 =>
  (jn (QN (fun (y : Bool) => [(1, .v (ssl eI l)), (2, .v (.ptr true [(ssl eRelation d.Relations), (ssl eFact d.Facts)])), (4, .v (.ptr true [(osl eRelation true ([])), (osl eFact true ([]))])), (17, .v (.bool y))])) ((if ¬ (o1 = true) then
  some true
  else
  (f69 d l).bind fun o6 =>
  some (decide (¬ (o6 = true)))) : Option (Bool))).bind fun x_3 =>
  if x_3 = true then
  sn 1 18 (.agg [(osl eRelation true ([])), (osl eFact true ([]))]) <| 
  some (({ Relations := [], Facts := [] } : Database), false)
  else
  (app 32 ([]) d.Relations).bind fun l_9 =>
  sn 4 22 (osl eRelation true l_9) <| 
  sn 2 23 (.agg [(osl eRelation true l_9), (osl eFact true ([]))]) <| 
  (iter (f46_0 d l) (l_9, [], 0)).bind fun (x_25, x_26) =>
  some (({ Relations := x_25, Facts := x_26 } : Database), true) : Option (Database × Bool))) rfl rfl (by decide) rfl ?_
 exact go
instance : Io0 cx 46 := ⟨rfl⟩
end
end Go.Proofs.YtaanfdjhmhifiaaH
