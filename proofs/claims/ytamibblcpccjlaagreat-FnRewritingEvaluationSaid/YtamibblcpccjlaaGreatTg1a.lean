import Derived.Test.YtamibblcpccjlaaGreatCx1
import Derived.Test.YtamibblcpccjlaaGreatX3
import Derived.Test.YtamibblcpccjlaaGreatTd1
set_option maxHeartbeats 2000000
set_option linter.unusedVariables false
set_option linter.unusedSimpArgs false
set_option linter.defProp false
set_option linter.unusedSectionVars false
set_option maxRecDepth 100000
namespace Go.Proofs.YtamibblcpccjlaaGreatH
open Go
noncomputable section
abbrev iT (n : Int) : T := .int .i64 n
instance : Cl cx := ⟨fun j h => vsound (fun _ _ _ _ h => h) h, fun f ts t outs h => .ext h⟩
@[simp high] theorem ioz {f : Nat} [h : Io0 cx f] : ioTab f = [] := h.io
@[simp] theorem ioz19 : ioTab 19 = [0] := rfl
@[simp] theorem ioz20 : ioTab 20 = [0] := rfl
@[simp] theorem ioz21 : ioTab 21 = [0] := rfl
@[simp] theorem ioz22 : ioTab 22 = [0] := rfl
@[simp] theorem ioz23 : ioTab 23 = [0] := rfl
@[simp] theorem ioz60 : ioTab 60 = [0] := rfl
@[simp] theorem ioz61 : ioTab 61 = [0] := rfl
@[simp] theorem ioz62 : ioTab 62 = [0] := rfl
@[simp] theorem ioz63 : ioTab 63 = [0] := rfl
@[simp] theorem ioz64 : ioTab 64 = [0] := rfl
@[simp] theorem ioz67 : ioTab 67 = [0] := rfl
@[simp] theorem ioz87 : ioTab 87 = [0] := rfl
@[simp] theorem ioz100 : ioTab 100 = [0] := rfl
@[simp] theorem ioz101 : ioTab 101 = [0] := rfl
@[simp] theorem ioz102 : ioTab 102 = [0] := rfl
@[simp] theorem ioz103 : ioTab 103 = [0] := rfl
@[simp] theorem ioz122 : ioTab 122 = [0] := rfl
instance i5 {code : (List Int)} : Rn cx (f5 code) 5 [(ssl eU code)] (fun (r : Bool) => (.bool r)) (fun r => []) := Rn.o rfl (by unfold f5; exact go)
instance : Io0 cx 5 := ⟨rfl⟩
instance i18_0 {code : (List Int)} : Lp cx (f18_0 code) 32 L18_0 (fun (zs : Int × Int) => [(0, .v (ssl eU code)), (3, .v (iT zs.1)), (4, .v (iT zs.2))]) (QX 0 (fun (y : Int) => [(0, .v (ssl eU code)), (3, .v (iT y))])) := Lp.of (f := (fun
 | (h_1, i_2) =>
  (jn (QN (fun (y : Bool) => [(0, .v (ssl eU code)), (3, .v (iT h_1)), (4, .v (iT i_2)), (15, .v (.bool y))])) ((if i_2 < (code.length : Int) then
  some (decide (i_2 < 4000))
  else
  some false) : Option (Bool))).bind fun x_3 =>
  if x_3 = true then
  (ix code i_2).bind fun v_7 =>
  some (.inl (band .i64 (w64 ((w64 ((w64 (h_1 * 131)) + (w64 v_7))) + 7)) 1073741823, w64 (i_2 + 1)))
  else
  some (.inr h_1) : Int × Int → Option ((Int × Int) ⊕ Int))) (by exact go)
instance i18 {code : (List Int)} : Rn cx (f18 code) 18 [(ssl eU code)] (fun (r : L1Cur) => (.ptr true [(ssl eU r.b), (iT r.i), (iT r.h)])) (fun r => []) := Rn.o rfl (by unfold f18; exact go)
instance : Io0 cx 18 := ⟨rfl⟩
instance i63 {c : L1Cur} : Rn cx (f63 c) 63 [(.ptr true [(ssl eU c.b), (iT c.i), (iT c.h)])] (fun (r : Int × L1Cur) => (iT r.1)) (fun r => [(.ptr true [(ssl eU r.2.b), (iT r.2.i), (iT r.2.h)])]) := Rn.o (e := (
  (jn (QN (fun (y : Int × Int) => [(0, .v (.ptr true [(ssl eU c.b), (iT y.1), (iT (w64 ((w64 (c.h * 6364136223846793005)) + 1442695040888963407)))])), (3, .v (iT y.2))])) ((if c.i < (c.b.length : Int) then
  (ix c.b c.i).bind fun v_4 =>
  some (w64 (c.i + 1), band .i64 (w64 ((band .i64 (bxor .i64 (sshr .i64 (w64 ((w64 (c.h * 6364136223846793005)) + 1442695040888963407)) 33) (sshr .i64 (w64 ((w64 (c.h * 6364136223846793005)) + 1442695040888963407)) 45)) 255) + (w64 v_4))) 255)
  else
  some (c.i, band .i64 (bxor .i64 (sshr .i64 (w64 ((w64 (c.h * 6364136223846793005)) + 1442695040888963407)) 33) (sshr .i64 (w64 ((w64 (c.h * 6364136223846793005)) + 1442695040888963407)) 45)) 255)) : Option (Int × Int))).bind fun (c_6, x_7) =>
  some (x_7, ({ b := c.b, i := c_6, h := w64 ((w64 (c.h * 6364136223846793005)) + 1442695040888963407) } : L1Cur)) : Option (Int × L1Cur))) rfl (by exact go)
instance i20 {c : L1Cur} {n1 : Int} : Rn cx (f20 c n1) 20 [(.ptr true [(ssl eU c.b), (iT c.i), (iT c.h)]), (iT n1)] (fun (r : Int × L1Cur) => (iT r.1)) (fun r => [(.ptr true [(ssl eU r.2.b), (iT r.2.i), (iT r.2.h)])]) := Rn.o rfl (by unfold f20; exact go)
instance i67 {c : L1Cur} {list : (List Int)} : Rn cx (f67 c list) 67 [(.ptr true [(ssl eU c.b), (iT c.i), (iT c.h)]), (ssl eI list)] (fun (r : Int × L1Cur) => (iT r.1)) (fun r => [(.ptr true [(ssl eU r.2.b), (iT r.2.i), (iT r.2.h)])]) := Rn.o rfl (by unfold f67; exact go)
instance i23 {c : L1Cur} : Rn cx (f23 c) 23 [(.ptr true [(ssl eU c.b), (iT c.i), (iT c.h)])] (fun (r : (List Relation) × L1Cur) => (osl eRelation true r.1)) (fun r => [(.ptr true [(ssl eU r.2.b), (iT r.2.i), (iT r.2.h)])]) := Rn.o (e := (
  sn 5 6 (osl eI true ([1, 1, 2, 0])) <| 
  sn 0 6 (ssl eI ([1, 1, 2, 0])) <| 
  (f67 c ([1, 1, 2, 0])).bind fun o1 =>
  (f20 o1.2 2).bind fun o3 =>
  sn 4 2 (osl eRelation true ([({ Name := [114], Arity := 2, KeyLength := 1 } : Relation), ({ Name := [115], Arity := 2, KeyLength := 1 } : Relation), ({ Name := [116], Arity := 2, KeyLength := o1.1 } : Relation), ({ Name := [117], Arity := 3, KeyLength := w64 (1 + o3.1) } : Relation)])) <| 
  some ([({ Name := [114], Arity := 2, KeyLength := 1 } : Relation), ({ Name := [115], Arity := 2, KeyLength := 1 } : Relation), ({ Name := [116], Arity := 2, KeyLength := o1.1 } : Relation), ({ Name := [117], Arity := 3, KeyLength := w64 (1 + o3.1) } : Relation)], o3.2) : Option ((List Relation) × L1Cur))) rfl (by exact go)
instance i100_0 {l : (List Relation)} {val : Int} : Lp cx (f100_0 l val) 32 L100_0 (fun (zs : (List Int) × Int × Int × Int × (List Int)) => [(0, .v (.ptr true [(ssl eU zs.1), (iT zs.2.1), (iT zs.2.2.1)])), (1, .v (ssl eRelation l)), (2, .v (iT val)), (6, .v (.ptr true [(iT 0), (osl eI true ([]))])), (7, .v (.ptr true [(iT zs.2.2.2.1), (osl eI true zs.2.2.2.2)]))]) (QX 0 (fun (y : (List Int) × Int × Int × Int × (List Int)) => [(0, .v (.ptr true [(ssl eU y.1), (iT y.2.1), (iT y.2.2.1)])), (6, .v (.ptr true [(iT 0), (osl eI true ([]))])), (7, .v (.ptr true [(iT y.2.2.2.1), (osl eI true y.2.2.2.2)]))])) := Lp.of (by unfold f100_0; exact go)
instance i100 {c : L1Cur} {l : (List Relation)} {val : Int} : Rn cx (f100 c l val) 100 [(.ptr true [(ssl eU c.b), (iT c.i), (iT c.h)]), (ssl eRelation l), (iT val)] (fun (r : Fact × L1Cur) => (.agg [(iT r.1.Relation), (osl eI true r.1.Values)])) (fun r => [(.ptr true [(ssl eU r.2.b), (iT r.2.i), (iT r.2.h)])]) := Rn.o (e := (
  sn 1 6 (.ptr true [(iT 0), (osl eI true ([]))]) <| 
  (f20 c (l.length : Int)).bind fun o1 =>
  sn 2 12 (.agg [(iT o1.1), (osl eI true ([]))]) <| 
  (iter (f100_0 l val) (o1.2.b, o1.2.i, o1.2.h, o1.1, [])).bind fun (c_17, c_18, c_19, f_20, f_21) =>
  some (({ Relation := f_20, Values := f_21 } : Fact), ({ b := c_17, i := c_18, h := c_19 } : L1Cur)) : Option (Fact × L1Cur))) rfl (by exact go)
instance i142_0 {d : Database} : Lp cx (f142_0 d) 38 L142_0 (fun (zs : (List Relation) × (List Fact) × Int) => [(1, .v (.ptr true [(ssl eRelation d.Relations), (ssl eFact d.Facts)])), (2, .v (.ptr true [(osl eRelation true ([])), (osl eFact true ([]))])), (3, .v (.ptr true [(osl eRelation true zs.1), (osl eFact true zs.2.1)])), (4, .v (iT zs.2.2))]) (QX 0 (fun (y : (List Relation) × (List Fact)) => [(2, .v (.ptr true [(osl eRelation true ([])), (osl eFact true ([]))])), (3, .v (.ptr true [(osl eRelation true y.1), (osl eFact true y.2)]))])) := Lp.of (f := (fun
 | (x_3, x_4, i_5) =>
  if i_5 < (d.Facts.length : Int) then
  (ix d.Facts i_5).bind fun v_7 =>
  (app 8 ([]) v_7.Values).bind fun l_9 =>
  sn 16 32 (osl eI true l_9) <| 
  (app 32 x_4 ([({ Relation := v_7.Relation, Values := l_9 } : Fact)])).bind fun l_11 =>
  some (.inl (x_3, l_11, w64 (i_5 + 1)))
  else
  some (.inr (x_3, x_4)) : (List Relation) × (List Fact) × Int → Option (((List Relation) × (List Fact) × Int) ⊕ ((List Relation) × (List Fact))))) (by exact go)
instance i142 {d : Database} : Rn cx (f142 d) 142 [(.agg [(ssl eRelation d.Relations), (ssl eFact d.Facts)])] (fun (r : Database) => (.agg [(osl eRelation true r.Relations), (osl eFact true r.Facts)])) (fun r => []) := Rn.o (e := (
  sn 2 2 (.ptr true [(osl eRelation true ([])), (osl eFact true ([]))]) <| 
  (app 32 ([]) d.Relations).bind fun l_1 =>
  sn 4 8 (osl eRelation true l_1) <| 
  sn 2 9 (.agg [(osl eRelation true l_1), (osl eFact true ([]))]) <| 
  (iter (f142_0 d) (l_1, [], 0)).bind fun (x_15, x_16) =>
  some ({ Relations := x_15, Facts := x_16 } : Database) : Option Database)) rfl (by exact go)
instance : Io0 cx 142 := ⟨rfl⟩
instance i38 {x : Int} {low : Int} {high : Int} : Rn cx (f38 x low high) 38 [(iT x), (iT low), (iT high)] (fun (r : Bool) => (.bool r)) (fun r => []) := Rn.o (e := (
  (jn (QN (fun (y : Bool) => [(6, .v (.bool y))])) ((if x ≥ low then
  some (decide (x ≤ high))
  else
  some false) : Option (Bool))).bind fun x_1 =>
  some x_1 : Option Bool)) rfl (by exact go)
instance : Io0 cx 38 := ⟨rfl⟩
instance i79 {s0 : Relation} : Rn cx (f79 s0) 79 [(.agg [(.str s0.Name), (iT s0.Arity), (iT s0.KeyLength)])] (fun (r : Bool) => (.bool r)) (fun r => []) := Rn.o (e := (
  (jn (QN (fun (y : Bool) => [(2, .v (.bool y))])) ((if (s0.Name.length : Int) = 1 then
  (ix s0.Name 0).bind fun c_4 =>
  (jn (QN (fun (y : Bool) => [(2, .v (.bool y))])) ((if (c_4.toNat : Int) ≥ 97 then
  (jn (QN (fun (y : Bool) => [(2, .v (.bool y))])) ((if (c_4.toNat : Int) ≤ 122 then
  (f38 s0.Arity 1 3).bind fun o12 =>
  (jn (QN (fun (y : Bool) => [(2, .v (.bool y))])) ((if o12 = true then
  (f38 s0.KeyLength 0 s0.Arity).bind fun o17 =>
  some o17
  else
  some false) : Option (Bool))).bind fun x_14 =>
  some x_14
  else
  some false) : Option (Bool))).bind fun x_9 =>
  some x_9
  else
  some false) : Option (Bool))).bind fun x_6 =>
  some x_6
  else
  some false) : Option (Bool))).bind fun x_1 =>
  some x_1 : Option Bool)) rfl (by exact go)
instance : Io0 cx 79 := ⟨rfl⟩
instance i37_0 {l : (List Relation)} : Lp cx (f37_0 l) 37 L37_0 (fun (zs : Int) => [(0, .v (ssl eRelation l)), (3, .v (iT zs))]) (QO (QX 0 (fun (y : Unit) => [(0, .v (ssl eRelation l))])) (QR (fun (y : Bool) => [(2, .v (.bool y))]))) := Lp.of (f := (fun
 | i_1 =>
  if i_1 < (l.length : Int) then
  (ix l i_1).bind fun v_3 =>
  (f79 v_3).bind fun o5 =>
  (jn (QN (fun (y : Bool) => [(0, .v (ssl eRelation l)), (3, .v (iT i_1)), (33, .v (.bool y))])) ((if ¬ (o5 = true) then
  some true
  else
  (jn (QN (fun (y : Bool) => [(0, .v (ssl eRelation l)), (3, .v (iT i_1)), (33, .v (.bool y))])) ((if i_1 > 0 then
  (ix l (w64 (i_1 - 1))).bind fun v_13 =>
  some (!(Op.bytesLess v_13.Name v_3.Name))
  else
  some false) : Option (Bool))).bind fun x_10 =>
  some x_10) : Option (Bool))).bind fun x_7 =>
  if x_7 = true then
  some (.inr (.inr false))
  else
  some (.inl (w64 (i_1 + 1)))
  else
  some (.inr (.inl ())) : Int → Option (Int ⊕ (Unit ⊕ Bool)))) (by exact go)
instance i37 {l : (List Relation)} : Rn cx (f37 l) 37 [(ssl eRelation l)] (fun (r : Bool) => (.bool r)) (fun r => []) := Rn.o rfl (by unfold f37; exact go)
instance : Io0 cx 37 := ⟨rfl⟩
instance i42_0 {f : Fact} : Lp cx (f42_0 f) 44 L42_0 (fun (zs : Int) => [(3, .v (.ptr true [(iT f.Relation), (ssl eI f.Values)])), (5, .v (iT zs))]) (QO (QX 0 (fun (y : Unit) => [])) (QR (fun (y : Bool) => [(4, .v (.bool y))]))) := Lp.of (by unfold f42_0; exact go)
instance i42 {l : (List Relation)} {f : Fact} : Rn cx (f42 l f) 42 [(ssl eRelation l), (.agg [(iT f.Relation), (ssl eI f.Values)])] (fun (r : Bool) => (.bool r)) (fun r => []) := Rn.o (e := (
  (f37 l).bind fun o1 =>
  (jn (QN (fun (y : Bool) => [(3, .v (.ptr true [(iT f.Relation), (ssl eI f.Values)])), (29, .v (.bool y))])) ((if ¬ (o1 = true) then
  some true
  else
  (f38 f.Relation 0 (w64 ((l.length : Int) - 1))).bind fun o6 =>
  (jn (QN (fun (y : Bool) => [(3, .v (.ptr true [(iT f.Relation), (ssl eI f.Values)])), (29, .v (.bool y))])) ((if ¬ (o6 = true) then
  some true
  else
  (ix l f.Relation).bind fun v_11 =>
  some (decide ((f.Values.length : Int) ≠ v_11.Arity))) : Option (Bool))).bind fun x_8 =>
  some x_8) : Option (Bool))).bind fun x_3 =>
  if x_3 = true then
  some false
  else
  (iter (f42_0 f) 0).bind fun o => match o with
  | .inl _ =>
  some true
  | .inr x_23 =>
  some x_23 : Option Bool)) rfl (by exact go)
instance : Io0 cx 42 := ⟨rfl⟩
instance i81_0 {a : (List Int)} {b : (List Int)} : Lp cx (f81_0 a b) 46 L81_0 (fun (zs : Int) => [(0, .v (ssl eI a)), (1, .v (ssl eI b)), (5, .v (iT zs))]) (QO (QX 0 (fun (y : Unit) => [(0, .v (ssl eI a)), (1, .v (ssl eI b))])) (QR (fun (y : Int) => [(4, .v (iT y))]))) := Lp.of (f := (fun
 | i_1 =>
  (jn (QN (fun (y : Bool) => [(0, .v (ssl eI a)), (1, .v (ssl eI b)), (5, .v (iT i_1)), (15, .v (.bool y))])) ((if i_1 < (a.length : Int) then
  some (decide (i_1 < (b.length : Int)))
  else
  some false) : Option (Bool))).bind fun x_2 =>
  if x_2 = true then
  (ix a i_1).bind fun v_6 =>
  (ix b i_1).bind fun v_8 =>
  if v_6 < v_8 then
  some (.inr (.inr (-1)))
  else
  if v_6 > v_8 then
  some (.inr (.inr 1))
  else
  some (.inl (w64 (i_1 + 1)))
  else
  some (.inr (.inl ())) : Int → Option (Int ⊕ (Unit ⊕ Int)))) (by exact go)
instance i81 {a : (List Int)} {b : (List Int)} : Rn cx (f81 a b) 81 [(ssl eI a), (ssl eI b)] (fun (r : Int) => (iT r)) (fun r => []) := Rn.o rfl (by unfold f81; exact go)
instance : Io0 cx 81 := ⟨rfl⟩
instance i43 {a : Fact} {b : Fact} : Rn cx (f43 a b) 43 [(.agg [(iT a.Relation), (ssl eI a.Values)]), (.agg [(iT b.Relation), (ssl eI b.Values)])] (fun (r : Int) => (iT r)) (fun r => []) := Rn.o rfl (by unfold f43; exact go)
instance : Io0 cx 43 := ⟨rfl⟩
instance i11_0 {d : Database} : Lp cx (f11_0 d) 48 L11_0 (fun (zs : Int) => [(1, .v (.ptr true [(ssl eRelation d.Relations), (ssl eFact d.Facts)])), (3, .v (iT zs))]) (QO (QX 0 (fun (y : Unit) => [(1, .v (.ptr true [(ssl eRelation d.Relations), (ssl eFact d.Facts)]))])) (QR (fun (y : Bool) => [(2, .v (.bool y))]))) := Lp.of (f := (fun
 | i_1 =>
  if i_1 < (d.Facts.length : Int) then
  (ix d.Facts i_1).bind fun v_3 =>
  (f42 d.Relations v_3).bind fun o5 =>
  (jn (QN (fun (y : Bool) => [(1, .v (.ptr true [(ssl eRelation d.Relations), (ssl eFact d.Facts)])), (3, .v (iT i_1)), (38, .v (.bool y))])) ((if ¬ (o5 = true) then
  some true
  else
  (jn (QN (fun (y : Bool) => [(1, .v (.ptr true [(ssl eRelation d.Relations), (ssl eFact d.Facts)])), (3, .v (iT i_1)), (38, .v (.bool y))])) ((if i_1 > 0 then
  (ix d.Facts (w64 (i_1 - 1))).bind fun v_13 =>
  (f43 v_13 v_3).bind fun o15 =>
  some (decide (o15 ≥ 0))
  else
  some false) : Option (Bool))).bind fun x_10 =>
  some x_10) : Option (Bool))).bind fun x_7 =>
  if x_7 = true then
  some (.inr (.inr false))
  else
  some (.inl (w64 (i_1 + 1)))
  else
  some (.inr (.inl ())) : Int → Option (Int ⊕ (Unit ⊕ Bool)))) (by exact go)
instance i11 {d : Database} : Rn cx (f11 d) 11 [(.agg [(ssl eRelation d.Relations), (ssl eFact d.Facts)])] (fun (r : Bool) => (.bool r)) (fun r => []) := Rn.o (e := (
  (iter (f11_0 d) 0).bind fun o => match o with
  | .inl _ =>
  (f37 d.Relations).bind fun o21 =>
  (jn (QN (fun (y : Bool) => [(2, .v (.bool y))])) ((if o21 = true then
  some (decide ((d.Facts.length : Int) ≤ 14))
  else
  some false) : Option (Bool))).bind fun x_23 =>
  some x_23
  | .inr x_20 =>
  some x_20 : Option Bool)) rfl (by exact go)
instance : Io0 cx 11 := ⟨rfl⟩
instance i175_0 {d : Database} {f : Fact} : Lp cx (f175_0 d f) 22 L175_0 (fun (zs : Int) => [(2, .v (.ptr true [(ssl eRelation d.Relations), (ssl eFact d.Facts)])), (3, .v (.ptr true [(iT f.Relation), (ssl eI f.Values)])), (5, .v (iT zs))]) (QO (QX 0 (fun (y : Unit) => [])) (QR (fun (y : Int) => [(4, .v (iT y))]))) := Lp.of (by unfold f175_0; exact go)
instance i175 {d : Database} {f : Fact} : Rn cx (f175 d f) 175 [(.agg [(ssl eRelation d.Relations), (ssl eFact d.Facts)]), (.agg [(iT f.Relation), (ssl eI f.Values)])] (fun (r : Int) => (iT r)) (fun r => []) := Rn.o rfl (by unfold f175; exact go)
instance : Io0 cx 175 := ⟨rfl⟩
instance i143 {d : Database} {f : Fact} : Rn cx (f143 d f) 143 [(.agg [(ssl eRelation d.Relations), (ssl eFact d.Facts)]), (.agg [(iT f.Relation), (ssl eI f.Values)])] (fun (r : Bool) => (.bool r)) (fun r => []) := Rn.o (e := (
  (f11 d).bind fun o1 =>
  (jn (QN (fun (y : Bool) => [(4, .v (.bool y))])) ((if o1 = true then
  (f175 d f).bind fun o6 =>
  some (decide (o6 ≥ 0))
  else
  some false) : Option (Bool))).bind fun x_3 =>
  some x_3 : Option Bool)) rfl (by exact go)
instance : Io0 cx 143 := ⟨rfl⟩
instance i99_0 {f : Fact} {o1 : Database} : Lp cx (f99_0 f o1) 73 L99_0 (fun (zs : Int) => [(3, .v (.ptr true [(iT f.Relation), (ssl eI f.Values)])), (4, .v (.ptr true [(osl eRelation true ([])), (osl eFact true ([]))])), (6, .v (.ptr true [(osl eRelation true o1.Relations), (osl eFact true o1.Facts)])), (7, .v (iT zs))]) (QX 0 (fun (y : Int) => [(3, .v (.ptr true [(iT f.Relation), (ssl eI f.Values)])), (4, .v (.ptr true [(osl eRelation true ([])), (osl eFact true ([]))])), (6, .v (.ptr true [(osl eRelation true o1.Relations), (osl eFact true o1.Facts)])), (7, .v (iT y))])) := Lp.of (f := (fun
 | k_19 =>
  (jn (QN (fun (y : Bool) => [(3, .v (.ptr true [(iT f.Relation), (ssl eI f.Values)])), (4, .v (.ptr true [(osl eRelation true ([])), (osl eFact true ([]))])), (6, .v (.ptr true [(osl eRelation true o1.Relations), (osl eFact true o1.Facts)])), (7, .v (iT k_19)), (47, .v (.bool y))])) ((if k_19 < (o1.Facts.length : Int) then
  (ix o1.Facts k_19).bind fun v_23 =>
  (f43 v_23 f).bind fun o25 =>
  some (decide (o25 < 0))
  else
  some false) : Option (Bool))).bind fun x_20 =>
  if x_20 = true then
  some (.inl (w64 (k_19 + 1)))
  else
  some (.inr k_19) : Int → Option (Int ⊕ Int))) (by exact go)
instance i99 {d : Database} {f : Fact} : Rn cx (f99 d f) 99 [(.agg [(ssl eRelation d.Relations), (ssl eFact d.Facts)]), (.agg [(iT f.Relation), (ssl eI f.Values)])] (fun (r : Database × Bool) => (.tup [(.agg [(osl eRelation true r.1.Relations), (osl eFact false r.1.Facts)]), (.bool r.2)])) (fun r => []) := Rn.o (e := (
  sn 4 4 (.ptr true [(osl eRelation true ([])), (osl eFact true ([]))]) <| 
  (f142 d).bind fun o1 =>
  (f11 d).bind fun o3 =>
  (jn (QN (fun (y : Bool) => [(3, .v (.ptr true [(iT f.Relation), (ssl eI f.Values)])), (4, .v (.ptr true [(osl eRelation true ([])), (osl eFact true ([]))])), (6, .v (.ptr true [(osl eRelation true o1.Relations), (osl eFact true o1.Facts)])), (31, .v (.bool y))])) ((if ¬ (o3 = true) then
  some true
  else
  (f42 d.Relations f).bind fun o8 =>
  (jn (QN (fun (y : Bool) => [(3, .v (.ptr true [(iT f.Relation), (ssl eI f.Values)])), (4, .v (.ptr true [(osl eRelation true ([])), (osl eFact true ([]))])), (6, .v (.ptr true [(osl eRelation true o1.Relations), (osl eFact true o1.Facts)])), (31, .v (.bool y))])) ((if ¬ (o8 = true) then
  some true
  else
  (f143 d f).bind fun o13 =>
  (jn (QN (fun (y : Bool) => [(3, .v (.ptr true [(iT f.Relation), (ssl eI f.Values)])), (4, .v (.ptr true [(osl eRelation true ([])), (osl eFact true ([]))])), (6, .v (.ptr true [(osl eRelation true o1.Relations), (osl eFact true o1.Facts)])), (31, .v (.bool y))])) ((if o13 = true then
  some true
  else
  some (decide ((d.Facts.length : Int) = 14))) : Option (Bool))).bind fun x_15 =>
  some x_15) : Option (Bool))).bind fun x_10 =>
  some x_10) : Option (Bool))).bind fun x_5 =>
  if x_5 = true then
  some (o1, false)
  else
  (iter (f99_0 f o1) 0).bind fun k_30 =>
  sn 5 6 (.ptr true [(osl eRelation true o1.Relations), (ssl eFact o1.Facts)]) <| 
  (cutL o1.Facts k_30 o1.Facts.length).bind fun l_31 =>
  (app 8 ([]) f.Values).bind fun l_33 =>
  sn 5 55 (osl eI true l_33) <| 
  sn 1 56 (.agg [(iT f.Relation), (ssl eI l_33)]) <| 
  (app 32 ([({ Relation := f.Relation, Values := l_33 } : Fact)]) l_31).bind fun l_35 =>
  sn 3 8 (osl eFact false l_35) <| 
  (cutL o1.Facts 0 k_30).bind fun l_37 =>
  (app 32 ([]) l_37).bind fun l_39 =>
  (app 32 l_39 l_35).bind fun l_41 =>
  sn 9 70 (osl eFact false l_41) <| 
  some (({ Relations := o1.Relations, Facts := l_41 } : Database), true) : Option (Database × Bool))) rfl (by exact go)
instance : Io0 cx 99 := ⟨rfl⟩
instance i60_0 {o3 : (Int × L1Cur)} : Lp cx (f60_0 o3) 30 L60_0 (fun (zs : (List Int) × Int × Int × (List Relation) × (List Fact) × Int) => [(0, .v (.ptr true [(ssl eU zs.1), (iT zs.2.1), (iT zs.2.2.1)])), (2, .v (.ptr true [(osl eRelation true ([])), (osl eFact true ([]))])), (3, .v (.ptr true [(osl eRelation true zs.2.2.2.1), (osl eFact false zs.2.2.2.2.1)])), (4, .v (iT o3.1)), (5, .v (iT zs.2.2.2.2.2))]) (QX 0 (fun (y : (List Int) × Int × Int × (List Relation) × (List Fact)) => [(0, .v (.ptr true [(ssl eU y.1), (iT y.2.1), (iT y.2.2.1)])), (2, .v (.ptr true [(osl eRelation true ([])), (osl eFact true ([]))])), (3, .v (.ptr true [(osl eRelation true y.2.2.2.1), (osl eFact false y.2.2.2.2)]))])) := Lp.of (f := (fun
 | (c_7, c_8, c_9, d_10, d_11, n_12) =>
  if n_12 > 0 then
  sn 0 3 (.ptr true [(ssl eRelation d_10), (ssl eFact d_11)]) <| 
  (f100 ({ b := c_7, i := c_8, h := c_9 } : L1Cur) d_10 o3.1).bind fun o14 =>
  sn 0 25 (.agg [(iT o14.1.Relation), (ssl eI o14.1.Values)]) <| 
  (f99 ({ Relations := d_10, Facts := d_11 } : Database) o14.1).bind fun o16 =>
  some (.inl (o14.2.b, o14.2.i, o14.2.h, o16.1.Relations, o16.1.Facts, w64 (n_12 - 1)))
  else
  some (.inr (c_7, c_8, c_9, d_10, d_11)) : (List Int) × Int × Int × (List Relation) × (List Fact) × Int → Option (((List Int) × Int × Int × (List Relation) × (List Fact) × Int) ⊕ ((List Int) × Int × Int × (List Relation) × (List Fact))))) (by exact go)
instance i60 {c : L1Cur} : Rn cx (f60 c) 60 [(.ptr true [(ssl eU c.b), (iT c.i), (iT c.h)])] (fun (r : Database × L1Cur) => (.agg [(osl eRelation true r.1.Relations), (osl eFact false r.1.Facts)])) (fun r => [(.ptr true [(ssl eU r.2.b), (iT r.2.i), (iT r.2.h)])]) := Rn.o (e := (
  sn 1 2 (.ptr true [(osl eRelation true ([])), (osl eFact true ([]))]) <| 
  (f23 c).bind fun o1 =>
  sn 2 8 (.agg [(osl eRelation true o1.1), (osl eFact true ([]))]) <| 
  sn 3 10 (osl eI true ([2, 2, 3, 3])) <| 
  sn 0 10 (ssl eI ([2, 2, 3, 3])) <| 
  (f67 o1.2 ([2, 2, 3, 3])).bind fun o3 =>
  (f20 o3.2 11).bind fun o5 =>
  (iter (f60_0 o3) (o5.2.b, o5.2.i, o5.2.h, o1.1, [], w64 (2 + o5.1))).bind fun (c_20, c_21, c_22, d_23, d_24) =>
  some (({ Relations := d_23, Facts := d_24 } : Database), ({ b := c_20, i := c_21, h := c_22 } : L1Cur)) : Option (Database × L1Cur))) rfl (by exact go)
instance i61 {c : L1Cur} {l : (List Relation)} : Rn cx (f61 c l) 61 [(.ptr true [(ssl eU c.b), (iT c.i), (iT c.h)]), (ssl eRelation l)] (fun (r : Fact × L1Cur) => (.agg [(iT r.1.Relation), (osl eI true r.1.Values)])) (fun r => [(.ptr true [(ssl eU r.2.b), (iT r.2.i), (iT r.2.h)])]) := Rn.o (e := (
  sn 1 4 (.ptr true [(iT 0), (osl eI true ([]))]) <| 
  (f100 c l 4).bind fun o1 =>
  (f20 o1.2 10).bind fun o3 =>
  (jn (QN (fun (y : (List Int) × Int × Int × Int × (List Int)) => [(0, .v (.ptr true [(ssl eU y.1), (iT y.2.1), (iT y.2.2.1)])), (4, .v (.ptr true [(iT 0), (osl eI true ([]))])), (5, .v (.ptr true [(iT y.2.2.2.1), (osl eI true y.2.2.2.2)]))])) ((if o3.1 = 0 then
  (f20 o3.2 6).bind fun o8 =>
  some (o8.2.b, o8.2.i, o8.2.h, w64 (o8.1 - 1), o1.1.Values)
  else
  (jn (QN (fun (y : (List Int) × Int × Int × (List Int)) => [(0, .v (.ptr true [(ssl eU y.1), (iT y.2.1), (iT y.2.2.1)])), (4, .v (.ptr true [(iT 0), (osl eI true ([]))])), (5, .v (.ptr true [(iT o1.1.Relation), (osl eI true y.2.2.2)]))])) ((if o3.1 = 1 then
  (app 8 o1.1.Values ([1])).bind fun l_13 =>
  some (o3.2.b, o3.2.i, o3.2.h, l_13)
  else
  (jn (QN (fun (y : (List Int) × Int × Int × (List Int)) => [(0, .v (.ptr true [(ssl eU y.1), (iT y.2.1), (iT y.2.2.1)])), (4, .v (.ptr true [(iT 0), (osl eI true ([]))])), (5, .v (.ptr true [(iT o1.1.Relation), (osl eI true y.2.2.2)]))])) ((if o3.1 = 2 then
  sn 4 29 (osl eI true ([-1, 10, 9])) <| 
  sn 0 29 (ssl eI ([-1, 10, 9])) <| 
  (f67 o3.2 ([-1, 10, 9])).bind fun o18 =>
  (ix o1.1.Values 0).bind fun v_20 =>
  some (o18.2.b, o18.2.i, o18.2.h, (o1.1.Values.set (0 : Int).toNat o18.1))
  else
  some (o3.2.b, o3.2.i, o3.2.h, o1.1.Values)) : Option ((List Int) × Int × Int × (List Int)))).bind fun (c_23, c_24, c_25, f_26) =>
  some (c_23, c_24, c_25, f_26)) : Option ((List Int) × Int × Int × (List Int)))).bind fun (c_27, c_28, c_29, f_30) =>
  some (c_27, c_28, c_29, o1.1.Relation, f_30)) : Option ((List Int) × Int × Int × Int × (List Int)))).bind fun (c_31, c_32, c_33, f_34, f_35) =>
  some (({ Relation := f_34, Values := f_35 } : Fact), ({ b := c_31, i := c_32, h := c_33 } : L1Cur)) : Option (Fact × L1Cur))) rfl (by exact go)
instance i101 {c : L1Cur} {list : (List (List UInt8))} : Rn cx (f101 c list) 101 [(.ptr true [(ssl eU c.b), (iT c.i), (iT c.h)]), (ssl eS list)] (fun (r : (List UInt8) × L1Cur) => (.str r.1)) (fun r => [(.ptr true [(ssl eU r.2.b), (iT r.2.i), (iT r.2.h)])]) := Rn.o rfl (by unfold f101; exact go)
instance i62 {c : L1Cur} : Rn cx (f62 c) 62 [(.ptr true [(ssl eU c.b), (iT c.i), (iT c.h)])] (fun (r : Relation × L1Cur) => (.agg [(.str r.1.Name), (iT r.1.Arity), (iT r.1.KeyLength)])) (fun r => [(.ptr true [(ssl eU r.2.b), (iT r.2.i), (iT r.2.h)])]) := Rn.o (e := (
  sn 3 4 (osl eS true ([[114], [122], [97], [], [82], [97, 98]])) <| 
  sn 0 4 (ssl eS ([[114], [122], [97], [], [82], [97, 98]])) <| 
  (f101 c ([[114], [122], [97], [], [82], [97, 98]])).bind fun o1 =>
  (f20 o1.2 6).bind fun o3 =>
  (f20 o3.2 5).bind fun o5 =>
  some (({ Name := o1.1, Arity := w64 (o3.1 - 1), KeyLength := w64 (o5.1 - 1) } : Relation), o5.2) : Option (Relation × L1Cur))) rfl (by exact go)
theorem r19 {c : L1Cur} {r : Database × L1Cur} (h : f19 c = some r) : VJx cx (.ca 19 [(.ptr true [(ssl eU c.b), (iT c.i), (iT c.h)])] (.agg [(ssl eRelation r.1.Relations), (osl eFact false r.1.Facts)]) [(.ptr true [(ssl eU r.2.b), (iT r.2.i), (iT r.2.h)])]) := by
 unfold f19 at h
 refine ca_of rfl rfl (by decide) rfl ?_
 refine Wc.postG ?_
 refine Wc.start (V1 := [(0, .v (.ptr true [(ssl eU c.b), (iT c.i), (iT c.h)]))]) (by simp) ?_
 refine Wc.seq ?_
 refine Wc.evs (by conv => lhs; simp [-aI_app1, -aI_app0, -aB_app0, -aS_app0, -aL_app0, -aI_app10, -aB_app10, -aS_app10, -aLt_app10I, -aLf_app10I, -aLt_app1I, -aLf_app1I]) ?_
 refine Wo.gh (vle_co (s := 2) (t1 := (.ptr true [(osl eRelation true ([])), (osl eFact true ([]))])) rfl (by simp) (TLe.ptr (TLes.cons (TLe.nil rfl (by decide)) (TLes.cons (TLe.nil rfl (by decide)) (TLes.refl _)))) (by conv => lhs; simp)) ?_
 refine Wo.nil ?_
 refine Wc.seq ?_
 refine Wc.evs (by conv => lhs; simp [-aI_app1, -aI_app0, -aB_app0, -aS_app0, -aL_app0, -aI_app10, -aB_app10, -aS_app10, -aLt_app10I, -aLf_app10I, -aLt_app1I, -aLf_app1I]) ?_
 obtain ⟨o1, h2, h⟩ := bind_some h
 refine Wo.call rfl rfl (by (conv => lhs; simp [-aI_app1, -aI_app0, -aB_app0, -aS_app0, -aL_app0, -aI_app10, -aB_app10, -aS_app10, -aLt_app10I, -aLf_app10I, -aLt_app1I, -aLf_app1I, cx, ioTab]) <;> rfl) (run_ h2) (by simp) (by simp) (by (conv => lhs; simp [-aI_app1, -aI_app0, -aB_app0, -aS_app0, -aL_app0, -aI_app10, -aB_app10, -aS_app10, -aLt_app10I, -aLf_app10I, -aLt_app1I, -aLf_app1I, cx, ioTab]) <;> rfl) (by (conv => lhs; simp [-aI_app1, -aI_app0, -aB_app0, -aS_app0, -aL_app0, -aI_app10, -aB_app10, -aS_app10, -aLt_app10I, -aLf_app10I, -aLt_app1I, -aLf_app1I]) <;> rfl) ?_
 refine Wo.evs (by conv => lhs; simp [-aI_app1, -aI_app0, -aB_app0, -aS_app0, -aL_app0, -aI_app10, -aB_app10, -aS_app10, -aLt_app10I, -aLf_app10I, -aLt_app1I, -aLf_app1I]) ?_
 refine Wo.nil ?_
 refine Wc.seq ?_
 refine Wc.seq ?_
 refine Wc.evs (by conv => lhs; simp [-aI_app1, -aI_app0, -aB_app0, -aS_app0, -aL_app0, -aI_app10, -aB_app10, -aS_app10, -aLt_app10I, -aLf_app10I, -aLt_app1I, -aLf_app1I]) ?_
 obtain ⟨o3, h4, h⟩ := bind_some h
 refine Wo.call rfl rfl (by (conv => lhs; simp [-aI_app1, -aI_app0, -aB_app0, -aS_app0, -aL_app0, -aI_app10, -aB_app10, -aS_app10, -aLt_app10I, -aLf_app10I, -aLt_app1I, -aLf_app1I, cx, ioTab]) <;> rfl) (run_ h4) (by simp) (by simp) (by (conv => lhs; simp [-aI_app1, -aI_app0, -aB_app0, -aS_app0, -aL_app0, -aI_app10, -aB_app10, -aS_app10, -aLt_app10I, -aLf_app10I, -aLt_app1I, -aLf_app1I, cx, ioTab]) <;> rfl) (by (conv => lhs; simp [-aI_app1, -aI_app0, -aB_app0, -aS_app0, -aL_app0, -aI_app10, -aB_app10, -aS_app10, -aLt_app10I, -aLf_app10I, -aLt_app1I, -aLf_app1I]) <;> rfl) ?_
 refine Wo.nil ?_
 refine Wc.block ?_
 refine Wc.seq ?_
 refine Wc.evs (by conv => lhs; simp [-aI_app1, -aI_app0, -aB_app0, -aS_app0, -aL_app0, -aI_app10, -aB_app10, -aS_app10, -aLt_app10I, -aLf_app10I, -aLt_app1I, -aLf_app1I]) ?_
 refine Wo.nil ?_
 obtain ⟨w5, h6, h⟩ := bind_some h
 refine Wc.monoG (Q := (QN (fun (y : (List Int) × Int × Int × (List Relation) × (List Fact)) => [(0, .v (.ptr true [(ssl eU y.1), (iT y.2.1), (iT y.2.2.1)])), (2, .v (.ptr true [(osl eRelation true ([])), (osl eFact true ([]))])), (3, .v (.ptr true [(ssl eRelation y.2.2.2.1), (osl eFact false y.2.2.2.2)]))])) w5) ?_ ?_
 ·skip
  by_cases kc7 : o3.1 = 0
  ·rw [if_pos kc7] at h6
   refine Wc.condT' (t := _) (by conv => lhs; simp) (by simpa using kc7) ?_
   refine Wc.seq ?_
   refine Wc.kil (by conv => lhs; simp) ?_
   refine Wc.reg ?_
   refine Wo.gh (vle_pf (s := 3) (t1 := (.ptr true [(ssl eRelation o1.1.Relations), (osl eFact false o1.1.Facts)])) rfl (by simp) (PF.ptr (PFs.cons (PF.frze (by simp)) (PFs.cons (PF.refl _) PFs.nil))) (by conv => lhs; simp)) ?_
   refine Wo.evs (by conv => lhs; simp [-aI_app1, -aI_app0, -aB_app0, -aS_app0, -aL_app0, -aI_app10, -aB_app10, -aS_app10, -aLt_app10I, -aLf_app10I, -aLt_app1I, -aLf_app1I]) ?_
   obtain ⟨o8, h9, h6⟩ := bind_some h6
   refine Wo.call (by simp) rfl (by (conv => lhs; simp [-aI_app1, -aI_app0, -aB_app0, -aS_app0, -aL_app0, -aI_app10, -aB_app10, -aS_app10, -aLt_app10I, -aLf_app10I, -aLt_app1I, -aLf_app1I, cx, ioTab]) <;> rfl) (run_ h9) (by simp) (by simp) (by (conv => lhs; simp [-aI_app1, -aI_app0, -aB_app0, -aS_app0, -aL_app0, -aI_app10, -aB_app10, -aS_app10, -aLt_app10I, -aLf_app10I, -aLt_app1I, -aLf_app1I, cx, ioTab]) <;> rfl) (by (conv => lhs; simp [-aI_app1, -aI_app0, -aB_app0, -aS_app0, -aL_app0, -aI_app10, -aB_app10, -aS_app10, -aLt_app10I, -aLf_app10I, -aLt_app1I, -aLf_app1I]) <;> rfl) ?_
   refine Wo.evk 1 (by conv => lhs; simp [-aI_app1, -aI_app0, -aB_app0, -aS_app0, -aL_app0, -aI_app10, -aB_app10, -aS_app10, -aLt_app10I, -aLf_app10I, -aLt_app1I, -aLf_app1I]) ?_
   refine Wo.gh (vle_co (s := 16) (t1 := (osl eFact true ([o8.1]))) rfl (by simp) (TLe.own (show TLes _ [(iT o8.1.Relation), (osl eI true o8.1.Values)] from (TLes.cons (TLe.refl _) (TLes.cons (TLe.refl _) (TLes.refl _)))) rfl) (by conv => lhs; simp)) ?_
   refine Wo.gh (vle_fz (s := 16) rfl (by simp) (by conv => lhs; simp)) ?_
   obtain ⟨l_10, h11, h6⟩ := bind_some h6
   have gx11 := appT_arr (E := eFact) (b := false) (y := true) h11 (by decide)
   simp [-aI_app1, -aI_app0, -aB_app0, -aS_app0, -aL_app0, -aLt_app1I, -aLf_app1I, -aLt_app10I, -aLf_app10I] at gx11
   refine Wo.evs (by conv => lhs; simp [-aI_app1, -aI_app0, -aB_app0, -aS_app0, -aL_app0, -aI_app10, -aB_app10, -aS_app10, -aLt_app10I, -aLf_app10I, -aLt_app1I, -aLf_app1I, gx11, h11]) ?_
   refine Wo.nil ?_
   cases h6
   exact ⟨_, (VLe.refl _), rfl, by first | rfl | simp [-aI_app1, -aI_app0, -aB_app0, -aS_app0, -aL_app0, -aI_app10, -aB_app10, -aS_app10, -aLt_app10I, -aLf_app10I, -aLt_app1I, -aLf_app1I, gx11, h11]⟩
  ·rw [if_neg kc7] at h6
   refine Wc.condF' (t := _) (by conv => lhs; simp) (by simpa using kc7) ?_
   refine Wc.seq ?_
   refine Wc.kil (by conv => lhs; simp) ?_
   refine Wc.seq ?_
   refine Wc.evs (by conv => lhs; simp [-aI_app1, -aI_app0, -aB_app0, -aS_app0, -aL_app0, -aI_app10, -aB_app10, -aS_app10, -aLt_app10I, -aLf_app10I, -aLt_app1I, -aLf_app1I]) ?_
   refine Wo.nil ?_
   obtain ⟨w12, h13, h6⟩ := bind_some h6
   refine Wc.monoG (Q := (QN (fun (y : (List Int) × Int × Int × (List Relation) × (List Fact)) => [(0, .v (.ptr true [(ssl eU y.1), (iT y.2.1), (iT y.2.2.1)])), (2, .v (.ptr true [(osl eRelation true ([])), (osl eFact true ([]))])), (3, .v (.ptr true [(ssl eRelation y.2.2.2.1), (osl eFact false y.2.2.2.2)]))])) w12) ?_ ?_
   ·skip
    by_cases kc14 : o3.1 = 1
    ·rw [if_pos kc14] at h13
     refine Wc.condT' (t := _) (by conv => lhs; simp) (by simpa using kc14) ?_
     refine Wc.seq ?_
     refine Wc.kil (by conv => lhs; simp) ?_
     refine Wc.reg ?_
     refine Wo.gh (vle_pf (s := 3) (t1 := (.ptr true [(ssl eRelation o1.1.Relations), (osl eFact false o1.1.Facts)])) rfl (by simp) (PF.ptr (PFs.cons (PF.frze (by simp)) (PFs.cons (PF.refl _) PFs.nil))) (by conv => lhs; simp)) ?_
     refine Wo.evs (by conv => lhs; simp [-aI_app1, -aI_app0, -aB_app0, -aS_app0, -aL_app0, -aI_app10, -aB_app10, -aS_app10, -aLt_app10I, -aLf_app10I, -aLt_app1I, -aLf_app1I]) ?_
     obtain ⟨o15, h16, h13⟩ := bind_some h13
     refine Wo.call (by simp) rfl (by (conv => lhs; simp [-aI_app1, -aI_app0, -aB_app0, -aS_app0, -aL_app0, -aI_app10, -aB_app10, -aS_app10, -aLt_app10I, -aLf_app10I, -aLt_app1I, -aLf_app1I, cx, ioTab]) <;> rfl) (run_ h16) (by simp) (by simp) (by (conv => lhs; simp [-aI_app1, -aI_app0, -aB_app0, -aS_app0, -aL_app0, -aI_app10, -aB_app10, -aS_app10, -aLt_app10I, -aLf_app10I, -aLt_app1I, -aLf_app1I, cx, ioTab]) <;> rfl) (by (conv => lhs; simp [-aI_app1, -aI_app0, -aB_app0, -aS_app0, -aL_app0, -aI_app10, -aB_app10, -aS_app10, -aLt_app10I, -aLf_app10I, -aLt_app1I, -aLf_app1I]) <;> rfl) ?_
     obtain ⟨l_17, h18, h13⟩ := bind_some h13
     obtain ⟨ga18, gb18, gc18, ge18⟩ := cut_some h18
     simp at ge18
     have gz18 := cut_arr (E := eRelation) (b := false) h18
     simp [-aI_app1, -aI_app0, -aB_app0, -aS_app0, -aL_app0, -aLt_app1I, -aLf_app1I, -aLt_app10I, -aLf_app10I] at gz18
     refine Wo.evs (by conv => lhs; simp [-aI_app1, -aI_app0, -aB_app0, -aS_app0, -aL_app0, -aI_app10, -aB_app10, -aS_app10, -aLt_app10I, -aLf_app10I, -aLt_app1I, -aLf_app1I, ga18, gb18, gc18, ge18, gz18]) ?_
     refine Wo.nil ?_
     cases h13
     exact ⟨_, (VLe.refl _), rfl, by first | rfl | simp [-aI_app1, -aI_app0, -aB_app0, -aS_app0, -aL_app0, -aI_app10, -aB_app10, -aS_app10, -aLt_app10I, -aLf_app10I, -aLt_app1I, -aLf_app1I, ga18, gb18, gc18, ge18, gz18]⟩
    ·rw [if_neg kc14] at h13
     refine Wc.condF' (t := _) (by conv => lhs; simp) (by simpa using kc14) ?_
     refine Wc.seq ?_
     refine Wc.kil (by conv => lhs; simp) ?_
     refine Wc.seq ?_
     refine Wc.evs (by conv => lhs; simp [-aI_app1, -aI_app0, -aB_app0, -aS_app0, -aL_app0, -aI_app10, -aB_app10, -aS_app10, -aLt_app10I, -aLf_app10I, -aLt_app1I, -aLf_app1I]) ?_
     refine Wo.nil ?_
     obtain ⟨w19, h20, h13⟩ := bind_some h13
     refine Wc.monoG (Q := (QN (fun (y : (List Int) × Int × Int × (List Relation)) => [(0, .v (.ptr true [(ssl eU y.1), (iT y.2.1), (iT y.2.2.1)])), (2, .v (.ptr true [(osl eRelation true ([])), (osl eFact true ([]))])), (3, .v (.ptr true [(osl eRelation true y.2.2.2), (osl eFact false o1.1.Facts)]))])) w19) ?_ ?_
     ·skip
      by_cases kc21 : o3.1 = 2
      ·rw [if_pos kc21] at h20
       refine Wc.condT' (t := _) (by conv => lhs; simp) (by simpa using kc21) ?_
       refine Wc.seq ?_
       refine Wc.kil (by conv => lhs; simp) ?_
       refine Wc.evs (by conv => lhs; simp [-aI_app1, -aI_app0, -aB_app0, -aS_app0, -aL_app0, -aI_app10, -aB_app10, -aS_app10, -aLt_app10I, -aLf_app10I, -aLt_app1I, -aLf_app1I]) ?_
       obtain ⟨o22, h23, h20⟩ := bind_some h20
       refine Wo.ra (q := 33) (r := 0) (by conv => lhs; simp) (by rfl) (by decide) ?_
       refine Wo.call (by simp) rfl (by (conv => lhs; simp [-aI_app1, -aI_app0, -aB_app0, -aS_app0, -aL_app0, -aI_app10, -aB_app10, -aS_app10, -aLt_app10I, -aLf_app10I, -aLt_app1I, -aLf_app1I, cx, ioTab]) <;> rfl) (run_ h23) (by simp) (by simp) (by (conv => lhs; simp [-aI_app1, -aI_app0, -aB_app0, -aS_app0, -aL_app0, -aI_app10, -aB_app10, -aS_app10, -aLt_app10I, -aLf_app10I, -aLt_app1I, -aLf_app1I, cx, ioTab]) <;> rfl) (by (conv => lhs; simp [-aI_app1, -aI_app0, -aB_app0, -aS_app0, -aL_app0, -aI_app10, -aB_app10, -aS_app10, -aLt_app10I, -aLf_app10I, -aLt_app1I, -aLf_app1I]) <;> rfl) ?_
       refine Wo.nil ⟨_, by conv => lhs; simp [-aI_app1, -aI_app0, -aB_app0, -aS_app0, -aL_app0, -aI_app10, -aB_app10, -aS_app10, -aLt_app10I, -aLf_app10I, -aLt_app1I, -aLf_app1I], ?_⟩
       refine Wo.st (by conv => lhs; simp [-aI_app1, -aI_app0, -aB_app0, -aS_app0, -aL_app0, -aI_app10, -aB_app10, -aS_app10, -aLt_app10I, -aLf_app10I, -aLt_app1I, -aLf_app1I]) ?_
       obtain ⟨o24, h25, h20⟩ := bind_some h20
       refine Wo.call (by simp) rfl (by (conv => lhs; simp [-aI_app1, -aI_app0, -aB_app0, -aS_app0, -aL_app0, -aI_app10, -aB_app10, -aS_app10, -aLt_app10I, -aLf_app10I, -aLt_app1I, -aLf_app1I, cx, ioTab]) <;> rfl) (run_ h25) (by simp) (by simp) (by (conv => lhs; simp [-aI_app1, -aI_app0, -aB_app0, -aS_app0, -aL_app0, -aI_app10, -aB_app10, -aS_app10, -aLt_app10I, -aLf_app10I, -aLt_app1I, -aLf_app1I, cx, ioTab]) <;> rfl) (by (conv => lhs; simp [-aI_app1, -aI_app0, -aB_app0, -aS_app0, -aL_app0, -aI_app10, -aB_app10, -aS_app10, -aLt_app10I, -aLf_app10I, -aLt_app1I, -aLf_app1I]) <;> rfl) ?_
       obtain ⟨v_26, h27, h20⟩ := bind_some h20
       obtain ⟨ga27, gb27, gc27⟩ := ix_some h27
       have gn27 := ix_ne h27
       have gf27 := arr_fit (E := eRelation) (b := true) (i := o22.1.toNat) (l := o1.1.Relations) (by omega)
       have gg27_0 := arr_get (E := eRelation) (b := true) (o := 0) gc27 (by decide)
       have gg27_1 := arr_get (E := eRelation) (b := true) (o := 1) gc27 (by decide)
       have gg27_2 := arr_get (E := eRelation) (b := true) (o := 2) gc27 (by decide)
       have gd27 := arr_at (E := eRelation) (b := true) gc27
       simp at gf27 gg27_0 gg27_1 gg27_2 gd27
       have gl27 : o22.1.toNat < o1.1.Relations.length := by omega
       have gy28 := lay_set (E := eRelation) (b := true) (i := o22.1.toNat) (l := o1.1.Relations) o24.1 (by omega)
       simp at gy28
       refine Wo.evs (by conv => lhs; simp [-aI_app1, -aI_app0, -aB_app0, -aS_app0, -aL_app0, -aI_app10, -aB_app10, -aS_app10, -aLt_app10I, -aLf_app10I, -aLt_app1I, -aLf_app1I, -getElem?_pos, List.getElem?_cons_zero, List.getElem?_cons_succ, ga27, gb27, gn27, gf27, gg27_0, gg27_1, gg27_2, gd27, gl27, gy28]) ?_
       refine Wo.nil ?_
       cases h20
       exact ⟨_, (VLe.refl _), rfl, by first | rfl | simp [-aI_app1, -aI_app0, -aB_app0, -aS_app0, -aL_app0, -aI_app10, -aB_app10, -aS_app10, -aLt_app10I, -aLf_app10I, -aLt_app1I, -aLf_app1I, -getElem?_pos, List.getElem?_cons_zero, List.getElem?_cons_succ, ga27, gb27, gn27, gf27, gg27_0, gg27_1, gg27_2, gd27, gl27, gy28]⟩
      ·rw [if_neg kc21] at h20
       refine Wc.condF' (t := _) (by conv => lhs; simp) (by simpa using kc21) ?_
       refine Wc.seq ?_
       refine Wc.kil (by conv => lhs; simp) ?_
       refine Wc.skip ?_
       cases h20
       exact ⟨_, (VLe.refl _), rfl, by first | rfl | simp [-aI_app1, -aI_app0, -aB_app0, -aS_app0, -aL_app0, -aI_app10, -aB_app10, -aS_app10, -aLt_app10I, -aLf_app10I, -aLt_app1I, -aLf_app1I]⟩
     ·skip
      obtain ⟨c_29, c_30, c_31, d_32⟩ := w19
      rintro ex V ⟨rfl, rfl⟩
      dsimp only at h13 ⊢
      cases h13
      exact ⟨_, (vle_of (vle_pf (s := 3) (t1 := (.ptr true [(ssl eRelation d_32), (osl eFact false o1.1.Facts)])) rfl (by simp) (PF.ptr (PFs.cons (PF.frze (by simp)) (PFs.cons (PF.refl _) PFs.nil))) (by conv => lhs; simp)) (VLe.refl _)), rfl, by first | rfl | simp [-aI_app1, -aI_app0, -aB_app0, -aS_app0, -aL_app0, -aI_app10, -aB_app10, -aS_app10, -aLt_app10I, -aLf_app10I, -aLt_app1I, -aLf_app1I]⟩
   ·skip
    obtain ⟨c_33, c_34, c_35, d_36, d_37⟩ := w12
    rintro ex V ⟨rfl, rfl⟩
    dsimp only at h6 ⊢
    cases h6
    exact ⟨_, (VLe.refl _), rfl, by first | rfl | simp [-aI_app1, -aI_app0, -aB_app0, -aS_app0, -aL_app0, -aI_app10, -aB_app10, -aS_app10, -aLt_app10I, -aLf_app10I, -aLt_app1I, -aLf_app1I]⟩
 ·skip
  obtain ⟨c_38, c_39, c_40, d_41, d_42⟩ := w5
  rintro ex V ⟨rfl, rfl⟩
  dsimp only at h ⊢
  refine Wc.seq ?_
  refine Wc.evs (by conv => lhs; simp [-aI_app1, -aI_app0, -aB_app0, -aS_app0, -aL_app0, -aI_app10, -aB_app10, -aS_app10, -aLt_app10I, -aLf_app10I, -aLt_app1I, -aLf_app1I]) ?_
  refine Wo.nil ?_
  refine Wc.ret ⟨_, (VLe.refl _), res_of (.inr rfl) ?_⟩
  cases h
  exact ⟨_, _, _, by conv => lhs; simp, by (conv => lhs; simp [cx, ioTab, List.range, List.range.loop]) <;> rfl, by first | rfl | simp [-aI_app1, -aI_app0, -aB_app0, -aS_app0, -aL_app0, -aI_app10, -aB_app10, -aS_app10, -aLt_app10I, -aLf_app10I, -aLt_app1I, -aLf_app1I]⟩
instance i19 {c : L1Cur} : Rn cx (f19 c) 19 [(.ptr true [(ssl eU c.b), (iT c.i), (iT c.h)])] (fun (r : Database × L1Cur) => (.agg [(ssl eRelation r.1.Relations), (osl eFact false r.1.Facts)])) (fun r => [(.ptr true [(ssl eU r.2.b), (iT r.2.i), (iT r.2.h)])]) := ⟨fun _ h => r19 h⟩
instance i21 {c : L1Cur} {n1 : Int} : Rn cx (f21 c n1) 21 [(.ptr true [(ssl eU c.b), (iT c.i), (iT c.h)]), (iT n1)] (fun (r : Bool × L1Cur) => (.bool r.1)) (fun r => [(.ptr true [(ssl eU r.2.b), (iT r.2.i), (iT r.2.h)])]) := Rn.o rfl (by unfold f21; exact go)
instance i105_0 {q : Query} : Lp cx (f105_0 q) 40 L105_0 (fun (zs : Int × (List Atom) × (List Int) × Int) => [(1, .v (.ptr true [(iT q.VariableCount), (ssl eAtom q.Atoms), (ssl eI q.Free)])), (2, .v (.ptr true [(iT 0), (osl eAtom true ([])), (osl eI true ([]))])), (3, .v (.ptr true [(iT zs.1), (osl eAtom true zs.2.1), (osl eI true zs.2.2.1)])), (4, .v (iT zs.2.2.2))]) (QX 0 (fun (y : Int × (List Atom) × (List Int)) => [(2, .v (.ptr true [(iT 0), (osl eAtom true ([])), (osl eI true ([]))])), (3, .v (.ptr true [(iT y.1), (osl eAtom true y.2.1), (osl eI true y.2.2)]))])) := Lp.of (f := (fun
 | (x_3, x_4, x_5, i_6) =>
  if i_6 < (q.Atoms.length : Int) then
  (ix q.Atoms i_6).bind fun v_8 =>
  (app 8 ([]) v_8.Terms).bind fun l_10 =>
  sn 16 34 (osl eI true l_10) <| 
  (app 32 x_4 ([({ Relation := v_8.Relation, Terms := l_10 } : Atom)])).bind fun l_12 =>
  some (.inl (x_3, l_12, x_5, w64 (i_6 + 1)))
  else
  some (.inr (x_3, x_4, x_5)) : Int × (List Atom) × (List Int) × Int → Option ((Int × (List Atom) × (List Int) × Int) ⊕ (Int × (List Atom) × (List Int))))) (by exact go)
instance i105 {q : Query} : Rn cx (f105 q) 105 [(.agg [(iT q.VariableCount), (ssl eAtom q.Atoms), (ssl eI q.Free)])] (fun (r : Query) => (.agg [(iT r.VariableCount), (osl eAtom true r.Atoms), (osl eI true r.Free)])) (fun r => []) := Rn.o (e := (
  sn 2 2 (.ptr true [(iT 0), (osl eAtom true ([])), (osl eI true ([]))]) <| 
  (app 8 ([]) q.Free).bind fun l_1 =>
  sn 7 10 (osl eI true l_1) <| 
  sn 1 11 (.agg [(iT q.VariableCount), (osl eAtom true ([])), (osl eI true l_1)]) <| 
  (iter (f105_0 q) (q.VariableCount, [], l_1, 0)).bind fun (x_16, x_17, x_18) =>
  some ({ VariableCount := x_16, Atoms := x_17, Free := x_18 } : Query) : Option Query)) rfl (by exact go)
instance : Io0 cx 105 := ⟨rfl⟩
instance i144_2 {i_7 : Int} {x_9 : Int} {x_10 : (List Atom)} {x_11 : (List Int)} {name_12 : (List Int)} {k_13 : Int} {v_19 : Int} : Lp cx (lw (i_7, x_9, x_10, x_11, k_13) (f144_2 name_12 v_19)) 76 L144_2 (fun (zs : Int × Int) => [(2, .v (.ptr true [(iT 0), (osl eAtom true ([])), (osl eI true ([]))])), (3, .v (.ptr true [(iT x_9), (osl eAtom true x_10), (osl eI true x_11)])), (4, .v (osl eI true name_12)), (5, .v (iT i_7)), (6, .v (iT k_13)), (7, .v (iT v_19)), (8, .v (iT zs.1)), (9, .v (iT zs.2))]) (QX 4 (fun (y : Int) => [(2, .v (.ptr true [(iT 0), (osl eAtom true ([])), (osl eI true ([]))])), (3, .v (.ptr true [(iT x_9), (osl eAtom true x_10), (osl eI true x_11)])), (4, .v (osl eI true name_12)), (5, .v (iT i_7)), (6, .v (iT k_13)), (7, .v (iT v_19)), (8, .v (iT y))])) := Lp.of (f := (fun
 | (at_22, j_23) =>
  if j_23 < (name_12.length : Int) then
  (ix name_12 j_23).bind fun v_25 =>
  (jn (QN (fun (y : Int) => [(2, .v (.ptr true [(iT 0), (osl eAtom true ([])), (osl eI true ([]))])), (3, .v (.ptr true [(iT x_9), (osl eAtom true x_10), (osl eI true x_11)])), (4, .v (osl eI true name_12)), (5, .v (iT i_7)), (6, .v (iT k_13)), (7, .v (iT v_19)), (8, .v (iT y)), (9, .v (iT j_23))])) ((if v_25 = v_19 then
  some j_23
  else
  some at_22) : Option Int)).bind fun at_30 =>
  some (.inl (at_30, w64 (j_23 + 1)))
  else
  some (.inr at_22) : Int × Int → Option ((Int × Int) ⊕ Int))) (by exact go)
end
end Go.Proofs.YtamibblcpccjlaaGreatH
