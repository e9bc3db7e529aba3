import Derived.Test.YtamibblcpccjlaaGreatCx1
import Derived.Test.YtamibblcpccjlaaGreatX4
import Derived.Test.YtamibblcpccjlaaGreatTd1
set_option maxHeartbeats 2000000
set_option linter.unusedVariables false
set_option linter.unusedSimpArgs false
set_option linter.defProp false
set_option linter.unusedSectionVars false
set_option maxRecDepth 100000
namespace Go.Proofs.YtamibblcpccjlaaGreatH
open Go
noncomputable section
variable {o1 o3 o5 : (Int × L1Cur)} {blocks known last_12 o32 o4 o6 out_11 slices : (List (List Int))} {o24 : (List (List UInt8))} {derivation steps : (List DerivationStep)} {a b block code from2 indices list s1 s2 set1 terms v_12 : (List Int)} {l relations : (List Relation)} {name s0 : (List UInt8)} {atom v_19 : Atom} {d db : Database} {v_1 : DerivationStep} {f : Fact} {high i i_1 i_17 i_7 k low n0 n1 n_13 sign t v val x y : Int} {c : L1Cur} {q query : Query}
abbrev iT (n : Int) : T := .int .i64 n
instance : Cl cx := ⟨fun j h => vsound (fun _ _ _ _ h => h) h, fun f ts t outs h => .ext h⟩
@[simp high] theorem ioz {f : Nat} [h : Io0 cx f] : ioTab f = [] := h.io
@[simp] theorem ioz20 : ioTab 20 = [0] := rfl
@[simp] theorem ioz21 : ioTab 21 = [0] := rfl
@[simp] theorem ioz23 : ioTab 23 = [0] := rfl
@[simp] theorem ioz45 : ioTab 45 = [0] := rfl
@[simp] theorem ioz47 : ioTab 47 = [0] := rfl
@[simp] theorem ioz60 : ioTab 60 = [0] := rfl
@[simp] theorem ioz63 : ioTab 63 = [0] := rfl
@[simp] theorem ioz64 : ioTab 64 = [0] := rfl
@[simp] theorem ioz67 : ioTab 67 = [0] := rfl
@[simp] theorem ioz84 : ioTab 84 = [0] := rfl
@[simp] theorem ioz87 : ioTab 87 = [0] := rfl
@[simp] theorem ioz100 : ioTab 100 = [0] := rfl
@[simp] theorem ioz101 : ioTab 101 = [0] := rfl
@[simp] theorem ioz102 : ioTab 102 = [0] := rfl
@[simp] theorem ioz103 : ioTab 103 = [0] := rfl
@[simp] theorem ioz122 : ioTab 122 = [0] := rfl
@[simp] theorem ioz123 : ioTab 123 = [0] := rfl
@[simp] theorem ioz124 : ioTab 124 = [0] := rfl
@[simp] theorem ioz132 : ioTab 132 = [3] := rfl
instance i5 : Rn cx (f5 code) 5 [(ssl eU code)] (fun (r : Bool) => (.bool r)) (fun r => []) := Rn.o rfl (by unfold f5; exact go)
instance : Io0 cx 5 := ⟨rfl⟩
instance i18_0 : Lp cx (f18_0 code) 32 L18_0 (fun (zs : Int × Int) => [(0, .v (ssl eU code)), (3, .v (iT zs.1)), (4, .v (iT zs.2))]) (QX 0 (fun (y : Int) => [(0, .v (ssl eU code)), (3, .v (iT y))])) := Lp.of (f := (fun
 | (h_1, i_2) =>
  (jn (QN (fun (y : Bool) => [(0, .v (ssl eU code)), (3, .v (iT h_1)), (4, .v (iT i_2)), (15, .v (.bool y))])) ((if i_2 < (code.length : Int) then
  some (decide (i_2 < 4000))
  else
  some false) : Option (Bool))).bind fun x_3 =>
  if x_3 = true then
  (ix code i_2).bind fun v_7 =>
  some (.inl (band .i64 (w64 ((w64 ((w64 (h_1 * 131)) + (w64 v_7))) + 7)) 1073741823, w64 (i_2 + 1)))
  else
  some (.inr h_1) : Int × Int -> Option ((Int × Int) ⊕ Int))) (by exact go)
instance i18 : Rn cx (f18 code) 18 [(ssl eU code)] (fun (r : L1Cur) => (.ptr true [(ssl eU r.b), (iT r.i), (iT r.h)])) (fun r => []) := Rn.o rfl (by unfold f18; exact go)
instance : Io0 cx 18 := ⟨rfl⟩
instance i63 : Rn cx (f63 c) 63 [(.ptr true [(ssl eU c.b), (iT c.i), (iT c.h)])] (fun (r : Int × L1Cur) => (iT r.1)) (fun r => [(.ptr true [(ssl eU r.2.b), (iT r.2.i), (iT r.2.h)])]) := Rn.o (e := (
  (jn (QN (fun (y : Int × Int) => [(0, .v (.ptr true [(ssl eU c.b), (iT y.1), (iT (w64 ((w64 (c.h * 6364136223846793005)) + 1442695040888963407)))])), (3, .v (iT y.2))])) ((if c.i < (c.b.length : Int) then
  (ix c.b c.i).bind fun v_4 =>
  some (w64 (c.i + 1), band .i64 (w64 ((band .i64 (bxor .i64 (sshr .i64 (w64 ((w64 (c.h * 6364136223846793005)) + 1442695040888963407)) 33) (sshr .i64 (w64 ((w64 (c.h * 6364136223846793005)) + 1442695040888963407)) 45)) 255) + (w64 v_4))) 255)
  else
  some (c.i, band .i64 (bxor .i64 (sshr .i64 (w64 ((w64 (c.h * 6364136223846793005)) + 1442695040888963407)) 33) (sshr .i64 (w64 ((w64 (c.h * 6364136223846793005)) + 1442695040888963407)) 45)) 255)) : Option (Int × Int))).bind fun (c_6, x_7) =>
  some (x_7, ({ b := c.b, i := c_6, h := w64 ((w64 (c.h * 6364136223846793005)) + 1442695040888963407) } : L1Cur)) : Option (Int × L1Cur))) rfl (by exact go)
instance i20 : Rn cx (f20 c n1) 20 [(.ptr true [(ssl eU c.b), (iT c.i), (iT c.h)]), (iT n1)] (fun (r : Int × L1Cur) => (iT r.1)) (fun r => [(.ptr true [(ssl eU r.2.b), (iT r.2.i), (iT r.2.h)])]) := Rn.o rfl (by unfold f20; exact go)
instance i67 : Rn cx (f67 c list) 67 [(.ptr true [(ssl eU c.b), (iT c.i), (iT c.h)]), (ssl eI list)] (fun (r : Int × L1Cur) => (iT r.1)) (fun r => [(.ptr true [(ssl eU r.2.b), (iT r.2.i), (iT r.2.h)])]) := Rn.o rfl (by unfold f67; exact go)
instance i23 : Rn cx (f23 c) 23 [(.ptr true [(ssl eU c.b), (iT c.i), (iT c.h)])] (fun (r : (List Relation) × L1Cur) => (osl eRelation true r.1)) (fun r => [(.ptr true [(ssl eU r.2.b), (iT r.2.i), (iT r.2.h)])]) := Rn.o (e := (
  sn 5 6 (osl eI true ([1, 1, 2, 0])) <| 
  sn 0 6 (ssl eI ([1, 1, 2, 0])) <| 
  (f67 c ([1, 1, 2, 0])).bind fun o1 =>
  (f20 o1.2 2).bind fun o3 =>
  sn 4 2 (osl eRelation true ([({ Name := [114], Arity := 2, KeyLength := 1 } : Relation), ({ Name := [115], Arity := 2, KeyLength := 1 } : Relation), ({ Name := [116], Arity := 2, KeyLength := o1.1 } : Relation), ({ Name := [117], Arity := 3, KeyLength := w64 (1 + o3.1) } : Relation)])) <| 
  some ([({ Name := [114], Arity := 2, KeyLength := 1 } : Relation), ({ Name := [115], Arity := 2, KeyLength := 1 } : Relation), ({ Name := [116], Arity := 2, KeyLength := o1.1 } : Relation), ({ Name := [117], Arity := 3, KeyLength := w64 (1 + o3.1) } : Relation)], o3.2) : Option ((List Relation) × L1Cur))) rfl (by exact go)
instance i100_0 : Lp cx (f100_0 l val) 32 L100_0 (fun (zs : (List Int) × Int × Int × Int × (List Int)) => [(0, .v (.ptr true [(ssl eU zs.1), (iT zs.2.1), (iT zs.2.2.1)])), (1, .v (ssl eRelation l)), (2, .v (iT val)), (6, .v (.ptr true [(iT 0), (osl eI true ([]))])), (7, .v (.ptr true [(iT zs.2.2.2.1), (osl eI true zs.2.2.2.2)]))]) (QX 0 (fun (y : (List Int) × Int × Int × Int × (List Int)) => [(0, .v (.ptr true [(ssl eU y.1), (iT y.2.1), (iT y.2.2.1)])), (6, .v (.ptr true [(iT 0), (osl eI true ([]))])), (7, .v (.ptr true [(iT y.2.2.2.1), (osl eI true y.2.2.2.2)]))])) := Lp.of (by unfold f100_0; exact go)
instance i100 : Rn cx (f100 c l val) 100 [(.ptr true [(ssl eU c.b), (iT c.i), (iT c.h)]), (ssl eRelation l), (iT val)] (fun (r : Fact × L1Cur) => (.agg [(iT r.1.Relation), (osl eI true r.1.Values)])) (fun r => [(.ptr true [(ssl eU r.2.b), (iT r.2.i), (iT r.2.h)])]) := Rn.o (e := (
  sn 1 6 (.ptr true [(iT 0), (osl eI true ([]))]) <| 
  (f20 c (l.length : Int)).bind fun o1 =>
  sn 2 12 (.agg [(iT o1.1), (osl eI true ([]))]) <| 
  (iter (f100_0 l val) (o1.2.b, o1.2.i, o1.2.h, o1.1, [])).bind fun (c_17, c_18, c_19, f_20, f_21) =>
  some (({ Relation := f_20, Values := f_21 } : Fact), ({ b := c_17, i := c_18, h := c_19 } : L1Cur)) : Option (Fact × L1Cur))) rfl (by exact go)
instance i142_0 : Lp cx (f142_0 d) 38 L142_0 (fun (zs : (List Relation) × (List Fact) × Int) => [(1, .v (.ptr true [(ssl eRelation d.Relations), (ssl eFact d.Facts)])), (2, .v (.ptr true [(osl eRelation true ([])), (osl eFact true ([]))])), (3, .v (.ptr true [(osl eRelation true zs.1), (osl eFact true zs.2.1)])), (4, .v (iT zs.2.2))]) (QX 0 (fun (y : (List Relation) × (List Fact)) => [(2, .v (.ptr true [(osl eRelation true ([])), (osl eFact true ([]))])), (3, .v (.ptr true [(osl eRelation true y.1), (osl eFact true y.2)]))])) := Lp.of (f := (fun
 | (x_3, x_4, i_5) =>
  if i_5 < (d.Facts.length : Int) then
  (ix d.Facts i_5).bind fun v_7 =>
  (app 8 ([]) v_7.Values).bind fun l_9 =>
  sn 16 32 (osl eI true l_9) <| 
  (app 32 x_4 ([({ Relation := v_7.Relation, Values := l_9 } : Fact)])).bind fun l_11 =>
  some (.inl (x_3, l_11, w64 (i_5 + 1)))
  else
  some (.inr (x_3, x_4)) : (List Relation) × (List Fact) × Int -> Option (((List Relation) × (List Fact) × Int) ⊕ ((List Relation) × (List Fact))))) (by exact go)
instance i142 : Rn cx (f142 d) 142 [(.agg [(ssl eRelation d.Relations), (ssl eFact d.Facts)])] (fun (r : Database) => (.agg [(osl eRelation true r.Relations), (osl eFact true r.Facts)])) (fun r => []) := Rn.o (e := (
  sn 2 2 (.ptr true [(osl eRelation true ([])), (osl eFact true ([]))]) <| 
  (app 32 ([]) d.Relations).bind fun l_1 =>
  sn 4 8 (osl eRelation true l_1) <| 
  sn 2 9 (.agg [(osl eRelation true l_1), (osl eFact true ([]))]) <| 
  (iter (f142_0 d) (l_1, [], 0)).bind fun (x_15, x_16) =>
  some ({ Relations := x_15, Facts := x_16 } : Database) : Option Database)) rfl (by exact go)
instance : Io0 cx 142 := ⟨rfl⟩
instance i38 : Rn cx (f38 x low high) 38 [(iT x), (iT low), (iT high)] (fun (r : Bool) => (.bool r)) (fun r => []) := Rn.o (e := (
  (jn (QN (fun (y : Bool) => [(6, .v (.bool y))])) ((if x >= low then
  some (decide (x <= high))
  else
  some false) : Option (Bool))).bind fun x_1 =>
  some x_1 : Option Bool)) rfl (by exact go)
instance : Io0 cx 38 := ⟨rfl⟩
instance i79 {s0 : Relation} : Rn cx (f79 s0) 79 [(.agg [(.str s0.Name), (iT s0.Arity), (iT s0.KeyLength)])] (fun (r : Bool) => (.bool r)) (fun r => []) := Rn.o (e := (
  (jn (QN (fun (y : Bool) => [(2, .v (.bool y))])) ((if (s0.Name.length : Int) = 1 then
  (ix s0.Name 0).bind fun c_4 =>
  (jn (QN (fun (y : Bool) => [(2, .v (.bool y))])) ((if (c_4.toNat : Int) >= 97 then
  (jn (QN (fun (y : Bool) => [(2, .v (.bool y))])) ((if (c_4.toNat : Int) <= 122 then
  (f38 s0.Arity 1 3).bind fun o12 =>
  (jn (QN (fun (y : Bool) => [(2, .v (.bool y))])) ((if o12 = true then
  (f38 s0.KeyLength 0 s0.Arity).bind fun o17 =>
  some o17
  else
  some false) : Option (Bool))).bind fun x_14 =>
  some x_14
  else
  some false) : Option (Bool))).bind fun x_9 =>
  some x_9
  else
  some false) : Option (Bool))).bind fun x_6 =>
  some x_6
  else
  some false) : Option (Bool))).bind fun x_1 =>
  some x_1 : Option Bool)) rfl (by exact go)
instance : Io0 cx 79 := ⟨rfl⟩
instance i37_0 : Lp cx (f37_0 l) 37 L37_0 (fun (zs : Int) => [(0, .v (ssl eRelation l)), (3, .v (iT zs))]) (QO (QX 0 (fun (y : Unit) => [(0, .v (ssl eRelation l))])) (QR (fun (y : Bool) => [(2, .v (.bool y))]))) := Lp.of (f := (fun
 | i_1 =>
  if i_1 < (l.length : Int) then
  (ix l i_1).bind fun v_3 =>
  (f79 v_3).bind fun o5 =>
  (jn (QN (fun (y : Bool) => [(0, .v (ssl eRelation l)), (3, .v (iT i_1)), (33, .v (.bool y))])) ((if ¬ (o5 = true) then
  some true
  else
  (jn (QN (fun (y : Bool) => [(0, .v (ssl eRelation l)), (3, .v (iT i_1)), (33, .v (.bool y))])) ((if i_1 > 0 then
  (ix l (w64 (i_1 - 1))).bind fun v_13 =>
  some (!(Op.bytesLess v_13.Name v_3.Name))
  else
  some false) : Option (Bool))).bind fun x_10 =>
  some x_10) : Option (Bool))).bind fun x_7 =>
  if x_7 = true then
  some (.inr (.inr false))
  else
  some (.inl (w64 (i_1 + 1)))
  else
  some (.inr (.inl ())) : Int -> Option (Int ⊕ (Unit ⊕ Bool)))) (by exact go)
instance i37 : Rn cx (f37 l) 37 [(ssl eRelation l)] (fun (r : Bool) => (.bool r)) (fun r => []) := Rn.o rfl (by unfold f37; exact go)
instance : Io0 cx 37 := ⟨rfl⟩
instance i42_0 : Lp cx (f42_0 f) 44 L42_0 (fun (zs : Int) => [(3, .v (.ptr true [(iT f.Relation), (ssl eI f.Values)])), (5, .v (iT zs))]) (QO (QX 0 (fun (y : Unit) => [])) (QR (fun (y : Bool) => [(4, .v (.bool y))]))) := Lp.of (by unfold f42_0; exact go)
instance i42 : Rn cx (f42 l f) 42 [(ssl eRelation l), (.agg [(iT f.Relation), (ssl eI f.Values)])] (fun (r : Bool) => (.bool r)) (fun r => []) := Rn.o (e := (
  (f37 l).bind fun o1 =>
  (jn (QN (fun (y : Bool) => [(3, .v (.ptr true [(iT f.Relation), (ssl eI f.Values)])), (29, .v (.bool y))])) ((if ¬ (o1 = true) then
  some true
  else
  (f38 f.Relation 0 (w64 ((l.length : Int) - 1))).bind fun o6 =>
  (jn (QN (fun (y : Bool) => [(3, .v (.ptr true [(iT f.Relation), (ssl eI f.Values)])), (29, .v (.bool y))])) ((if ¬ (o6 = true) then
  some true
  else
  (ix l f.Relation).bind fun v_11 =>
  some (decide ((f.Values.length : Int) ≠ v_11.Arity))) : Option (Bool))).bind fun x_8 =>
  some x_8) : Option (Bool))).bind fun x_3 =>
  if x_3 = true then
  some false
  else
  (iter (f42_0 f) 0).bind fun o => match o with
  | .inl _ =>
  some true
  | .inr x_23 =>
  some x_23 : Option Bool)) rfl (by exact go)
instance : Io0 cx 42 := ⟨rfl⟩
instance i81_0 : Lp cx (f81_0 a b) 46 L81_0 (fun (zs : Int) => [(0, .v (ssl eI a)), (1, .v (ssl eI b)), (5, .v (iT zs))]) (QO (QX 0 (fun (y : Unit) => [(0, .v (ssl eI a)), (1, .v (ssl eI b))])) (QR (fun (y : Int) => [(4, .v (iT y))]))) := Lp.of (f := (fun
 | i_1 =>
  (jn (QN (fun (y : Bool) => [(0, .v (ssl eI a)), (1, .v (ssl eI b)), (5, .v (iT i_1)), (15, .v (.bool y))])) ((if i_1 < (a.length : Int) then
  some (decide (i_1 < (b.length : Int)))
  else
  some false) : Option (Bool))).bind fun x_2 =>
  if x_2 = true then
  (ix a i_1).bind fun v_6 =>
  (ix b i_1).bind fun v_8 =>
  if v_6 < v_8 then
  some (.inr (.inr (-1)))
  else
  if v_6 > v_8 then
  some (.inr (.inr 1))
  else
  some (.inl (w64 (i_1 + 1)))
  else
  some (.inr (.inl ())) : Int -> Option (Int ⊕ (Unit ⊕ Int)))) (by exact go)
instance i81 : Rn cx (f81 a b) 81 [(ssl eI a), (ssl eI b)] (fun (r : Int) => (iT r)) (fun r => []) := Rn.o rfl (by unfold f81; exact go)
instance : Io0 cx 81 := ⟨rfl⟩
instance i43 {a : Fact} {b : Fact} : Rn cx (f43 a b) 43 [(.agg [(iT a.Relation), (ssl eI a.Values)]), (.agg [(iT b.Relation), (ssl eI b.Values)])] (fun (r : Int) => (iT r)) (fun r => []) := Rn.o rfl (by unfold f43; exact go)
instance : Io0 cx 43 := ⟨rfl⟩
instance i11_0 : Lp cx (f11_0 d) 48 L11_0 (fun (zs : Int) => [(1, .v (.ptr true [(ssl eRelation d.Relations), (ssl eFact d.Facts)])), (3, .v (iT zs))]) (QO (QX 0 (fun (y : Unit) => [(1, .v (.ptr true [(ssl eRelation d.Relations), (ssl eFact d.Facts)]))])) (QR (fun (y : Bool) => [(2, .v (.bool y))]))) := Lp.of (f := (fun
 | i_1 =>
  if i_1 < (d.Facts.length : Int) then
  (ix d.Facts i_1).bind fun v_3 =>
  (f42 d.Relations v_3).bind fun o5 =>
  (jn (QN (fun (y : Bool) => [(1, .v (.ptr true [(ssl eRelation d.Relations), (ssl eFact d.Facts)])), (3, .v (iT i_1)), (38, .v (.bool y))])) ((if ¬ (o5 = true) then
  some true
  else
  (jn (QN (fun (y : Bool) => [(1, .v (.ptr true [(ssl eRelation d.Relations), (ssl eFact d.Facts)])), (3, .v (iT i_1)), (38, .v (.bool y))])) ((if i_1 > 0 then
  (ix d.Facts (w64 (i_1 - 1))).bind fun v_13 =>
  (f43 v_13 v_3).bind fun o15 =>
  some (decide (o15 >= 0))
  else
  some false) : Option (Bool))).bind fun x_10 =>
  some x_10) : Option (Bool))).bind fun x_7 =>
  if x_7 = true then
  some (.inr (.inr false))
  else
  some (.inl (w64 (i_1 + 1)))
  else
  some (.inr (.inl ())) : Int -> Option (Int ⊕ (Unit ⊕ Bool)))) (by exact go)
instance i11 : Rn cx (f11 d) 11 [(.agg [(ssl eRelation d.Relations), (ssl eFact d.Facts)])] (fun (r : Bool) => (.bool r)) (fun r => []) := Rn.o (e := (
  (iter (f11_0 d) 0).bind fun o => match o with
  | .inl _ =>
  (f37 d.Relations).bind fun o21 =>
  (jn (QN (fun (y : Bool) => [(2, .v (.bool y))])) ((if o21 = true then
  some (decide ((d.Facts.length : Int) <= 14))
  else
  some false) : Option (Bool))).bind fun x_23 =>
  some x_23
  | .inr x_20 =>
  some x_20 : Option Bool)) rfl (by exact go)
instance : Io0 cx 11 := ⟨rfl⟩
instance i175_0 : Lp cx (f175_0 d f) 22 L175_0 (fun (zs : Int) => [(2, .v (.ptr true [(ssl eRelation d.Relations), (ssl eFact d.Facts)])), (3, .v (.ptr true [(iT f.Relation), (ssl eI f.Values)])), (5, .v (iT zs))]) (QO (QX 0 (fun (y : Unit) => [])) (QR (fun (y : Int) => [(4, .v (iT y))]))) := Lp.of (by unfold f175_0; exact go)
instance i175 : Rn cx (f175 d f) 175 [(.agg [(ssl eRelation d.Relations), (ssl eFact d.Facts)]), (.agg [(iT f.Relation), (ssl eI f.Values)])] (fun (r : Int) => (iT r)) (fun r => []) := Rn.o rfl (by unfold f175; exact go)
instance : Io0 cx 175 := ⟨rfl⟩
instance i143 : Rn cx (f143 d f) 143 [(.agg [(ssl eRelation d.Relations), (ssl eFact d.Facts)]), (.agg [(iT f.Relation), (ssl eI f.Values)])] (fun (r : Bool) => (.bool r)) (fun r => []) := Rn.o (e := (
  (f11 d).bind fun o1 =>
  (jn (QN (fun (y : Bool) => [(4, .v (.bool y))])) ((if o1 = true then
  (f175 d f).bind fun o6 =>
  some (decide (o6 >= 0))
  else
  some false) : Option (Bool))).bind fun x_3 =>
  some x_3 : Option Bool)) rfl (by exact go)
instance : Io0 cx 143 := ⟨rfl⟩
instance i99_0 {o1 : Database} : Lp cx (f99_0 f o1) 73 L99_0 (fun (zs : Int) => [(3, .v (.ptr true [(iT f.Relation), (ssl eI f.Values)])), (4, .v (.ptr true [(osl eRelation true ([])), (osl eFact true ([]))])), (6, .v (.ptr true [(osl eRelation true o1.Relations), (osl eFact true o1.Facts)])), (7, .v (iT zs))]) (QX 0 (fun (y : Int) => [(3, .v (.ptr true [(iT f.Relation), (ssl eI f.Values)])), (4, .v (.ptr true [(osl eRelation true ([])), (osl eFact true ([]))])), (6, .v (.ptr true [(osl eRelation true o1.Relations), (osl eFact true o1.Facts)])), (7, .v (iT y))])) := Lp.of (f := (fun
 | k_19 =>
  (jn (QN (fun (y : Bool) => [(3, .v (.ptr true [(iT f.Relation), (ssl eI f.Values)])), (4, .v (.ptr true [(osl eRelation true ([])), (osl eFact true ([]))])), (6, .v (.ptr true [(osl eRelation true o1.Relations), (osl eFact true o1.Facts)])), (7, .v (iT k_19)), (47, .v (.bool y))])) ((if k_19 < (o1.Facts.length : Int) then
  (ix o1.Facts k_19).bind fun v_23 =>
  (f43 v_23 f).bind fun o25 =>
  some (decide (o25 < 0))
  else
  some false) : Option (Bool))).bind fun x_20 =>
  if x_20 = true then
  some (.inl (w64 (k_19 + 1)))
  else
  some (.inr k_19) : Int -> Option (Int ⊕ Int))) (by exact go)
instance i99 : Rn cx (f99 d f) 99 [(.agg [(ssl eRelation d.Relations), (ssl eFact d.Facts)]), (.agg [(iT f.Relation), (ssl eI f.Values)])] (fun (r : Database × Bool) => (.tup [(.agg [(osl eRelation true r.1.Relations), (osl eFact false r.1.Facts)]), (.bool r.2)])) (fun r => []) := Rn.o (e := (
  sn 4 4 (.ptr true [(osl eRelation true ([])), (osl eFact true ([]))]) <| 
  (f142 d).bind fun o1 =>
  (f11 d).bind fun o3 =>
  (jn (QN (fun (y : Bool) => [(3, .v (.ptr true [(iT f.Relation), (ssl eI f.Values)])), (4, .v (.ptr true [(osl eRelation true ([])), (osl eFact true ([]))])), (6, .v (.ptr true [(osl eRelation true o1.Relations), (osl eFact true o1.Facts)])), (31, .v (.bool y))])) ((if ¬ (o3 = true) then
  some true
  else
  (f42 d.Relations f).bind fun o8 =>
  (jn (QN (fun (y : Bool) => [(3, .v (.ptr true [(iT f.Relation), (ssl eI f.Values)])), (4, .v (.ptr true [(osl eRelation true ([])), (osl eFact true ([]))])), (6, .v (.ptr true [(osl eRelation true o1.Relations), (osl eFact true o1.Facts)])), (31, .v (.bool y))])) ((if ¬ (o8 = true) then
  some true
  else
  (f143 d f).bind fun o13 =>
  (jn (QN (fun (y : Bool) => [(3, .v (.ptr true [(iT f.Relation), (ssl eI f.Values)])), (4, .v (.ptr true [(osl eRelation true ([])), (osl eFact true ([]))])), (6, .v (.ptr true [(osl eRelation true o1.Relations), (osl eFact true o1.Facts)])), (31, .v (.bool y))])) ((if o13 = true then
  some true
  else
  some (decide ((d.Facts.length : Int) = 14))) : Option (Bool))).bind fun x_15 =>
  some x_15) : Option (Bool))).bind fun x_10 =>
  some x_10) : Option (Bool))).bind fun x_5 =>
  if x_5 = true then
  some (o1, false)
  else
  (iter (f99_0 f o1) 0).bind fun k_30 =>
  sn 5 6 (.ptr true [(osl eRelation true o1.Relations), (ssl eFact o1.Facts)]) <| 
  (cutL o1.Facts k_30 o1.Facts.length).bind fun l_31 =>
  (app 8 ([]) f.Values).bind fun l_33 =>
  sn 5 55 (osl eI true l_33) <| 
  sn 1 56 (.agg [(iT f.Relation), (ssl eI l_33)]) <| 
  (app 32 ([({ Relation := f.Relation, Values := l_33 } : Fact)]) l_31).bind fun l_35 =>
  sn 3 8 (osl eFact false l_35) <| 
  (cutL o1.Facts 0 k_30).bind fun l_37 =>
  (app 32 ([]) l_37).bind fun l_39 =>
  (app 32 l_39 l_35).bind fun l_41 =>
  sn 9 70 (osl eFact false l_41) <| 
  some (({ Relations := o1.Relations, Facts := l_41 } : Database), true) : Option (Database × Bool))) rfl (by exact go)
instance : Io0 cx 99 := ⟨rfl⟩
instance i60_0 : Lp cx (f60_0 o3) 30 L60_0 (fun (zs : (List Int) × Int × Int × (List Relation) × (List Fact) × Int) => [(0, .v (.ptr true [(ssl eU zs.1), (iT zs.2.1), (iT zs.2.2.1)])), (2, .v (.ptr true [(osl eRelation true ([])), (osl eFact true ([]))])), (3, .v (.ptr true [(osl eRelation true zs.2.2.2.1), (osl eFact false zs.2.2.2.2.1)])), (4, .v (iT o3.1)), (5, .v (iT zs.2.2.2.2.2))]) (QX 0 (fun (y : (List Int) × Int × Int × (List Relation) × (List Fact)) => [(0, .v (.ptr true [(ssl eU y.1), (iT y.2.1), (iT y.2.2.1)])), (2, .v (.ptr true [(osl eRelation true ([])), (osl eFact true ([]))])), (3, .v (.ptr true [(osl eRelation true y.2.2.2.1), (osl eFact false y.2.2.2.2)]))])) := Lp.of (f := (fun
 | (c_7, c_8, c_9, d_10, d_11, n_12) =>
  if n_12 > 0 then
  sn 0 3 (.ptr true [(ssl eRelation d_10), (ssl eFact d_11)]) <| 
  (f100 ({ b := c_7, i := c_8, h := c_9 } : L1Cur) d_10 o3.1).bind fun o14 =>
  sn 0 25 (.agg [(iT o14.1.Relation), (ssl eI o14.1.Values)]) <| 
  (f99 ({ Relations := d_10, Facts := d_11 } : Database) o14.1).bind fun o16 =>
  some (.inl (o14.2.b, o14.2.i, o14.2.h, o16.1.Relations, o16.1.Facts, w64 (n_12 - 1)))
  else
  some (.inr (c_7, c_8, c_9, d_10, d_11)) : (List Int) × Int × Int × (List Relation) × (List Fact) × Int -> Option (((List Int) × Int × Int × (List Relation) × (List Fact) × Int) ⊕ ((List Int) × Int × Int × (List Relation) × (List Fact))))) (by exact go)
instance i60 : Rn cx (f60 c) 60 [(.ptr true [(ssl eU c.b), (iT c.i), (iT c.h)])] (fun (r : Database × L1Cur) => (.agg [(osl eRelation true r.1.Relations), (osl eFact false r.1.Facts)])) (fun r => [(.ptr true [(ssl eU r.2.b), (iT r.2.i), (iT r.2.h)])]) := Rn.o (e := (
  sn 1 2 (.ptr true [(osl eRelation true ([])), (osl eFact true ([]))]) <| 
  (f23 c).bind fun o1 =>
  sn 2 8 (.agg [(osl eRelation true o1.1), (osl eFact true ([]))]) <| 
  sn 3 10 (osl eI true ([2, 2, 3, 3])) <| 
  sn 0 10 (ssl eI ([2, 2, 3, 3])) <| 
  (f67 o1.2 ([2, 2, 3, 3])).bind fun o3 =>
  (f20 o3.2 11).bind fun o5 =>
  (iter (f60_0 o3) (o5.2.b, o5.2.i, o5.2.h, o1.1, [], w64 (2 + o5.1))).bind fun (c_20, c_21, c_22, d_23, d_24) =>
  some (({ Relations := d_23, Facts := d_24 } : Database), ({ b := c_20, i := c_21, h := c_22 } : L1Cur)) : Option (Database × L1Cur))) rfl (by exact go)
instance i123_0 {o1 : (Database × L1Cur)} : Lp cx (lw o1 f123_0) 19 L123_0 (fun (zs : (List Relation) × (List Fact)) => [(0, .v (.ptr true [(ssl eU o1.2.b), (iT o1.2.i), (iT o1.2.h)])), (2, .v (.ptr true [(osl eRelation true ([])), (osl eFact true ([]))])), (3, .v (.ptr true [(osl eRelation true zs.1), (ssl eFact zs.2)]))]) (QX 0 (fun (y : (List Relation) × (List Fact)) => [(0, .v (.ptr true [(ssl eU o1.2.b), (iT o1.2.i), (iT o1.2.h)])), (2, .v (.ptr true [(osl eRelation true ([])), (osl eFact true ([]))])), (3, .v (.ptr true [(osl eRelation true y.1), (ssl eFact y.2)]))])) := Lp.of (by unfold lw f123_0; exact go)
instance i123 : Rn cx (f123 c) 123 [(.ptr true [(ssl eU c.b), (iT c.i), (iT c.h)])] (fun (r : Database × L1Cur) => (.agg [(osl eRelation true r.1.Relations), (ssl eFact r.1.Facts)])) (fun r => [(.ptr true [(ssl eU r.2.b), (iT r.2.i), (iT r.2.h)])]) := Rn.o (e := (
  sn 1 2 (.ptr true [(osl eRelation true ([])), (osl eFact true ([]))]) <| 
  (f60 c).bind fun o1 =>
  (iter (lw o1  f123_0) (o1.1.Relations, o1.1.Facts)).bind fun (d_10, d_11) =>
  some (({ Relations := d_10, Facts := d_11 } : Database), o1.2) : Option (Database × L1Cur))) rfl (by exact go)
instance i21 : Rn cx (f21 c n1) 21 [(.ptr true [(ssl eU c.b), (iT c.i), (iT c.h)]), (iT n1)] (fun (r : Bool × L1Cur) => (.bool r.1)) (fun r => [(.ptr true [(ssl eU r.2.b), (iT r.2.i), (iT r.2.h)])]) := Rn.o rfl (by unfold f21; exact go)
instance i105_0 : Lp cx (f105_0 q) 40 L105_0 (fun (zs : Int × (List Atom) × (List Int) × Int) => [(1, .v (.ptr true [(iT q.VariableCount), (ssl eAtom q.Atoms), (ssl eI q.Free)])), (2, .v (.ptr true [(iT 0), (osl eAtom true ([])), (osl eI true ([]))])), (3, .v (.ptr true [(iT zs.1), (osl eAtom true zs.2.1), (osl eI true zs.2.2.1)])), (4, .v (iT zs.2.2.2))]) (QX 0 (fun (y : Int × (List Atom) × (List Int)) => [(2, .v (.ptr true [(iT 0), (osl eAtom true ([])), (osl eI true ([]))])), (3, .v (.ptr true [(iT y.1), (osl eAtom true y.2.1), (osl eI true y.2.2)]))])) := Lp.of (f := (fun
 | (x_3, x_4, x_5, i_6) =>
  if i_6 < (q.Atoms.length : Int) then
  (ix q.Atoms i_6).bind fun v_8 =>
  (app 8 ([]) v_8.Terms).bind fun l_10 =>
  sn 16 34 (osl eI true l_10) <| 
  (app 32 x_4 ([({ Relation := v_8.Relation, Terms := l_10 } : Atom)])).bind fun l_12 =>
  some (.inl (x_3, l_12, x_5, w64 (i_6 + 1)))
  else
  some (.inr (x_3, x_4, x_5)) : Int × (List Atom) × (List Int) × Int -> Option ((Int × (List Atom) × (List Int) × Int) ⊕ (Int × (List Atom) × (List Int))))) (by exact go)
instance i105 : Rn cx (f105 q) 105 [(.agg [(iT q.VariableCount), (ssl eAtom q.Atoms), (ssl eI q.Free)])] (fun (r : Query) => (.agg [(iT r.VariableCount), (osl eAtom true r.Atoms), (osl eI true r.Free)])) (fun r => []) := Rn.o (e := (
  sn 2 2 (.ptr true [(iT 0), (osl eAtom true ([])), (osl eI true ([]))]) <| 
  (app 8 ([]) q.Free).bind fun l_1 =>
  sn 7 10 (osl eI true l_1) <| 
  sn 1 11 (.agg [(iT q.VariableCount), (osl eAtom true ([])), (osl eI true l_1)]) <| 
  (iter (f105_0 q) (q.VariableCount, [], l_1, 0)).bind fun (x_16, x_17, x_18) =>
  some ({ VariableCount := x_16, Atoms := x_17, Free := x_18 } : Query) : Option Query)) rfl (by exact go)
instance : Io0 cx 105 := ⟨rfl⟩
instance i144_2 {x_9 : Int} {x_10 : (List Atom)} {x_11 : (List Int)} {name_12 : (List Int)} {k_13 : Int} {v_19 : Int} : Lp cx (lw (i_7, x_9, x_10, x_11, k_13) (f144_2 name_12 v_19)) 76 L144_2 (fun (zs : Int × Int) => [(2, .v (.ptr true [(iT 0), (osl eAtom true ([])), (osl eI true ([]))])), (3, .v (.ptr true [(iT x_9), (osl eAtom true x_10), (osl eI true x_11)])), (4, .v (osl eI true name_12)), (5, .v (iT i_7)), (6, .v (iT k_13)), (7, .v (iT v_19)), (8, .v (iT zs.1)), (9, .v (iT zs.2))]) (QX 4 (fun (y : Int) => [(2, .v (.ptr true [(iT 0), (osl eAtom true ([])), (osl eI true ([]))])), (3, .v (.ptr true [(iT x_9), (osl eAtom true x_10), (osl eI true x_11)])), (4, .v (osl eI true name_12)), (5, .v (iT i_7)), (6, .v (iT k_13)), (7, .v (iT v_19)), (8, .v (iT y))])) := Lp.of (f := (fun
 | (at_22, j_23) =>
  if j_23 < (name_12.length : Int) then
  (ix name_12 j_23).bind fun v_25 =>
  (jn (QN (fun (y : Int) => [(2, .v (.ptr true [(iT 0), (osl eAtom true ([])), (osl eI true ([]))])), (3, .v (.ptr true [(iT x_9), (osl eAtom true x_10), (osl eI true x_11)])), (4, .v (osl eI true name_12)), (5, .v (iT i_7)), (6, .v (iT k_13)), (7, .v (iT v_19)), (8, .v (iT y)), (9, .v (iT j_23))])) ((if v_25 = v_19 then
  some j_23
  else
  some at_22) : Option Int)).bind fun at_30 =>
  some (.inl (at_30, w64 (j_23 + 1)))
  else
  some (.inr at_22) : Int × Int -> Option ((Int × Int) ⊕ Int))) (by exact go)
instance i144_1 : Lp cx (f144_1 i_7) 76 L144_1 (fun (zs : Int × (List Atom) × (List Int) × (List Int) × Int) => [(2, .v (.ptr true [(iT 0), (osl eAtom true ([])), (osl eI true ([]))])), (3, .v (.ptr true [(iT zs.1), (osl eAtom true zs.2.1), (osl eI true zs.2.2.1)])), (4, .v (osl eI true zs.2.2.2.1)), (5, .v (iT i_7)), (6, .v (iT zs.2.2.2.2))]) (QX 2 (fun (y : Int × (List Atom) × (List Int) × (List Int)) => [(2, .v (.ptr true [(iT 0), (osl eAtom true ([])), (osl eI true ([]))])), (3, .v (.ptr true [(iT y.1), (osl eAtom true y.2.1), (osl eI true y.2.2.1)])), (4, .v (osl eI true y.2.2.2)), (5, .v (iT i_7))])) := Lp.of (f := (fun
 | (x_9, x_10, x_11, name_12, k_13) =>
  (ix x_10 i_7).bind fun v_14 =>
  if k_13 < (v_14.Terms.length : Int) then
  (jb 3 (QN (fun (y : (List Atom) × (List Int)) => [(2, .v (.ptr true [(iT 0), (osl eAtom true ([])), (osl eI true ([]))])), (3, .v (.ptr true [(iT x_9), (osl eAtom true y.1), (osl eI true x_11)])), (4, .v (osl eI true y.2)), (5, .v (iT i_7)), (6, .v (iT k_13))])) (((ix v_14.Terms k_13).bind fun v_19 =>
  if v_19 < 0 then
  some (x_10, name_12)
  else
  (iter (lw (i_7, x_9, x_10, x_11, k_13)  (f144_2 name_12 v_19)) (-1, 0)).bind fun at_33 =>
  (jn (QN (fun (y : (List Int) × Int) => [(2, .v (.ptr true [(iT 0), (osl eAtom true ([])), (osl eI true ([]))])), (3, .v (.ptr true [(iT x_9), (osl eAtom true x_10), (osl eI true x_11)])), (4, .v (osl eI true y.1)), (5, .v (iT i_7)), (6, .v (iT k_13)), (8, .v (iT y.2))])) ((if at_33 < 0 then
  (app 8 name_12 ([v_19])).bind fun l_37 =>
  some (l_37, (name_12.length : Int))
  else
  some (name_12, at_33)) : Option ((List Int) × Int))).bind fun (name_39, at_40) =>
  some ((x_10.set i_7.toNat ({ Relation := v_14.Relation, Terms := (v_14.Terms.set k_13.toNat at_40) } : Atom)), name_39)) : Option ((List Atom) × (List Int)))).bind fun (x_43, name_44) =>
  some (.inl (x_9, x_43, x_11, name_44, w64 (k_13 + 1)))
  else
  some (.inr (x_9, x_10, x_11, name_12)) : Int × (List Atom) × (List Int) × (List Int) × Int -> Option ((Int × (List Atom) × (List Int) × (List Int) × Int) ⊕ (Int × (List Atom) × (List Int) × (List Int))))) (by exact go)
instance i144_0 : Lp cx f144_0 76 L144_0 (fun (zs : Int × (List Atom) × (List Int) × (List Int) × Int) => [(2, .v (.ptr true [(iT 0), (osl eAtom true ([])), (osl eI true ([]))])), (3, .v (.ptr true [(iT zs.1), (osl eAtom true zs.2.1), (osl eI true zs.2.2.1)])), (4, .v (osl eI true zs.2.2.2.1)), (5, .v (iT zs.2.2.2.2))]) (QX 0 (fun (y : Int × (List Atom) × (List Int) × (List Int)) => [(2, .v (.ptr true [(iT 0), (osl eAtom true ([])), (osl eI true ([]))])), (3, .v (.ptr true [(iT y.1), (osl eAtom true y.2.1), (osl eI true y.2.2.1)])), (4, .v (osl eI true y.2.2.2))])) := Lp.of (by unfold f144_0; exact go)
instance i144 : Rn cx (f144 q) 144 [(.agg [(iT q.VariableCount), (ssl eAtom q.Atoms), (ssl eI q.Free)])] (fun (r : Query) => (.agg [(iT r.VariableCount), (osl eAtom true r.Atoms), (osl eI true r.Free)])) (fun r => []) := Rn.o (e := (
  sn 2 2 (.ptr true [(iT 0), (osl eAtom true ([])), (osl eI true ([]))]) <| 
  (f105 q).bind fun o1 =>
  sn 4 4 (osl eI true ([])) <| 
  (iter f144_0 (o1.VariableCount, o1.Atoms, o1.Free, [], 0)).bind fun (x_53, x_54, x_55, name_56) =>
  some ({ VariableCount := (name_56.length : Int), Atoms := x_54, Free := x_55 } : Query) : Option Query)) rfl (by exact go)
instance : Io0 cx 144 := ⟨rfl⟩
instance i102_1 {q_10 : Int} {q_11 : (List Atom)} {q_12 : (List Int)} {i_13 : Int} : Lp cx (lw (o1, o5, q_10, q_11, q_12, i_13) (f102_1 o3)) 64 L102_1 (fun (zs : (List Int) × Int × Int × Int × (List Int) × Int) => [(0, .v (.ptr true [(ssl eU zs.1), (iT zs.2.1), (iT zs.2.2.1)])), (2, .v (.ptr true [(iT 0), (osl eAtom true ([])), (osl eI true ([]))])), (3, .v (.ptr true [(iT q_10), (osl eAtom true q_11), (osl eI true q_12)])), (4, .v (iT (w64 (1 + o1.1)))), (5, .v (iT (w64 (1 + o3.1)))), (6, .v (iT o5.1)), (7, .v (iT i_13)), (9, .v (.ptr true [(iT zs.2.2.2.1), (osl eI true zs.2.2.2.2.1)])), (10, .v (iT zs.2.2.2.2.2))]) (QX 2 (fun (y : (List Int) × Int × Int × Int × (List Int)) => [(0, .v (.ptr true [(ssl eU y.1), (iT y.2.1), (iT y.2.2.1)])), (2, .v (.ptr true [(iT 0), (osl eAtom true ([])), (osl eI true ([]))])), (3, .v (.ptr true [(iT q_10), (osl eAtom true q_11), (osl eI true q_12)])), (4, .v (iT (w64 (1 + o1.1)))), (5, .v (iT (w64 (1 + o3.1)))), (6, .v (iT o5.1)), (7, .v (iT i_13)), (9, .v (.ptr true [(iT y.2.2.2.1), (osl eI true y.2.2.2.2)]))])) := Lp.of (f := (fun
 | (c_15, c_16, c_17, a_18, a_19, m_20) =>
  if m_20 > 0 then
  (f21 ({ b := c_15, i := c_16, h := c_17 } : L1Cur) 12).bind fun o22 =>
  (jn (QN (fun (y : (List Int) × Int × Int × (List Int)) => [(0, .v (.ptr true [(ssl eU y.1), (iT y.2.1), (iT y.2.2.1)])), (2, .v (.ptr true [(iT 0), (osl eAtom true ([])), (osl eI true ([]))])), (3, .v (.ptr true [(iT q_10), (osl eAtom true q_11), (osl eI true q_12)])), (4, .v (iT (w64 (1 + o1.1)))), (5, .v (iT (w64 (1 + o3.1)))), (6, .v (iT o5.1)), (7, .v (iT i_13)), (9, .v (.ptr true [(iT a_18), (osl eI true y.2.2.2)])), (10, .v (iT m_20))])) ((if o22.1 = true then
  (f20 o22.2 2).bind fun o27 =>
  (app 8 a_19 ([w64 ((-1) - o27.1)])).bind fun l_29 =>
  some (o27.2.b, o27.2.i, o27.2.h, l_29)
  else
  (f20 o22.2 (w64 (1 + o3.1))).bind fun o31 =>
  (app 8 a_19 ([o31.1])).bind fun l_33 =>
  some (o31.2.b, o31.2.i, o31.2.h, l_33)) : Option ((List Int) × Int × Int × (List Int)))).bind fun (c_35, c_36, c_37, a_38) =>
  some (.inl (c_35, c_36, c_37, a_18, a_38, w64 (m_20 - 1)))
  else
  some (.inr (c_15, c_16, c_17, a_18, a_19)) : (List Int) × Int × Int × Int × (List Int) × Int -> Option (((List Int) × Int × Int × Int × (List Int) × Int) ⊕ ((List Int) × Int × Int × Int × (List Int))))) (by exact go)
instance i102_0 : Lp cx (f102_0 o1 o3 o5) 64 L102_0 (fun (zs : (List Int) × Int × Int × Int × (List Atom) × (List Int) × Int) => [(0, .v (.ptr true [(ssl eU zs.1), (iT zs.2.1), (iT zs.2.2.1)])), (2, .v (.ptr true [(iT 0), (osl eAtom true ([])), (osl eI true ([]))])), (3, .v (.ptr true [(iT zs.2.2.2.1), (osl eAtom true zs.2.2.2.2.1), (osl eI true zs.2.2.2.2.2.1)])), (4, .v (iT (w64 (1 + o1.1)))), (5, .v (iT (w64 (1 + o3.1)))), (6, .v (iT o5.1)), (7, .v (iT zs.2.2.2.2.2.2))]) (QX 0 (fun (y : (List Int) × Int × Int × Int × (List Atom) × (List Int)) => [(0, .v (.ptr true [(ssl eU y.1), (iT y.2.1), (iT y.2.2.1)])), (2, .v (.ptr true [(iT 0), (osl eAtom true ([])), (osl eI true ([]))])), (3, .v (.ptr true [(iT y.2.2.2.1), (osl eAtom true y.2.2.2.2.1), (osl eI true y.2.2.2.2.2)]))])) := Lp.of (f := (fun
 | (c_7, c_8, c_9, q_10, q_11, q_12, i_13) =>
  if i_13 < (w64 (1 + o1.1)) then
  sn 8 30 (.agg [(iT ((w64 (o5.1 + i_13)).tmod 4)), (osl eI true ([]))]) <| 
  (iter (lw (o1, o5, q_10, q_11, q_12, i_13)  (f102_1 o3)) (c_7, c_8, c_9, (w64 (o5.1 + i_13)).tmod 4, [], w64 (2 + (w64 (((w64 (o5.1 + i_13)).tmod 4).tdiv 3))))).bind fun (c_41, c_42, c_43, a_44, a_45) =>
  (app 32 q_11 ([({ Relation := a_44, Terms := a_45 } : Atom)])).bind fun l_46 =>
  some (.inl (c_41, c_42, c_43, q_10, l_46, q_12, w64 (i_13 + 1)))
  else
  some (.inr (c_7, c_8, c_9, q_10, q_11, q_12)) : (List Int) × Int × Int × Int × (List Atom) × (List Int) × Int -> Option (((List Int) × Int × Int × Int × (List Atom) × (List Int) × Int) ⊕ ((List Int) × Int × Int × Int × (List Atom) × (List Int))))) (by exact go)
instance i102 : Rn cx (f102 c) 102 [(.ptr true [(ssl eU c.b), (iT c.i), (iT c.h)])] (fun (r : Query × L1Cur) => (.agg [(iT r.1.VariableCount), (osl eAtom true r.1.Atoms), (osl eI true r.1.Free)])) (fun r => [(.ptr true [(ssl eU r.2.b), (iT r.2.i), (iT r.2.h)])]) := Rn.o (e := (
  sn 1 2 (.ptr true [(iT 0), (osl eAtom true ([])), (osl eI true ([]))]) <| 
  sn 2 11 (.agg [(iT 0), (osl eAtom true ([])), (osl eI true ([]))]) <| 
  (f20 c 3).bind fun o1 =>
  (f20 o1.2 4).bind fun o3 =>
  (f20 o3.2 4).bind fun o5 =>
  (iter (f102_0 o1 o3 o5) (o5.2.b, o5.2.i, o5.2.h, 0, [], [], 0)).bind fun (c_50, c_51, c_52, q_53, q_54, q_55) =>
  (f144 ({ VariableCount := q_53, Atoms := q_54, Free := q_55 } : Query)).bind fun o56 =>
  some (o56, ({ b := c_50, i := c_51, h := c_52 } : L1Cur)) : Option (Query × L1Cur))) rfl (by exact go)
instance i101 {list : (List (List UInt8))} : Rn cx (f101 c list) 101 [(.ptr true [(ssl eU c.b), (iT c.i), (iT c.h)]), (ssl eS list)] (fun (r : (List UInt8) × L1Cur) => (.str r.1)) (fun r => [(.ptr true [(ssl eU r.2.b), (iT r.2.i), (iT r.2.h)])]) := Rn.o rfl (by unfold f101; exact go)
instance i108_0 : Lp cx (f108_0 s0 sign) 35 L108_0 (fun (zs : (List (List UInt8)) × Int × Int) => [(0, .v (.str s0)), (1, .v (.int .u8 sign)), (5, .v (osl eS true zs.1)), (6, .v (iT zs.2.1)), (7, .v (iT zs.2.2))]) (QX 0 (fun (y : (List (List UInt8)) × Int) => [(0, .v (.str s0)), (5, .v (osl eS true y.1)), (6, .v (iT y.2))])) := Lp.of (f := (fun
 | (out_1, from_2, i_3) =>
  if i_3 < (s0.length : Int) then
  (ix s0 i_3).bind fun c_5 =>
  (jn (QN (fun (y : (List (List UInt8)) × Int) => [(0, .v (.str s0)), (1, .v (.int .u8 sign)), (5, .v (osl eS true y.1)), (6, .v (iT y.2)), (7, .v (iT i_3))])) ((if (c_5.toNat : Int) = sign then
  (cutL s0 from_2 i_3).bind fun l_10 =>
  (app 16 out_1 ([l_10])).bind fun l_12 =>
  some (l_12, w64 (i_3 + 1))
  else
  some (out_1, from_2)) : Option ((List (List UInt8)) × Int))).bind fun (out_14, from_15) =>
  some (.inl (out_14, from_15, w64 (i_3 + 1)))
  else
  some (.inr (out_1, from_2)) : (List (List UInt8)) × Int × Int -> Option (((List (List UInt8)) × Int × Int) ⊕ ((List (List UInt8)) × Int)))) (by exact go)
instance i108 : Rn cx (f108 s0 sign) 108 [(.str s0), (.int .u8 sign)] (fun (r : (List (List UInt8))) => (osl eS true r)) (fun r => []) := Rn.o (e := (
  sn 3 5 (osl eS true ([])) <| 
  (iter (f108_0 s0 sign) ([], 0, 0)).bind fun (out_18, from_19) =>
  (cutL s0 from_19 s0.length).bind fun l_20 =>
  (app 16 out_18 ([l_20])).bind fun l_22 =>
  some l_22 : Option (List (List UInt8)))) rfl (by exact go)
instance : Io0 cx 108 := ⟨rfl⟩
instance i179 : Rn cx (f179 t) 179 [(iT t)] (fun (r : Int × Bool) => (.tup [(iT r.1), (.bool r.2)])) (fun r => []) := Rn.o (e := (
  (jn (QN (fun (y : Bool) => [(0, .v (iT t)), (11, .v (.bool y))])) ((if t >= 0 then
  some true
  else
  (f38 (w64 ((-1) - t)) 0 9).bind fun o4 =>
  some (decide (¬ (o4 = true)))) : Option (Bool))).bind fun x_1 =>
  if x_1 = true then
  some (0, false)
  else
  some (w64 ((-1) - t), true) : Option (Int × Bool))) rfl (by exact go)
instance : Io0 cx 179 := ⟨rfl⟩
instance i180_0 : Lp cx (lw n0 f180_0) 31 L180_0 (fun (zs : Int × (List UInt8)) => [(0, .v (iT zs.1)), (3, .v (.str zs.2)), (4, .v (.bool (decide (n0 < 0))))]) (QX 0 (fun (y : (List UInt8)) => [(3, .v (.str y)), (4, .v (.bool (decide (n0 < 0))))])) := Lp.of (f := (fun
 | (n_2, out_3) =>
  if n_2 ≠ 0 then
  (jn (QN (fun (y : Int) => [(0, .v (iT n_2)), (3, .v (.str out_3)), (4, .v (.bool (decide (n0 < 0)))), (5, .v (iT y))])) ((if (n_2.tmod 10) < 0 then
  some (w64 (-(n_2.tmod 10)))
  else
  some (n_2.tmod 10)) : Option Int)).bind fun d_8 =>
  (cat ([UInt8.ofNat (w8 (w64 (48 + d_8))).toNat]) out_3).bind fun s_9 =>
  some (.inl (w64 (n_2.tdiv 10), s_9))
  else
  some (.inr out_3) : Int × (List UInt8) -> Option ((Int × (List UInt8)) ⊕ (List UInt8)))) (by exact go)
instance i180 : Rn cx (f180 n0) 180 [(iT n0)] (fun (r : (List UInt8)) => (.str r)) (fun r => []) := Rn.o (e := (
  if n0 = 0 then
  some ([48])
  else
  (iter (lw n0  f180_0) (n0, [])).bind fun out_13 =>
  if n0 < 0 then
  (cat ([45]) out_13).bind fun s_15 =>
  some s_15
  else
  some out_13 : Option (List UInt8))) rfl (by exact go)
instance : Io0 cx 180 := ⟨rfl⟩
instance i152 : Rn cx (f152 t) 152 [(iT t)] (fun (r : (List UInt8)) => (.str r)) (fun r => []) := Rn.o rfl (by unfold f152; exact go)
instance : Io0 cx 152 := ⟨rfl⟩
instance i109_0 : Lp cx (f109_0 s0) 14 L109_0 (fun (zs : Int) => [(0, .v (.str s0)), (4, .v (iT zs))]) (QO (QX 0 (fun (y : Unit) => [])) (QR (fun (y : Int × Bool) => [(2, .v (iT y.1)), (3, .v (.bool y.2))]))) := Lp.of (by unfold f109_0; exact go)
instance i109 : Rn cx (f109 s0) 109 [(.str s0)] (fun (r : Int × Bool) => (.tup [(iT r.1), (.bool r.2)])) (fun r => []) := Rn.o rfl (by unfold f109; exact go)
instance : Io0 cx 109 := ⟨rfl⟩
instance i110_0 : Lp cx (f110_0 l name) 20 L110_0 (fun (zs : Int) => [(0, .v (ssl eRelation l)), (1, .v (.str name)), (5, .v (iT zs))]) (QO (QX 0 (fun (y : Unit) => [])) (QR (fun (y : Int) => [(4, .v (iT y))]))) := Lp.of (by unfold f110_0; exact go)
instance i110 : Rn cx (f110 l name) 110 [(ssl eRelation l), (.str name)] (fun (r : Int) => (iT r)) (fun r => []) := Rn.o rfl (by unfold f110; exact go)
instance : Io0 cx 110 := ⟨rfl⟩
instance i93_3 {met_16 : (List Bool)} : Lp cx (lw (l, met_16) (f93_3 q i_17 v_19)) 150 L93_3 (fun (zs : Int) => [(0, .v (ssl eRelation l)), (3, .v (.ptr true [(iT q.VariableCount), (ssl eAtom q.Atoms), (ssl eI q.Free)])), (5, .v (osl eB true met_16)), (6, .v (iT i_17)), (7, .v (.ptr true [(iT v_19.Relation), (ssl eI v_19.Terms)])), (8, .v (iT zs))]) (QO (QX 2 (fun (y : Unit) => [(0, .v (ssl eRelation l)), (3, .v (.ptr true [(iT q.VariableCount), (ssl eAtom q.Atoms), (ssl eI q.Free)])), (5, .v (osl eB true met_16)), (6, .v (iT i_17)), (7, .v (.ptr true [(iT v_19.Relation), (ssl eI v_19.Terms)]))])) (QR (fun (y : Bool) => [(4, .v (.bool y))]))) := Lp.of (by unfold lw f93_3; exact go)
instance i93_4 : Lp cx (lw (l, i_17) (f93_4 q v_19)) 150 L93_4 (fun (zs : (List Bool) × Int) => [(0, .v (ssl eRelation l)), (3, .v (.ptr true [(iT q.VariableCount), (ssl eAtom q.Atoms), (ssl eI q.Free)])), (5, .v (osl eB true zs.1)), (6, .v (iT i_17)), (7, .v (.ptr true [(iT v_19.Relation), (ssl eI v_19.Terms)])), (9, .v (iT zs.2))]) (QO (QX 4 (fun (y : (List Bool)) => [(0, .v (ssl eRelation l)), (3, .v (.ptr true [(iT q.VariableCount), (ssl eAtom q.Atoms), (ssl eI q.Free)])), (5, .v (osl eB true y)), (6, .v (iT i_17))])) (QR (fun (y : Bool) => [(4, .v (.bool y))]))) := Lp.of (f := (fun
 | (met_37, k_38) =>
  if k_38 < (v_19.Terms.length : Int) then
  (ix v_19.Terms k_38).bind fun v_40 =>
  (f38 v_40 (-10) (w64 (q.VariableCount - 1))).bind fun o42 =>
  if ¬ (o42 = true) then
  some (.inr (.inr false))
  else
  (jn (QN (fun (y : (List Bool)) => [(0, .v (ssl eRelation l)), (3, .v (.ptr true [(iT q.VariableCount), (ssl eAtom q.Atoms), (ssl eI q.Free)])), (5, .v (osl eB true y)), (6, .v (iT i_17)), (7, .v (.ptr true [(iT v_19.Relation), (ssl eI v_19.Terms)])), (9, .v (iT k_38))])) ((if v_40 >= 0 then
  (ix met_37 v_40).bind fun v_48 =>
  some (met_37.set v_40.toNat true)
  else
  some met_37) : Option (List Bool))).bind fun met_51 =>
  some (.inl (met_51, w64 (k_38 + 1)))
  else
  some (.inr (.inl met_37)) : (List Bool) × Int -> Option (((List Bool) × Int) ⊕ ((List Bool) ⊕ Bool)))) (by exact go)
instance i93_0 : Lp cx (f93_0 l q) 150 L93_0 (fun (zs : (List Bool) × Int) => [(0, .v (ssl eRelation l)), (3, .v (.ptr true [(iT q.VariableCount), (ssl eAtom q.Atoms), (ssl eI q.Free)])), (5, .v (osl eB true zs.1)), (6, .v (iT zs.2))]) (QO (QX 0 (fun (y : (List Bool)) => [(3, .v (.ptr true [(iT q.VariableCount), (ssl eAtom q.Atoms), (ssl eI q.Free)])), (5, .v (osl eB true y))])) (QR (fun (y : Bool) => [(4, .v (.bool y))]))) := Lp.of (f := (fun
 | (met_16, i_17) =>
  if i_17 < (q.Atoms.length : Int) then
  (ix q.Atoms i_17).bind fun v_19 =>
  (f38 v_19.Relation 0 (w64 ((l.length : Int) - 1))).bind fun o21 =>
  (jn (QN (fun (y : Bool) => [(0, .v (ssl eRelation l)), (3, .v (.ptr true [(iT q.VariableCount), (ssl eAtom q.Atoms), (ssl eI q.Free)])), (5, .v (osl eB true met_16)), (6, .v (iT i_17)), (7, .v (.ptr true [(iT v_19.Relation), (ssl eI v_19.Terms)])), (59, .v (.bool y))])) ((if ¬ (o21 = true) then
  some true
  else
  (ix l v_19.Relation).bind fun v_26 =>
  some (decide ((v_19.Terms.length : Int) ≠ v_26.Arity))) : Option (Bool))).bind fun x_23 =>
  if x_23 = true then
  some (.inr (.inr false))
  else
  (iter (lw (l, met_16)  (f93_3 q i_17 v_19)) 0).bind fun o => match o with
  | .inl _ =>
  ((iter (lw (l, i_17)  (f93_4 q v_19)) (met_16, 0)).bind fun o => match o with
  | .inl met_54 =>
  some (.inl (met_54, w64 (i_17 + 1)))
  | .inr x_55 =>
  some (.inr (.inr x_55)))
  | .inr x_36 =>
  some (.inr (.inr x_36))
  else
  some (.inr (.inl met_16)) : (List Bool) × Int -> Option (((List Bool) × Int) ⊕ ((List Bool) ⊕ Bool)))) (by exact go)
instance i93_1 {met_58 : (List Bool)} : Lp cx (f93_1 q met_58) 150 L93_1 (fun (zs : Int) => [(3, .v (.ptr true [(iT q.VariableCount), (ssl eAtom q.Atoms), (ssl eI q.Free)])), (5, .v (osl eB true met_58)), (10, .v (iT zs))]) (QO (QX 6 (fun (y : Unit) => [(3, .v (.ptr true [(iT q.VariableCount), (ssl eAtom q.Atoms), (ssl eI q.Free)]))])) (QR (fun (y : Bool) => [(4, .v (.bool y))]))) := Lp.of (by unfold f93_1; exact go)
instance i93_2 : Lp cx (f93_2 q) 150 L93_2 (fun (zs : Int) => [(3, .v (.ptr true [(iT q.VariableCount), (ssl eAtom q.Atoms), (ssl eI q.Free)])), (11, .v (iT zs))]) (QO (QX 8 (fun (y : Unit) => [])) (QR (fun (y : Bool) => [(4, .v (.bool y))]))) := Lp.of (f := (fun
 | i_68 =>
  if i_68 < (q.Free.length : Int) then
  (ix q.Free i_68).bind fun v_70 =>
  (f38 v_70 0 (w64 (q.VariableCount - 1))).bind fun o72 =>
  (jn (QN (fun (y : Bool) => [(3, .v (.ptr true [(iT q.VariableCount), (ssl eAtom q.Atoms), (ssl eI q.Free)])), (11, .v (iT i_68)), (149, .v (.bool y))])) ((if ¬ (o72 = true) then
  some true
  else
  (jn (QN (fun (y : Bool) => [(3, .v (.ptr true [(iT q.VariableCount), (ssl eAtom q.Atoms), (ssl eI q.Free)])), (11, .v (iT i_68)), (149, .v (.bool y))])) ((if i_68 > 0 then
  (ix q.Free (w64 (i_68 - 1))).bind fun v_80 =>
  some (decide (v_70 <= v_80))
  else
  some false) : Option (Bool))).bind fun x_77 =>
  some x_77) : Option (Bool))).bind fun x_74 =>
  if x_74 = true then
  some (.inr (.inr false))
  else
  some (.inl (w64 (i_68 + 1)))
  else
  some (.inr (.inl ())) : Int -> Option (Int ⊕ (Unit ⊕ Bool)))) (by exact go)
end
end Go.Proofs.YtamibblcpccjlaaGreatH
