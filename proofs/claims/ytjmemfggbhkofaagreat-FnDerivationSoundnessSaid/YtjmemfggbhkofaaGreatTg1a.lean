import Derived.Test.YtjmemfggbhkofaaGreatCx1
import Derived.Test.YtjmemfggbhkofaaGreatX3
import Derived.Test.YtjmemfggbhkofaaGreatTd1
set_option maxHeartbeats 2000000
set_option linter.unusedVariables false
set_option linter.unusedSimpArgs false
set_option linter.defProp false
set_option linter.unusedSectionVars false
set_option maxRecDepth 100000
namespace Go.Proofs.YtjmemfggbhkofaaGreatH
open Go
noncomputable section
abbrev iT (n : Int) : T := .int .i64 n
instance : Cl cx := ⟨fun j h => vsound (fun _ _ _ _ h => h) h, fun f ts t outs h => .ext h⟩
@[simp high] theorem ioz {f : Nat} [h : Io0 cx f] : ioTab f = [] := h.io
@[simp] theorem ioz54 : ioTab 54 = [0] := rfl
@[simp] theorem ioz104 : ioTab 104 = [0] := rfl
@[simp] theorem ioz105 : ioTab 105 = [0] := rfl
@[simp] theorem ioz107 : ioTab 107 = [0] := rfl
@[simp] theorem ioz128 : ioTab 128 = [0] := rfl
@[simp] theorem ioz129 : ioTab 129 = [0] := rfl
@[simp] theorem ioz131 : ioTab 131 = [0] := rfl
@[simp] theorem ioz140 : ioTab 140 = [0] := rfl
@[simp] theorem ioz148 : ioTab 148 = [0] := rfl
@[simp] theorem ioz149 : ioTab 149 = [0] := rfl
@[simp] theorem ioz154 : ioTab 154 = [0] := rfl
@[simp] theorem ioz155 : ioTab 155 = [3] := rfl
@[simp] theorem ioz165 : ioTab 165 = [0] := rfl
@[simp] theorem ioz166 : ioTab 166 = [0] := rfl
@[simp] theorem ioz168 : ioTab 168 = [0] := rfl
@[simp] theorem ioz169 : ioTab 169 = [0] := rfl
@[simp] theorem ioz170 : ioTab 170 = [0] := rfl
@[simp] theorem ioz201 : ioTab 201 = [0] := rfl
instance i7 {code : (List Int)} : Rn cx (f7 code) 7 [(ssl eU code)] (fun (r : Bool) => (.bool r)) (fun r => []) := Rn.o rfl (by unfold f7; exact go)
instance : Io0 cx 7 := ⟨rfl⟩
instance i127_0 {code : (List Int)} : Lp cx (f127_0 code) 32 L127_0 (fun (zs : Int × Int) => [(0, .v (ssl eU code)), (3, .v (iT zs.1)), (4, .v (iT zs.2))]) (QX 0 (fun (y : Int) => [(0, .v (ssl eU code)), (3, .v (iT y))])) := Lp.of (f := (fun
 | (h_1, i_2) =>
  (jn (QN (fun (y : Bool) => [(0, .v (ssl eU code)), (3, .v (iT h_1)), (4, .v (iT i_2)), (15, .v (.bool y))])) ((if i_2 < (code.length : Int) then
  some (decide (i_2 < 4000))
  else
  some false) : Option (Bool))).bind fun x_3 =>
  if x_3 = true then
  (ix code i_2).bind fun v_7 =>
  some (.inl (band .i64 (w64 ((w64 ((w64 (h_1 * 131)) + (w64 v_7))) + 7)) 1073741823, w64 (i_2 + 1)))
  else
  some (.inr h_1) : Int × Int -> Option ((Int × Int) ⊕ Int))) (by exact go)
instance i127 {code : (List Int)} : Rn cx (f127 code) 127 [(ssl eU code)] (fun (r : L1Cur) => (.ptr true [(ssl eU r.b), (iT r.i), (iT r.h)])) (fun r => []) := Rn.o rfl (by unfold f127; exact go)
instance : Io0 cx 127 := ⟨rfl⟩
instance i154 {c : L1Cur} : Rn cx (f154 c) 154 [(.ptr true [(ssl eU c.b), (iT c.i), (iT c.h)])] (fun (r : Int × L1Cur) => (iT r.1)) (fun r => [(.ptr true [(ssl eU r.2.b), (iT r.2.i), (iT r.2.h)])]) := Rn.o (e := (
  (jn (QN (fun (y : Int × Int) => [(0, .v (.ptr true [(ssl eU c.b), (iT y.1), (iT (w64 ((w64 (c.h * 6364136223846793005)) + 1442695040888963407)))])), (3, .v (iT y.2))])) ((if c.i < (c.b.length : Int) then
  (ix c.b c.i).bind fun v_4 =>
  some (w64 (c.i + 1), band .i64 (w64 ((band .i64 (bxor .i64 (sshr .i64 (w64 ((w64 (c.h * 6364136223846793005)) + 1442695040888963407)) 33) (sshr .i64 (w64 ((w64 (c.h * 6364136223846793005)) + 1442695040888963407)) 45)) 255) + (w64 v_4))) 255)
  else
  some (c.i, band .i64 (bxor .i64 (sshr .i64 (w64 ((w64 (c.h * 6364136223846793005)) + 1442695040888963407)) 33) (sshr .i64 (w64 ((w64 (c.h * 6364136223846793005)) + 1442695040888963407)) 45)) 255)) : Option (Int × Int))).bind fun (c_6, x_7) =>
  some (x_7, ({ b := c.b, i := c_6, h := w64 ((w64 (c.h * 6364136223846793005)) + 1442695040888963407) } : L1Cur)) : Option (Int × L1Cur))) rfl (by exact go)
instance i105 {c : L1Cur} {n1 : Int} : Rn cx (f105 c n1) 105 [(.ptr true [(ssl eU c.b), (iT c.i), (iT c.h)]), (iT n1)] (fun (r : Int × L1Cur) => (iT r.1)) (fun r => [(.ptr true [(ssl eU r.2.b), (iT r.2.i), (iT r.2.h)])]) := Rn.o rfl (by unfold f105; exact go)
instance i166 {c : L1Cur} {list : (List Int)} : Rn cx (f166 c list) 166 [(.ptr true [(ssl eU c.b), (iT c.i), (iT c.h)]), (ssl eI list)] (fun (r : Int × L1Cur) => (iT r.1)) (fun r => [(.ptr true [(ssl eU r.2.b), (iT r.2.i), (iT r.2.h)])]) := Rn.o rfl (by unfold f166; exact go)
instance i165 {c : L1Cur} : Rn cx (f165 c) 165 [(.ptr true [(ssl eU c.b), (iT c.i), (iT c.h)])] (fun (r : (List Relation) × L1Cur) => (osl eRelation true r.1)) (fun r => [(.ptr true [(ssl eU r.2.b), (iT r.2.i), (iT r.2.h)])]) := Rn.o (e := (
  sn 5 6 (osl eI true ([1, 1, 2, 0])) <| 
  sn 0 6 (ssl eI ([1, 1, 2, 0])) <| 
  (f166 c ([1, 1, 2, 0])).bind fun o1 =>
  (f105 o1.2 2).bind fun o3 =>
  sn 4 2 (osl eRelation true ([({ Name := [114], Arity := 2, KeyLength := 1 } : Relation), ({ Name := [115], Arity := 2, KeyLength := 1 } : Relation), ({ Name := [116], Arity := 2, KeyLength := o1.1 } : Relation), ({ Name := [117], Arity := 3, KeyLength := w64 (1 + o3.1) } : Relation)])) <| 
  some ([({ Name := [114], Arity := 2, KeyLength := 1 } : Relation), ({ Name := [115], Arity := 2, KeyLength := 1 } : Relation), ({ Name := [116], Arity := 2, KeyLength := o1.1 } : Relation), ({ Name := [117], Arity := 3, KeyLength := w64 (1 + o3.1) } : Relation)], o3.2) : Option ((List Relation) × L1Cur))) rfl (by exact go)
instance i168_0 {l : (List Relation)} {val : Int} : Lp cx (f168_0 l val) 32 L168_0 (fun (zs : (List Int) × Int × Int × Int × (List Int)) => [(0, .v (.ptr true [(ssl eU zs.1), (iT zs.2.1), (iT zs.2.2.1)])), (1, .v (ssl eRelation l)), (2, .v (iT val)), (6, .v (.ptr true [(iT 0), (osl eI true ([]))])), (7, .v (.ptr true [(iT zs.2.2.2.1), (osl eI true zs.2.2.2.2)]))]) (QX 0 (fun (y : (List Int) × Int × Int × Int × (List Int)) => [(0, .v (.ptr true [(ssl eU y.1), (iT y.2.1), (iT y.2.2.1)])), (6, .v (.ptr true [(iT 0), (osl eI true ([]))])), (7, .v (.ptr true [(iT y.2.2.2.1), (osl eI true y.2.2.2.2)]))])) := Lp.of (by unfold f168_0; exact go)
instance i168 {c : L1Cur} {l : (List Relation)} {val : Int} : Rn cx (f168 c l val) 168 [(.ptr true [(ssl eU c.b), (iT c.i), (iT c.h)]), (ssl eRelation l), (iT val)] (fun (r : Fact × L1Cur) => (.agg [(iT r.1.Relation), (osl eI true r.1.Values)])) (fun r => [(.ptr true [(ssl eU r.2.b), (iT r.2.i), (iT r.2.h)])]) := Rn.o (e := (
  sn 1 6 (.ptr true [(iT 0), (osl eI true ([]))]) <| 
  (f105 c (l.length : Int)).bind fun o1 =>
  sn 2 12 (.agg [(iT o1.1), (osl eI true ([]))]) <| 
  (iter (f168_0 l val) (o1.2.b, o1.2.i, o1.2.h, o1.1, [])).bind fun (c_17, c_18, c_19, f_20, f_21) =>
  some (({ Relation := f_20, Values := f_21 } : Fact), ({ b := c_17, i := c_18, h := c_19 } : L1Cur)) : Option (Fact × L1Cur))) rfl (by exact go)
instance i40_0 {d : Database} : Lp cx (f40_0 d) 38 L40_0 (fun (zs : (List Relation) × (List Fact) × Int) => [(1, .v (.ptr true [(ssl eRelation d.Relations), (ssl eFact d.Facts)])), (2, .v (.ptr true [(osl eRelation true ([])), (osl eFact true ([]))])), (3, .v (.ptr true [(osl eRelation true zs.1), (osl eFact true zs.2.1)])), (4, .v (iT zs.2.2))]) (QX 0 (fun (y : (List Relation) × (List Fact)) => [(2, .v (.ptr true [(osl eRelation true ([])), (osl eFact true ([]))])), (3, .v (.ptr true [(osl eRelation true y.1), (osl eFact true y.2)]))])) := Lp.of (f := (fun
 | (x_3, x_4, i_5) =>
  if i_5 < (d.Facts.length : Int) then
  (ix d.Facts i_5).bind fun v_7 =>
  (app 8 ([]) v_7.Values).bind fun l_9 =>
  sn 16 32 (osl eI true l_9) <| 
  (app 32 x_4 ([({ Relation := v_7.Relation, Values := l_9 } : Fact)])).bind fun l_11 =>
  some (.inl (x_3, l_11, w64 (i_5 + 1)))
  else
  some (.inr (x_3, x_4)) : (List Relation) × (List Fact) × Int -> Option (((List Relation) × (List Fact) × Int) ⊕ ((List Relation) × (List Fact))))) (by exact go)
instance i40 {d : Database} : Rn cx (f40 d) 40 [(.agg [(ssl eRelation d.Relations), (ssl eFact d.Facts)])] (fun (r : Database) => (.agg [(osl eRelation true r.Relations), (osl eFact true r.Facts)])) (fun r => []) := Rn.o (e := (
  sn 2 2 (.ptr true [(osl eRelation true ([])), (osl eFact true ([]))]) <| 
  (app 32 ([]) d.Relations).bind fun l_1 =>
  sn 4 8 (osl eRelation true l_1) <| 
  sn 2 9 (.agg [(osl eRelation true l_1), (osl eFact true ([]))]) <| 
  (iter (f40_0 d) (l_1, [], 0)).bind fun (x_15, x_16) =>
  some ({ Relations := x_15, Facts := x_16 } : Database) : Option Database)) rfl (by exact go)
instance : Io0 cx 40 := ⟨rfl⟩
instance i87 {x : Int} {low : Int} {high : Int} : Rn cx (f87 x low high) 87 [(iT x), (iT low), (iT high)] (fun (r : Bool) => (.bool r)) (fun r => []) := Rn.o (e := (
  (jn (QN (fun (y : Bool) => [(6, .v (.bool y))])) ((if x >= low then
  some (decide (x <= high))
  else
  some false) : Option (Bool))).bind fun x_1 =>
  some x_1 : Option Bool)) rfl (by exact go)
instance : Io0 cx 87 := ⟨rfl⟩
instance i141 {s0 : Relation} : Rn cx (f141 s0) 141 [(.agg [(.str s0.Name), (iT s0.Arity), (iT s0.KeyLength)])] (fun (r : Bool) => (.bool r)) (fun r => []) := Rn.o (e := (
  (jn (QN (fun (y : Bool) => [(2, .v (.bool y))])) ((if (s0.Name.length : Int) = 1 then
  (ix s0.Name 0).bind fun c_4 =>
  (jn (QN (fun (y : Bool) => [(2, .v (.bool y))])) ((if (c_4.toNat : Int) >= 97 then
  (jn (QN (fun (y : Bool) => [(2, .v (.bool y))])) ((if (c_4.toNat : Int) <= 122 then
  (f87 s0.Arity 1 3).bind fun o12 =>
  (jn (QN (fun (y : Bool) => [(2, .v (.bool y))])) ((if o12 = true then
  (f87 s0.KeyLength 0 s0.Arity).bind fun o17 =>
  some o17
  else
  some false) : Option (Bool))).bind fun x_14 =>
  some x_14
  else
  some false) : Option (Bool))).bind fun x_9 =>
  some x_9
  else
  some false) : Option (Bool))).bind fun x_6 =>
  some x_6
  else
  some false) : Option (Bool))).bind fun x_1 =>
  some x_1 : Option Bool)) rfl (by exact go)
instance : Io0 cx 141 := ⟨rfl⟩
instance i95_0 {l : (List Relation)} : Lp cx (f95_0 l) 37 L95_0 (fun (zs : Int) => [(0, .v (ssl eRelation l)), (3, .v (iT zs))]) (QO (QX 0 (fun (y : Unit) => [(0, .v (ssl eRelation l))])) (QR (fun (y : Bool) => [(2, .v (.bool y))]))) := Lp.of (f := (fun
 | i_1 =>
  if i_1 < (l.length : Int) then
  (ix l i_1).bind fun v_3 =>
  (f141 v_3).bind fun o5 =>
  (jn (QN (fun (y : Bool) => [(0, .v (ssl eRelation l)), (3, .v (iT i_1)), (33, .v (.bool y))])) ((if ¬ (o5 = true) then
  some true
  else
  (jn (QN (fun (y : Bool) => [(0, .v (ssl eRelation l)), (3, .v (iT i_1)), (33, .v (.bool y))])) ((if i_1 > 0 then
  (ix l (w64 (i_1 - 1))).bind fun v_13 =>
  some (!(Op.bytesLess v_13.Name v_3.Name))
  else
  some false) : Option (Bool))).bind fun x_10 =>
  some x_10) : Option (Bool))).bind fun x_7 =>
  if x_7 = true then
  some (.inr (.inr false))
  else
  some (.inl (w64 (i_1 + 1)))
  else
  some (.inr (.inl ())) : Int -> Option (Int ⊕ (Unit ⊕ Bool)))) (by exact go)
instance i95 {l : (List Relation)} : Rn cx (f95 l) 95 [(ssl eRelation l)] (fun (r : Bool) => (.bool r)) (fun r => []) := Rn.o rfl (by unfold f95; exact go)
instance : Io0 cx 95 := ⟨rfl⟩
instance i94_0 {f : Fact} : Lp cx (f94_0 f) 44 L94_0 (fun (zs : Int) => [(3, .v (.ptr true [(iT f.Relation), (ssl eI f.Values)])), (5, .v (iT zs))]) (QO (QX 0 (fun (y : Unit) => [])) (QR (fun (y : Bool) => [(4, .v (.bool y))]))) := Lp.of (by unfold f94_0; exact go)
instance i94 {l : (List Relation)} {f : Fact} : Rn cx (f94 l f) 94 [(ssl eRelation l), (.agg [(iT f.Relation), (ssl eI f.Values)])] (fun (r : Bool) => (.bool r)) (fun r => []) := Rn.o (e := (
  (f95 l).bind fun o1 =>
  (jn (QN (fun (y : Bool) => [(3, .v (.ptr true [(iT f.Relation), (ssl eI f.Values)])), (29, .v (.bool y))])) ((if ¬ (o1 = true) then
  some true
  else
  (f87 f.Relation 0 (w64 ((l.length : Int) - 1))).bind fun o6 =>
  (jn (QN (fun (y : Bool) => [(3, .v (.ptr true [(iT f.Relation), (ssl eI f.Values)])), (29, .v (.bool y))])) ((if ¬ (o6 = true) then
  some true
  else
  (ix l f.Relation).bind fun v_11 =>
  some (decide ((f.Values.length : Int) ≠ v_11.Arity))) : Option (Bool))).bind fun x_8 =>
  some x_8) : Option (Bool))).bind fun x_3 =>
  if x_3 = true then
  some false
  else
  (iter (f94_0 f) 0).bind fun o => match o with
  | .inl _ =>
  some true
  | .inr x_23 =>
  some x_23 : Option Bool)) rfl (by exact go)
instance : Io0 cx 94 := ⟨rfl⟩
instance i90_0 {a : (List Int)} {b : (List Int)} : Lp cx (f90_0 a b) 46 L90_0 (fun (zs : Int) => [(0, .v (ssl eI a)), (1, .v (ssl eI b)), (5, .v (iT zs))]) (QO (QX 0 (fun (y : Unit) => [(0, .v (ssl eI a)), (1, .v (ssl eI b))])) (QR (fun (y : Int) => [(4, .v (iT y))]))) := Lp.of (f := (fun
 | i_1 =>
  (jn (QN (fun (y : Bool) => [(0, .v (ssl eI a)), (1, .v (ssl eI b)), (5, .v (iT i_1)), (15, .v (.bool y))])) ((if i_1 < (a.length : Int) then
  some (decide (i_1 < (b.length : Int)))
  else
  some false) : Option (Bool))).bind fun x_2 =>
  if x_2 = true then
  (ix a i_1).bind fun v_6 =>
  (ix b i_1).bind fun v_8 =>
  if v_6 < v_8 then
  some (.inr (.inr (-1)))
  else
  if v_6 > v_8 then
  some (.inr (.inr 1))
  else
  some (.inl (w64 (i_1 + 1)))
  else
  some (.inr (.inl ())) : Int -> Option (Int ⊕ (Unit ⊕ Int)))) (by exact go)
instance i90 {a : (List Int)} {b : (List Int)} : Rn cx (f90 a b) 90 [(ssl eI a), (ssl eI b)] (fun (r : Int) => (iT r)) (fun r => []) := Rn.o rfl (by unfold f90; exact go)
instance : Io0 cx 90 := ⟨rfl⟩
instance i44 {a : Fact} {b : Fact} : Rn cx (f44 a b) 44 [(.agg [(iT a.Relation), (ssl eI a.Values)]), (.agg [(iT b.Relation), (ssl eI b.Values)])] (fun (r : Int) => (iT r)) (fun r => []) := Rn.o rfl (by unfold f44; exact go)
instance : Io0 cx 44 := ⟨rfl⟩
instance i49_0 {d : Database} : Lp cx (f49_0 d) 48 L49_0 (fun (zs : Int) => [(1, .v (.ptr true [(ssl eRelation d.Relations), (ssl eFact d.Facts)])), (3, .v (iT zs))]) (QO (QX 0 (fun (y : Unit) => [(1, .v (.ptr true [(ssl eRelation d.Relations), (ssl eFact d.Facts)]))])) (QR (fun (y : Bool) => [(2, .v (.bool y))]))) := Lp.of (f := (fun
 | i_1 =>
  if i_1 < (d.Facts.length : Int) then
  (ix d.Facts i_1).bind fun v_3 =>
  (f94 d.Relations v_3).bind fun o5 =>
  (jn (QN (fun (y : Bool) => [(1, .v (.ptr true [(ssl eRelation d.Relations), (ssl eFact d.Facts)])), (3, .v (iT i_1)), (38, .v (.bool y))])) ((if ¬ (o5 = true) then
  some true
  else
  (jn (QN (fun (y : Bool) => [(1, .v (.ptr true [(ssl eRelation d.Relations), (ssl eFact d.Facts)])), (3, .v (iT i_1)), (38, .v (.bool y))])) ((if i_1 > 0 then
  (ix d.Facts (w64 (i_1 - 1))).bind fun v_13 =>
  (f44 v_13 v_3).bind fun o15 =>
  some (decide (o15 >= 0))
  else
  some false) : Option (Bool))).bind fun x_10 =>
  some x_10) : Option (Bool))).bind fun x_7 =>
  if x_7 = true then
  some (.inr (.inr false))
  else
  some (.inl (w64 (i_1 + 1)))
  else
  some (.inr (.inl ())) : Int -> Option (Int ⊕ (Unit ⊕ Bool)))) (by exact go)
instance i49 {d : Database} : Rn cx (f49 d) 49 [(.agg [(ssl eRelation d.Relations), (ssl eFact d.Facts)])] (fun (r : Bool) => (.bool r)) (fun r => []) := Rn.o (e := (
  (iter (f49_0 d) 0).bind fun o => match o with
  | .inl _ =>
  (f95 d.Relations).bind fun o21 =>
  (jn (QN (fun (y : Bool) => [(2, .v (.bool y))])) ((if o21 = true then
  some (decide ((d.Facts.length : Int) <= 14))
  else
  some false) : Option (Bool))).bind fun x_23 =>
  some x_23
  | .inr x_20 =>
  some x_20 : Option Bool)) rfl (by exact go)
instance : Io0 cx 49 := ⟨rfl⟩
instance i211_0 {d : Database} {f : Fact} : Lp cx (f211_0 d f) 22 L211_0 (fun (zs : Int) => [(2, .v (.ptr true [(ssl eRelation d.Relations), (ssl eFact d.Facts)])), (3, .v (.ptr true [(iT f.Relation), (ssl eI f.Values)])), (5, .v (iT zs))]) (QO (QX 0 (fun (y : Unit) => [])) (QR (fun (y : Int) => [(4, .v (iT y))]))) := Lp.of (by unfold f211_0; exact go)
instance i211 {d : Database} {f : Fact} : Rn cx (f211 d f) 211 [(.agg [(ssl eRelation d.Relations), (ssl eFact d.Facts)]), (.agg [(iT f.Relation), (ssl eI f.Values)])] (fun (r : Int) => (iT r)) (fun r => []) := Rn.o rfl (by unfold f211; exact go)
instance : Io0 cx 211 := ⟨rfl⟩
instance i198 {d : Database} {f : Fact} : Rn cx (f198 d f) 198 [(.agg [(ssl eRelation d.Relations), (ssl eFact d.Facts)]), (.agg [(iT f.Relation), (ssl eI f.Values)])] (fun (r : Bool) => (.bool r)) (fun r => []) := Rn.o (e := (
  (f49 d).bind fun o1 =>
  (jn (QN (fun (y : Bool) => [(4, .v (.bool y))])) ((if o1 = true then
  (f211 d f).bind fun o6 =>
  some (decide (o6 >= 0))
  else
  some false) : Option (Bool))).bind fun x_3 =>
  some x_3 : Option Bool)) rfl (by exact go)
instance : Io0 cx 198 := ⟨rfl⟩
instance i167_0 {f : Fact} {o1 : Database} : Lp cx (f167_0 f o1) 73 L167_0 (fun (zs : Int) => [(3, .v (.ptr true [(iT f.Relation), (ssl eI f.Values)])), (4, .v (.ptr true [(osl eRelation true ([])), (osl eFact true ([]))])), (6, .v (.ptr true [(osl eRelation true o1.Relations), (osl eFact true o1.Facts)])), (7, .v (iT zs))]) (QX 0 (fun (y : Int) => [(3, .v (.ptr true [(iT f.Relation), (ssl eI f.Values)])), (4, .v (.ptr true [(osl eRelation true ([])), (osl eFact true ([]))])), (6, .v (.ptr true [(osl eRelation true o1.Relations), (osl eFact true o1.Facts)])), (7, .v (iT y))])) := Lp.of (f := (fun
 | k_19 =>
  (jn (QN (fun (y : Bool) => [(3, .v (.ptr true [(iT f.Relation), (ssl eI f.Values)])), (4, .v (.ptr true [(osl eRelation true ([])), (osl eFact true ([]))])), (6, .v (.ptr true [(osl eRelation true o1.Relations), (osl eFact true o1.Facts)])), (7, .v (iT k_19)), (47, .v (.bool y))])) ((if k_19 < (o1.Facts.length : Int) then
  (ix o1.Facts k_19).bind fun v_23 =>
  (f44 v_23 f).bind fun o25 =>
  some (decide (o25 < 0))
  else
  some false) : Option (Bool))).bind fun x_20 =>
  if x_20 = true then
  some (.inl (w64 (k_19 + 1)))
  else
  some (.inr k_19) : Int -> Option (Int ⊕ Int))) (by exact go)
instance i167 {d : Database} {f : Fact} : Rn cx (f167 d f) 167 [(.agg [(ssl eRelation d.Relations), (ssl eFact d.Facts)]), (.agg [(iT f.Relation), (ssl eI f.Values)])] (fun (r : Database × Bool) => (.tup [(.agg [(osl eRelation true r.1.Relations), (osl eFact false r.1.Facts)]), (.bool r.2)])) (fun r => []) := Rn.o (e := (
  sn 4 4 (.ptr true [(osl eRelation true ([])), (osl eFact true ([]))]) <| 
  (f40 d).bind fun o1 =>
  (f49 d).bind fun o3 =>
  (jn (QN (fun (y : Bool) => [(3, .v (.ptr true [(iT f.Relation), (ssl eI f.Values)])), (4, .v (.ptr true [(osl eRelation true ([])), (osl eFact true ([]))])), (6, .v (.ptr true [(osl eRelation true o1.Relations), (osl eFact true o1.Facts)])), (31, .v (.bool y))])) ((if ¬ (o3 = true) then
  some true
  else
  (f94 d.Relations f).bind fun o8 =>
  (jn (QN (fun (y : Bool) => [(3, .v (.ptr true [(iT f.Relation), (ssl eI f.Values)])), (4, .v (.ptr true [(osl eRelation true ([])), (osl eFact true ([]))])), (6, .v (.ptr true [(osl eRelation true o1.Relations), (osl eFact true o1.Facts)])), (31, .v (.bool y))])) ((if ¬ (o8 = true) then
  some true
  else
  (f198 d f).bind fun o13 =>
  (jn (QN (fun (y : Bool) => [(3, .v (.ptr true [(iT f.Relation), (ssl eI f.Values)])), (4, .v (.ptr true [(osl eRelation true ([])), (osl eFact true ([]))])), (6, .v (.ptr true [(osl eRelation true o1.Relations), (osl eFact true o1.Facts)])), (31, .v (.bool y))])) ((if o13 = true then
  some true
  else
  some (decide ((d.Facts.length : Int) = 14))) : Option (Bool))).bind fun x_15 =>
  some x_15) : Option (Bool))).bind fun x_10 =>
  some x_10) : Option (Bool))).bind fun x_5 =>
  if x_5 = true then
  some (o1, false)
  else
  (iter (f167_0 f o1) 0).bind fun k_30 =>
  sn 5 6 (.ptr true [(osl eRelation true o1.Relations), (ssl eFact o1.Facts)]) <| 
  (cutL o1.Facts k_30 o1.Facts.length).bind fun l_31 =>
  (app 8 ([]) f.Values).bind fun l_33 =>
  sn 5 55 (osl eI true l_33) <| 
  sn 1 56 (.agg [(iT f.Relation), (ssl eI l_33)]) <| 
  (app 32 ([({ Relation := f.Relation, Values := l_33 } : Fact)]) l_31).bind fun l_35 =>
  sn 3 8 (osl eFact false l_35) <| 
  (cutL o1.Facts 0 k_30).bind fun l_37 =>
  (app 32 ([]) l_37).bind fun l_39 =>
  (app 32 l_39 l_35).bind fun l_41 =>
  sn 9 70 (osl eFact false l_41) <| 
  some (({ Relations := o1.Relations, Facts := l_41 } : Database), true) : Option (Database × Bool))) rfl (by exact go)
instance : Io0 cx 167 := ⟨rfl⟩
instance i128_0 {o3 : (Int × L1Cur)} : Lp cx (f128_0 o3) 30 L128_0 (fun (zs : (List Int) × Int × Int × (List Relation) × (List Fact) × Int) => [(0, .v (.ptr true [(ssl eU zs.1), (iT zs.2.1), (iT zs.2.2.1)])), (2, .v (.ptr true [(osl eRelation true ([])), (osl eFact true ([]))])), (3, .v (.ptr true [(osl eRelation true zs.2.2.2.1), (osl eFact false zs.2.2.2.2.1)])), (4, .v (iT o3.1)), (5, .v (iT zs.2.2.2.2.2))]) (QX 0 (fun (y : (List Int) × Int × Int × (List Relation) × (List Fact)) => [(0, .v (.ptr true [(ssl eU y.1), (iT y.2.1), (iT y.2.2.1)])), (2, .v (.ptr true [(osl eRelation true ([])), (osl eFact true ([]))])), (3, .v (.ptr true [(osl eRelation true y.2.2.2.1), (osl eFact false y.2.2.2.2)]))])) := Lp.of (f := (fun
 | (c_7, c_8, c_9, d_10, d_11, n_12) =>
  if n_12 > 0 then
  sn 0 3 (.ptr true [(ssl eRelation d_10), (ssl eFact d_11)]) <| 
  (f168 ({ b := c_7, i := c_8, h := c_9 } : L1Cur) d_10 o3.1).bind fun o14 =>
  sn 0 25 (.agg [(iT o14.1.Relation), (ssl eI o14.1.Values)]) <| 
  (f167 ({ Relations := d_10, Facts := d_11 } : Database) o14.1).bind fun o16 =>
  some (.inl (o14.2.b, o14.2.i, o14.2.h, o16.1.Relations, o16.1.Facts, w64 (n_12 - 1)))
  else
  some (.inr (c_7, c_8, c_9, d_10, d_11)) : (List Int) × Int × Int × (List Relation) × (List Fact) × Int -> Option (((List Int) × Int × Int × (List Relation) × (List Fact) × Int) ⊕ ((List Int) × Int × Int × (List Relation) × (List Fact))))) (by exact go)
instance i128 {c : L1Cur} : Rn cx (f128 c) 128 [(.ptr true [(ssl eU c.b), (iT c.i), (iT c.h)])] (fun (r : Database × L1Cur) => (.agg [(osl eRelation true r.1.Relations), (osl eFact false r.1.Facts)])) (fun r => [(.ptr true [(ssl eU r.2.b), (iT r.2.i), (iT r.2.h)])]) := Rn.o (e := (
  sn 1 2 (.ptr true [(osl eRelation true ([])), (osl eFact true ([]))]) <| 
  (f165 c).bind fun o1 =>
  sn 2 8 (.agg [(osl eRelation true o1.1), (osl eFact true ([]))]) <| 
  sn 3 10 (osl eI true ([2, 2, 3, 3])) <| 
  sn 0 10 (ssl eI ([2, 2, 3, 3])) <| 
  (f166 o1.2 ([2, 2, 3, 3])).bind fun o3 =>
  (f105 o3.2 11).bind fun o5 =>
  (iter (f128_0 o3) (o5.2.b, o5.2.i, o5.2.h, o1.1, [], w64 (2 + o5.1))).bind fun (c_20, c_21, c_22, d_23, d_24) =>
  some (({ Relations := d_23, Facts := d_24 } : Database), ({ b := c_20, i := c_21, h := c_22 } : L1Cur)) : Option (Database × L1Cur))) rfl (by exact go)
instance i148_0 {o1 : (Database × L1Cur)} : Lp cx (lw o1 f148_0) 19 L148_0 (fun (zs : (List Relation) × (List Fact)) => [(0, .v (.ptr true [(ssl eU o1.2.b), (iT o1.2.i), (iT o1.2.h)])), (2, .v (.ptr true [(osl eRelation true ([])), (osl eFact true ([]))])), (3, .v (.ptr true [(osl eRelation true zs.1), (ssl eFact zs.2)]))]) (QX 0 (fun (y : (List Relation) × (List Fact)) => [(0, .v (.ptr true [(ssl eU o1.2.b), (iT o1.2.i), (iT o1.2.h)])), (2, .v (.ptr true [(osl eRelation true ([])), (osl eFact true ([]))])), (3, .v (.ptr true [(osl eRelation true y.1), (ssl eFact y.2)]))])) := Lp.of (by unfold lw f148_0; exact go)
instance i148 {c : L1Cur} : Rn cx (f148 c) 148 [(.ptr true [(ssl eU c.b), (iT c.i), (iT c.h)])] (fun (r : Database × L1Cur) => (.agg [(osl eRelation true r.1.Relations), (ssl eFact r.1.Facts)])) (fun r => [(.ptr true [(ssl eU r.2.b), (iT r.2.i), (iT r.2.h)])]) := Rn.o (e := (
  sn 1 2 (.ptr true [(osl eRelation true ([])), (osl eFact true ([]))]) <| 
  (f128 c).bind fun o1 =>
  (iter (lw o1  f148_0) (o1.1.Relations, o1.1.Facts)).bind fun (d_10, d_11) =>
  some (({ Relations := d_10, Facts := d_11 } : Database), o1.2) : Option (Database × L1Cur))) rfl (by exact go)
instance i149 {c : L1Cur} {n1 : Int} : Rn cx (f149 c n1) 149 [(.ptr true [(ssl eU c.b), (iT c.i), (iT c.h)]), (iT n1)] (fun (r : Bool × L1Cur) => (.bool r.1)) (fun r => [(.ptr true [(ssl eU r.2.b), (iT r.2.i), (iT r.2.h)])]) := Rn.o rfl (by unfold f149; exact go)
instance i212_0 {q : Query} : Lp cx (f212_0 q) 40 L212_0 (fun (zs : Int × (List Atom) × (List Int) × Int) => [(1, .v (.ptr true [(iT q.VariableCount), (ssl eAtom q.Atoms), (ssl eI q.Free)])), (2, .v (.ptr true [(iT 0), (osl eAtom true ([])), (osl eI true ([]))])), (3, .v (.ptr true [(iT zs.1), (osl eAtom true zs.2.1), (osl eI true zs.2.2.1)])), (4, .v (iT zs.2.2.2))]) (QX 0 (fun (y : Int × (List Atom) × (List Int)) => [(2, .v (.ptr true [(iT 0), (osl eAtom true ([])), (osl eI true ([]))])), (3, .v (.ptr true [(iT y.1), (osl eAtom true y.2.1), (osl eI true y.2.2)]))])) := Lp.of (f := (fun
 | (x_3, x_4, x_5, i_6) =>
  if i_6 < (q.Atoms.length : Int) then
  (ix q.Atoms i_6).bind fun v_8 =>
  (app 8 ([]) v_8.Terms).bind fun l_10 =>
  sn 16 34 (osl eI true l_10) <| 
  (app 32 x_4 ([({ Relation := v_8.Relation, Terms := l_10 } : Atom)])).bind fun l_12 =>
  some (.inl (x_3, l_12, x_5, w64 (i_6 + 1)))
  else
  some (.inr (x_3, x_4, x_5)) : Int × (List Atom) × (List Int) × Int -> Option ((Int × (List Atom) × (List Int) × Int) ⊕ (Int × (List Atom) × (List Int))))) (by exact go)
instance i212 {q : Query} : Rn cx (f212 q) 212 [(.agg [(iT q.VariableCount), (ssl eAtom q.Atoms), (ssl eI q.Free)])] (fun (r : Query) => (.agg [(iT r.VariableCount), (osl eAtom true r.Atoms), (osl eI true r.Free)])) (fun r => []) := Rn.o (e := (
  sn 2 2 (.ptr true [(iT 0), (osl eAtom true ([])), (osl eI true ([]))]) <| 
  (app 8 ([]) q.Free).bind fun l_1 =>
  sn 7 10 (osl eI true l_1) <| 
  sn 1 11 (.agg [(iT q.VariableCount), (osl eAtom true ([])), (osl eI true l_1)]) <| 
  (iter (f212_0 q) (q.VariableCount, [], l_1, 0)).bind fun (x_16, x_17, x_18) =>
  some ({ VariableCount := x_16, Atoms := x_17, Free := x_18 } : Query) : Option Query)) rfl (by exact go)
instance : Io0 cx 212 := ⟨rfl⟩
instance i199_2 {i_7 : Int} {x_9 : Int} {x_10 : (List Atom)} {x_11 : (List Int)} {name_12 : (List Int)} {k_13 : Int} {v_19 : Int} : Lp cx (lw (i_7, x_9, x_10, x_11, k_13) (f199_2 name_12 v_19)) 76 L199_2 (fun (zs : Int × Int) => [(2, .v (.ptr true [(iT 0), (osl eAtom true ([])), (osl eI true ([]))])), (3, .v (.ptr true [(iT x_9), (osl eAtom true x_10), (osl eI true x_11)])), (4, .v (osl eI true name_12)), (5, .v (iT i_7)), (6, .v (iT k_13)), (7, .v (iT v_19)), (8, .v (iT zs.1)), (9, .v (iT zs.2))]) (QX 4 (fun (y : Int) => [(2, .v (.ptr true [(iT 0), (osl eAtom true ([])), (osl eI true ([]))])), (3, .v (.ptr true [(iT x_9), (osl eAtom true x_10), (osl eI true x_11)])), (4, .v (osl eI true name_12)), (5, .v (iT i_7)), (6, .v (iT k_13)), (7, .v (iT v_19)), (8, .v (iT y))])) := Lp.of (f := (fun
 | (at_22, j_23) =>
  if j_23 < (name_12.length : Int) then
  (ix name_12 j_23).bind fun v_25 =>
  (jn (QN (fun (y : Int) => [(2, .v (.ptr true [(iT 0), (osl eAtom true ([])), (osl eI true ([]))])), (3, .v (.ptr true [(iT x_9), (osl eAtom true x_10), (osl eI true x_11)])), (4, .v (osl eI true name_12)), (5, .v (iT i_7)), (6, .v (iT k_13)), (7, .v (iT v_19)), (8, .v (iT y)), (9, .v (iT j_23))])) ((if v_25 = v_19 then
  some j_23
  else
  some at_22) : Option Int)).bind fun at_30 =>
  some (.inl (at_30, w64 (j_23 + 1)))
  else
  some (.inr at_22) : Int × Int -> Option ((Int × Int) ⊕ Int))) (by exact go)
instance i199_1 {i_7 : Int} : Lp cx (f199_1 i_7) 76 L199_1 (fun (zs : Int × (List Atom) × (List Int) × (List Int) × Int) => [(2, .v (.ptr true [(iT 0), (osl eAtom true ([])), (osl eI true ([]))])), (3, .v (.ptr true [(iT zs.1), (osl eAtom true zs.2.1), (osl eI true zs.2.2.1)])), (4, .v (osl eI true zs.2.2.2.1)), (5, .v (iT i_7)), (6, .v (iT zs.2.2.2.2))]) (QX 2 (fun (y : Int × (List Atom) × (List Int) × (List Int)) => [(2, .v (.ptr true [(iT 0), (osl eAtom true ([])), (osl eI true ([]))])), (3, .v (.ptr true [(iT y.1), (osl eAtom true y.2.1), (osl eI true y.2.2.1)])), (4, .v (osl eI true y.2.2.2)), (5, .v (iT i_7))])) := Lp.of (f := (fun
 | (x_9, x_10, x_11, name_12, k_13) =>
  (ix x_10 i_7).bind fun v_14 =>
  if k_13 < (v_14.Terms.length : Int) then
  (jb 3 (QN (fun (y : (List Atom) × (List Int)) => [(2, .v (.ptr true [(iT 0), (osl eAtom true ([])), (osl eI true ([]))])), (3, .v (.ptr true [(iT x_9), (osl eAtom true y.1), (osl eI true x_11)])), (4, .v (osl eI true y.2)), (5, .v (iT i_7)), (6, .v (iT k_13))])) (((ix v_14.Terms k_13).bind fun v_19 =>
  if v_19 < 0 then
  some (x_10, name_12)
  else
  (iter (lw (i_7, x_9, x_10, x_11, k_13)  (f199_2 name_12 v_19)) (-1, 0)).bind fun at_33 =>
  (jn (QN (fun (y : (List Int) × Int) => [(2, .v (.ptr true [(iT 0), (osl eAtom true ([])), (osl eI true ([]))])), (3, .v (.ptr true [(iT x_9), (osl eAtom true x_10), (osl eI true x_11)])), (4, .v (osl eI true y.1)), (5, .v (iT i_7)), (6, .v (iT k_13)), (8, .v (iT y.2))])) ((if at_33 < 0 then
  (app 8 name_12 ([v_19])).bind fun l_37 =>
  some (l_37, (name_12.length : Int))
  else
  some (name_12, at_33)) : Option ((List Int) × Int))).bind fun (name_39, at_40) =>
  some ((x_10.set i_7.toNat ({ Relation := v_14.Relation, Terms := (v_14.Terms.set k_13.toNat at_40) } : Atom)), name_39)) : Option ((List Atom) × (List Int)))).bind fun (x_43, name_44) =>
  some (.inl (x_9, x_43, x_11, name_44, w64 (k_13 + 1)))
  else
  some (.inr (x_9, x_10, x_11, name_12)) : Int × (List Atom) × (List Int) × (List Int) × Int -> Option ((Int × (List Atom) × (List Int) × (List Int) × Int) ⊕ (Int × (List Atom) × (List Int) × (List Int))))) (by exact go)
instance i199_0 : Lp cx f199_0 76 L199_0 (fun (zs : Int × (List Atom) × (List Int) × (List Int) × Int) => [(2, .v (.ptr true [(iT 0), (osl eAtom true ([])), (osl eI true ([]))])), (3, .v (.ptr true [(iT zs.1), (osl eAtom true zs.2.1), (osl eI true zs.2.2.1)])), (4, .v (osl eI true zs.2.2.2.1)), (5, .v (iT zs.2.2.2.2))]) (QX 0 (fun (y : Int × (List Atom) × (List Int) × (List Int)) => [(2, .v (.ptr true [(iT 0), (osl eAtom true ([])), (osl eI true ([]))])), (3, .v (.ptr true [(iT y.1), (osl eAtom true y.2.1), (osl eI true y.2.2.1)])), (4, .v (osl eI true y.2.2.2))])) := Lp.of (by unfold f199_0; exact go)
instance i199 {q : Query} : Rn cx (f199 q) 199 [(.agg [(iT q.VariableCount), (ssl eAtom q.Atoms), (ssl eI q.Free)])] (fun (r : Query) => (.agg [(iT r.VariableCount), (osl eAtom true r.Atoms), (osl eI true r.Free)])) (fun r => []) := Rn.o (e := (
  sn 2 2 (.ptr true [(iT 0), (osl eAtom true ([])), (osl eI true ([]))]) <| 
  (f212 q).bind fun o1 =>
  sn 4 4 (osl eI true ([])) <| 
  (iter f199_0 (o1.VariableCount, o1.Atoms, o1.Free, [], 0)).bind fun (x_53, x_54, x_55, name_56) =>
  some ({ VariableCount := (name_56.length : Int), Atoms := x_54, Free := x_55 } : Query) : Option Query)) rfl (by exact go)
instance : Io0 cx 199 := ⟨rfl⟩
instance i169_1 {o1 : (Int × L1Cur)} {o3 : (Int × L1Cur)} {o5 : (Int × L1Cur)} {q_10 : Int} {q_11 : (List Atom)} {q_12 : (List Int)} {i_13 : Int} : Lp cx (lw (o1, o5, q_10, q_11, q_12, i_13) (f169_1 o3)) 64 L169_1 (fun (zs : (List Int) × Int × Int × Int × (List Int) × Int) => [(0, .v (.ptr true [(ssl eU zs.1), (iT zs.2.1), (iT zs.2.2.1)])), (2, .v (.ptr true [(iT 0), (osl eAtom true ([])), (osl eI true ([]))])), (3, .v (.ptr true [(iT q_10), (osl eAtom true q_11), (osl eI true q_12)])), (4, .v (iT (w64 (1 + o1.1)))), (5, .v (iT (w64 (1 + o3.1)))), (6, .v (iT o5.1)), (7, .v (iT i_13)), (9, .v (.ptr true [(iT zs.2.2.2.1), (osl eI true zs.2.2.2.2.1)])), (10, .v (iT zs.2.2.2.2.2))]) (QX 2 (fun (y : (List Int) × Int × Int × Int × (List Int)) => [(0, .v (.ptr true [(ssl eU y.1), (iT y.2.1), (iT y.2.2.1)])), (2, .v (.ptr true [(iT 0), (osl eAtom true ([])), (osl eI true ([]))])), (3, .v (.ptr true [(iT q_10), (osl eAtom true q_11), (osl eI true q_12)])), (4, .v (iT (w64 (1 + o1.1)))), (5, .v (iT (w64 (1 + o3.1)))), (6, .v (iT o5.1)), (7, .v (iT i_13)), (9, .v (.ptr true [(iT y.2.2.2.1), (osl eI true y.2.2.2.2)]))])) := Lp.of (f := (fun
 | (c_15, c_16, c_17, a_18, a_19, m_20) =>
  if m_20 > 0 then
  (f149 ({ b := c_15, i := c_16, h := c_17 } : L1Cur) 12).bind fun o22 =>
  (jn (QN (fun (y : (List Int) × Int × Int × (List Int)) => [(0, .v (.ptr true [(ssl eU y.1), (iT y.2.1), (iT y.2.2.1)])), (2, .v (.ptr true [(iT 0), (osl eAtom true ([])), (osl eI true ([]))])), (3, .v (.ptr true [(iT q_10), (osl eAtom true q_11), (osl eI true q_12)])), (4, .v (iT (w64 (1 + o1.1)))), (5, .v (iT (w64 (1 + o3.1)))), (6, .v (iT o5.1)), (7, .v (iT i_13)), (9, .v (.ptr true [(iT a_18), (osl eI true y.2.2.2)])), (10, .v (iT m_20))])) ((if o22.1 = true then
  (f105 o22.2 2).bind fun o27 =>
  (app 8 a_19 ([w64 ((-1) - o27.1)])).bind fun l_29 =>
  some (o27.2.b, o27.2.i, o27.2.h, l_29)
  else
  (f105 o22.2 (w64 (1 + o3.1))).bind fun o31 =>
  (app 8 a_19 ([o31.1])).bind fun l_33 =>
  some (o31.2.b, o31.2.i, o31.2.h, l_33)) : Option ((List Int) × Int × Int × (List Int)))).bind fun (c_35, c_36, c_37, a_38) =>
  some (.inl (c_35, c_36, c_37, a_18, a_38, w64 (m_20 - 1)))
  else
  some (.inr (c_15, c_16, c_17, a_18, a_19)) : (List Int) × Int × Int × Int × (List Int) × Int -> Option (((List Int) × Int × Int × Int × (List Int) × Int) ⊕ ((List Int) × Int × Int × Int × (List Int))))) (by exact go)
instance i169_0 {o1 : (Int × L1Cur)} {o3 : (Int × L1Cur)} {o5 : (Int × L1Cur)} : Lp cx (f169_0 o1 o3 o5) 64 L169_0 (fun (zs : (List Int) × Int × Int × Int × (List Atom) × (List Int) × Int) => [(0, .v (.ptr true [(ssl eU zs.1), (iT zs.2.1), (iT zs.2.2.1)])), (2, .v (.ptr true [(iT 0), (osl eAtom true ([])), (osl eI true ([]))])), (3, .v (.ptr true [(iT zs.2.2.2.1), (osl eAtom true zs.2.2.2.2.1), (osl eI true zs.2.2.2.2.2.1)])), (4, .v (iT (w64 (1 + o1.1)))), (5, .v (iT (w64 (1 + o3.1)))), (6, .v (iT o5.1)), (7, .v (iT zs.2.2.2.2.2.2))]) (QX 0 (fun (y : (List Int) × Int × Int × Int × (List Atom) × (List Int)) => [(0, .v (.ptr true [(ssl eU y.1), (iT y.2.1), (iT y.2.2.1)])), (2, .v (.ptr true [(iT 0), (osl eAtom true ([])), (osl eI true ([]))])), (3, .v (.ptr true [(iT y.2.2.2.1), (osl eAtom true y.2.2.2.2.1), (osl eI true y.2.2.2.2.2)]))])) := Lp.of (f := (fun
 | (c_7, c_8, c_9, q_10, q_11, q_12, i_13) =>
  if i_13 < (w64 (1 + o1.1)) then
  sn 8 30 (.agg [(iT ((w64 (o5.1 + i_13)).tmod 4)), (osl eI true ([]))]) <| 
  (iter (lw (o1, o5, q_10, q_11, q_12, i_13)  (f169_1 o3)) (c_7, c_8, c_9, (w64 (o5.1 + i_13)).tmod 4, [], w64 (2 + (w64 (((w64 (o5.1 + i_13)).tmod 4).tdiv 3))))).bind fun (c_41, c_42, c_43, a_44, a_45) =>
  (app 32 q_11 ([({ Relation := a_44, Terms := a_45 } : Atom)])).bind fun l_46 =>
  some (.inl (c_41, c_42, c_43, q_10, l_46, q_12, w64 (i_13 + 1)))
  else
  some (.inr (c_7, c_8, c_9, q_10, q_11, q_12)) : (List Int) × Int × Int × Int × (List Atom) × (List Int) × Int -> Option (((List Int) × Int × Int × Int × (List Atom) × (List Int) × Int) ⊕ ((List Int) × Int × Int × Int × (List Atom) × (List Int))))) (by exact go)
instance i169 {c : L1Cur} : Rn cx (f169 c) 169 [(.ptr true [(ssl eU c.b), (iT c.i), (iT c.h)])] (fun (r : Query × L1Cur) => (.agg [(iT r.1.VariableCount), (osl eAtom true r.1.Atoms), (osl eI true r.1.Free)])) (fun r => [(.ptr true [(ssl eU r.2.b), (iT r.2.i), (iT r.2.h)])]) := Rn.o (e := (
  sn 1 2 (.ptr true [(iT 0), (osl eAtom true ([])), (osl eI true ([]))]) <| 
  sn 2 11 (.agg [(iT 0), (osl eAtom true ([])), (osl eI true ([]))]) <| 
  (f105 c 3).bind fun o1 =>
  (f105 o1.2 4).bind fun o3 =>
  (f105 o3.2 4).bind fun o5 =>
  (iter (f169_0 o1 o3 o5) (o5.2.b, o5.2.i, o5.2.h, 0, [], [], 0)).bind fun (c_50, c_51, c_52, q_53, q_54, q_55) =>
  (f199 ({ VariableCount := q_53, Atoms := q_54, Free := q_55 } : Query)).bind fun o56 =>
  some (o56, ({ b := c_50, i := c_51, h := c_52 } : L1Cur)) : Option (Query × L1Cur))) rfl (by exact go)
instance i201 {c : L1Cur} {list : (List (List UInt8))} : Rn cx (f201 c list) 201 [(.ptr true [(ssl eU c.b), (iT c.i), (iT c.h)]), (ssl eS list)] (fun (r : (List UInt8) × L1Cur) => (.str r.1)) (fun r => [(.ptr true [(ssl eU r.2.b), (iT r.2.i), (iT r.2.h)])]) := Rn.o rfl (by unfold f201; exact go)
instance i213_0 {s0 : (List UInt8)} {sign : Int} : Lp cx (f213_0 s0 sign) 35 L213_0 (fun (zs : (List (List UInt8)) × Int × Int) => [(0, .v (.str s0)), (1, .v (.int .u8 sign)), (5, .v (osl eS true zs.1)), (6, .v (iT zs.2.1)), (7, .v (iT zs.2.2))]) (QX 0 (fun (y : (List (List UInt8)) × Int) => [(0, .v (.str s0)), (5, .v (osl eS true y.1)), (6, .v (iT y.2))])) := Lp.of (f := (fun
 | (out_1, from_2, i_3) =>
  if i_3 < (s0.length : Int) then
  (ix s0 i_3).bind fun c_5 =>
  (jn (QN (fun (y : (List (List UInt8)) × Int) => [(0, .v (.str s0)), (1, .v (.int .u8 sign)), (5, .v (osl eS true y.1)), (6, .v (iT y.2)), (7, .v (iT i_3))])) ((if (c_5.toNat : Int) = sign then
  (cutL s0 from_2 i_3).bind fun l_10 =>
  (app 16 out_1 ([l_10])).bind fun l_12 =>
  some (l_12, w64 (i_3 + 1))
  else
  some (out_1, from_2)) : Option ((List (List UInt8)) × Int))).bind fun (out_14, from_15) =>
  some (.inl (out_14, from_15, w64 (i_3 + 1)))
  else
  some (.inr (out_1, from_2)) : (List (List UInt8)) × Int × Int -> Option (((List (List UInt8)) × Int × Int) ⊕ ((List (List UInt8)) × Int)))) (by exact go)
instance i213 {s0 : (List UInt8)} {sign : Int} : Rn cx (f213 s0 sign) 213 [(.str s0), (.int .u8 sign)] (fun (r : (List (List UInt8))) => (osl eS true r)) (fun r => []) := Rn.o (e := (
  sn 3 5 (osl eS true ([])) <| 
  (iter (f213_0 s0 sign) ([], 0, 0)).bind fun (out_18, from_19) =>
  (cutL s0 from_19 s0.length).bind fun l_20 =>
  (app 16 out_18 ([l_20])).bind fun l_22 =>
  some l_22 : Option (List (List UInt8)))) rfl (by exact go)
instance : Io0 cx 213 := ⟨rfl⟩
instance i222 {t : Int} : Rn cx (f222 t) 222 [(iT t)] (fun (r : Int × Bool) => (.tup [(iT r.1), (.bool r.2)])) (fun r => []) := Rn.o (e := (
  (jn (QN (fun (y : Bool) => [(0, .v (iT t)), (11, .v (.bool y))])) ((if t >= 0 then
  some true
  else
  (f87 (w64 ((-1) - t)) 0 9).bind fun o4 =>
  some (decide (¬ (o4 = true)))) : Option (Bool))).bind fun x_1 =>
  if x_1 = true then
  some (0, false)
  else
  some (w64 ((-1) - t), true) : Option (Int × Bool))) rfl (by exact go)
instance : Io0 cx 222 := ⟨rfl⟩
instance i223_0 {n0 : Int} : Lp cx (lw n0 f223_0) 31 L223_0 (fun (zs : Int × (List UInt8)) => [(0, .v (iT zs.1)), (3, .v (.str zs.2)), (4, .v (.bool (decide (n0 < 0))))]) (QX 0 (fun (y : (List UInt8)) => [(3, .v (.str y)), (4, .v (.bool (decide (n0 < 0))))])) := Lp.of (f := (fun
 | (n_2, out_3) =>
  if n_2 ≠ 0 then
  (jn (QN (fun (y : Int) => [(0, .v (iT n_2)), (3, .v (.str out_3)), (4, .v (.bool (decide (n0 < 0)))), (5, .v (iT y))])) ((if (n_2.tmod 10) < 0 then
  some (w64 (-(n_2.tmod 10)))
  else
  some (n_2.tmod 10)) : Option Int)).bind fun d_8 =>
  (cat ([UInt8.ofNat (w8 (w64 (48 + d_8))).toNat]) out_3).bind fun s_9 =>
  some (.inl (w64 (n_2.tdiv 10), s_9))
  else
  some (.inr out_3) : Int × (List UInt8) -> Option ((Int × (List UInt8)) ⊕ (List UInt8)))) (by exact go)
instance i223 {n0 : Int} : Rn cx (f223 n0) 223 [(iT n0)] (fun (r : (List UInt8)) => (.str r)) (fun r => []) := Rn.o (e := (
  if n0 = 0 then
  some ([48])
  else
  (iter (lw n0  f223_0) (n0, [])).bind fun out_13 =>
  if n0 < 0 then
  (cat ([45]) out_13).bind fun s_15 =>
  some s_15
  else
  some out_13 : Option (List UInt8))) rfl (by exact go)
instance : Io0 cx 223 := ⟨rfl⟩
instance i220 {t : Int} : Rn cx (f220 t) 220 [(iT t)] (fun (r : (List UInt8)) => (.str r)) (fun r => []) := Rn.o rfl (by unfold f220; exact go)
instance : Io0 cx 220 := ⟨rfl⟩
instance i214_0 {s0 : (List UInt8)} : Lp cx (f214_0 s0) 14 L214_0 (fun (zs : Int) => [(0, .v (.str s0)), (4, .v (iT zs))]) (QO (QX 0 (fun (y : Unit) => [])) (QR (fun (y : Int × Bool) => [(2, .v (iT y.1)), (3, .v (.bool y.2))]))) := Lp.of (by unfold f214_0; exact go)
instance i214 {s0 : (List UInt8)} : Rn cx (f214 s0) 214 [(.str s0)] (fun (r : Int × Bool) => (.tup [(iT r.1), (.bool r.2)])) (fun r => []) := Rn.o rfl (by unfold f214; exact go)
instance : Io0 cx 214 := ⟨rfl⟩
instance i215_0 {l : (List Relation)} {name : (List UInt8)} : Lp cx (f215_0 l name) 20 L215_0 (fun (zs : Int) => [(0, .v (ssl eRelation l)), (1, .v (.str name)), (5, .v (iT zs))]) (QO (QX 0 (fun (y : Unit) => [])) (QR (fun (y : Int) => [(4, .v (iT y))]))) := Lp.of (by unfold f215_0; exact go)
instance i215 {l : (List Relation)} {name : (List UInt8)} : Rn cx (f215 l name) 215 [(ssl eRelation l), (.str name)] (fun (r : Int) => (iT r)) (fun r => []) := Rn.o rfl (by unfold f215; exact go)
instance : Io0 cx 215 := ⟨rfl⟩
instance i50_3 {l : (List Relation)} {q : Query} {met_16 : (List Bool)} {i_17 : Int} {v_19 : Atom} : Lp cx (lw (l, met_16) (f50_3 q i_17 v_19)) 150 L50_3 (fun (zs : Int) => [(0, .v (ssl eRelation l)), (3, .v (.ptr true [(iT q.VariableCount), (ssl eAtom q.Atoms), (ssl eI q.Free)])), (5, .v (osl eB true met_16)), (6, .v (iT i_17)), (7, .v (.ptr true [(iT v_19.Relation), (ssl eI v_19.Terms)])), (8, .v (iT zs))]) (QO (QX 2 (fun (y : Unit) => [(0, .v (ssl eRelation l)), (3, .v (.ptr true [(iT q.VariableCount), (ssl eAtom q.Atoms), (ssl eI q.Free)])), (5, .v (osl eB true met_16)), (6, .v (iT i_17)), (7, .v (.ptr true [(iT v_19.Relation), (ssl eI v_19.Terms)]))])) (QR (fun (y : Bool) => [(4, .v (.bool y))]))) := Lp.of (by unfold lw f50_3; exact go)
instance i50_4 {l : (List Relation)} {q : Query} {i_17 : Int} {v_19 : Atom} : Lp cx (lw (l, i_17) (f50_4 q v_19)) 150 L50_4 (fun (zs : (List Bool) × Int) => [(0, .v (ssl eRelation l)), (3, .v (.ptr true [(iT q.VariableCount), (ssl eAtom q.Atoms), (ssl eI q.Free)])), (5, .v (osl eB true zs.1)), (6, .v (iT i_17)), (7, .v (.ptr true [(iT v_19.Relation), (ssl eI v_19.Terms)])), (9, .v (iT zs.2))]) (QO (QX 4 (fun (y : (List Bool)) => [(0, .v (ssl eRelation l)), (3, .v (.ptr true [(iT q.VariableCount), (ssl eAtom q.Atoms), (ssl eI q.Free)])), (5, .v (osl eB true y)), (6, .v (iT i_17))])) (QR (fun (y : Bool) => [(4, .v (.bool y))]))) := Lp.of (f := (fun
 | (met_37, k_38) =>
  if k_38 < (v_19.Terms.length : Int) then
  (ix v_19.Terms k_38).bind fun v_40 =>
  (f87 v_40 (-10) (w64 (q.VariableCount - 1))).bind fun o42 =>
  if ¬ (o42 = true) then
  some (.inr (.inr false))
  else
  (jn (QN (fun (y : (List Bool)) => [(0, .v (ssl eRelation l)), (3, .v (.ptr true [(iT q.VariableCount), (ssl eAtom q.Atoms), (ssl eI q.Free)])), (5, .v (osl eB true y)), (6, .v (iT i_17)), (7, .v (.ptr true [(iT v_19.Relation), (ssl eI v_19.Terms)])), (9, .v (iT k_38))])) ((if v_40 >= 0 then
  (ix met_37 v_40).bind fun v_48 =>
  some (met_37.set v_40.toNat true)
  else
  some met_37) : Option (List Bool))).bind fun met_51 =>
  some (.inl (met_51, w64 (k_38 + 1)))
  else
  some (.inr (.inl met_37)) : (List Bool) × Int -> Option (((List Bool) × Int) ⊕ ((List Bool) ⊕ Bool)))) (by exact go)
instance i50_0 {l : (List Relation)} {q : Query} : Lp cx (f50_0 l q) 150 L50_0 (fun (zs : (List Bool) × Int) => [(0, .v (ssl eRelation l)), (3, .v (.ptr true [(iT q.VariableCount), (ssl eAtom q.Atoms), (ssl eI q.Free)])), (5, .v (osl eB true zs.1)), (6, .v (iT zs.2))]) (QO (QX 0 (fun (y : (List Bool)) => [(3, .v (.ptr true [(iT q.VariableCount), (ssl eAtom q.Atoms), (ssl eI q.Free)])), (5, .v (osl eB true y))])) (QR (fun (y : Bool) => [(4, .v (.bool y))]))) := Lp.of (f := (fun
 | (met_16, i_17) =>
  if i_17 < (q.Atoms.length : Int) then
  (ix q.Atoms i_17).bind fun v_19 =>
  (f87 v_19.Relation 0 (w64 ((l.length : Int) - 1))).bind fun o21 =>
  (jn (QN (fun (y : Bool) => [(0, .v (ssl eRelation l)), (3, .v (.ptr true [(iT q.VariableCount), (ssl eAtom q.Atoms), (ssl eI q.Free)])), (5, .v (osl eB true met_16)), (6, .v (iT i_17)), (7, .v (.ptr true [(iT v_19.Relation), (ssl eI v_19.Terms)])), (59, .v (.bool y))])) ((if ¬ (o21 = true) then
  some true
  else
  (ix l v_19.Relation).bind fun v_26 =>
  some (decide ((v_19.Terms.length : Int) ≠ v_26.Arity))) : Option (Bool))).bind fun x_23 =>
  if x_23 = true then
  some (.inr (.inr false))
  else
  (iter (lw (l, met_16)  (f50_3 q i_17 v_19)) 0).bind fun o => match o with
  | .inl _ =>
  ((iter (lw (l, i_17)  (f50_4 q v_19)) (met_16, 0)).bind fun o => match o with
  | .inl met_54 =>
  some (.inl (met_54, w64 (i_17 + 1)))
  | .inr x_55 =>
  some (.inr (.inr x_55)))
  | .inr x_36 =>
  some (.inr (.inr x_36))
  else
  some (.inr (.inl met_16)) : (List Bool) × Int -> Option (((List Bool) × Int) ⊕ ((List Bool) ⊕ Bool)))) (by exact go)
instance i50_1 {q : Query} {met_58 : (List Bool)} : Lp cx (f50_1 q met_58) 150 L50_1 (fun (zs : Int) => [(3, .v (.ptr true [(iT q.VariableCount), (ssl eAtom q.Atoms), (ssl eI q.Free)])), (5, .v (osl eB true met_58)), (10, .v (iT zs))]) (QO (QX 6 (fun (y : Unit) => [(3, .v (.ptr true [(iT q.VariableCount), (ssl eAtom q.Atoms), (ssl eI q.Free)]))])) (QR (fun (y : Bool) => [(4, .v (.bool y))]))) := Lp.of (by unfold f50_1; exact go)
end
end Go.Proofs.YtjmemfggbhkofaaGreatH
