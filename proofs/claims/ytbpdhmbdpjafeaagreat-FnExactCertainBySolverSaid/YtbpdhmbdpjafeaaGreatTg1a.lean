import Derived.Test.YtbpdhmbdpjafeaaGreatCx1
import Derived.Test.YtbpdhmbdpjafeaaGreatX3
import Derived.Test.YtbpdhmbdpjafeaaGreatTd1
set_option maxHeartbeats 2000000
set_option linter.unusedVariables false
set_option linter.unusedSimpArgs false
set_option linter.defProp false
set_option linter.unusedSectionVars false
set_option maxRecDepth 100000
namespace Go.Proofs.YtbpdhmbdpjafeaaGreatH
open Go
noncomputable section
variable {clauses o26 o4 o9 slices : (List (List Int))} {m model : (List Bool)} {a b c clause facts from2 indices l literals s0 s1 s2 set1 terms : (List Int)} {relations : (List Relation)} {atom v_19 : Atom} {d db : Database} {f : Fact} {high i i_17 k left low n n0 n1 sign v x y : Int} {q query : Query}
abbrev iT (n : Int) : T := .int .i64 n
instance : Cl cx := ⟨fun j h => vsound (fun _ _ _ _ h => h) h, fun f ts t outs h => .ext h⟩
@[simp high] theorem ioz {f : Nat} [h : Io0 cx f] : ioTab f = [] := h.io
@[simp] theorem ioz14 : ioTab 14 = [0] := rfl
@[simp] theorem ioz15 : ioTab 15 = [0] := rfl
@[simp] theorem ioz16 : ioTab 16 = [0] := rfl
@[simp] theorem ioz17 : ioTab 17 = [0] := rfl
@[simp] theorem ioz41 : ioTab 41 = [0] := rfl
@[simp] theorem ioz42 : ioTab 42 = [0] := rfl
@[simp] theorem ioz43 : ioTab 43 = [0] := rfl
@[simp] theorem ioz52 : ioTab 52 = [0] := rfl
@[simp] theorem ioz65 : ioTab 65 = [0] := rfl
@[simp] theorem ioz83 : ioTab 83 = [0] := rfl
@[simp] theorem ioz86 : ioTab 86 = [0] := rfl
@[simp] theorem ioz98 : ioTab 98 = [0] := rfl
@[simp] theorem ioz111 : ioTab 111 = [3] := rfl
@[simp] theorem ioz122 : ioTab 122 = [0] := rfl
instance i44 {a : Relation} : Rn cx (f44 a left) 44 [(.agg [(.str a.Name), (iT a.Arity), (iT a.KeyLength)]), (iT left)] (fun (r : Int) => (iT r)) (fun r => []) := Rn.o rfl (by unfold f44; exact go)
instance : Io0 cx 44 := ⟨rfl⟩
instance i20_0 {a : (List Relation)} : Lp cx (f20_0 a) 27 L20_0 (fun (zs : Int × Int) => [(0, .v (ssl eRelation a)), (1, .v (iT zs.1)), (5, .v (iT zs.2))]) (QO (QX 0 (fun (y : Int) => [(1, .v (iT y))])) (QR (fun (y : Int) => [(4, .v (iT y))]))) := Lp.of (by unfold f20_0; exact go)
instance i20 {a : (List Relation)} : Rn cx (f20 a left) 20 [(ssl eRelation a), (iT left)] (fun (r : Int) => (iT r)) (fun r => []) := Rn.o rfl (by unfold f20; exact go)
instance : Io0 cx 20 := ⟨rfl⟩
instance i23 : Rn cx (f23 a left) 23 [(ssl eI a), (iT left)] (fun (r : Int) => (iT r)) (fun r => []) := Rn.o rfl (by unfold f23; exact go)
instance : Io0 cx 23 := ⟨rfl⟩
instance i45 {a : Fact} : Rn cx (f45 a left) 45 [(.agg [(iT a.Relation), (ssl eI a.Values)]), (iT left)] (fun (r : Int) => (iT r)) (fun r => []) := Rn.o rfl (by unfold f45; exact go)
instance : Io0 cx 45 := ⟨rfl⟩
instance i21_0 {a : (List Fact)} : Lp cx (f21_0 a) 27 L21_0 (fun (zs : Int × Int) => [(0, .v (ssl eFact a)), (1, .v (iT zs.1)), (5, .v (iT zs.2))]) (QO (QX 0 (fun (y : Int) => [(1, .v (iT y))])) (QR (fun (y : Int) => [(4, .v (iT y))]))) := Lp.of (by unfold f21_0; exact go)
instance i21 {a : (List Fact)} : Rn cx (f21 a left) 21 [(ssl eFact a), (iT left)] (fun (r : Int) => (iT r)) (fun r => []) := Rn.o rfl (by unfold f21; exact go)
instance : Io0 cx 21 := ⟨rfl⟩
instance i4 {a : Database} : Rn cx (f4 a left) 4 [(.agg [(ssl eRelation a.Relations), (ssl eFact a.Facts)]), (iT left)] (fun (r : Int) => (iT r)) (fun r => []) := Rn.o rfl (by unfold f4; exact go)
instance : Io0 cx 4 := ⟨rfl⟩
instance i46 {a : Atom} : Rn cx (f46 a left) 46 [(.agg [(iT a.Relation), (ssl eI a.Terms)]), (iT left)] (fun (r : Int) => (iT r)) (fun r => []) := Rn.o rfl (by unfold f46; exact go)
instance : Io0 cx 46 := ⟨rfl⟩
instance i22_0 {a : (List Atom)} : Lp cx (f22_0 a) 27 L22_0 (fun (zs : Int × Int) => [(0, .v (ssl eAtom a)), (1, .v (iT zs.1)), (5, .v (iT zs.2))]) (QO (QX 0 (fun (y : Int) => [(1, .v (iT y))])) (QR (fun (y : Int) => [(4, .v (iT y))]))) := Lp.of (by unfold f22_0; exact go)
instance i22 {a : (List Atom)} : Rn cx (f22 a left) 22 [(ssl eAtom a), (iT left)] (fun (r : Int) => (iT r)) (fun r => []) := Rn.o rfl (by unfold f22; exact go)
instance : Io0 cx 22 := ⟨rfl⟩
instance i5 {a : Query} : Rn cx (f5 a left) 5 [(.agg [(iT a.VariableCount), (ssl eAtom a.Atoms), (ssl eI a.Free)]), (iT left)] (fun (r : Int) => (iT r)) (fun r => []) := Rn.o rfl (by unfold f5; exact go)
instance : Io0 cx 5 := ⟨rfl⟩
instance i56 {a : Relation} : Rn cx (f56 a) 56 [(.agg [(.str a.Name), (iT a.Arity), (iT a.KeyLength)])] (fun (r : Relation) => (.agg [(.str r.Name), (iT r.Arity), (iT r.KeyLength)])) (fun r => []) := Rn.o rfl (by unfold f56; exact go)
instance : Io0 cx 56 := ⟨rfl⟩
instance i29_0 {a : (List Relation)} : Lp cx (f29_0 a) 23 L29_0 (fun (zs : (List Relation) × Int) => [(0, .v (ssl eRelation a)), (3, .v (osl eRelation true zs.1)), (4, .v (iT zs.2))]) (QX 0 (fun (y : (List Relation)) => [(3, .v (osl eRelation true y))])) := Lp.of (by unfold f29_0; exact go)
instance i29 {a : (List Relation)} : Rn cx (f29 a) 29 [(ssl eRelation a)] (fun (r : (List Relation)) => (osl eRelation true r)) (fun r => []) := Rn.o (e := (
  (mkl 32 (a.length : Int) ({ Name := [], Arity := 0, KeyLength := 0 } : Relation)).bind fun l_1 =>
  sn 5 3 (osl eRelation true l_1) <| 
  (iter (f29_0 a) (l_1, 0)).bind fun out_15 =>
  some out_15 : Option (List Relation))) rfl (by exact go)
instance : Io0 cx 29 := ⟨rfl⟩
instance i32_0 : Lp cx (f32_0 a) 22 L32_0 (fun (zs : (List Int) × Int) => [(0, .v (ssl eI a)), (3, .v (osl eI true zs.1)), (4, .v (iT zs.2))]) (QX 0 (fun (y : (List Int)) => [(3, .v (osl eI true y))])) := Lp.of (by unfold f32_0; exact go)
instance i32 : Rn cx (f32 a) 32 [(ssl eI a)] (fun (r : (List Int)) => (osl eI true r)) (fun r => []) := Rn.o (e := (
  (mkl 8 (a.length : Int) 0).bind fun l_1 =>
  sn 5 3 (osl eI true l_1) <| 
  (iter (f32_0 a) (l_1, 0)).bind fun out_13 =>
  some out_13 : Option (List Int))) rfl (by exact go)
instance : Io0 cx 32 := ⟨rfl⟩
instance i57 {a : Fact} : Rn cx (f57 a) 57 [(.agg [(iT a.Relation), (ssl eI a.Values)])] (fun (r : Fact) => (.agg [(iT r.Relation), (osl eI true r.Values)])) (fun r => []) := Rn.o (e := (
  sn 2 2 (.ptr true [(iT 0), (osl eI true ([]))]) <| 
  sn 1 3 (.ptr true [(iT 0), (osl eI true ([]))]) <| 
  (f32 a.Values).bind fun o1 =>
  some ({ Relation := a.Relation, Values := o1 } : Fact) : Option Fact)) rfl (by exact go)
instance : Io0 cx 57 := ⟨rfl⟩
instance i30_0 {a : (List Fact)} : Lp cx (f30_0 a) 23 L30_0 (fun (zs : (List Fact) × Int) => [(0, .v (ssl eFact a)), (3, .v (osl eFact true zs.1)), (4, .v (iT zs.2))]) (QX 0 (fun (y : (List Fact)) => [(3, .v (osl eFact true y))])) := Lp.of (by unfold f30_0; exact go)
instance i30 {a : (List Fact)} : Rn cx (f30 a) 30 [(ssl eFact a)] (fun (r : (List Fact)) => (osl eFact true r)) (fun r => []) := Rn.o (e := (
  (mkl 32 (a.length : Int) (({ Relation := 0, Values := [] } : Fact) : Fact)).bind fun l_1 =>
  sn 5 3 (osl eFact true l_1) <| 
  (iter (f30_0 a) (l_1, 0)).bind fun out_15 =>
  some out_15 : Option (List Fact))) rfl (by exact go)
instance : Io0 cx 30 := ⟨rfl⟩
instance i7 {a : Database} : Rn cx (f7 a) 7 [(.agg [(ssl eRelation a.Relations), (ssl eFact a.Facts)])] (fun (r : Database) => (.agg [(osl eRelation true r.Relations), (osl eFact true r.Facts)])) (fun r => []) := Rn.o (e := (
  sn 2 2 (.ptr true [(osl eRelation true ([])), (osl eFact true ([]))]) <| 
  sn 1 3 (.ptr true [(osl eRelation true ([])), (osl eFact true ([]))]) <| 
  (f29 a.Relations).bind fun o1 =>
  (f30 a.Facts).bind fun o3 =>
  some ({ Relations := o1, Facts := o3 } : Database) : Option Database)) rfl (by exact go)
instance : Io0 cx 7 := ⟨rfl⟩
instance i58 {a : Atom} : Rn cx (f58 a) 58 [(.agg [(iT a.Relation), (ssl eI a.Terms)])] (fun (r : Atom) => (.agg [(iT r.Relation), (osl eI true r.Terms)])) (fun r => []) := Rn.o (e := (
  sn 2 2 (.ptr true [(iT 0), (osl eI true ([]))]) <| 
  sn 1 3 (.ptr true [(iT 0), (osl eI true ([]))]) <| 
  (f32 a.Terms).bind fun o1 =>
  some ({ Relation := a.Relation, Terms := o1 } : Atom) : Option Atom)) rfl (by exact go)
instance : Io0 cx 58 := ⟨rfl⟩
instance i31_0 {a : (List Atom)} : Lp cx (f31_0 a) 23 L31_0 (fun (zs : (List Atom) × Int) => [(0, .v (ssl eAtom a)), (3, .v (osl eAtom true zs.1)), (4, .v (iT zs.2))]) (QX 0 (fun (y : (List Atom)) => [(3, .v (osl eAtom true y))])) := Lp.of (by unfold f31_0; exact go)
instance i31 {a : (List Atom)} : Rn cx (f31 a) 31 [(ssl eAtom a)] (fun (r : (List Atom)) => (osl eAtom true r)) (fun r => []) := Rn.o (e := (
  (mkl 32 (a.length : Int) (({ Relation := 0, Terms := [] } : Atom) : Atom)).bind fun l_1 =>
  sn 5 3 (osl eAtom true l_1) <| 
  (iter (f31_0 a) (l_1, 0)).bind fun out_15 =>
  some out_15 : Option (List Atom))) rfl (by exact go)
instance : Io0 cx 31 := ⟨rfl⟩
instance i8 {a : Query} : Rn cx (f8 a) 8 [(.agg [(iT a.VariableCount), (ssl eAtom a.Atoms), (ssl eI a.Free)])] (fun (r : Query) => (.agg [(iT r.VariableCount), (osl eAtom true r.Atoms), (osl eI true r.Free)])) (fun r => []) := Rn.o (e := (
  sn 2 2 (.ptr true [(iT 0), (osl eAtom true ([])), (osl eI true ([]))]) <| 
  sn 1 3 (.ptr true [(iT 0), (osl eAtom true ([])), (osl eI true ([]))]) <| 
  (f31 a.Atoms).bind fun o1 =>
  (f32 a.Free).bind fun o3 =>
  some ({ VariableCount := a.VariableCount, Atoms := o1, Free := o3 } : Query) : Option Query)) rfl (by exact go)
instance : Io0 cx 8 := ⟨rfl⟩
instance i80 : Rn cx (f80 x low high) 80 [(iT x), (iT low), (iT high)] (fun (r : Bool) => (.bool r)) (fun r => []) := Rn.o (e := (
  (jn (QN (fun (y : Bool) => [(6, .v (.bool y))])) ((if x >= low then
  some (decide (x <= high))
  else
  some false) : Option (Bool))).bind fun x_1 =>
  some x_1 : Option Bool)) rfl (by exact go)
instance : Io0 cx 80 := ⟨rfl⟩
instance i107 {s0 : Relation} : Rn cx (f107 s0) 107 [(.agg [(.str s0.Name), (iT s0.Arity), (iT s0.KeyLength)])] (fun (r : Bool) => (.bool r)) (fun r => []) := Rn.o (e := (
  (jn (QN (fun (y : Bool) => [(2, .v (.bool y))])) ((if (s0.Name.length : Int) = 1 then
  (ix s0.Name 0).bind fun c_4 =>
  (jn (QN (fun (y : Bool) => [(2, .v (.bool y))])) ((if (c_4.toNat : Int) >= 97 then
  (jn (QN (fun (y : Bool) => [(2, .v (.bool y))])) ((if (c_4.toNat : Int) <= 122 then
  (f80 s0.Arity 1 3).bind fun o12 =>
  (jn (QN (fun (y : Bool) => [(2, .v (.bool y))])) ((if o12 = true then
  (f80 s0.KeyLength 0 s0.Arity).bind fun o17 =>
  some o17
  else
  some false) : Option (Bool))).bind fun x_14 =>
  some x_14
  else
  some false) : Option (Bool))).bind fun x_9 =>
  some x_9
  else
  some false) : Option (Bool))).bind fun x_6 =>
  some x_6
  else
  some false) : Option (Bool))).bind fun x_1 =>
  some x_1 : Option Bool)) rfl (by exact go)
instance : Io0 cx 107 := ⟨rfl⟩
instance i79_0 {l : (List Relation)} : Lp cx (f79_0 l) 37 L79_0 (fun (zs : Int) => [(0, .v (ssl eRelation l)), (3, .v (iT zs))]) (QO (QX 0 (fun (y : Unit) => [(0, .v (ssl eRelation l))])) (QR (fun (y : Bool) => [(2, .v (.bool y))]))) := Lp.of (f := (fun
 | i_1 =>
  if i_1 < (l.length : Int) then
  (ix l i_1).bind fun v_3 =>
  (f107 v_3).bind fun o5 =>
  (jn (QN (fun (y : Bool) => [(0, .v (ssl eRelation l)), (3, .v (iT i_1)), (33, .v (.bool y))])) ((if ¬ (o5 = true) then
  some true
  else
  (jn (QN (fun (y : Bool) => [(0, .v (ssl eRelation l)), (3, .v (iT i_1)), (33, .v (.bool y))])) ((if i_1 > 0 then
  (ix l (w64 (i_1 - 1))).bind fun v_13 =>
  some (!(Op.bytesLess v_13.Name v_3.Name))
  else
  some false) : Option (Bool))).bind fun x_10 =>
  some x_10) : Option (Bool))).bind fun x_7 =>
  if x_7 = true then
  some (.inr (.inr false))
  else
  some (.inl (w64 (i_1 + 1)))
  else
  some (.inr (.inl ())) : Int -> Option (Int ⊕ (Unit ⊕ Bool)))) (by exact go)
instance i79 {l : (List Relation)} : Rn cx (f79 l) 79 [(ssl eRelation l)] (fun (r : Bool) => (.bool r)) (fun r => []) := Rn.o rfl (by unfold f79; exact go)
instance : Io0 cx 79 := ⟨rfl⟩
instance i77_0 : Lp cx (f77_0 f) 44 L77_0 (fun (zs : Int) => [(3, .v (.ptr true [(iT f.Relation), (ssl eI f.Values)])), (5, .v (iT zs))]) (QO (QX 0 (fun (y : Unit) => [])) (QR (fun (y : Bool) => [(4, .v (.bool y))]))) := Lp.of (by unfold f77_0; exact go)
instance i77 {l : (List Relation)} : Rn cx (f77 l f) 77 [(ssl eRelation l), (.agg [(iT f.Relation), (ssl eI f.Values)])] (fun (r : Bool) => (.bool r)) (fun r => []) := Rn.o (e := (
  (f79 l).bind fun o1 =>
  (jn (QN (fun (y : Bool) => [(3, .v (.ptr true [(iT f.Relation), (ssl eI f.Values)])), (29, .v (.bool y))])) ((if ¬ (o1 = true) then
  some true
  else
  (f80 f.Relation 0 (w64 ((l.length : Int) - 1))).bind fun o6 =>
  (jn (QN (fun (y : Bool) => [(3, .v (.ptr true [(iT f.Relation), (ssl eI f.Values)])), (29, .v (.bool y))])) ((if ¬ (o6 = true) then
  some true
  else
  (ix l f.Relation).bind fun v_11 =>
  some (decide ((f.Values.length : Int) ≠ v_11.Arity))) : Option (Bool))).bind fun x_8 =>
  some x_8) : Option (Bool))).bind fun x_3 =>
  if x_3 = true then
  some false
  else
  (iter (f77_0 f) 0).bind fun o => match o with
  | .inl _ =>
  some true
  | .inr x_23 =>
  some x_23 : Option Bool)) rfl (by exact go)
instance : Io0 cx 77 := ⟨rfl⟩
instance i106_0 : Lp cx (f106_0 a b) 46 L106_0 (fun (zs : Int) => [(0, .v (ssl eI a)), (1, .v (ssl eI b)), (5, .v (iT zs))]) (QO (QX 0 (fun (y : Unit) => [(0, .v (ssl eI a)), (1, .v (ssl eI b))])) (QR (fun (y : Int) => [(4, .v (iT y))]))) := Lp.of (f := (fun
 | i_1 =>
  (jn (QN (fun (y : Bool) => [(0, .v (ssl eI a)), (1, .v (ssl eI b)), (5, .v (iT i_1)), (15, .v (.bool y))])) ((if i_1 < (a.length : Int) then
  some (decide (i_1 < (b.length : Int)))
  else
  some false) : Option (Bool))).bind fun x_2 =>
  if x_2 = true then
  (ix a i_1).bind fun v_6 =>
  (ix b i_1).bind fun v_8 =>
  if v_6 < v_8 then
  some (.inr (.inr (-1)))
  else
  if v_6 > v_8 then
  some (.inr (.inr 1))
  else
  some (.inl (w64 (i_1 + 1)))
  else
  some (.inr (.inl ())) : Int -> Option (Int ⊕ (Unit ⊕ Int)))) (by exact go)
instance i106 : Rn cx (f106 a b) 106 [(ssl eI a), (ssl eI b)] (fun (r : Int) => (iT r)) (fun r => []) := Rn.o rfl (by unfold f106; exact go)
instance : Io0 cx 106 := ⟨rfl⟩
instance i78 {a : Fact} {b : Fact} : Rn cx (f78 a b) 78 [(.agg [(iT a.Relation), (ssl eI a.Values)]), (.agg [(iT b.Relation), (ssl eI b.Values)])] (fun (r : Int) => (iT r)) (fun r => []) := Rn.o rfl (by unfold f78; exact go)
instance : Io0 cx 78 := ⟨rfl⟩
instance i49_0 : Lp cx (f49_0 d) 48 L49_0 (fun (zs : Int) => [(1, .v (.ptr true [(ssl eRelation d.Relations), (ssl eFact d.Facts)])), (3, .v (iT zs))]) (QO (QX 0 (fun (y : Unit) => [(1, .v (.ptr true [(ssl eRelation d.Relations), (ssl eFact d.Facts)]))])) (QR (fun (y : Bool) => [(2, .v (.bool y))]))) := Lp.of (f := (fun
 | i_1 =>
  if i_1 < (d.Facts.length : Int) then
  (ix d.Facts i_1).bind fun v_3 =>
  (f77 d.Relations v_3).bind fun o5 =>
  (jn (QN (fun (y : Bool) => [(1, .v (.ptr true [(ssl eRelation d.Relations), (ssl eFact d.Facts)])), (3, .v (iT i_1)), (38, .v (.bool y))])) ((if ¬ (o5 = true) then
  some true
  else
  (jn (QN (fun (y : Bool) => [(1, .v (.ptr true [(ssl eRelation d.Relations), (ssl eFact d.Facts)])), (3, .v (iT i_1)), (38, .v (.bool y))])) ((if i_1 > 0 then
  (ix d.Facts (w64 (i_1 - 1))).bind fun v_13 =>
  (f78 v_13 v_3).bind fun o15 =>
  some (decide (o15 >= 0))
  else
  some false) : Option (Bool))).bind fun x_10 =>
  some x_10) : Option (Bool))).bind fun x_7 =>
  if x_7 = true then
  some (.inr (.inr false))
  else
  some (.inl (w64 (i_1 + 1)))
  else
  some (.inr (.inl ())) : Int -> Option (Int ⊕ (Unit ⊕ Bool)))) (by exact go)
instance i49 : Rn cx (f49 d) 49 [(.agg [(ssl eRelation d.Relations), (ssl eFact d.Facts)])] (fun (r : Bool) => (.bool r)) (fun r => []) := Rn.o (e := (
  (iter (f49_0 d) 0).bind fun o => match o with
  | .inl _ =>
  (f79 d.Relations).bind fun o21 =>
  (jn (QN (fun (y : Bool) => [(2, .v (.bool y))])) ((if o21 = true then
  some (decide ((d.Facts.length : Int) <= 14))
  else
  some false) : Option (Bool))).bind fun x_23 =>
  some x_23
  | .inr x_20 =>
  some x_20 : Option Bool)) rfl (by exact go)
instance : Io0 cx 49 := ⟨rfl⟩
instance i50_3 {l : (List Relation)} {met_16 : (List Bool)} : Lp cx (lw (l, met_16) (f50_3 q i_17 v_19)) 150 L50_3 (fun (zs : Int) => [(0, .v (ssl eRelation l)), (3, .v (.ptr true [(iT q.VariableCount), (ssl eAtom q.Atoms), (ssl eI q.Free)])), (5, .v (osl eB true met_16)), (6, .v (iT i_17)), (7, .v (.ptr true [(iT v_19.Relation), (ssl eI v_19.Terms)])), (8, .v (iT zs))]) (QO (QX 2 (fun (y : Unit) => [(0, .v (ssl eRelation l)), (3, .v (.ptr true [(iT q.VariableCount), (ssl eAtom q.Atoms), (ssl eI q.Free)])), (5, .v (osl eB true met_16)), (6, .v (iT i_17)), (7, .v (.ptr true [(iT v_19.Relation), (ssl eI v_19.Terms)]))])) (QR (fun (y : Bool) => [(4, .v (.bool y))]))) := Lp.of (by unfold lw f50_3; exact go)
instance i50_4 {l : (List Relation)} : Lp cx (lw (l, i_17) (f50_4 q v_19)) 150 L50_4 (fun (zs : (List Bool) × Int) => [(0, .v (ssl eRelation l)), (3, .v (.ptr true [(iT q.VariableCount), (ssl eAtom q.Atoms), (ssl eI q.Free)])), (5, .v (osl eB true zs.1)), (6, .v (iT i_17)), (7, .v (.ptr true [(iT v_19.Relation), (ssl eI v_19.Terms)])), (9, .v (iT zs.2))]) (QO (QX 4 (fun (y : (List Bool)) => [(0, .v (ssl eRelation l)), (3, .v (.ptr true [(iT q.VariableCount), (ssl eAtom q.Atoms), (ssl eI q.Free)])), (5, .v (osl eB true y)), (6, .v (iT i_17))])) (QR (fun (y : Bool) => [(4, .v (.bool y))]))) := Lp.of (f := (fun
 | (met_37, k_38) =>
  if k_38 < (v_19.Terms.length : Int) then
  (ix v_19.Terms k_38).bind fun v_40 =>
  (f80 v_40 (-10) (w64 (q.VariableCount - 1))).bind fun o42 =>
  if ¬ (o42 = true) then
  some (.inr (.inr false))
  else
  (jn (QN (fun (y : (List Bool)) => [(0, .v (ssl eRelation l)), (3, .v (.ptr true [(iT q.VariableCount), (ssl eAtom q.Atoms), (ssl eI q.Free)])), (5, .v (osl eB true y)), (6, .v (iT i_17)), (7, .v (.ptr true [(iT v_19.Relation), (ssl eI v_19.Terms)])), (9, .v (iT k_38))])) ((if v_40 >= 0 then
  (ix met_37 v_40).bind fun v_48 =>
  some (met_37.set v_40.toNat true)
  else
  some met_37) : Option (List Bool))).bind fun met_51 =>
  some (.inl (met_51, w64 (k_38 + 1)))
  else
  some (.inr (.inl met_37)) : (List Bool) × Int -> Option (((List Bool) × Int) ⊕ ((List Bool) ⊕ Bool)))) (by exact go)
instance i50_0 {l : (List Relation)} : Lp cx (f50_0 l q) 150 L50_0 (fun (zs : (List Bool) × Int) => [(0, .v (ssl eRelation l)), (3, .v (.ptr true [(iT q.VariableCount), (ssl eAtom q.Atoms), (ssl eI q.Free)])), (5, .v (osl eB true zs.1)), (6, .v (iT zs.2))]) (QO (QX 0 (fun (y : (List Bool)) => [(3, .v (.ptr true [(iT q.VariableCount), (ssl eAtom q.Atoms), (ssl eI q.Free)])), (5, .v (osl eB true y))])) (QR (fun (y : Bool) => [(4, .v (.bool y))]))) := Lp.of (f := (fun
 | (met_16, i_17) =>
  if i_17 < (q.Atoms.length : Int) then
  (ix q.Atoms i_17).bind fun v_19 =>
  (f80 v_19.Relation 0 (w64 ((l.length : Int) - 1))).bind fun o21 =>
  (jn (QN (fun (y : Bool) => [(0, .v (ssl eRelation l)), (3, .v (.ptr true [(iT q.VariableCount), (ssl eAtom q.Atoms), (ssl eI q.Free)])), (5, .v (osl eB true met_16)), (6, .v (iT i_17)), (7, .v (.ptr true [(iT v_19.Relation), (ssl eI v_19.Terms)])), (59, .v (.bool y))])) ((if ¬ (o21 = true) then
  some true
  else
  (ix l v_19.Relation).bind fun v_26 =>
  some (decide ((v_19.Terms.length : Int) ≠ v_26.Arity))) : Option (Bool))).bind fun x_23 =>
  if x_23 = true then
  some (.inr (.inr false))
  else
  (iter (lw (l, met_16)  (f50_3 q i_17 v_19)) 0).bind fun o => match o with
  | .inl _ =>
  ((iter (lw (l, i_17)  (f50_4 q v_19)) (met_16, 0)).bind fun o => match o with
  | .inl met_54 =>
  some (.inl (met_54, w64 (i_17 + 1)))
  | .inr x_55 =>
  some (.inr (.inr x_55)))
  | .inr x_36 =>
  some (.inr (.inr x_36))
  else
  some (.inr (.inl met_16)) : (List Bool) × Int -> Option (((List Bool) × Int) ⊕ ((List Bool) ⊕ Bool)))) (by exact go)
instance i50_1 {met_58 : (List Bool)} : Lp cx (f50_1 q met_58) 150 L50_1 (fun (zs : Int) => [(3, .v (.ptr true [(iT q.VariableCount), (ssl eAtom q.Atoms), (ssl eI q.Free)])), (5, .v (osl eB true met_58)), (10, .v (iT zs))]) (QO (QX 6 (fun (y : Unit) => [(3, .v (.ptr true [(iT q.VariableCount), (ssl eAtom q.Atoms), (ssl eI q.Free)]))])) (QR (fun (y : Bool) => [(4, .v (.bool y))]))) := Lp.of (by unfold f50_1; exact go)
instance i50_2 : Lp cx (f50_2 q) 150 L50_2 (fun (zs : Int) => [(3, .v (.ptr true [(iT q.VariableCount), (ssl eAtom q.Atoms), (ssl eI q.Free)])), (11, .v (iT zs))]) (QO (QX 8 (fun (y : Unit) => [])) (QR (fun (y : Bool) => [(4, .v (.bool y))]))) := Lp.of (f := (fun
 | i_68 =>
  if i_68 < (q.Free.length : Int) then
  (ix q.Free i_68).bind fun v_70 =>
  (f80 v_70 0 (w64 (q.VariableCount - 1))).bind fun o72 =>
  (jn (QN (fun (y : Bool) => [(3, .v (.ptr true [(iT q.VariableCount), (ssl eAtom q.Atoms), (ssl eI q.Free)])), (11, .v (iT i_68)), (149, .v (.bool y))])) ((if ¬ (o72 = true) then
  some true
  else
  (jn (QN (fun (y : Bool) => [(3, .v (.ptr true [(iT q.VariableCount), (ssl eAtom q.Atoms), (ssl eI q.Free)])), (11, .v (iT i_68)), (149, .v (.bool y))])) ((if i_68 > 0 then
  (ix q.Free (w64 (i_68 - 1))).bind fun v_80 =>
  some (decide (v_70 <= v_80))
  else
  some false) : Option (Bool))).bind fun x_77 =>
  some x_77) : Option (Bool))).bind fun x_74 =>
  if x_74 = true then
  some (.inr (.inr false))
  else
  some (.inl (w64 (i_68 + 1)))
  else
  some (.inr (.inl ())) : Int -> Option (Int ⊕ (Unit ⊕ Bool)))) (by exact go)
instance i50 {l : (List Relation)} : Rn cx (f50 l q) 50 [(ssl eRelation l), (.agg [(iT q.VariableCount), (ssl eAtom q.Atoms), (ssl eI q.Free)])] (fun (r : Bool) => (.bool r)) (fun r => []) := Rn.o (e := (
  (f79 l).bind fun o1 =>
  (jn (QN (fun (y : Bool) => [(0, .v (ssl eRelation l)), (3, .v (.ptr true [(iT q.VariableCount), (ssl eAtom q.Atoms), (ssl eI q.Free)])), (27, .v (.bool y))])) ((if ¬ (o1 = true) then
  some true
  else
  (f80 q.VariableCount 0 4).bind fun o6 =>
  (jn (QN (fun (y : Bool) => [(0, .v (ssl eRelation l)), (3, .v (.ptr true [(iT q.VariableCount), (ssl eAtom q.Atoms), (ssl eI q.Free)])), (27, .v (.bool y))])) ((if ¬ (o6 = true) then
  some true
  else
  (f80 (q.Atoms.length : Int) 1 3).bind fun o11 =>
  some (decide (¬ (o11 = true)))) : Option (Bool))).bind fun x_8 =>
  some x_8) : Option (Bool))).bind fun x_3 =>
  if x_3 = true then
  some false
  else
  (mkl 1 4 false).bind fun l_14 =>
  sn 2 5 (osl eB true l_14) <| 
  (iter (f50_0 l q) (l_14, 0)).bind fun o => match o with
  | .inl met_58 =>
  ((iter (f50_1 q met_58) 0).bind fun o => match o with
  | .inl _ =>
  ((iter (f50_2 q) 0).bind fun o => match o with
  | .inl _ =>
  some true
  | .inr x_85 =>
  some x_85)
  | .inr x_67 =>
  some x_67)
  | .inr x_59 =>
  some x_59 : Option Bool)) rfl (by exact go)
instance : Io0 cx 50 := ⟨rfl⟩
instance i25 : Rn cx (f25 d q) 25 [(.agg [(ssl eRelation d.Relations), (ssl eFact d.Facts)]), (.agg [(iT q.VariableCount), (ssl eAtom q.Atoms), (ssl eI q.Free)])] (fun (r : Bool) => (.bool r)) (fun r => []) := Rn.o (e := (
  (f49 d).bind fun o1 =>
  (jn (QN (fun (y : Bool) => [(4, .v (.bool y))])) ((if o1 = true then
  (f50 d.Relations q).bind fun o6 =>
  some o6
  else
  some false) : Option (Bool))).bind fun x_3 =>
  some x_3 : Option Bool)) rfl (by exact go)
instance : Io0 cx 25 := ⟨rfl⟩
instance i131 {l : (List Relation)} : Rn cx (f131 l f) 131 [(ssl eRelation l), (.agg [(iT f.Relation), (ssl eI f.Values)])] (fun (r : (List Int)) => (osl eI true r)) (fun r => []) := Rn.o (e := (
  (f77 l f).bind fun o1 =>
  if ¬ (o1 = true) then
  sn 2 4 (osl eI true ([])) <| 
  some ([])
  else
  (ix l f.Relation).bind fun v_4 =>
  (cutL f.Values 0 v_4.KeyLength).bind fun l_6 =>
  (app 8 ([]) l_6).bind fun l_8 =>
  sn 12 4 (osl eI true l_8) <| 
  some l_8 : Option (List Int))) rfl (by exact go)
instance : Io0 cx 131 := ⟨rfl⟩
instance i101 {l : (List Relation)} {a : Fact} {b : Fact} : Rn cx (f101 l a b) 101 [(ssl eRelation l), (.agg [(iT a.Relation), (ssl eI a.Values)]), (.agg [(iT b.Relation), (ssl eI b.Values)])] (fun (r : Bool) => (.bool r)) (fun r => []) := Rn.o (e := (
  (f77 l a).bind fun o1 =>
  (jn (QN (fun (y : Bool) => [(0, .v (ssl eRelation l)), (6, .v (.bool y))])) ((if o1 = true then
  (f77 l b).bind fun o6 =>
  (jn (QN (fun (y : Bool) => [(0, .v (ssl eRelation l)), (6, .v (.bool y))])) ((if o6 = true then
  (jn (QN (fun (y : Bool) => [(0, .v (ssl eRelation l)), (6, .v (.bool y))])) ((if a.Relation = b.Relation then
  (f131 l a).bind fun o14 =>
  (f131 l b).bind fun o16 =>
  (f106 o14 o16).bind fun o18 =>
  some (decide (o18 = 0))
  else
  some false) : Option (Bool))).bind fun x_11 =>
  some x_11
  else
  some false) : Option (Bool))).bind fun x_8 =>
  some x_8
  else
  some false) : Option (Bool))).bind fun x_3 =>
  some x_3 : Option Bool)) rfl (by exact go)
instance : Io0 cx 101 := ⟨rfl⟩
instance i74_0 : Lp cx (f74_0 d i) 45 L74_0 (fun (zs : (List Int) × Int) => [(1, .v (iT i)), (2, .v (.ptr true [(ssl eRelation d.Relations), (ssl eFact d.Facts)])), (5, .v (osl eI true zs.1)), (6, .v (iT zs.2))]) (QX 0 (fun (y : (List Int)) => [(5, .v (osl eI true y))])) := Lp.of (f := (fun
 | (out_1, k_2) =>
  (jn (QN (fun (y : Bool) => [(1, .v (iT i)), (2, .v (.ptr true [(ssl eRelation d.Relations), (ssl eFact d.Facts)])), (5, .v (osl eI true out_1)), (6, .v (iT k_2)), (24, .v (.bool y))])) ((if k_2 < (d.Facts.length : Int) then
  (f49 d).bind fun o6 =>
  (jn (QN (fun (y : Bool) => [(1, .v (iT i)), (2, .v (.ptr true [(ssl eRelation d.Relations), (ssl eFact d.Facts)])), (5, .v (osl eI true out_1)), (6, .v (iT k_2)), (24, .v (.bool y))])) ((if o6 = true then
  (f80 i 0 (w64 ((d.Facts.length : Int) - 1))).bind fun o11 =>
  some o11
  else
  some false) : Option (Bool))).bind fun x_8 =>
  some x_8
  else
  some false) : Option (Bool))).bind fun x_3 =>
  if x_3 = true then
  (ix d.Facts i).bind fun v_14 =>
  (ix d.Facts k_2).bind fun v_16 =>
  (f101 d.Relations v_14 v_16).bind fun o18 =>
  (jn (QN (fun (y : (List Int)) => [(1, .v (iT i)), (2, .v (.ptr true [(ssl eRelation d.Relations), (ssl eFact d.Facts)])), (5, .v (osl eI true y)), (6, .v (iT k_2))])) ((if o18 = true then
  (app 8 out_1 ([k_2])).bind fun l_23 =>
  some l_23
  else
  some out_1) : Option (List Int))).bind fun out_25 =>
  some (.inl (out_25, w64 (k_2 + 1)))
  else
  some (.inr out_1) : (List Int) × Int -> Option (((List Int) × Int) ⊕ (List Int)))) (by exact go)
instance i74 : Rn cx (f74 d i) 74 [(.agg [(ssl eRelation d.Relations), (ssl eFact d.Facts)]), (iT i)] (fun (r : (List Int)) => (osl eI true r)) (fun r => []) := Rn.o (e := (
  sn 4 5 (osl eI true ([])) <| 
  (iter (f74_0 d i) ([], 0)).bind fun out_28 =>
  some out_28 : Option (List Int))) rfl (by exact go)
instance : Io0 cx 74 := ⟨rfl⟩
instance i47_0 : Lp cx (f47_0 d) 31 L47_0 (fun (zs : (List (List Int)) × Int) => [(1, .v (.ptr true [(ssl eRelation d.Relations), (ssl eFact d.Facts)])), (3, .v (osl (eL eI) true zs.1)), (4, .v (iT zs.2))]) (QX 0 (fun (y : (List (List Int))) => [(3, .v (osl (eL eI) true y))])) := Lp.of (f := (fun
 | (out_1, i_2) =>
  (jn (QN (fun (y : Bool) => [(1, .v (.ptr true [(ssl eRelation d.Relations), (ssl eFact d.Facts)])), (3, .v (osl (eL eI) true out_1)), (4, .v (iT i_2)), (15, .v (.bool y))])) ((if i_2 < (d.Facts.length : Int) then
  (f49 d).bind fun o6 =>
  some o6
  else
  some false) : Option (Bool))).bind fun x_3 =>
  if x_3 = true then
  (f74 d i_2).bind fun o9 =>
  (ix o9 0).bind fun v_11 =>
  (jn (QN (fun (y : (List (List Int))) => [(1, .v (.ptr true [(ssl eRelation d.Relations), (ssl eFact d.Facts)])), (3, .v (osl (eL eI) true y)), (4, .v (iT i_2))])) ((if v_11 = i_2 then
  (app 24 out_1 ([o9])).bind fun l_16 =>
  some l_16
  else
  some out_1) : Option (List (List Int)))).bind fun out_18 =>
  some (.inl (out_18, w64 (i_2 + 1)))
  else
  some (.inr out_1) : (List (List Int)) × Int -> Option (((List (List Int)) × Int) ⊕ (List (List Int))))) (by exact go)
instance i47 : Rn cx (f47 d) 47 [(.agg [(ssl eRelation d.Relations), (ssl eFact d.Facts)])] (fun (r : (List (List Int))) => (osl (eL eI) true r)) (fun r => []) := Rn.o (e := (
  sn 4 3 (osl (eL eI) true ([])) <| 
  (iter (f47_0 d) ([], 0)).bind fun out_21 =>
  some out_21 : Option (List (List Int)))) rfl (by exact go)
instance : Io0 cx 47 := ⟨rfl⟩
instance i103_0 : Lp cx (f103_0 n0) 13 L103_0 (fun (zs : (List Int)) => [(0, .v (iT n0)), (3, .v (osl eI true zs))]) (QX 0 (fun (y : (List Int)) => [(3, .v (osl eI true y))])) := Lp.of (by unfold f103_0; exact go)
instance i103 : Rn cx (f103 n0) 103 [(iT n0)] (fun (r : (List Int)) => (osl eI true r)) (fun r => []) := Rn.o (e := (
  sn 3 3 (osl eI true ([])) <| 
  (iter (f103_0 n0) ([])).bind fun l_7 =>
  some l_7 : Option (List Int))) rfl (by exact go)
instance : Io0 cx 103 := ⟨rfl⟩
instance i132_0 {a : Atom} : Lp cx (f132_0 a f) 79 L132_0 (fun (zs : (List Int) × Int) => [(3, .v (.ptr true [(iT a.Relation), (ssl eI a.Terms)])), (4, .v (.ptr true [(iT f.Relation), (ssl eI f.Values)])), (8, .v (osl eI true zs.1)), (9, .v (iT zs.2))]) (QO (QX 0 (fun (y : (List Int)) => [(8, .v (osl eI true y))])) (QR (fun (y : (List Int) × Bool) => [(6, .v (osl eI true y.1)), (7, .v (.bool y.2))]))) := Lp.of (f := (fun
 | (x_7, i_8) =>
  if i_8 < (a.Terms.length : Int) then
  (jb 1 (QO (QN (fun (y : (List Int)) => [(3, .v (.ptr true [(iT a.Relation), (ssl eI a.Terms)])), (4, .v (.ptr true [(iT f.Relation), (ssl eI f.Values)])), (8, .v (osl eI true y)), (9, .v (iT i_8))])) (QR (fun (y : (List Int) × Bool) => [(6, .v (osl eI true y.1)), (7, .v (.bool y.2))]))) (((ix a.Terms i_8).bind fun v_12 =>
  if v_12 < 0 then
  (ix f.Values i_8).bind fun v_15 =>
  if (w64 ((-1) - v_12)) ≠ v_15 then
  some (.inr (x_7, false))
  else
  some (.inl x_7)
  else
  (ix x_7 v_12).bind fun v_18 =>
  (jn (QN (fun (y : Bool) => [(3, .v (.ptr true [(iT a.Relation), (ssl eI a.Terms)])), (4, .v (.ptr true [(iT f.Relation), (ssl eI f.Values)])), (8, .v (osl eI true x_7)), (9, .v (iT i_8)), (10, .v (iT v_12)), (68, .v (.bool y))])) ((if v_18 >= 0 then
  (ix f.Values i_8).bind fun v_23 =>
  some (decide (v_18 ≠ v_23))
  else
  some false) : Option (Bool))).bind fun x_20 =>
  if x_20 = true then
  some (.inr (x_7, false))
  else
  (ix f.Values i_8).bind fun v_26 =>
  some (.inl (x_7.set v_12.toNat v_26))) : Option ((List Int) ⊕ ((List Int) × Bool)))).bind fun o => match o with
  | .inl x_29 =>
  some (.inl (x_29, w64 (i_8 + 1)))
  | .inr (x_30, x_31) =>
  some (.inr (.inr (x_30, x_31)))
  else
  some (.inr (.inl x_7)) : (List Int) × Int -> Option (((List Int) × Int) ⊕ ((List Int) ⊕ ((List Int) × Bool))))) (by exact go)
instance i132 {a : Atom} {vals : (List Int)} : Rn cx (f132 a f vals) 132 [(.agg [(iT a.Relation), (ssl eI a.Terms)]), (.agg [(iT f.Relation), (ssl eI f.Values)]), (ssl eI vals)] (fun (r : (List Int) × Bool) => (.tup [(osl eI true r.1), (.bool r.2)])) (fun r => []) := Rn.o (e := (
  (app 8 ([]) vals).bind fun l_1 =>
  sn 8 8 (osl eI true l_1) <| 
  (jn (QN (fun (y : Bool) => [(3, .v (.ptr true [(iT a.Relation), (ssl eI a.Terms)])), (4, .v (.ptr true [(iT f.Relation), (ssl eI f.Values)])), (8, .v (osl eI true l_1)), (27, .v (.bool y))])) ((if f.Relation ≠ a.Relation then
  some true
  else
  some (decide ((f.Values.length : Int) ≠ (a.Terms.length : Int)))) : Option (Bool))).bind fun x_3 =>
  if x_3 = true then
  some (l_1, false)
  else
  (iter (f132_0 a f) (l_1, 0)).bind fun o => match o with
  | .inl x_34 =>
  some (x_34, true)
  | .inr (x_35, x_36) =>
  some (x_35, x_36) : Option ((List Int) × Bool))) rfl (by exact go)
instance : Io0 cx 132 := ⟨rfl⟩
instance i102_0 {d : Database} {q : Query} {k : Int} {vals : (List Int)} {facts : (List Int)} {rec : Database -> Query -> Int -> (List Int) -> (List Int) -> Option (List Embedding)} [hrec : ∀ d q k vals facts, Rn cx (rec d q k vals facts) 102 [(.agg [(ssl eRelation d.Relations), (ssl eFact d.Facts)]), (.agg [(iT q.VariableCount), (ssl eAtom q.Atoms), (ssl eI q.Free)]), (iT k), (ssl eI vals), (ssl eI facts)] (fun o => (osl eEmbedding true o)) (fun o => [])] : Lp cx (f102_0 d q k vals facts rec) 67 L102_0 (fun (zs : (List Embedding) × Int) => [(2, .v (iT k)), (3, .v (ssl eI vals)), (4, .v (ssl eI facts)), (5, .v (.ptr true [(ssl eRelation d.Relations), (ssl eFact d.Facts)])), (6, .v (.ptr true [(iT q.VariableCount), (ssl eAtom q.Atoms), (ssl eI q.Free)])), (11, .v (osl eEmbedding true zs.1)), (12, .v (iT zs.2))]) (QX 0 (fun (y : (List Embedding)) => [(11, .v (osl eEmbedding true y))])) := Lp.of (f := (fun
 | (out_6, i_7) =>
  if i_7 < (d.Facts.length : Int) then
  (ix q.Atoms k).bind fun v_9 =>
  (ix d.Facts i_7).bind fun v_11 =>
  (f132 v_9 v_11 vals).bind fun o13 =>
  (jn (QN (fun (y : (List Embedding)) => [(2, .v (iT k)), (3, .v (ssl eI vals)), (4, .v (ssl eI facts)), (5, .v (.ptr true [(ssl eRelation d.Relations), (ssl eFact d.Facts)])), (6, .v (.ptr true [(iT q.VariableCount), (ssl eAtom q.Atoms), (ssl eI q.Free)])), (11, .v (osl eEmbedding true y)), (12, .v (iT i_7))])) ((if o13.2 = true then
  (app 8 ([]) facts).bind fun l_18 =>
  (app 8 l_18 ([i_7])).bind fun l_20 =>
  sn 12 63 (osl eI true l_20) <| 
  (rec d q (w64 (k + 1)) o13.1 l_20).bind fun o22 =>
  pl (plains (arr eEmbedding true o22)) <| 
  (app 48 out_6 o22).bind fun l_24 =>
  some l_24
  else
  some out_6) : Option (List Embedding))).bind fun out_26 =>
  some (.inl (out_26, w64 (i_7 + 1)))
  else
  some (.inr out_6) : (List Embedding) × Int -> Option (((List Embedding) × Int) ⊕ (List Embedding)))) (by exact go)
instance i102 : ∀ (n : Nat) d q k vals facts, Rn cx (f102 n d q k vals facts) 102 [(.agg [(ssl eRelation d.Relations), (ssl eFact d.Facts)]), (.agg [(iT q.VariableCount), (ssl eAtom q.Atoms), (ssl eI q.Free)]), (iT k), (ssl eI vals), (ssl eI facts)] (fun (r : (List Embedding)) => (osl eEmbedding true r)) (fun r => []) := by
 intro n
 induction n with
 | zero => intro d q k vals facts; exact ⟨fun r h => by simp [f102] at h⟩
 | succ n ih =>
  intro d q k vals facts
  refine Rn.of (e := (
   if k = (q.Atoms.length : Int) then
   (app 8 ([]) vals).bind fun l_2 =>
   (app 8 ([]) facts).bind fun l_4 =>
   sn 6 22 (osl eI true l_2) <| 
   sn 0 25 (osl eI true l_4) <| 
   sn 3 10 (osl eEmbedding true ([({ Values := l_2, Facts := l_4 } : Embedding)])) <| 
   some ([({ Values := l_2, Facts := l_4 } : Embedding)])
   else
   sn 2 11 (osl eEmbedding true ([])) <| 
   (iter (f102_0 d q k vals facts (f102 n)) ([], 0)).bind fun out_29 =>
   some out_29 : Option (List Embedding))) rfl rfl (by decide) rfl ?_
  exact go
instance : Io0 cx 102 := ⟨rfl⟩
instance i75 : Rn cx (f75 d q) 75 [(.agg [(ssl eRelation d.Relations), (ssl eFact d.Facts)]), (.agg [(iT q.VariableCount), (ssl eAtom q.Atoms), (ssl eI q.Free)])] (fun (r : (List Embedding)) => (osl eEmbedding true r)) (fun r => []) := Rn.o (e := (
  (f25 d q).bind fun o1 =>
  if ¬ (o1 = true) then
  sn 2 4 (osl eEmbedding true ([])) <| 
  some ([])
  else
  sn 5 15 (osl eI true ([])) <| 
  (f103 q.VariableCount).bind fun o4 =>
  (f102 64 d q 0 o4 ([])).bind fun o6 =>
  some o6 : Option (List Embedding))) rfl (by exact go)
instance : Io0 cx 75 := ⟨rfl⟩
instance i55_1 {out_1 : (List Int)} {i_2 : Int} : Lp cx (f55_1 l out_1 i_2) 47 L55_1 (fun (zs : Int) => [(0, .v (ssl eI l)), (3, .v (osl eI true out_1)), (4, .v (iT i_2)), (5, .v (iT zs))]) (QX 2 (fun (y : Int) => [(0, .v (ssl eI l)), (3, .v (osl eI true out_1)), (4, .v (iT i_2)), (5, .v (iT y))])) := Lp.of (f := (fun
 | k_4 =>
  (jn (QN (fun (y : Bool) => [(0, .v (ssl eI l)), (3, .v (osl eI true out_1)), (4, .v (iT i_2)), (5, .v (iT k_4)), (28, .v (.bool y))])) ((if k_4 > 0 then
  (ix out_1 (w64 (k_4 - 1))).bind fun v_8 =>
  (ix l i_2).bind fun v_10 =>
  some (decide (v_8 > v_10))
  else
  some false) : Option (Bool))).bind fun x_5 =>
  if x_5 = true then
  some (.inl (w64 (k_4 - 1)))
  else
  some (.inr k_4) : Int -> Option (Int ⊕ Int))) (by exact go)
instance i55_0 : Lp cx (f55_0 l) 47 L55_0 (fun (zs : (List Int) × Int) => [(0, .v (ssl eI l)), (3, .v (osl eI true zs.1)), (4, .v (iT zs.2))]) (QX 0 (fun (y : (List Int)) => [(3, .v (osl eI true y))])) := Lp.of (f := (fun
 | (out_1, i_2) =>
  if i_2 < (l.length : Int) then
  (iter (f55_1 l out_1 i_2) (out_1.length : Int)).bind fun k_15 =>
  sn 1 3 (ssl eI out_1) <| 
  (cutL out_1 0 k_15).bind fun l_16 =>
  (ix l i_2).bind fun v_18 =>
  (cutL out_1 k_15 out_1.length).bind fun l_20 =>
  (app 8 ([]) l_16).bind fun l_22 =>
  (app 8 l_22 ([v_18])).bind fun l_24 =>
  (app 8 l_24 l_20).bind fun l_26 =>
  sn 15 3 (osl eI true l_26) <| 
  some (.inl (l_26, w64 (i_2 + 1)))
  else
  some (.inr out_1) : (List Int) × Int -> Option (((List Int) × Int) ⊕ (List Int)))) (by exact go)
instance i55 : Rn cx (f55 l) 55 [(ssl eI l)] (fun (r : (List Int)) => (osl eI true r)) (fun r => []) := Rn.o (e := (
  sn 3 3 (osl eI true ([])) <| 
  (iter (f55_0 l) ([], 0)).bind fun out_30 =>
  some out_30 : Option (List Int))) rfl (by exact go)
instance : Io0 cx 55 := ⟨rfl⟩
instance i53_0 : Lp cx (f53_0 d l) 38 L53_0 (fun (zs : Int) => [(1, .v (ssl eI l)), (2, .v (.ptr true [(ssl eRelation d.Relations), (ssl eFact d.Facts)])), (5, .v (iT zs))]) (QO (QX 0 (fun (y : Unit) => [])) (QR (fun (y : Bool) => [(4, .v (.bool y))]))) := Lp.of (f := (fun
 | i_1 =>
  if i_1 < (l.length : Int) then
  (ix l i_1).bind fun v_3 =>
  (f80 v_3 0 (w64 ((d.Facts.length : Int) - 1))).bind fun o5 =>
  (jn (QN (fun (y : Bool) => [(1, .v (ssl eI l)), (2, .v (.ptr true [(ssl eRelation d.Relations), (ssl eFact d.Facts)])), (5, .v (iT i_1)), (37, .v (.bool y))])) ((if ¬ (o5 = true) then
  some true
  else
  (jn (QN (fun (y : Bool) => [(1, .v (ssl eI l)), (2, .v (.ptr true [(ssl eRelation d.Relations), (ssl eFact d.Facts)])), (5, .v (iT i_1)), (37, .v (.bool y))])) ((if i_1 > 0 then
  (ix l (w64 (i_1 - 1))).bind fun v_13 =>
  some (decide (v_3 <= v_13))
  else
  some false) : Option (Bool))).bind fun x_10 =>
  some x_10) : Option (Bool))).bind fun x_7 =>
  if x_7 = true then
  some (.inr (.inr false))
  else
  some (.inl (w64 (i_1 + 1)))
  else
  some (.inr (.inl ())) : Int -> Option (Int ⊕ (Unit ⊕ Bool)))) (by exact go)
instance i53 : Rn cx (f53 d l) 53 [(.agg [(ssl eRelation d.Relations), (ssl eFact d.Facts)]), (ssl eI l)] (fun (r : Bool) => (.bool r)) (fun r => []) := Rn.o rfl (by unfold f53; exact go)
instance : Io0 cx 53 := ⟨rfl⟩
instance i104_0 : Lp cx (f104_0 d l) 51 L104_0 (fun (zs : (List Relation) × (List Fact) × Int) => [(1, .v (ssl eI l)), (2, .v (.ptr true [(ssl eRelation d.Relations), (ssl eFact d.Facts)])), (4, .v (.ptr true [(osl eRelation true ([])), (osl eFact true ([]))])), (6, .v (.ptr true [(osl eRelation true zs.1), (osl eFact true zs.2.1)])), (7, .v (iT zs.2.2))]) (QX 0 (fun (y : (List Relation) × (List Fact)) => [(4, .v (.ptr true [(osl eRelation true ([])), (osl eFact true ([]))])), (6, .v (.ptr true [(osl eRelation true y.1), (osl eFact true y.2)]))])) := Lp.of (f := (fun
 | (x_11, x_12, i_13) =>
  if i_13 < (l.length : Int) then
  (ix l i_13).bind fun v_15 =>
  (ix d.Facts v_15).bind fun v_17 =>
  (app 8 ([]) v_17.Values).bind fun l_19 =>
  sn 18 45 (osl eI true l_19) <| 
  (app 32 x_12 ([({ Relation := v_17.Relation, Values := l_19 } : Fact)])).bind fun l_21 =>
  some (.inl (x_11, l_21, w64 (i_13 + 1)))
  else
  some (.inr (x_11, x_12)) : (List Relation) × (List Fact) × Int -> Option (((List Relation) × (List Fact) × Int) ⊕ ((List Relation) × (List Fact))))) (by exact go)
instance i104 : Rn cx (f104 d l) 104 [(.agg [(ssl eRelation d.Relations), (ssl eFact d.Facts)]), (ssl eI l)] (fun (r : Database × Bool) => (.tup [(.agg [(osl eRelation true r.1.Relations), (osl eFact true r.1.Facts)]), (.bool r.2)])) (fun r => []) := Rn.o (e := (
  sn 3 4 (.ptr true [(osl eRelation true ([])), (osl eFact true ([]))]) <| 
  (f49 d).bind fun o1 =>
  (jn (QN (fun (y : Bool) => [(1, .v (ssl eI l)), (2, .v (.ptr true [(ssl eRelation d.Relations), (ssl eFact d.Facts)])), (4, .v (.ptr true [(osl eRelation true ([])), (osl eFact true ([]))])), (17, .v (.bool y))])) ((if ¬ (o1 = true) then
  some true
  else
  (f53 d l).bind fun o6 =>
  some (decide (¬ (o6 = true)))) : Option (Bool))).bind fun x_3 =>
  if x_3 = true then
  sn 1 18 (.agg [(osl eRelation true ([])), (osl eFact true ([]))]) <| 
  some (({ Relations := [], Facts := [] } : Database), false)
  else
  (app 32 ([]) d.Relations).bind fun l_9 =>
  sn 4 22 (osl eRelation true l_9) <| 
  sn 2 23 (.agg [(osl eRelation true l_9), (osl eFact true ([]))]) <| 
  (iter (f104_0 d l) (l_9, [], 0)).bind fun (x_25, x_26) =>
  some (({ Relations := x_25, Facts := x_26 } : Database), true) : Option (Database × Bool))) rfl (by exact go)
instance : Io0 cx 104 := ⟨rfl⟩
instance i105 : Rn cx (f105 d) 105 [(.agg [(ssl eRelation d.Relations), (ssl eFact d.Facts)])] (fun (r : Bool) => (.bool r)) (fun r => []) := Rn.o (e := (
  (f49 d).bind fun o1 =>
  (jn (QN (fun (y : Bool) => [(2, .v (.bool y))])) ((if o1 = true then
  (f47 d).bind fun o6 =>
  some (decide ((o6.length : Int) = (d.Facts.length : Int)))
  else
  some false) : Option (Bool))).bind fun x_3 =>
  some x_3 : Option Bool)) rfl (by exact go)
instance : Io0 cx 105 := ⟨rfl⟩
instance i76 : Rn cx (f76 d l) 76 [(.agg [(ssl eRelation d.Relations), (ssl eFact d.Facts)]), (ssl eI l)] (fun (r : Bool) => (.bool r)) (fun r => []) := Rn.o (e := (
  (f104 d l).bind fun o1 =>
  (jn (QN (fun (y : Bool) => [(4, .v (.bool y))])) ((if o1.2 = true then
  (f105 o1.1).bind fun o6 =>
  some o6
  else
  some false) : Option (Bool))).bind fun x_3 =>
  some x_3 : Option Bool)) rfl (by exact go)
instance : Io0 cx 76 := ⟨rfl⟩
instance i48_0 {o1 : (List Embedding)} : Lp cx (f48_0 d o1) 33 L48_0 (fun (zs : (List (List Int)) × Int) => [(2, .v (.ptr true [(ssl eRelation d.Relations), (ssl eFact d.Facts)])), (5, .v (osl (eL eI) true zs.1)), (6, .v (osl eEmbedding true o1)), (7, .v (iT zs.2))]) (QX 0 (fun (y : (List (List Int))) => [(5, .v (osl (eL eI) true y))])) := Lp.of (f := (fun
 | (out_3, i_4) =>
  if i_4 < (o1.length : Int) then
  (ix o1 i_4).bind fun v_6 =>
  (f55 v_6.Facts).bind fun o8 =>
  (f76 d o8).bind fun o10 =>
  (jn (QN (fun (y : (List (List Int))) => [(2, .v (.ptr true [(ssl eRelation d.Relations), (ssl eFact d.Facts)])), (5, .v (osl (eL eI) true y)), (6, .v (osl eEmbedding true o1)), (7, .v (iT i_4))])) ((if o10 = true then
  (app 24 out_3 ([o8])).bind fun l_15 =>
  some l_15
  else
  some out_3) : Option (List (List Int)))).bind fun out_17 =>
  some (.inl (out_17, w64 (i_4 + 1)))
  else
  some (.inr out_3) : (List (List Int)) × Int -> Option (((List (List Int)) × Int) ⊕ (List (List Int))))) (by exact go)
instance i48 : Rn cx (f48 d q) 48 [(.agg [(ssl eRelation d.Relations), (ssl eFact d.Facts)]), (.agg [(iT q.VariableCount), (ssl eAtom q.Atoms), (ssl eI q.Free)])] (fun (r : (List (List Int))) => (osl (eL eI) true r)) (fun r => []) := Rn.o (e := (
  sn 5 5 (osl (eL eI) true ([])) <| 
  (f75 d q).bind fun o1 =>
  (iter (f48_0 d o1) ([], 0)).bind fun out_20 =>
  some out_20 : Option (List (List Int)))) rfl (by exact go)
instance : Io0 cx 48 := ⟨rfl⟩
instance i24_2 {out_6 : (List (List Int))} {i_7 : Int} : Lp cx (lw (d, q, out_6) (f24_2 o4 i_7)) 88 L24_2 (fun (zs : (List Int) × Int) => [(2, .v (.ptr true [(ssl eRelation d.Relations), (ssl eFact d.Facts)])), (3, .v (.ptr true [(iT q.VariableCount), (ssl eAtom q.Atoms), (ssl eI q.Free)])), (5, .v (osl (eL eI) true out_6)), (6, .v (osl (eL eI) true o4)), (7, .v (iT i_7)), (8, .v (osl eI true zs.1)), (9, .v (iT zs.2))]) (QX 2 (fun (y : (List Int)) => [(2, .v (.ptr true [(ssl eRelation d.Relations), (ssl eFact d.Facts)])), (3, .v (.ptr true [(iT q.VariableCount), (ssl eAtom q.Atoms), (ssl eI q.Free)])), (5, .v (osl (eL eI) true out_6)), (6, .v (osl (eL eI) true o4)), (7, .v (iT i_7)), (8, .v (osl eI true y))])) := Lp.of (by unfold lw f24_2; exact go)
instance i24_0 : Lp cx (lw (d, q) (f24_0 o4)) 88 L24_0 (fun (zs : (List (List Int)) × Int) => [(2, .v (.ptr true [(ssl eRelation d.Relations), (ssl eFact d.Facts)])), (3, .v (.ptr true [(iT q.VariableCount), (ssl eAtom q.Atoms), (ssl eI q.Free)])), (5, .v (osl (eL eI) true zs.1)), (6, .v (osl (eL eI) true o4)), (7, .v (iT zs.2))]) (QX 0 (fun (y : (List (List Int))) => [(2, .v (.ptr true [(ssl eRelation d.Relations), (ssl eFact d.Facts)])), (3, .v (.ptr true [(iT q.VariableCount), (ssl eAtom q.Atoms), (ssl eI q.Free)])), (5, .v (osl (eL eI) true y))])) := Lp.of (f := (fun
 | (out_6, i_7) =>
  if i_7 < (o4.length : Int) then
  sn 2 8 (osl eI true ([])) <| 
  (iter (lw (d, q, out_6)  (f24_2 o4 i_7)) ([], 0)).bind fun c_20 =>
  (app 24 out_6 ([c_20])).bind fun l_21 =>
  some (.inl (l_21, w64 (i_7 + 1)))
  else
  some (.inr out_6) : (List (List Int)) × Int -> Option (((List (List Int)) × Int) ⊕ (List (List Int))))) (by exact go)
instance i24_3 {out_28 : (List (List Int))} {i_29 : Int} : Lp cx (lw out_28 (f24_3 o26 i_29)) 88 L24_3 (fun (zs : (List Int) × Int) => [(5, .v (osl (eL eI) true out_28)), (10, .v (osl (eL eI) true o26)), (11, .v (iT i_29)), (12, .v (osl eI true zs.1)), (13, .v (iT zs.2))]) (QX 6 (fun (y : (List Int)) => [(5, .v (osl (eL eI) true out_28)), (10, .v (osl (eL eI) true o26)), (11, .v (iT i_29)), (12, .v (osl eI true y))])) := Lp.of (by unfold lw f24_3; exact go)
instance i24_1 : Lp cx (f24_1 o26) 88 L24_1 (fun (zs : (List (List Int)) × Int) => [(5, .v (osl (eL eI) true zs.1)), (10, .v (osl (eL eI) true o26)), (11, .v (iT zs.2))]) (QX 4 (fun (y : (List (List Int))) => [(5, .v (osl (eL eI) true y))])) := Lp.of (f := (fun
 | (out_28, i_29) =>
  if i_29 < (o26.length : Int) then
  sn 2 12 (osl eI true ([])) <| 
  (iter (lw out_28  (f24_3 o26 i_29)) ([], 0)).bind fun c_42 =>
  (app 24 out_28 ([c_42])).bind fun l_43 =>
  some (.inl (l_43, w64 (i_29 + 1)))
  else
  some (.inr out_28) : (List (List Int)) × Int -> Option (((List (List Int)) × Int) ⊕ (List (List Int))))) (by exact go)
end
end Go.Proofs.YtbpdhmbdpjafeaaGreatH
