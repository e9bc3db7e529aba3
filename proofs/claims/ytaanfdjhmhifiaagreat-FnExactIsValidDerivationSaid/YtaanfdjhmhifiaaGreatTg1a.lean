import Derived.Test.YtaanfdjhmhifiaaGreatCx1
import Derived.Test.YtaanfdjhmhifiaaGreatX3
import Derived.Test.YtaanfdjhmhifiaaGreatTd1
set_option maxHeartbeats 2000000
set_option linter.unusedVariables false
set_option linter.unusedSimpArgs false
set_option linter.defProp false
set_option linter.unusedSectionVars false
set_option maxRecDepth 100000
namespace Go.Proofs.YtaanfdjhmhifiaaGreatH
open Go
noncomputable section
abbrev iT (n : Int) : T := .int .i64 n
instance : Cl cx := ⟨fun j h => vsound (fun _ _ _ _ h => h) h, fun f ts t outs h => .ext h⟩
@[simp high] theorem ioz {f : Nat} [h : Io0 cx f] : ioTab f = [] := h.io
@[simp] theorem ioz116 : ioTab 116 = [0] := rfl
@[simp] theorem ioz140 : ioTab 140 = [3] := rfl
@[simp] theorem ioz144 : ioTab 144 = [0] := rfl
@[simp] theorem ioz153 : ioTab 153 = [0] := rfl
@[simp] theorem ioz163 : ioTab 163 = [0] := rfl
@[simp] theorem ioz164 : ioTab 164 = [0] := rfl
@[simp] theorem ioz165 : ioTab 165 = [0] := rfl
@[simp] theorem ioz167 : ioTab 167 = [0] := rfl
@[simp] theorem ioz168 : ioTab 168 = [0] := rfl
@[simp] theorem ioz170 : ioTab 170 = [0] := rfl
@[simp] theorem ioz171 : ioTab 171 = [0] := rfl
@[simp] theorem ioz179 : ioTab 179 = [0] := rfl
@[simp] theorem ioz181 : ioTab 181 = [0] := rfl
@[simp] theorem ioz182 : ioTab 182 = [2] := rfl
@[simp] theorem ioz183 : ioTab 183 = [4] := rfl
@[simp] theorem ioz187 : ioTab 187 = [3] := rfl
instance i89 {a : Relation} {left : Int} : Rn cx (f89 a left) 89 [(.agg [(.str a.Name), (iT a.Arity), (iT a.KeyLength)]), (iT left)] (fun (r : Int) => (iT r)) (fun r => []) := by
 refine Rn.of rfl rfl (by decide) rfl ?_; unfold f89; exact go
instance : Io0 cx 89 := ⟨rfl⟩
instance i35_0 {a : (List Relation)} : Lp cx (f35_0 a) 27 L35_0 (fun (zs : Int × Int) => [(0, .v (ssl eRelation a)), (1, .v (iT zs.1)), (5, .v (iT zs.2))]) (QO (QX 0 (fun (y : Int) => [(1, .v (iT y))])) (QR (fun (y : Int) => [(4, .v (iT y))]))) := by
 refine Lp.of ?_; unfold f35_0; exact go
instance i35 {a : (List Relation)} {left : Int} : Rn cx (f35 a left) 35 [(ssl eRelation a), (iT left)] (fun (r : Int) => (iT r)) (fun r => []) := by
 refine Rn.of rfl rfl (by decide) rfl ?_; unfold f35; exact go
instance : Io0 cx 35 := ⟨rfl⟩
instance i38 {a : (List Int)} {left : Int} : Rn cx (f38 a left) 38 [(ssl eI a), (iT left)] (fun (r : Int) => (iT r)) (fun r => []) := by
 refine Rn.of rfl rfl (by decide) rfl ?_; unfold f38; exact go
instance : Io0 cx 38 := ⟨rfl⟩
instance i90 {a : Fact} {left : Int} : Rn cx (f90 a left) 90 [(.agg [(iT a.Relation), (ssl eI a.Values)]), (iT left)] (fun (r : Int) => (iT r)) (fun r => []) := by
 refine Rn.of rfl rfl (by decide) rfl ?_; unfold f90; exact go
instance : Io0 cx 90 := ⟨rfl⟩
instance i36_0 {a : (List Fact)} : Lp cx (f36_0 a) 27 L36_0 (fun (zs : Int × Int) => [(0, .v (ssl eFact a)), (1, .v (iT zs.1)), (5, .v (iT zs.2))]) (QO (QX 0 (fun (y : Int) => [(1, .v (iT y))])) (QR (fun (y : Int) => [(4, .v (iT y))]))) := by
 refine Lp.of ?_; unfold f36_0; exact go
instance i36 {a : (List Fact)} {left : Int} : Rn cx (f36 a left) 36 [(ssl eFact a), (iT left)] (fun (r : Int) => (iT r)) (fun r => []) := by
 refine Rn.of rfl rfl (by decide) rfl ?_; unfold f36; exact go
instance : Io0 cx 36 := ⟨rfl⟩
instance i8 {a : Database} {left : Int} : Rn cx (f8 a left) 8 [(.agg [(ssl eRelation a.Relations), (ssl eFact a.Facts)]), (iT left)] (fun (r : Int) => (iT r)) (fun r => []) := by
 refine Rn.of rfl rfl (by decide) rfl ?_; unfold f8; exact go
instance : Io0 cx 8 := ⟨rfl⟩
instance i91 {a : Atom} {left : Int} : Rn cx (f91 a left) 91 [(.agg [(iT a.Relation), (ssl eI a.Terms)]), (iT left)] (fun (r : Int) => (iT r)) (fun r => []) := by
 refine Rn.of rfl rfl (by decide) rfl ?_; unfold f91; exact go
instance : Io0 cx 91 := ⟨rfl⟩
instance i37_0 {a : (List Atom)} : Lp cx (f37_0 a) 27 L37_0 (fun (zs : Int × Int) => [(0, .v (ssl eAtom a)), (1, .v (iT zs.1)), (5, .v (iT zs.2))]) (QO (QX 0 (fun (y : Int) => [(1, .v (iT y))])) (QR (fun (y : Int) => [(4, .v (iT y))]))) := by
 refine Lp.of ?_; unfold f37_0; exact go
instance i37 {a : (List Atom)} {left : Int} : Rn cx (f37 a left) 37 [(ssl eAtom a), (iT left)] (fun (r : Int) => (iT r)) (fun r => []) := by
 refine Rn.of rfl rfl (by decide) rfl ?_; unfold f37; exact go
instance : Io0 cx 37 := ⟨rfl⟩
instance i9 {a : Query} {left : Int} : Rn cx (f9 a left) 9 [(.agg [(iT a.VariableCount), (ssl eAtom a.Atoms), (ssl eI a.Free)]), (iT left)] (fun (r : Int) => (iT r)) (fun r => []) := by
 refine Rn.of rfl rfl (by decide) rfl ?_; unfold f9; exact go
instance : Io0 cx 9 := ⟨rfl⟩
instance i78 {a : DerivationStep} {left : Int} : Rn cx (f78 a left) 78 [(.agg [(ssl eI a.Facts), (iT a.Block)]), (iT left)] (fun (r : Int) => (iT r)) (fun r => []) := by
 refine Rn.of rfl rfl (by decide) rfl ?_; unfold f78; exact go
instance : Io0 cx 78 := ⟨rfl⟩
instance i26_0 {a : (List DerivationStep)} : Lp cx (f26_0 a) 27 L26_0 (fun (zs : Int × Int) => [(0, .v (ssl eDerivationStep a)), (1, .v (iT zs.1)), (5, .v (iT zs.2))]) (QO (QX 0 (fun (y : Int) => [(1, .v (iT y))])) (QR (fun (y : Int) => [(4, .v (iT y))]))) := by
 refine Lp.of ?_; unfold f26_0; exact go
instance i26 {a : (List DerivationStep)} {left : Int} : Rn cx (f26 a left) 26 [(ssl eDerivationStep a), (iT left)] (fun (r : Int) => (iT r)) (fun r => []) := by
 refine Rn.of rfl rfl (by decide) rfl ?_; unfold f26; exact go
instance : Io0 cx 26 := ⟨rfl⟩
instance i97 {a : Relation} : Rn cx (f97 a) 97 [(.agg [(.str a.Name), (iT a.Arity), (iT a.KeyLength)])] (fun (r : Relation) => (.agg [(.str r.Name), (iT r.Arity), (iT r.KeyLength)])) (fun r => []) := by
 refine Rn.of rfl rfl (by decide) rfl ?_; unfold f97; exact go
instance : Io0 cx 97 := ⟨rfl⟩
instance i44_0 {a : (List Relation)} : Lp cx (f44_0 a) 23 L44_0 (fun (zs : (List Relation) × Int) => [(0, .v (ssl eRelation a)), (3, .v (osl eRelation true zs.1)), (4, .v (iT zs.2))]) (QX 0 (fun (y : (List Relation)) => [(3, .v (osl eRelation true y))])) := by
 refine Lp.of ?_; unfold f44_0; exact go
instance i44 {a : (List Relation)} : Rn cx (f44 a) 44 [(ssl eRelation a)] (fun (r : (List Relation)) => (osl eRelation true r)) (fun r => []) := by
 refine Rn.of (e := (
  (mkl 32 (a.length : Int) ({ Name := [], Arity := 0, KeyLength := 0 } : Relation)).bind fun l_1 =>
  sn 5 3 (osl eRelation true l_1) <| 
  (iter (f44_0 a) (l_1, 0)).bind fun out_15 =>
  some out_15 : Option (List Relation))) rfl rfl (by decide) rfl ?_
 exact go
instance : Io0 cx 44 := ⟨rfl⟩
instance i47_0 {a : (List Int)} : Lp cx (f47_0 a) 22 L47_0 (fun (zs : (List Int) × Int) => [(0, .v (ssl eI a)), (3, .v (osl eI true zs.1)), (4, .v (iT zs.2))]) (QX 0 (fun (y : (List Int)) => [(3, .v (osl eI true y))])) := by
 refine Lp.of ?_; unfold f47_0; exact go
instance i47 {a : (List Int)} : Rn cx (f47 a) 47 [(ssl eI a)] (fun (r : (List Int)) => (osl eI true r)) (fun r => []) := by
 refine Rn.of (e := (
  (mkl 8 (a.length : Int) 0).bind fun l_1 =>
  sn 5 3 (osl eI true l_1) <| 
  (iter (f47_0 a) (l_1, 0)).bind fun out_13 =>
  some out_13 : Option (List Int))) rfl rfl (by decide) rfl ?_
 exact go
instance : Io0 cx 47 := ⟨rfl⟩
instance i98 {a : Fact} : Rn cx (f98 a) 98 [(.agg [(iT a.Relation), (ssl eI a.Values)])] (fun (r : Fact) => (.agg [(iT r.Relation), (osl eI true r.Values)])) (fun r => []) := by
 refine Rn.of (e := (
  sn 2 2 (.ptr true [(iT 0), (osl eI true ([]))]) <| 
  sn 1 3 (.ptr true [(iT 0), (osl eI true ([]))]) <| 
  (f47 a.Values).bind fun o1 =>
  some ({ Relation := a.Relation, Values := o1 } : Fact) : Option Fact)) rfl rfl (by decide) rfl ?_
 exact go
instance : Io0 cx 98 := ⟨rfl⟩
instance i45_0 {a : (List Fact)} : Lp cx (f45_0 a) 23 L45_0 (fun (zs : (List Fact) × Int) => [(0, .v (ssl eFact a)), (3, .v (osl eFact true zs.1)), (4, .v (iT zs.2))]) (QX 0 (fun (y : (List Fact)) => [(3, .v (osl eFact true y))])) := by
 refine Lp.of ?_; unfold f45_0; exact go
instance i45 {a : (List Fact)} : Rn cx (f45 a) 45 [(ssl eFact a)] (fun (r : (List Fact)) => (osl eFact true r)) (fun r => []) := by
 refine Rn.of (e := (
  (mkl 32 (a.length : Int) (({ Relation := 0, Values := [] } : Fact) : Fact)).bind fun l_1 =>
  sn 5 3 (osl eFact true l_1) <| 
  (iter (f45_0 a) (l_1, 0)).bind fun out_15 =>
  some out_15 : Option (List Fact))) rfl rfl (by decide) rfl ?_
 exact go
instance : Io0 cx 45 := ⟨rfl⟩
instance i11 {a : Database} : Rn cx (f11 a) 11 [(.agg [(ssl eRelation a.Relations), (ssl eFact a.Facts)])] (fun (r : Database) => (.agg [(osl eRelation true r.Relations), (osl eFact true r.Facts)])) (fun r => []) := by
 refine Rn.of (e := (
  sn 2 2 (.ptr true [(osl eRelation true ([])), (osl eFact true ([]))]) <| 
  sn 1 3 (.ptr true [(osl eRelation true ([])), (osl eFact true ([]))]) <| 
  (f44 a.Relations).bind fun o1 =>
  (f45 a.Facts).bind fun o3 =>
  some ({ Relations := o1, Facts := o3 } : Database) : Option Database)) rfl rfl (by decide) rfl ?_
 exact go
instance : Io0 cx 11 := ⟨rfl⟩
instance i99 {a : Atom} : Rn cx (f99 a) 99 [(.agg [(iT a.Relation), (ssl eI a.Terms)])] (fun (r : Atom) => (.agg [(iT r.Relation), (osl eI true r.Terms)])) (fun r => []) := by
 refine Rn.of (e := (
  sn 2 2 (.ptr true [(iT 0), (osl eI true ([]))]) <| 
  sn 1 3 (.ptr true [(iT 0), (osl eI true ([]))]) <| 
  (f47 a.Terms).bind fun o1 =>
  some ({ Relation := a.Relation, Terms := o1 } : Atom) : Option Atom)) rfl rfl (by decide) rfl ?_
 exact go
instance : Io0 cx 99 := ⟨rfl⟩
instance i46_0 {a : (List Atom)} : Lp cx (f46_0 a) 23 L46_0 (fun (zs : (List Atom) × Int) => [(0, .v (ssl eAtom a)), (3, .v (osl eAtom true zs.1)), (4, .v (iT zs.2))]) (QX 0 (fun (y : (List Atom)) => [(3, .v (osl eAtom true y))])) := by
 refine Lp.of ?_; unfold f46_0; exact go
instance i46 {a : (List Atom)} : Rn cx (f46 a) 46 [(ssl eAtom a)] (fun (r : (List Atom)) => (osl eAtom true r)) (fun r => []) := by
 refine Rn.of (e := (
  (mkl 32 (a.length : Int) (({ Relation := 0, Terms := [] } : Atom) : Atom)).bind fun l_1 =>
  sn 5 3 (osl eAtom true l_1) <| 
  (iter (f46_0 a) (l_1, 0)).bind fun out_15 =>
  some out_15 : Option (List Atom))) rfl rfl (by decide) rfl ?_
 exact go
instance : Io0 cx 46 := ⟨rfl⟩
instance i12 {a : Query} : Rn cx (f12 a) 12 [(.agg [(iT a.VariableCount), (ssl eAtom a.Atoms), (ssl eI a.Free)])] (fun (r : Query) => (.agg [(iT r.VariableCount), (osl eAtom true r.Atoms), (osl eI true r.Free)])) (fun r => []) := by
 refine Rn.of (e := (
  sn 2 2 (.ptr true [(iT 0), (osl eAtom true ([])), (osl eI true ([]))]) <| 
  sn 1 3 (.ptr true [(iT 0), (osl eAtom true ([])), (osl eI true ([]))]) <| 
  (f46 a.Atoms).bind fun o1 =>
  (f47 a.Free).bind fun o3 =>
  some ({ VariableCount := a.VariableCount, Atoms := o1, Free := o3 } : Query) : Option Query)) rfl rfl (by decide) rfl ?_
 exact go
instance : Io0 cx 12 := ⟨rfl⟩
instance i80 {a : DerivationStep} : Rn cx (f80 a) 80 [(.agg [(ssl eI a.Facts), (iT a.Block)])] (fun (r : DerivationStep) => (.agg [(osl eI true r.Facts), (iT r.Block)])) (fun r => []) := by
 refine Rn.of (e := (
  sn 2 2 (.ptr true [(osl eI true ([])), (iT 0)]) <| 
  sn 1 3 (.ptr true [(osl eI true ([])), (iT 0)]) <| 
  (f47 a.Facts).bind fun o1 =>
  some ({ Facts := o1, Block := a.Block } : DerivationStep) : Option DerivationStep)) rfl rfl (by decide) rfl ?_
 exact go
instance : Io0 cx 80 := ⟨rfl⟩
instance i28_0 {a : (List DerivationStep)} : Lp cx (f28_0 a) 23 L28_0 (fun (zs : (List DerivationStep) × Int) => [(0, .v (ssl eDerivationStep a)), (3, .v (osl eDerivationStep true zs.1)), (4, .v (iT zs.2))]) (QX 0 (fun (y : (List DerivationStep)) => [(3, .v (osl eDerivationStep true y))])) := by
 refine Lp.of ?_; unfold f28_0; exact go
instance i28 {a : (List DerivationStep)} : Rn cx (f28 a) 28 [(ssl eDerivationStep a)] (fun (r : (List DerivationStep)) => (osl eDerivationStep true r)) (fun r => []) := by
 refine Rn.of (e := (
  (mkl 32 (a.length : Int) (({ Facts := [], Block := 0 } : DerivationStep) : DerivationStep)).bind fun l_1 =>
  sn 5 3 (osl eDerivationStep true l_1) <| 
  (iter (f28_0 a) (l_1, 0)).bind fun out_15 =>
  some out_15 : Option (List DerivationStep))) rfl rfl (by decide) rfl ?_
 exact go
instance : Io0 cx 28 := ⟨rfl⟩
instance i94 {x : Int} {low : Int} {high : Int} : Rn cx (f94 x low high) 94 [(iT x), (iT low), (iT high)] (fun (r : Bool) => (.bool r)) (fun r => []) := by
 refine Rn.of (e := (
  (jn (QN (fun (y : Bool) => [(6, .v (.bool y))])) ((if x ≥ low then
  some (decide (x ≤ high))
  else
  some false) : Option (Bool))).bind fun x_1 =>
  some x_1 : Option Bool)) rfl rfl (by decide) rfl ?_
 exact go
instance : Io0 cx 94 := ⟨rfl⟩
instance i151 {s0 : Relation} : Rn cx (f151 s0) 151 [(.agg [(.str s0.Name), (iT s0.Arity), (iT s0.KeyLength)])] (fun (r : Bool) => (.bool r)) (fun r => []) := by
 refine Rn.of (e := (
  (jn (QN (fun (y : Bool) => [(2, .v (.bool y))])) ((if (s0.Name.length : Int) = 1 then
  (ix s0.Name 0).bind fun c_4 =>
  (jn (QN (fun (y : Bool) => [(2, .v (.bool y))])) ((if (c_4.toNat : Int) ≥ 97 then
  (jn (QN (fun (y : Bool) => [(2, .v (.bool y))])) ((if (c_4.toNat : Int) ≤ 122 then
  (f94 s0.Arity 1 3).bind fun o12 =>
  (jn (QN (fun (y : Bool) => [(2, .v (.bool y))])) ((if o12 = true then
  (f94 s0.KeyLength 0 s0.Arity).bind fun o17 =>
  some o17
  else
  some false) : Option (Bool))).bind fun x_14 =>
  some x_14
  else
  some false) : Option (Bool))).bind fun x_9 =>
  some x_9
  else
  some false) : Option (Bool))).bind fun x_6 =>
  some x_6
  else
  some false) : Option (Bool))).bind fun x_1 =>
  some x_1 : Option Bool)) rfl rfl (by decide) rfl ?_
 exact go
instance : Io0 cx 151 := ⟨rfl⟩
instance i126_0 {l : (List Relation)} : Lp cx (f126_0 l) 37 L126_0 (fun (zs : Int) => [(0, .v (ssl eRelation l)), (3, .v (iT zs))]) (QO (QX 0 (fun (y : Unit) => [(0, .v (ssl eRelation l))])) (QR (fun (y : Bool) => [(2, .v (.bool y))]))) := by
 refine Lp.of (f := (fun
 | i_1 =>
  if i_1 < (l.length : Int) then
  (ix l i_1).bind fun v_3 =>
  (f151 v_3).bind fun o5 =>
  (jn (QN (fun (y : Bool) => [(0, .v (ssl eRelation l)), (3, .v (iT i_1)), (33, .v (.bool y))])) ((if ¬ (o5 = true) then
  some true
  else
  (jn (QN (fun (y : Bool) => [(0, .v (ssl eRelation l)), (3, .v (iT i_1)), (33, .v (.bool y))])) ((if i_1 > 0 then
  (ix l (w64 (i_1 - 1))).bind fun v_13 =>
  some (!(Op.bytesLess v_13.Name v_3.Name))
  else
  some false) : Option (Bool))).bind fun x_10 =>
  some x_10) : Option (Bool))).bind fun x_7 =>
  if x_7 = true then
  some (.inr (.inr false))
  else
  some (.inl (w64 (i_1 + 1)))
  else
  some (.inr (.inl ())) : Int → Option (Int ⊕ (Unit ⊕ Bool)))) ?_
 exact go
instance i126 {l : (List Relation)} : Rn cx (f126 l) 126 [(ssl eRelation l)] (fun (r : Bool) => (.bool r)) (fun r => []) := by
 refine Rn.of rfl rfl (by decide) rfl ?_; unfold f126; exact go
instance : Io0 cx 126 := ⟨rfl⟩
instance i124_0 {f : Fact} : Lp cx (f124_0 f) 44 L124_0 (fun (zs : Int) => [(3, .v (.ptr true [(iT f.Relation), (ssl eI f.Values)])), (5, .v (iT zs))]) (QO (QX 0 (fun (y : Unit) => [])) (QR (fun (y : Bool) => [(4, .v (.bool y))]))) := by
 refine Lp.of ?_; unfold f124_0; exact go
instance i124 {l : (List Relation)} {f : Fact} : Rn cx (f124 l f) 124 [(ssl eRelation l), (.agg [(iT f.Relation), (ssl eI f.Values)])] (fun (r : Bool) => (.bool r)) (fun r => []) := by
 refine Rn.of (e := (
  (f126 l).bind fun o1 =>
  (jn (QN (fun (y : Bool) => [(3, .v (.ptr true [(iT f.Relation), (ssl eI f.Values)])), (29, .v (.bool y))])) ((if ¬ (o1 = true) then
  some true
  else
  (f94 f.Relation 0 (w64 ((l.length : Int) - 1))).bind fun o6 =>
  (jn (QN (fun (y : Bool) => [(3, .v (.ptr true [(iT f.Relation), (ssl eI f.Values)])), (29, .v (.bool y))])) ((if ¬ (o6 = true) then
  some true
  else
  (ix l f.Relation).bind fun v_11 =>
  some (decide ((f.Values.length : Int) ≠ v_11.Arity))) : Option (Bool))).bind fun x_8 =>
  some x_8) : Option (Bool))).bind fun x_3 =>
  if x_3 = true then
  some false
  else
  (iter (f124_0 f) 0).bind fun o => match o with
  | .inl _ =>
  some true
  | .inr x_23 =>
  some x_23 : Option Bool)) rfl rfl (by decide) rfl ?_
 exact go
instance : Io0 cx 124 := ⟨rfl⟩
instance i127_0 {a : (List Int)} {b : (List Int)} : Lp cx (f127_0 a b) 46 L127_0 (fun (zs : Int) => [(0, .v (ssl eI a)), (1, .v (ssl eI b)), (5, .v (iT zs))]) (QO (QX 0 (fun (y : Unit) => [(0, .v (ssl eI a)), (1, .v (ssl eI b))])) (QR (fun (y : Int) => [(4, .v (iT y))]))) := by
 refine Lp.of (f := (fun
 | i_1 =>
  (jn (QN (fun (y : Bool) => [(0, .v (ssl eI a)), (1, .v (ssl eI b)), (5, .v (iT i_1)), (15, .v (.bool y))])) ((if i_1 < (a.length : Int) then
  some (decide (i_1 < (b.length : Int)))
  else
  some false) : Option (Bool))).bind fun x_2 =>
  if x_2 = true then
  (ix a i_1).bind fun v_6 =>
  (ix b i_1).bind fun v_8 =>
  if v_6 < v_8 then
  some (.inr (.inr (-1)))
  else
  if v_6 > v_8 then
  some (.inr (.inr 1))
  else
  some (.inl (w64 (i_1 + 1)))
  else
  some (.inr (.inl ())) : Int → Option (Int ⊕ (Unit ⊕ Int)))) ?_
 exact go
instance i127 {a : (List Int)} {b : (List Int)} : Rn cx (f127 a b) 127 [(ssl eI a), (ssl eI b)] (fun (r : Int) => (iT r)) (fun r => []) := by
 refine Rn.of rfl rfl (by decide) rfl ?_; unfold f127; exact go
instance : Io0 cx 127 := ⟨rfl⟩
instance i125 {a : Fact} {b : Fact} : Rn cx (f125 a b) 125 [(.agg [(iT a.Relation), (ssl eI a.Values)]), (.agg [(iT b.Relation), (ssl eI b.Values)])] (fun (r : Int) => (iT r)) (fun r => []) := by
 refine Rn.of rfl rfl (by decide) rfl ?_; unfold f125; exact go
instance : Io0 cx 125 := ⟨rfl⟩
instance i93_0 {d : Database} : Lp cx (f93_0 d) 48 L93_0 (fun (zs : Int) => [(1, .v (.ptr true [(ssl eRelation d.Relations), (ssl eFact d.Facts)])), (3, .v (iT zs))]) (QO (QX 0 (fun (y : Unit) => [(1, .v (.ptr true [(ssl eRelation d.Relations), (ssl eFact d.Facts)]))])) (QR (fun (y : Bool) => [(2, .v (.bool y))]))) := by
 refine Lp.of (f := (fun
 | i_1 =>
  if i_1 < (d.Facts.length : Int) then
  (ix d.Facts i_1).bind fun v_3 =>
  (f124 d.Relations v_3).bind fun o5 =>
  (jn (QN (fun (y : Bool) => [(1, .v (.ptr true [(ssl eRelation d.Relations), (ssl eFact d.Facts)])), (3, .v (iT i_1)), (38, .v (.bool y))])) ((if ¬ (o5 = true) then
  some true
  else
  (jn (QN (fun (y : Bool) => [(1, .v (.ptr true [(ssl eRelation d.Relations), (ssl eFact d.Facts)])), (3, .v (iT i_1)), (38, .v (.bool y))])) ((if i_1 > 0 then
  (ix d.Facts (w64 (i_1 - 1))).bind fun v_13 =>
  (f125 v_13 v_3).bind fun o15 =>
  some (decide (o15 ≥ 0))
  else
  some false) : Option (Bool))).bind fun x_10 =>
  some x_10) : Option (Bool))).bind fun x_7 =>
  if x_7 = true then
  some (.inr (.inr false))
  else
  some (.inl (w64 (i_1 + 1)))
  else
  some (.inr (.inl ())) : Int → Option (Int ⊕ (Unit ⊕ Bool)))) ?_
 exact go
instance i93 {d : Database} : Rn cx (f93 d) 93 [(.agg [(ssl eRelation d.Relations), (ssl eFact d.Facts)])] (fun (r : Bool) => (.bool r)) (fun r => []) := by
 refine Rn.of (e := (
  (iter (f93_0 d) 0).bind fun o => match o with
  | .inl _ =>
  (f126 d.Relations).bind fun o21 =>
  (jn (QN (fun (y : Bool) => [(2, .v (.bool y))])) ((if o21 = true then
  some (decide ((d.Facts.length : Int) ≤ 14))
  else
  some false) : Option (Bool))).bind fun x_23 =>
  some x_23
  | .inr x_20 =>
  some x_20 : Option Bool)) rfl rfl (by decide) rfl ?_
 exact go
instance : Io0 cx 93 := ⟨rfl⟩
instance i109_3 {l : (List Relation)} {q : Query} {met_16 : (List Bool)} {i_17 : Int} {v_19 : Atom} : Lp cx (lw (l, met_16) (f109_3 q i_17 v_19)) 150 L109_3 (fun (zs : Int) => [(0, .v (ssl eRelation l)), (3, .v (.ptr true [(iT q.VariableCount), (ssl eAtom q.Atoms), (ssl eI q.Free)])), (5, .v (osl eB true met_16)), (6, .v (iT i_17)), (7, .v (.ptr true [(iT v_19.Relation), (ssl eI v_19.Terms)])), (8, .v (iT zs))]) (QO (QX 2 (fun (y : Unit) => [(0, .v (ssl eRelation l)), (3, .v (.ptr true [(iT q.VariableCount), (ssl eAtom q.Atoms), (ssl eI q.Free)])), (5, .v (osl eB true met_16)), (6, .v (iT i_17)), (7, .v (.ptr true [(iT v_19.Relation), (ssl eI v_19.Terms)]))])) (QR (fun (y : Bool) => [(4, .v (.bool y))]))) := by
 refine Lp.of ?_; unfold lw f109_3; exact go
instance i109_4 {l : (List Relation)} {q : Query} {i_17 : Int} {v_19 : Atom} : Lp cx (lw (l, i_17) (f109_4 q v_19)) 150 L109_4 (fun (zs : (List Bool) × Int) => [(0, .v (ssl eRelation l)), (3, .v (.ptr true [(iT q.VariableCount), (ssl eAtom q.Atoms), (ssl eI q.Free)])), (5, .v (osl eB true zs.1)), (6, .v (iT i_17)), (7, .v (.ptr true [(iT v_19.Relation), (ssl eI v_19.Terms)])), (9, .v (iT zs.2))]) (QO (QX 4 (fun (y : (List Bool)) => [(0, .v (ssl eRelation l)), (3, .v (.ptr true [(iT q.VariableCount), (ssl eAtom q.Atoms), (ssl eI q.Free)])), (5, .v (osl eB true y)), (6, .v (iT i_17))])) (QR (fun (y : Bool) => [(4, .v (.bool y))]))) := by
 refine Lp.of (f := (fun
 | (met_37, k_38) =>
  if k_38 < (v_19.Terms.length : Int) then
  (ix v_19.Terms k_38).bind fun v_40 =>
  (f94 v_40 (-10) (w64 (q.VariableCount - 1))).bind fun o42 =>
  if ¬ (o42 = true) then
  some (.inr (.inr false))
  else
  (jn (QN (fun (y : (List Bool)) => [(0, .v (ssl eRelation l)), (3, .v (.ptr true [(iT q.VariableCount), (ssl eAtom q.Atoms), (ssl eI q.Free)])), (5, .v (osl eB true y)), (6, .v (iT i_17)), (7, .v (.ptr true [(iT v_19.Relation), (ssl eI v_19.Terms)])), (9, .v (iT k_38))])) ((if v_40 ≥ 0 then
  (ix met_37 v_40).bind fun v_48 =>
  some (met_37.set v_40.toNat true)
  else
  some met_37) : Option (List Bool))).bind fun met_51 =>
  some (.inl (met_51, w64 (k_38 + 1)))
  else
  some (.inr (.inl met_37)) : (List Bool) × Int → Option (((List Bool) × Int) ⊕ ((List Bool) ⊕ Bool)))) ?_
 exact go
instance i109_0 {l : (List Relation)} {q : Query} : Lp cx (f109_0 l q) 150 L109_0 (fun (zs : (List Bool) × Int) => [(0, .v (ssl eRelation l)), (3, .v (.ptr true [(iT q.VariableCount), (ssl eAtom q.Atoms), (ssl eI q.Free)])), (5, .v (osl eB true zs.1)), (6, .v (iT zs.2))]) (QO (QX 0 (fun (y : (List Bool)) => [(3, .v (.ptr true [(iT q.VariableCount), (ssl eAtom q.Atoms), (ssl eI q.Free)])), (5, .v (osl eB true y))])) (QR (fun (y : Bool) => [(4, .v (.bool y))]))) := by
 refine Lp.of (f := (fun
 | (met_16, i_17) =>
  if i_17 < (q.Atoms.length : Int) then
  (ix q.Atoms i_17).bind fun v_19 =>
  (f94 v_19.Relation 0 (w64 ((l.length : Int) - 1))).bind fun o21 =>
  (jn (QN (fun (y : Bool) => [(0, .v (ssl eRelation l)), (3, .v (.ptr true [(iT q.VariableCount), (ssl eAtom q.Atoms), (ssl eI q.Free)])), (5, .v (osl eB true met_16)), (6, .v (iT i_17)), (7, .v (.ptr true [(iT v_19.Relation), (ssl eI v_19.Terms)])), (59, .v (.bool y))])) ((if ¬ (o21 = true) then
  some true
  else
  (ix l v_19.Relation).bind fun v_26 =>
  some (decide ((v_19.Terms.length : Int) ≠ v_26.Arity))) : Option (Bool))).bind fun x_23 =>
  if x_23 = true then
  some (.inr (.inr false))
  else
  (iter (lw (l, met_16)  (f109_3 q i_17 v_19)) 0).bind fun o => match o with
  | .inl _ =>
  ((iter (lw (l, i_17)  (f109_4 q v_19)) (met_16, 0)).bind fun o => match o with
  | .inl met_54 =>
  some (.inl (met_54, w64 (i_17 + 1)))
  | .inr x_55 =>
  some (.inr (.inr x_55)))
  | .inr x_36 =>
  some (.inr (.inr x_36))
  else
  some (.inr (.inl met_16)) : (List Bool) × Int → Option (((List Bool) × Int) ⊕ ((List Bool) ⊕ Bool)))) ?_
 exact go
instance i109_1 {q : Query} {met_58 : (List Bool)} : Lp cx (f109_1 q met_58) 150 L109_1 (fun (zs : Int) => [(3, .v (.ptr true [(iT q.VariableCount), (ssl eAtom q.Atoms), (ssl eI q.Free)])), (5, .v (osl eB true met_58)), (10, .v (iT zs))]) (QO (QX 6 (fun (y : Unit) => [(3, .v (.ptr true [(iT q.VariableCount), (ssl eAtom q.Atoms), (ssl eI q.Free)]))])) (QR (fun (y : Bool) => [(4, .v (.bool y))]))) := by
 refine Lp.of ?_; unfold f109_1; exact go
instance i109_2 {q : Query} : Lp cx (f109_2 q) 150 L109_2 (fun (zs : Int) => [(3, .v (.ptr true [(iT q.VariableCount), (ssl eAtom q.Atoms), (ssl eI q.Free)])), (11, .v (iT zs))]) (QO (QX 8 (fun (y : Unit) => [])) (QR (fun (y : Bool) => [(4, .v (.bool y))]))) := by
 refine Lp.of (f := (fun
 | i_68 =>
  if i_68 < (q.Free.length : Int) then
  (ix q.Free i_68).bind fun v_70 =>
  (f94 v_70 0 (w64 (q.VariableCount - 1))).bind fun o72 =>
  (jn (QN (fun (y : Bool) => [(3, .v (.ptr true [(iT q.VariableCount), (ssl eAtom q.Atoms), (ssl eI q.Free)])), (11, .v (iT i_68)), (149, .v (.bool y))])) ((if ¬ (o72 = true) then
  some true
  else
  (jn (QN (fun (y : Bool) => [(3, .v (.ptr true [(iT q.VariableCount), (ssl eAtom q.Atoms), (ssl eI q.Free)])), (11, .v (iT i_68)), (149, .v (.bool y))])) ((if i_68 > 0 then
  (ix q.Free (w64 (i_68 - 1))).bind fun v_80 =>
  some (decide (v_70 ≤ v_80))
  else
  some false) : Option (Bool))).bind fun x_77 =>
  some x_77) : Option (Bool))).bind fun x_74 =>
  if x_74 = true then
  some (.inr (.inr false))
  else
  some (.inl (w64 (i_68 + 1)))
  else
  some (.inr (.inl ())) : Int → Option (Int ⊕ (Unit ⊕ Bool)))) ?_
 exact go
instance i109 {l : (List Relation)} {q : Query} : Rn cx (f109 l q) 109 [(ssl eRelation l), (.agg [(iT q.VariableCount), (ssl eAtom q.Atoms), (ssl eI q.Free)])] (fun (r : Bool) => (.bool r)) (fun r => []) := by
 refine Rn.of (e := (
  (f126 l).bind fun o1 =>
  (jn (QN (fun (y : Bool) => [(0, .v (ssl eRelation l)), (3, .v (.ptr true [(iT q.VariableCount), (ssl eAtom q.Atoms), (ssl eI q.Free)])), (27, .v (.bool y))])) ((if ¬ (o1 = true) then
  some true
  else
  (f94 q.VariableCount 0 4).bind fun o6 =>
  (jn (QN (fun (y : Bool) => [(0, .v (ssl eRelation l)), (3, .v (.ptr true [(iT q.VariableCount), (ssl eAtom q.Atoms), (ssl eI q.Free)])), (27, .v (.bool y))])) ((if ¬ (o6 = true) then
  some true
  else
  (f94 (q.Atoms.length : Int) 1 3).bind fun o11 =>
  some (decide (¬ (o11 = true)))) : Option (Bool))).bind fun x_8 =>
  some x_8) : Option (Bool))).bind fun x_3 =>
  if x_3 = true then
  some false
  else
  (mkl 1 4 false).bind fun l_14 =>
  sn 2 5 (osl eB true l_14) <| 
  (iter (f109_0 l q) (l_14, 0)).bind fun o => match o with
  | .inl met_58 =>
  ((iter (f109_1 q met_58) 0).bind fun o => match o with
  | .inl _ =>
  ((iter (f109_2 q) 0).bind fun o => match o with
  | .inl _ =>
  some true
  | .inr x_85 =>
  some x_85)
  | .inr x_67 =>
  some x_67)
  | .inr x_59 =>
  some x_59 : Option Bool)) rfl rfl (by decide) rfl ?_
 exact go
instance : Io0 cx 109 := ⟨rfl⟩
instance i63 {d : Database} {q : Query} : Rn cx (f63 d q) 63 [(.agg [(ssl eRelation d.Relations), (ssl eFact d.Facts)]), (.agg [(iT q.VariableCount), (ssl eAtom q.Atoms), (ssl eI q.Free)])] (fun (r : Bool) => (.bool r)) (fun r => []) := by
 refine Rn.of (e := (
  (f93 d).bind fun o1 =>
  (jn (QN (fun (y : Bool) => [(4, .v (.bool y))])) ((if o1 = true then
  (f109 d.Relations q).bind fun o6 =>
  some o6
  else
  some false) : Option (Bool))).bind fun x_3 =>
  some x_3 : Option Bool)) rfl rfl (by decide) rfl ?_
 exact go
instance : Io0 cx 63 := ⟨rfl⟩
instance i136_0 {n0 : Int} : Lp cx (f136_0 n0) 13 L136_0 (fun (zs : (List Int)) => [(0, .v (iT n0)), (3, .v (osl eI true zs))]) (QX 0 (fun (y : (List Int)) => [(3, .v (osl eI true y))])) := by
 refine Lp.of ?_; unfold f136_0; exact go
instance i136 {n0 : Int} : Rn cx (f136 n0) 136 [(iT n0)] (fun (r : (List Int)) => (osl eI true r)) (fun r => []) := by
 refine Rn.of (e := (
  sn 3 3 (osl eI true ([])) <| 
  (iter (f136_0 n0) ([])).bind fun l_7 =>
  some l_7 : Option (List Int))) rfl rfl (by decide) rfl ?_
 exact go
instance : Io0 cx 136 := ⟨rfl⟩
instance i158_0 {a : Atom} {f : Fact} : Lp cx (f158_0 a f) 79 L158_0 (fun (zs : (List Int) × Int) => [(3, .v (.ptr true [(iT a.Relation), (ssl eI a.Terms)])), (4, .v (.ptr true [(iT f.Relation), (ssl eI f.Values)])), (8, .v (osl eI true zs.1)), (9, .v (iT zs.2))]) (QO (QX 0 (fun (y : (List Int)) => [(8, .v (osl eI true y))])) (QR (fun (y : (List Int) × Bool) => [(6, .v (osl eI true y.1)), (7, .v (.bool y.2))]))) := by
 refine Lp.of (f := (fun
 | (x_7, i_8) =>
  if i_8 < (a.Terms.length : Int) then
  (jb 1 (QO (QN (fun (y : (List Int)) => [(3, .v (.ptr true [(iT a.Relation), (ssl eI a.Terms)])), (4, .v (.ptr true [(iT f.Relation), (ssl eI f.Values)])), (8, .v (osl eI true y)), (9, .v (iT i_8))])) (QR (fun (y : (List Int) × Bool) => [(6, .v (osl eI true y.1)), (7, .v (.bool y.2))]))) (((ix a.Terms i_8).bind fun v_12 =>
  if v_12 < 0 then
  (ix f.Values i_8).bind fun v_15 =>
  if (w64 ((-1) - v_12)) ≠ v_15 then
  some (.inr (x_7, false))
  else
  some (.inl x_7)
  else
  (ix x_7 v_12).bind fun v_18 =>
  (jn (QN (fun (y : Bool) => [(3, .v (.ptr true [(iT a.Relation), (ssl eI a.Terms)])), (4, .v (.ptr true [(iT f.Relation), (ssl eI f.Values)])), (8, .v (osl eI true x_7)), (9, .v (iT i_8)), (10, .v (iT v_12)), (68, .v (.bool y))])) ((if v_18 ≥ 0 then
  (ix f.Values i_8).bind fun v_23 =>
  some (decide (v_18 ≠ v_23))
  else
  some false) : Option (Bool))).bind fun x_20 =>
  if x_20 = true then
  some (.inr (x_7, false))
  else
  (ix f.Values i_8).bind fun v_26 =>
  some (.inl (x_7.set v_12.toNat v_26))) : Option ((List Int) ⊕ ((List Int) × Bool)))).bind fun o => match o with
  | .inl x_29 =>
  some (.inl (x_29, w64 (i_8 + 1)))
  | .inr (x_30, x_31) =>
  some (.inr (.inr (x_30, x_31)))
  else
  some (.inr (.inl x_7)) : (List Int) × Int → Option (((List Int) × Int) ⊕ ((List Int) ⊕ ((List Int) × Bool))))) ?_
 exact go
instance i158 {a : Atom} {f : Fact} {vals : (List Int)} : Rn cx (f158 a f vals) 158 [(.agg [(iT a.Relation), (ssl eI a.Terms)]), (.agg [(iT f.Relation), (ssl eI f.Values)]), (ssl eI vals)] (fun (r : (List Int) × Bool) => (.tup [(osl eI true r.1), (.bool r.2)])) (fun r => []) := by
 refine Rn.of (e := (
  (app 8 ([]) vals).bind fun l_1 =>
  sn 8 8 (osl eI true l_1) <| 
  (jn (QN (fun (y : Bool) => [(3, .v (.ptr true [(iT a.Relation), (ssl eI a.Terms)])), (4, .v (.ptr true [(iT f.Relation), (ssl eI f.Values)])), (8, .v (osl eI true l_1)), (27, .v (.bool y))])) ((if f.Relation ≠ a.Relation then
  some true
  else
  some (decide ((f.Values.length : Int) ≠ (a.Terms.length : Int)))) : Option (Bool))).bind fun x_3 =>
  if x_3 = true then
  some (l_1, false)
  else
  (iter (f158_0 a f) (l_1, 0)).bind fun o => match o with
  | .inl x_34 =>
  some (x_34, true)
  | .inr (x_35, x_36) =>
  some (x_35, x_36) : Option ((List Int) × Bool))) rfl rfl (by decide) rfl ?_
 exact go
instance : Io0 cx 158 := ⟨rfl⟩
instance i135_0 {d : Database} {q : Query} {k : Int} {vals : (List Int)} {facts : (List Int)} {rec : Database → Query → Int → (List Int) → (List Int) → Option (List Embedding)} [hrec : ∀ d q k vals facts, Rn cx (rec d q k vals facts) 135 [(.agg [(ssl eRelation d.Relations), (ssl eFact d.Facts)]), (.agg [(iT q.VariableCount), (ssl eAtom q.Atoms), (ssl eI q.Free)]), (iT k), (ssl eI vals), (ssl eI facts)] (fun o => (osl eEmbedding true o)) (fun o => [])] : Lp cx (f135_0 d q k vals facts rec) 67 L135_0 (fun (zs : (List Embedding) × Int) => [(2, .v (iT k)), (3, .v (ssl eI vals)), (4, .v (ssl eI facts)), (5, .v (.ptr true [(ssl eRelation d.Relations), (ssl eFact d.Facts)])), (6, .v (.ptr true [(iT q.VariableCount), (ssl eAtom q.Atoms), (ssl eI q.Free)])), (11, .v (osl eEmbedding true zs.1)), (12, .v (iT zs.2))]) (QX 0 (fun (y : (List Embedding)) => [(11, .v (osl eEmbedding true y))])) := by
 refine Lp.of (f := (fun
 | (out_6, i_7) =>
  if i_7 < (d.Facts.length : Int) then
  (ix q.Atoms k).bind fun v_9 =>
  (ix d.Facts i_7).bind fun v_11 =>
  (f158 v_9 v_11 vals).bind fun o13 =>
  (jn (QN (fun (y : (List Embedding)) => [(2, .v (iT k)), (3, .v (ssl eI vals)), (4, .v (ssl eI facts)), (5, .v (.ptr true [(ssl eRelation d.Relations), (ssl eFact d.Facts)])), (6, .v (.ptr true [(iT q.VariableCount), (ssl eAtom q.Atoms), (ssl eI q.Free)])), (11, .v (osl eEmbedding true y)), (12, .v (iT i_7))])) ((if o13.2 = true then
  (app 8 ([]) facts).bind fun l_18 =>
  (app 8 l_18 ([i_7])).bind fun l_20 =>
  sn 12 63 (osl eI true l_20) <| 
  (rec d q (w64 (k + 1)) o13.1 l_20).bind fun o22 =>
  pl (plains (arr eEmbedding true o22)) <| 
  (app 48 out_6 o22).bind fun l_24 =>
  some l_24
  else
  some out_6) : Option (List Embedding))).bind fun out_26 =>
  some (.inl (out_26, w64 (i_7 + 1)))
  else
  some (.inr out_6) : (List Embedding) × Int → Option (((List Embedding) × Int) ⊕ (List Embedding)))) ?_
 exact go
instance i135 : ∀ (n : Nat) d q k vals facts, Rn cx (f135 n d q k vals facts) 135 [(.agg [(ssl eRelation d.Relations), (ssl eFact d.Facts)]), (.agg [(iT q.VariableCount), (ssl eAtom q.Atoms), (ssl eI q.Free)]), (iT k), (ssl eI vals), (ssl eI facts)] (fun (r : (List Embedding)) => (osl eEmbedding true r)) (fun r => []) := by
 intro n
 induction n with
 | zero => intro d q k vals facts; exact ⟨fun r h => by simp [f135] at h⟩
 | succ n ih =>
  intro d q k vals facts
  refine Rn.of (e := (
   if k = (q.Atoms.length : Int) then
   (app 8 ([]) vals).bind fun l_2 =>
   (app 8 ([]) facts).bind fun l_4 =>
   sn 6 22 (osl eI true l_2) <| 
   sn 0 25 (osl eI true l_4) <| 
   sn 3 10 (osl eEmbedding true ([({ Values := l_2, Facts := l_4 } : Embedding)])) <| 
   some ([({ Values := l_2, Facts := l_4 } : Embedding)])
   else
   sn 2 11 (osl eEmbedding true ([])) <| 
   (iter (f135_0 d q k vals facts (f135 n)) ([], 0)).bind fun out_29 =>
   some out_29 : Option (List Embedding))) rfl rfl (by decide) rfl ?_
  exact go
instance : Io0 cx 135 := ⟨rfl⟩
instance i111 {d : Database} {q : Query} : Rn cx (f111 d q) 111 [(.agg [(ssl eRelation d.Relations), (ssl eFact d.Facts)]), (.agg [(iT q.VariableCount), (ssl eAtom q.Atoms), (ssl eI q.Free)])] (fun (r : (List Embedding)) => (osl eEmbedding true r)) (fun r => []) := by
 refine Rn.of (e := (
  (f63 d q).bind fun o1 =>
  if ¬ (o1 = true) then
  sn 2 4 (osl eEmbedding true ([])) <| 
  some ([])
  else
  sn 5 15 (osl eI true ([])) <| 
  (f136 q.VariableCount).bind fun o4 =>
  (f135 64 d q 0 o4 ([])).bind fun o6 =>
  some o6 : Option (List Embedding))) rfl rfl (by decide) rfl ?_
 exact go
instance : Io0 cx 111 := ⟨rfl⟩
instance i112_1 {l : (List Int)} {out_1 : (List Int)} {i_2 : Int} : Lp cx (f112_1 l out_1 i_2) 47 L112_1 (fun (zs : Int) => [(0, .v (ssl eI l)), (3, .v (ssl eI out_1)), (4, .v (iT i_2)), (5, .v (iT zs))]) (QX 2 (fun (y : Int) => [(0, .v (ssl eI l)), (3, .v (ssl eI out_1)), (4, .v (iT i_2)), (5, .v (iT y))])) := by
 refine Lp.of (f := (fun
 | k_4 =>
  (jn (QN (fun (y : Bool) => [(0, .v (ssl eI l)), (3, .v (ssl eI out_1)), (4, .v (iT i_2)), (5, .v (iT k_4)), (28, .v (.bool y))])) ((if k_4 > 0 then
  (ix out_1 (w64 (k_4 - 1))).bind fun v_8 =>
  (ix l i_2).bind fun v_10 =>
  some (decide (v_8 > v_10))
  else
  some false) : Option (Bool))).bind fun x_5 =>
  if x_5 = true then
  some (.inl (w64 (k_4 - 1)))
  else
  some (.inr k_4) : Int → Option (Int ⊕ Int))) ?_
 exact go
instance i112_0 {l : (List Int)} : Lp cx (f112_0 l) 47 L112_0 (fun (zs : (List Int) × Int) => [(0, .v (ssl eI l)), (3, .v (ssl eI zs.1)), (4, .v (iT zs.2))]) (QX 0 (fun (y : (List Int)) => [(3, .v (ssl eI y))])) := by
 refine Lp.of (f := (fun
 | (out_1, i_2) =>
  if i_2 < (l.length : Int) then
  (iter (f112_1 l out_1 i_2) (out_1.length : Int)).bind fun k_15 =>
  (cutL out_1 0 k_15).bind fun l_16 =>
  (ix l i_2).bind fun v_18 =>
  (cutL out_1 k_15 out_1.length).bind fun l_20 =>
  (app 8 ([]) l_16).bind fun l_22 =>
  (app 8 l_22 ([v_18])).bind fun l_24 =>
  (app 8 l_24 l_20).bind fun l_26 =>
  sn 16 3 (osl eI true l_26) <| 
  sn 0 3 (ssl eI l_26) <| 
  some (.inl (l_26, w64 (i_2 + 1)))
  else
  some (.inr out_1) : (List Int) × Int → Option (((List Int) × Int) ⊕ (List Int)))) ?_
 exact go
instance i112 {l : (List Int)} : Rn cx (f112 l) 112 [(ssl eI l)] (fun (r : (List Int)) => (ssl eI r)) (fun r => []) := by
 refine Rn.of (e := (
  sn 3 3 (osl eI true ([])) <| 
  sn 0 3 (ssl eI ([])) <| 
  (iter (f112_0 l) ([], 0)).bind fun out_30 =>
  some out_30 : Option (List Int))) rfl rfl (by decide) rfl ?_
 exact go
instance : Io0 cx 112 := ⟨rfl⟩
instance i96_0 {d : Database} {l : (List Int)} : Lp cx (f96_0 d l) 38 L96_0 (fun (zs : Int) => [(1, .v (ssl eI l)), (2, .v (.ptr true [(ssl eRelation d.Relations), (ssl eFact d.Facts)])), (5, .v (iT zs))]) (QO (QX 0 (fun (y : Unit) => [])) (QR (fun (y : Bool) => [(4, .v (.bool y))]))) := by
 refine Lp.of (f := (fun
 | i_1 =>
  if i_1 < (l.length : Int) then
  (ix l i_1).bind fun v_3 =>
  (f94 v_3 0 (w64 ((d.Facts.length : Int) - 1))).bind fun o5 =>
  (jn (QN (fun (y : Bool) => [(1, .v (ssl eI l)), (2, .v (.ptr true [(ssl eRelation d.Relations), (ssl eFact d.Facts)])), (5, .v (iT i_1)), (37, .v (.bool y))])) ((if ¬ (o5 = true) then
  some true
  else
  (jn (QN (fun (y : Bool) => [(1, .v (ssl eI l)), (2, .v (.ptr true [(ssl eRelation d.Relations), (ssl eFact d.Facts)])), (5, .v (iT i_1)), (37, .v (.bool y))])) ((if i_1 > 0 then
  (ix l (w64 (i_1 - 1))).bind fun v_13 =>
  some (decide (v_3 ≤ v_13))
  else
  some false) : Option (Bool))).bind fun x_10 =>
  some x_10) : Option (Bool))).bind fun x_7 =>
  if x_7 = true then
  some (.inr (.inr false))
  else
  some (.inl (w64 (i_1 + 1)))
  else
  some (.inr (.inl ())) : Int → Option (Int ⊕ (Unit ⊕ Bool)))) ?_
 exact go
instance i96 {d : Database} {l : (List Int)} : Rn cx (f96 d l) 96 [(.agg [(ssl eRelation d.Relations), (ssl eFact d.Facts)]), (ssl eI l)] (fun (r : Bool) => (.bool r)) (fun r => []) := by
 refine Rn.of rfl rfl (by decide) rfl ?_; unfold f96; exact go
instance : Io0 cx 96 := ⟨rfl⟩
instance i43_0 {d : Database} {l : (List Int)} : Lp cx (f43_0 d l) 51 L43_0 (fun (zs : (List Relation) × (List Fact) × Int) => [(1, .v (ssl eI l)), (2, .v (.ptr true [(ssl eRelation d.Relations), (ssl eFact d.Facts)])), (4, .v (.ptr true [(osl eRelation true ([])), (osl eFact true ([]))])), (6, .v (.ptr true [(osl eRelation true zs.1), (osl eFact true zs.2.1)])), (7, .v (iT zs.2.2))]) (QX 0 (fun (y : (List Relation) × (List Fact)) => [(4, .v (.ptr true [(osl eRelation true ([])), (osl eFact true ([]))])), (6, .v (.ptr true [(osl eRelation true y.1), (osl eFact true y.2)]))])) := by
 refine Lp.of (f := (fun
 | (x_11, x_12, i_13) =>
  if i_13 < (l.length : Int) then
  (ix l i_13).bind fun v_15 =>
  (ix d.Facts v_15).bind fun v_17 =>
  (app 8 ([]) v_17.Values).bind fun l_19 =>
  sn 18 45 (osl eI true l_19) <| 
  (app 32 x_12 ([({ Relation := v_17.Relation, Values := l_19 } : Fact)])).bind fun l_21 =>
  some (.inl (x_11, l_21, w64 (i_13 + 1)))
  else
  some (.inr (x_11, x_12)) : (List Relation) × (List Fact) × Int → Option (((List Relation) × (List Fact) × Int) ⊕ ((List Relation) × (List Fact))))) ?_
 exact go
instance i43 {d : Database} {l : (List Int)} : Rn cx (f43 d l) 43 [(.agg [(ssl eRelation d.Relations), (ssl eFact d.Facts)]), (ssl eI l)] (fun (r : Database × Bool) => (.tup [(.agg [(osl eRelation true r.1.Relations), (osl eFact true r.1.Facts)]), (.bool r.2)])) (fun r => []) := by
 refine Rn.of (e := (
  sn 3 4 (.ptr true [(osl eRelation true ([])), (osl eFact true ([]))]) <| 
  (f93 d).bind fun o1 =>
  (jn (QN (fun (y : Bool) => [(1, .v (ssl eI l)), (2, .v (.ptr true [(ssl eRelation d.Relations), (ssl eFact d.Facts)])), (4, .v (.ptr true [(osl eRelation true ([])), (osl eFact true ([]))])), (17, .v (.bool y))])) ((if ¬ (o1 = true) then
  some true
  else
  (f96 d l).bind fun o6 =>
  some (decide (¬ (o6 = true)))) : Option (Bool))).bind fun x_3 =>
  if x_3 = true then
  sn 1 18 (.agg [(osl eRelation true ([])), (osl eFact true ([]))]) <| 
  some (({ Relations := [], Facts := [] } : Database), false)
  else
  (app 32 ([]) d.Relations).bind fun l_9 =>
  sn 4 22 (osl eRelation true l_9) <| 
  sn 2 23 (.agg [(osl eRelation true l_9), (osl eFact true ([]))]) <| 
  (iter (f43_0 d l) (l_9, [], 0)).bind fun (x_25, x_26) =>
  some (({ Relations := x_25, Facts := x_26 } : Database), true) : Option (Database × Bool))) rfl rfl (by decide) rfl ?_
 exact go
instance : Io0 cx 43 := ⟨rfl⟩
instance i128 {l : (List Relation)} {f : Fact} : Rn cx (f128 l f) 128 [(ssl eRelation l), (.agg [(iT f.Relation), (ssl eI f.Values)])] (fun (r : (List Int)) => (osl eI true r)) (fun r => []) := by
 refine Rn.of (e := (
  (f124 l f).bind fun o1 =>
  if ¬ (o1 = true) then
  sn 2 4 (osl eI true ([])) <| 
  some ([])
  else
  (ix l f.Relation).bind fun v_4 =>
  (cutL f.Values 0 v_4.KeyLength).bind fun l_6 =>
  (app 8 ([]) l_6).bind fun l_8 =>
  sn 12 4 (osl eI true l_8) <| 
  some l_8 : Option (List Int))) rfl rfl (by decide) rfl ?_
 exact go
instance : Io0 cx 128 := ⟨rfl⟩
instance i95 {l : (List Relation)} {a : Fact} {b : Fact} : Rn cx (f95 l a b) 95 [(ssl eRelation l), (.agg [(iT a.Relation), (ssl eI a.Values)]), (.agg [(iT b.Relation), (ssl eI b.Values)])] (fun (r : Bool) => (.bool r)) (fun r => []) := by
 refine Rn.of (e := (
  (f124 l a).bind fun o1 =>
  (jn (QN (fun (y : Bool) => [(0, .v (ssl eRelation l)), (6, .v (.bool y))])) ((if o1 = true then
  (f124 l b).bind fun o6 =>
  (jn (QN (fun (y : Bool) => [(0, .v (ssl eRelation l)), (6, .v (.bool y))])) ((if o6 = true then
  (jn (QN (fun (y : Bool) => [(0, .v (ssl eRelation l)), (6, .v (.bool y))])) ((if a.Relation = b.Relation then
  (f128 l a).bind fun o14 =>
  (f128 l b).bind fun o16 =>
  (f127 o14 o16).bind fun o18 =>
  some (decide (o18 = 0))
  else
  some false) : Option (Bool))).bind fun x_11 =>
  some x_11
  else
  some false) : Option (Bool))).bind fun x_8 =>
  some x_8
  else
  some false) : Option (Bool))).bind fun x_3 =>
  some x_3 : Option Bool)) rfl rfl (by decide) rfl ?_
 exact go
instance : Io0 cx 95 := ⟨rfl⟩
instance i41_0 {d : Database} {i : Int} : Lp cx (f41_0 d i) 45 L41_0 (fun (zs : (List Int) × Int) => [(1, .v (iT i)), (2, .v (.ptr true [(ssl eRelation d.Relations), (ssl eFact d.Facts)])), (5, .v (osl eI true zs.1)), (6, .v (iT zs.2))]) (QX 0 (fun (y : (List Int)) => [(5, .v (osl eI true y))])) := by
 refine Lp.of (f := (fun
 | (out_1, k_2) =>
  (jn (QN (fun (y : Bool) => [(1, .v (iT i)), (2, .v (.ptr true [(ssl eRelation d.Relations), (ssl eFact d.Facts)])), (5, .v (osl eI true out_1)), (6, .v (iT k_2)), (24, .v (.bool y))])) ((if k_2 < (d.Facts.length : Int) then
  (f93 d).bind fun o6 =>
  (jn (QN (fun (y : Bool) => [(1, .v (iT i)), (2, .v (.ptr true [(ssl eRelation d.Relations), (ssl eFact d.Facts)])), (5, .v (osl eI true out_1)), (6, .v (iT k_2)), (24, .v (.bool y))])) ((if o6 = true then
  (f94 i 0 (w64 ((d.Facts.length : Int) - 1))).bind fun o11 =>
  some o11
  else
  some false) : Option (Bool))).bind fun x_8 =>
  some x_8
  else
  some false) : Option (Bool))).bind fun x_3 =>
  if x_3 = true then
  (ix d.Facts i).bind fun v_14 =>
  (ix d.Facts k_2).bind fun v_16 =>
  (f95 d.Relations v_14 v_16).bind fun o18 =>
  (jn (QN (fun (y : (List Int)) => [(1, .v (iT i)), (2, .v (.ptr true [(ssl eRelation d.Relations), (ssl eFact d.Facts)])), (5, .v (osl eI true y)), (6, .v (iT k_2))])) ((if o18 = true then
  (app 8 out_1 ([k_2])).bind fun l_23 =>
  some l_23
  else
  some out_1) : Option (List Int))).bind fun out_25 =>
  some (.inl (out_25, w64 (k_2 + 1)))
  else
  some (.inr out_1) : (List Int) × Int → Option (((List Int) × Int) ⊕ (List Int)))) ?_
 exact go
instance i41 {d : Database} {i : Int} : Rn cx (f41 d i) 41 [(.agg [(ssl eRelation d.Relations), (ssl eFact d.Facts)]), (iT i)] (fun (r : (List Int)) => (osl eI true r)) (fun r => []) := by
 refine Rn.of (e := (
  sn 4 5 (osl eI true ([])) <| 
  (iter (f41_0 d i) ([], 0)).bind fun out_28 =>
  some out_28 : Option (List Int))) rfl rfl (by decide) rfl ?_
 exact go
instance : Io0 cx 41 := ⟨rfl⟩
instance i67_0 {d : Database} : Lp cx (f67_0 d) 31 L67_0 (fun (zs : (List (List Int)) × Int) => [(1, .v (.ptr true [(ssl eRelation d.Relations), (ssl eFact d.Facts)])), (3, .v (osl (eL eI) true zs.1)), (4, .v (iT zs.2))]) (QX 0 (fun (y : (List (List Int))) => [(3, .v (osl (eL eI) true y))])) := by
 refine Lp.of (f := (fun
 | (out_1, i_2) =>
  (jn (QN (fun (y : Bool) => [(1, .v (.ptr true [(ssl eRelation d.Relations), (ssl eFact d.Facts)])), (3, .v (osl (eL eI) true out_1)), (4, .v (iT i_2)), (15, .v (.bool y))])) ((if i_2 < (d.Facts.length : Int) then
  (f93 d).bind fun o6 =>
  some o6
  else
  some false) : Option (Bool))).bind fun x_3 =>
  if x_3 = true then
  (f41 d i_2).bind fun o9 =>
  (ix o9 0).bind fun v_11 =>
  (jn (QN (fun (y : (List (List Int))) => [(1, .v (.ptr true [(ssl eRelation d.Relations), (ssl eFact d.Facts)])), (3, .v (osl (eL eI) true y)), (4, .v (iT i_2))])) ((if v_11 = i_2 then
  (app 24 out_1 ([o9])).bind fun l_16 =>
  some l_16
  else
  some out_1) : Option (List (List Int)))).bind fun out_18 =>
  some (.inl (out_18, w64 (i_2 + 1)))
  else
  some (.inr out_1) : (List (List Int)) × Int → Option (((List (List Int)) × Int) ⊕ (List (List Int))))) ?_
 exact go
instance i67 {d : Database} : Rn cx (f67 d) 67 [(.agg [(ssl eRelation d.Relations), (ssl eFact d.Facts)])] (fun (r : (List (List Int))) => (osl (eL eI) true r)) (fun r => []) := by
 refine Rn.of (e := (
  sn 4 3 (osl (eL eI) true ([])) <| 
  (iter (f67_0 d) ([], 0)).bind fun out_21 =>
  some out_21 : Option (List (List Int)))) rfl rfl (by decide) rfl ?_
 exact go
instance : Io0 cx 67 := ⟨rfl⟩
instance i134 {d : Database} : Rn cx (f134 d) 134 [(.agg [(ssl eRelation d.Relations), (ssl eFact d.Facts)])] (fun (r : Bool) => (.bool r)) (fun r => []) := by
 refine Rn.of (e := (
  (f93 d).bind fun o1 =>
  (jn (QN (fun (y : Bool) => [(2, .v (.bool y))])) ((if o1 = true then
  (f67 d).bind fun o6 =>
  some (decide ((o6.length : Int) = (d.Facts.length : Int)))
  else
  some false) : Option (Bool))).bind fun x_3 =>
  some x_3 : Option Bool)) rfl rfl (by decide) rfl ?_
 exact go
instance : Io0 cx 134 := ⟨rfl⟩
end
end Go.Proofs.YtaanfdjhmhifiaaGreatH
