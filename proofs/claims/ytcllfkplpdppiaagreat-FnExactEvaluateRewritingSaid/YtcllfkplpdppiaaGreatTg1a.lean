import Derived.Test.YtcllfkplpdppiaaGreatCx1
import Derived.Test.YtcllfkplpdppiaaGreatX3
import Derived.Test.YtcllfkplpdppiaaGreatTd1
set_option maxHeartbeats 2000000
set_option linter.unusedVariables false
set_option linter.unusedSimpArgs false
set_option linter.defProp false
set_option linter.unusedSectionVars false
set_option maxRecDepth 100000
namespace Go.Proofs.YtcllfkplpdppiaaGreatH
open Go
noncomputable section
abbrev iT (n : Int) : T := .int .i64 n
instance : Cl cx := ⟨fun j h => vsound (fun _ _ _ _ h => h) h, fun f ts t outs h => .ext h⟩
@[simp high] theorem ioz {f : Nat} [h : Io0 cx f] : ioTab f = [] := h.io
@[simp] theorem ioz140 : ioTab 140 = [0] := rfl
@[simp] theorem ioz170 : ioTab 170 = [0] := rfl
@[simp] theorem ioz196 : ioTab 196 = [0] := rfl
@[simp] theorem ioz230 : ioTab 230 = [0] := rfl
@[simp] theorem ioz231 : ioTab 231 = [0] := rfl
@[simp] theorem ioz232 : ioTab 232 = [0] := rfl
@[simp] theorem ioz234 : ioTab 234 = [0] := rfl
@[simp] theorem ioz235 : ioTab 235 = [0] := rfl
@[simp] theorem ioz237 : ioTab 237 = [0] := rfl
@[simp] theorem ioz238 : ioTab 238 = [0] := rfl
@[simp] theorem ioz257 : ioTab 257 = [0] := rfl
@[simp] theorem ioz259 : ioTab 259 = [0] := rfl
@[simp] theorem ioz260 : ioTab 260 = [2] := rfl
@[simp] theorem ioz261 : ioTab 261 = [4] := rfl
@[simp] theorem ioz271 : ioTab 271 = [3] := rfl
instance i92 {a : Relation} {left : Int} : Rn cx (f92 a left) 92 [(.agg [(.str a.Name), (iT a.Arity), (iT a.KeyLength)]), (iT left)] (fun (r : Int) => (iT r)) (fun r => []) := by
 refine Rn.of rfl rfl (by decide) rfl ?_; unfold f92; exact go
instance : Io0 cx 92 := ⟨rfl⟩
instance i26_0 {a : (List Relation)} : Lp cx (f26_0 a) 27 L26_0 (fun (zs : Int × Int) => [(0, .v (ssl eRelation a)), (1, .v (iT zs.1)), (5, .v (iT zs.2))]) (QO (QX 0 (fun (y : Int) => [(1, .v (iT y))])) (QR (fun (y : Int) => [(4, .v (iT y))]))) := by
 refine Lp.of ?_; unfold f26_0; exact go
instance i26 {a : (List Relation)} {left : Int} : Rn cx (f26 a left) 26 [(ssl eRelation a), (iT left)] (fun (r : Int) => (iT r)) (fun r => []) := by
 refine Rn.of rfl rfl (by decide) rfl ?_; unfold f26; exact go
instance : Io0 cx 26 := ⟨rfl⟩
instance i87 {a : (List Int)} {left : Int} : Rn cx (f87 a left) 87 [(ssl eI a), (iT left)] (fun (r : Int) => (iT r)) (fun r => []) := by
 refine Rn.of rfl rfl (by decide) rfl ?_; unfold f87; exact go
instance : Io0 cx 87 := ⟨rfl⟩
instance i148 {a : Fact} {left : Int} : Rn cx (f148 a left) 148 [(.agg [(iT a.Relation), (ssl eI a.Values)]), (iT left)] (fun (r : Int) => (iT r)) (fun r => []) := by
 refine Rn.of rfl rfl (by decide) rfl ?_; unfold f148; exact go
instance : Io0 cx 148 := ⟨rfl⟩
instance i71_0 {a : (List Fact)} : Lp cx (f71_0 a) 27 L71_0 (fun (zs : Int × Int) => [(0, .v (ssl eFact a)), (1, .v (iT zs.1)), (5, .v (iT zs.2))]) (QO (QX 0 (fun (y : Int) => [(1, .v (iT y))])) (QR (fun (y : Int) => [(4, .v (iT y))]))) := by
 refine Lp.of ?_; unfold f71_0; exact go
instance i71 {a : (List Fact)} {left : Int} : Rn cx (f71 a left) 71 [(ssl eFact a), (iT left)] (fun (r : Int) => (iT r)) (fun r => []) := by
 refine Rn.of rfl rfl (by decide) rfl ?_; unfold f71; exact go
instance : Io0 cx 71 := ⟨rfl⟩
instance i11 {a : Database} {left : Int} : Rn cx (f11 a left) 11 [(.agg [(ssl eRelation a.Relations), (ssl eFact a.Facts)]), (iT left)] (fun (r : Int) => (iT r)) (fun r => []) := by
 refine Rn.of rfl rfl (by decide) rfl ?_; unfold f11; exact go
instance : Io0 cx 11 := ⟨rfl⟩
instance i149 {a : Atom} {left : Int} : Rn cx (f149 a left) 149 [(.agg [(iT a.Relation), (ssl eI a.Terms)]), (iT left)] (fun (r : Int) => (iT r)) (fun r => []) := by
 refine Rn.of rfl rfl (by decide) rfl ?_; unfold f149; exact go
instance : Io0 cx 149 := ⟨rfl⟩
instance i72 {a : RewritingStep} {left : Int} : Rn cx (f72 a left) 72 [(.agg [(iT a.Atom.Relation), (ssl eI a.Atom.Terms), (ssl eI a.Existential), (ssl eI a.Universal)]), (iT left)] (fun (r : Int) => (iT r)) (fun r => []) := by
 refine Rn.of rfl rfl (by decide) rfl ?_; unfold f72; exact go
instance : Io0 cx 72 := ⟨rfl⟩
instance i12_0 {a : (List RewritingStep)} : Lp cx (f12_0 a) 27 L12_0 (fun (zs : Int × Int) => [(0, .v (ssl eRewritingStep a)), (1, .v (iT zs.1)), (5, .v (iT zs.2))]) (QO (QX 0 (fun (y : Int) => [(1, .v (iT y))])) (QR (fun (y : Int) => [(4, .v (iT y))]))) := by
 refine Lp.of ?_; unfold f12_0; exact go
instance i12 {a : (List RewritingStep)} {left : Int} : Rn cx (f12 a left) 12 [(ssl eRewritingStep a), (iT left)] (fun (r : Int) => (iT r)) (fun r => []) := by
 refine Rn.of rfl rfl (by decide) rfl ?_; unfold f12; exact go
instance : Io0 cx 12 := ⟨rfl⟩
instance i98 {a : Relation} : Rn cx (f98 a) 98 [(.agg [(.str a.Name), (iT a.Arity), (iT a.KeyLength)])] (fun (r : Relation) => (.agg [(.str r.Name), (iT r.Arity), (iT r.KeyLength)])) (fun r => []) := by
 refine Rn.of rfl rfl (by decide) rfl ?_; unfold f98; exact go
instance : Io0 cx 98 := ⟨rfl⟩
instance i28_0 {a : (List Relation)} : Lp cx (f28_0 a) 23 L28_0 (fun (zs : (List Relation) × Int) => [(0, .v (ssl eRelation a)), (3, .v (osl eRelation true zs.1)), (4, .v (iT zs.2))]) (QX 0 (fun (y : (List Relation)) => [(3, .v (osl eRelation true y))])) := by
 refine Lp.of ?_; unfold f28_0; exact go
instance i28 {a : (List Relation)} : Rn cx (f28 a) 28 [(ssl eRelation a)] (fun (r : (List Relation)) => (osl eRelation true r)) (fun r => []) := by
 refine Rn.of (e := (
  (mkl 32 (a.length : Int) ({ Name := [], Arity := 0, KeyLength := 0 } : Relation)).bind fun l_1 =>
  sn 5 3 (osl eRelation true l_1) <| 
  (iter (f28_0 a) (l_1, 0)).bind fun out_15 =>
  some out_15 : Option (List Relation))) rfl rfl (by decide) rfl ?_
 exact go
instance : Io0 cx 28 := ⟨rfl⟩
instance i16_0 {a : (List Int)} : Lp cx (f16_0 a) 22 L16_0 (fun (zs : (List Int) × Int) => [(0, .v (ssl eI a)), (3, .v (osl eI true zs.1)), (4, .v (iT zs.2))]) (QX 0 (fun (y : (List Int)) => [(3, .v (osl eI true y))])) := by
 refine Lp.of ?_; unfold f16_0; exact go
instance i16 {a : (List Int)} : Rn cx (f16 a) 16 [(ssl eI a)] (fun (r : (List Int)) => (osl eI true r)) (fun r => []) := by
 refine Rn.of (e := (
  (mkl 8 (a.length : Int) 0).bind fun l_1 =>
  sn 5 3 (osl eI true l_1) <| 
  (iter (f16_0 a) (l_1, 0)).bind fun out_13 =>
  some out_13 : Option (List Int))) rfl rfl (by decide) rfl ?_
 exact go
instance : Io0 cx 16 := ⟨rfl⟩
instance i154 {a : Fact} : Rn cx (f154 a) 154 [(.agg [(iT a.Relation), (ssl eI a.Values)])] (fun (r : Fact) => (.agg [(iT r.Relation), (osl eI true r.Values)])) (fun r => []) := by
 refine Rn.of (e := (
  sn 2 2 (.ptr true [(iT 0), (osl eI true ([]))]) <| 
  sn 1 3 (.ptr true [(iT 0), (osl eI true ([]))]) <| 
  (f16 a.Values).bind fun o1 =>
  some ({ Relation := a.Relation, Values := o1 } : Fact) : Option Fact)) rfl rfl (by decide) rfl ?_
 exact go
instance : Io0 cx 154 := ⟨rfl⟩
instance i77_0 {a : (List Fact)} : Lp cx (f77_0 a) 23 L77_0 (fun (zs : (List Fact) × Int) => [(0, .v (ssl eFact a)), (3, .v (osl eFact true zs.1)), (4, .v (iT zs.2))]) (QX 0 (fun (y : (List Fact)) => [(3, .v (osl eFact true y))])) := by
 refine Lp.of ?_; unfold f77_0; exact go
instance i77 {a : (List Fact)} : Rn cx (f77 a) 77 [(ssl eFact a)] (fun (r : (List Fact)) => (osl eFact true r)) (fun r => []) := by
 refine Rn.of (e := (
  (mkl 32 (a.length : Int) (({ Relation := 0, Values := [] } : Fact) : Fact)).bind fun l_1 =>
  sn 5 3 (osl eFact true l_1) <| 
  (iter (f77_0 a) (l_1, 0)).bind fun out_15 =>
  some out_15 : Option (List Fact))) rfl rfl (by decide) rfl ?_
 exact go
instance : Io0 cx 77 := ⟨rfl⟩
instance i14 {a : Database} : Rn cx (f14 a) 14 [(.agg [(ssl eRelation a.Relations), (ssl eFact a.Facts)])] (fun (r : Database) => (.agg [(osl eRelation true r.Relations), (osl eFact true r.Facts)])) (fun r => []) := by
 refine Rn.of (e := (
  sn 2 2 (.ptr true [(osl eRelation true ([])), (osl eFact true ([]))]) <| 
  sn 1 3 (.ptr true [(osl eRelation true ([])), (osl eFact true ([]))]) <| 
  (f28 a.Relations).bind fun o1 =>
  (f77 a.Facts).bind fun o3 =>
  some ({ Relations := o1, Facts := o3 } : Database) : Option Database)) rfl rfl (by decide) rfl ?_
 exact go
instance : Io0 cx 14 := ⟨rfl⟩
instance i155 {a : Atom} : Rn cx (f155 a) 155 [(.agg [(iT a.Relation), (ssl eI a.Terms)])] (fun (r : Atom) => (.agg [(iT r.Relation), (osl eI true r.Terms)])) (fun r => []) := by
 refine Rn.of (e := (
  sn 2 2 (.ptr true [(iT 0), (osl eI true ([]))]) <| 
  sn 1 3 (.ptr true [(iT 0), (osl eI true ([]))]) <| 
  (f16 a.Terms).bind fun o1 =>
  some ({ Relation := a.Relation, Terms := o1 } : Atom) : Option Atom)) rfl rfl (by decide) rfl ?_
 exact go
instance : Io0 cx 155 := ⟨rfl⟩
instance i78 {a : RewritingStep} : Rn cx (f78 a) 78 [(.agg [(iT a.Atom.Relation), (ssl eI a.Atom.Terms), (ssl eI a.Existential), (ssl eI a.Universal)])] (fun (r : RewritingStep) => (.agg [(iT r.Atom.Relation), (osl eI true r.Atom.Terms), (osl eI true r.Existential), (osl eI true r.Universal)])) (fun r => []) := by
 refine Rn.of (e := (
  sn 2 2 (.ptr true [(iT 0), (osl eI true ([])), (osl eI true ([])), (osl eI true ([]))]) <| 
  sn 1 3 (.ptr true [(iT 0), (osl eI true ([])), (osl eI true ([])), (osl eI true ([]))]) <| 
  (f155 a.Atom).bind fun o1 =>
  (f16 a.Existential).bind fun o3 =>
  (f16 a.Universal).bind fun o5 =>
  some ({ Atom := o1, Existential := o3, Universal := o5 } : RewritingStep) : Option RewritingStep)) rfl rfl (by decide) rfl ?_
 exact go
instance : Io0 cx 78 := ⟨rfl⟩
instance i15_0 {a : (List RewritingStep)} : Lp cx (f15_0 a) 23 L15_0 (fun (zs : (List RewritingStep) × Int) => [(0, .v (ssl eRewritingStep a)), (3, .v (osl eRewritingStep true zs.1)), (4, .v (iT zs.2))]) (QX 0 (fun (y : (List RewritingStep)) => [(3, .v (osl eRewritingStep true y))])) := by
 refine Lp.of ?_; unfold f15_0; exact go
instance i15 {a : (List RewritingStep)} : Rn cx (f15 a) 15 [(ssl eRewritingStep a)] (fun (r : (List RewritingStep)) => (osl eRewritingStep true r)) (fun r => []) := by
 refine Rn.of (e := (
  (mkl 80 (a.length : Int) (({ Atom := ({ Relation := 0, Terms := [] } : Atom), Existential := [], Universal := [] } : RewritingStep) : RewritingStep)).bind fun l_1 =>
  sn 5 3 (osl eRewritingStep true l_1) <| 
  (iter (f15_0 a) (l_1, 0)).bind fun out_15 =>
  some out_15 : Option (List RewritingStep))) rfl rfl (by decide) rfl ?_
 exact go
instance : Io0 cx 15 := ⟨rfl⟩
instance i118 {x : Int} {low : Int} {high : Int} : Rn cx (f118 x low high) 118 [(iT x), (iT low), (iT high)] (fun (r : Bool) => (.bool r)) (fun r => []) := by
 refine Rn.of (e := (
  (jn (QN (fun (y : Bool) => [(6, .v (.bool y))])) ((if x ≥ low then
  some (decide (x ≤ high))
  else
  some false) : Option (Bool))).bind fun x_1 =>
  some x_1 : Option Bool)) rfl rfl (by decide) rfl ?_
 exact go
instance : Io0 cx 118 := ⟨rfl⟩
instance i179 {s0 : Relation} : Rn cx (f179 s0) 179 [(.agg [(.str s0.Name), (iT s0.Arity), (iT s0.KeyLength)])] (fun (r : Bool) => (.bool r)) (fun r => []) := by
 refine Rn.of (e := (
  (jn (QN (fun (y : Bool) => [(2, .v (.bool y))])) ((if (s0.Name.length : Int) = 1 then
  (ix s0.Name 0).bind fun c_4 =>
  (jn (QN (fun (y : Bool) => [(2, .v (.bool y))])) ((if (c_4.toNat : Int) ≥ 97 then
  (jn (QN (fun (y : Bool) => [(2, .v (.bool y))])) ((if (c_4.toNat : Int) ≤ 122 then
  (f118 s0.Arity 1 3).bind fun o12 =>
  (jn (QN (fun (y : Bool) => [(2, .v (.bool y))])) ((if o12 = true then
  (f118 s0.KeyLength 0 s0.Arity).bind fun o17 =>
  some o17
  else
  some false) : Option (Bool))).bind fun x_14 =>
  some x_14
  else
  some false) : Option (Bool))).bind fun x_9 =>
  some x_9
  else
  some false) : Option (Bool))).bind fun x_6 =>
  some x_6
  else
  some false) : Option (Bool))).bind fun x_1 =>
  some x_1 : Option Bool)) rfl rfl (by decide) rfl ?_
 exact go
instance : Io0 cx 179 := ⟨rfl⟩
instance i117_0 {l : (List Relation)} : Lp cx (f117_0 l) 37 L117_0 (fun (zs : Int) => [(0, .v (ssl eRelation l)), (3, .v (iT zs))]) (QO (QX 0 (fun (y : Unit) => [(0, .v (ssl eRelation l))])) (QR (fun (y : Bool) => [(2, .v (.bool y))]))) := by
 refine Lp.of (f := (fun
 | i_1 =>
  if i_1 < (l.length : Int) then
  (ix l i_1).bind fun v_3 =>
  (f179 v_3).bind fun o5 =>
  (jn (QN (fun (y : Bool) => [(0, .v (ssl eRelation l)), (3, .v (iT i_1)), (33, .v (.bool y))])) ((if ¬ (o5 = true) then
  some true
  else
  (jn (QN (fun (y : Bool) => [(0, .v (ssl eRelation l)), (3, .v (iT i_1)), (33, .v (.bool y))])) ((if i_1 > 0 then
  (ix l (w64 (i_1 - 1))).bind fun v_13 =>
  some (!(Op.bytesLess v_13.Name v_3.Name))
  else
  some false) : Option (Bool))).bind fun x_10 =>
  some x_10) : Option (Bool))).bind fun x_7 =>
  if x_7 = true then
  some (.inr (.inr false))
  else
  some (.inl (w64 (i_1 + 1)))
  else
  some (.inr (.inl ())) : Int → Option (Int ⊕ (Unit ⊕ Bool)))) ?_
 exact go
instance i117 {l : (List Relation)} : Rn cx (f117 l) 117 [(ssl eRelation l)] (fun (r : Bool) => (.bool r)) (fun r => []) := by
 refine Rn.of rfl rfl (by decide) rfl ?_; unfold f117; exact go
instance : Io0 cx 117 := ⟨rfl⟩
instance i150_0 {f : Fact} : Lp cx (f150_0 f) 44 L150_0 (fun (zs : Int) => [(3, .v (.ptr true [(iT f.Relation), (ssl eI f.Values)])), (5, .v (iT zs))]) (QO (QX 0 (fun (y : Unit) => [])) (QR (fun (y : Bool) => [(4, .v (.bool y))]))) := by
 refine Lp.of ?_; unfold f150_0; exact go
instance i150 {l : (List Relation)} {f : Fact} : Rn cx (f150 l f) 150 [(ssl eRelation l), (.agg [(iT f.Relation), (ssl eI f.Values)])] (fun (r : Bool) => (.bool r)) (fun r => []) := by
 refine Rn.of (e := (
  (f117 l).bind fun o1 =>
  (jn (QN (fun (y : Bool) => [(3, .v (.ptr true [(iT f.Relation), (ssl eI f.Values)])), (29, .v (.bool y))])) ((if ¬ (o1 = true) then
  some true
  else
  (f118 f.Relation 0 (w64 ((l.length : Int) - 1))).bind fun o6 =>
  (jn (QN (fun (y : Bool) => [(3, .v (.ptr true [(iT f.Relation), (ssl eI f.Values)])), (29, .v (.bool y))])) ((if ¬ (o6 = true) then
  some true
  else
  (ix l f.Relation).bind fun v_11 =>
  some (decide ((f.Values.length : Int) ≠ v_11.Arity))) : Option (Bool))).bind fun x_8 =>
  some x_8) : Option (Bool))).bind fun x_3 =>
  if x_3 = true then
  some false
  else
  (iter (f150_0 f) 0).bind fun o => match o with
  | .inl _ =>
  some true
  | .inr x_23 =>
  some x_23 : Option Bool)) rfl rfl (by decide) rfl ?_
 exact go
instance : Io0 cx 150 := ⟨rfl⟩
instance i207_0 {a : (List Int)} {b : (List Int)} : Lp cx (f207_0 a b) 46 L207_0 (fun (zs : Int) => [(0, .v (ssl eI a)), (1, .v (ssl eI b)), (5, .v (iT zs))]) (QO (QX 0 (fun (y : Unit) => [(0, .v (ssl eI a)), (1, .v (ssl eI b))])) (QR (fun (y : Int) => [(4, .v (iT y))]))) := by
 refine Lp.of (f := (fun
 | i_1 =>
  (jn (QN (fun (y : Bool) => [(0, .v (ssl eI a)), (1, .v (ssl eI b)), (5, .v (iT i_1)), (15, .v (.bool y))])) ((if i_1 < (a.length : Int) then
  some (decide (i_1 < (b.length : Int)))
  else
  some false) : Option (Bool))).bind fun x_2 =>
  if x_2 = true then
  (ix a i_1).bind fun v_6 =>
  (ix b i_1).bind fun v_8 =>
  if v_6 < v_8 then
  some (.inr (.inr (-1)))
  else
  if v_6 > v_8 then
  some (.inr (.inr 1))
  else
  some (.inl (w64 (i_1 + 1)))
  else
  some (.inr (.inl ())) : Int → Option (Int ⊕ (Unit ⊕ Int)))) ?_
 exact go
instance i207 {a : (List Int)} {b : (List Int)} : Rn cx (f207 a b) 207 [(ssl eI a), (ssl eI b)] (fun (r : Int) => (iT r)) (fun r => []) := by
 refine Rn.of rfl rfl (by decide) rfl ?_; unfold f207; exact go
instance : Io0 cx 207 := ⟨rfl⟩
instance i151 {a : Fact} {b : Fact} : Rn cx (f151 a b) 151 [(.agg [(iT a.Relation), (ssl eI a.Values)]), (.agg [(iT b.Relation), (ssl eI b.Values)])] (fun (r : Int) => (iT r)) (fun r => []) := by
 refine Rn.of rfl rfl (by decide) rfl ?_; unfold f151; exact go
instance : Io0 cx 151 := ⟨rfl⟩
instance i73_0 {d : Database} : Lp cx (f73_0 d) 48 L73_0 (fun (zs : Int) => [(1, .v (.ptr true [(ssl eRelation d.Relations), (ssl eFact d.Facts)])), (3, .v (iT zs))]) (QO (QX 0 (fun (y : Unit) => [(1, .v (.ptr true [(ssl eRelation d.Relations), (ssl eFact d.Facts)]))])) (QR (fun (y : Bool) => [(2, .v (.bool y))]))) := by
 refine Lp.of (f := (fun
 | i_1 =>
  if i_1 < (d.Facts.length : Int) then
  (ix d.Facts i_1).bind fun v_3 =>
  (f150 d.Relations v_3).bind fun o5 =>
  (jn (QN (fun (y : Bool) => [(1, .v (.ptr true [(ssl eRelation d.Relations), (ssl eFact d.Facts)])), (3, .v (iT i_1)), (38, .v (.bool y))])) ((if ¬ (o5 = true) then
  some true
  else
  (jn (QN (fun (y : Bool) => [(1, .v (.ptr true [(ssl eRelation d.Relations), (ssl eFact d.Facts)])), (3, .v (iT i_1)), (38, .v (.bool y))])) ((if i_1 > 0 then
  (ix d.Facts (w64 (i_1 - 1))).bind fun v_13 =>
  (f151 v_13 v_3).bind fun o15 =>
  some (decide (o15 ≥ 0))
  else
  some false) : Option (Bool))).bind fun x_10 =>
  some x_10) : Option (Bool))).bind fun x_7 =>
  if x_7 = true then
  some (.inr (.inr false))
  else
  some (.inl (w64 (i_1 + 1)))
  else
  some (.inr (.inl ())) : Int → Option (Int ⊕ (Unit ⊕ Bool)))) ?_
 exact go
instance i73 {d : Database} : Rn cx (f73 d) 73 [(.agg [(ssl eRelation d.Relations), (ssl eFact d.Facts)])] (fun (r : Bool) => (.bool r)) (fun r => []) := by
 refine Rn.of (e := (
  (iter (f73_0 d) 0).bind fun o => match o with
  | .inl _ =>
  (f117 d.Relations).bind fun o21 =>
  (jn (QN (fun (y : Bool) => [(2, .v (.bool y))])) ((if o21 = true then
  some (decide ((d.Facts.length : Int) ≤ 14))
  else
  some false) : Option (Bool))).bind fun x_23 =>
  some x_23
  | .inr x_20 =>
  some x_20 : Option Bool)) rfl rfl (by decide) rfl ?_
 exact go
instance : Io0 cx 73 := ⟨rfl⟩
instance i95_0 {l : (List Int)} {x : Int} : Lp cx (f95_0 l x) 18 L95_0 (fun (zs : Int) => [(0, .v (ssl eI l)), (1, .v (iT x)), (5, .v (iT zs))]) (QO (QX 0 (fun (y : Unit) => [])) (QR (fun (y : Bool) => [(4, .v (.bool y))]))) := by
 refine Lp.of ?_; unfold f95_0; exact go
instance i95 {l : (List Int)} {x : Int} : Rn cx (f95 l x) 95 [(ssl eI l), (iT x)] (fun (r : Bool) => (.bool r)) (fun r => []) := by
 refine Rn.of rfl rfl (by decide) rfl ?_; unfold f95; exact go
instance : Io0 cx 95 := ⟨rfl⟩
instance i120_0 {a : Atom} : Lp cx (f120_0 a) 19 L120_0 (fun (zs : (List Int) × Int) => [(1, .v (.ptr true [(iT a.Relation), (ssl eI a.Terms)])), (3, .v (osl eI true zs.1)), (4, .v (iT zs.2))]) (QX 0 (fun (y : (List Int)) => [(3, .v (osl eI true y))])) := by
 refine Lp.of (f := (fun
 | (out_1, v_2) =>
  if v_2 < 4 then
  (f95 a.Terms v_2).bind fun o4 =>
  (jn (QN (fun (y : (List Int)) => [(1, .v (.ptr true [(iT a.Relation), (ssl eI a.Terms)])), (3, .v (osl eI true y)), (4, .v (iT v_2))])) ((if o4 = true then
  (app 8 out_1 ([v_2])).bind fun l_9 =>
  some l_9
  else
  some out_1) : Option (List Int))).bind fun out_11 =>
  some (.inl (out_11, w64 (v_2 + 1)))
  else
  some (.inr out_1) : (List Int) × Int → Option (((List Int) × Int) ⊕ (List Int)))) ?_
 exact go
instance i120 {a : Atom} : Rn cx (f120 a) 120 [(.agg [(iT a.Relation), (ssl eI a.Terms)])] (fun (r : (List Int)) => (osl eI true r)) (fun r => []) := by
 refine Rn.of (e := (
  sn 4 3 (osl eI true ([])) <| 
  (iter (f120_0 a) ([], 0)).bind fun out_14 =>
  some out_14 : Option (List Int))) rfl rfl (by decide) rfl ?_
 exact go
instance : Io0 cx 120 := ⟨rfl⟩
instance i96 {l : (List Relation)} {a : Atom} : Rn cx (f96 l a) 96 [(ssl eRelation l), (.agg [(iT a.Relation), (ssl eI a.Terms)])] (fun (r : (List Int)) => (osl eI true r)) (fun r => []) := by
 refine Rn.of (e := (
  (f118 a.Relation 0 (w64 ((l.length : Int) - 1))).bind fun o1 =>
  (jn (QN (fun (y : Bool) => [(0, .v (ssl eRelation l)), (3, .v (.ptr true [(iT a.Relation), (ssl eI a.Terms)])), (24, .v (.bool y))])) ((if ¬ (o1 = true) then
  some true
  else
  (ix l a.Relation).bind fun v_6 =>
  (f118 v_6.KeyLength 0 (a.Terms.length : Int)).bind fun o8 =>
  some (decide (¬ (o8 = true)))) : Option (Bool))).bind fun x_3 =>
  if x_3 = true then
  sn 2 4 (osl eI true ([])) <| 
  some ([])
  else
  (ix l a.Relation).bind fun v_11 =>
  (cutL a.Terms 0 v_11.KeyLength).bind fun l_13 =>
  (f120 ({ Relation := 0, Terms := l_13 } : Atom)).bind fun o15 =>
  some o15 : Option (List Int))) rfl rfl (by decide) rfl ?_
 exact go
instance : Io0 cx 96 := ⟨rfl⟩
instance i152_0 {l : (List Int)} {want : (List Int)} : Lp cx (f152_0 l want) 19 L152_0 (fun (zs : Int) => [(0, .v (ssl eI l)), (1, .v (ssl eI want)), (5, .v (iT zs))]) (QO (QX 0 (fun (y : Unit) => [])) (QR (fun (y : Bool) => [(4, .v (.bool y))]))) := by
 refine Lp.of ?_; unfold f152_0; exact go
instance i152 {l : (List Int)} {want : (List Int)} : Rn cx (f152 l want) 152 [(ssl eI l), (ssl eI want)] (fun (r : Bool) => (.bool r)) (fun r => []) := by
 refine Rn.of rfl rfl (by decide) rfl ?_; unfold f152; exact go
instance : Io0 cx 152 := ⟨rfl⟩
instance i74_1 {l : (List Relation)} {f : (List RewritingStep)} {i_1 : Int} {v_3 : RewritingStep} : Lp cx (lw (l, f, i_1) (f74_1 v_3)) 81 L74_1 (fun (zs : Int) => [(0, .v (ssl eRelation l)), (1, .v (ssl eRewritingStep f)), (5, .v (iT i_1)), (6, .v (.ptr true [(iT v_3.Atom.Relation), (ssl eI v_3.Atom.Terms)])), (7, .v (iT zs))]) (QO (QX 2 (fun (y : Unit) => [(0, .v (ssl eRelation l)), (1, .v (ssl eRewritingStep f)), (5, .v (iT i_1)), (6, .v (.ptr true [(iT v_3.Atom.Relation), (ssl eI v_3.Atom.Terms)]))])) (QR (fun (y : Bool) => [(4, .v (.bool y))]))) := by
 refine Lp.of ?_; unfold lw f74_1; exact go
instance i74_0 {l : (List Relation)} {f : (List RewritingStep)} : Lp cx (f74_0 l f) 81 L74_0 (fun (zs : Int) => [(0, .v (ssl eRelation l)), (1, .v (ssl eRewritingStep f)), (5, .v (iT zs))]) (QO (QX 0 (fun (y : Unit) => [(1, .v (ssl eRewritingStep f))])) (QR (fun (y : Bool) => [(4, .v (.bool y))]))) := by
 refine Lp.of (f := (fun
 | i_1 =>
  if i_1 < (f.length : Int) then
  (ix f i_1).bind fun v_3 =>
  (f117 l).bind fun o5 =>
  (jn (QN (fun (y : Bool) => [(0, .v (ssl eRelation l)), (1, .v (ssl eRewritingStep f)), (5, .v (iT i_1)), (6, .v (.ptr true [(iT v_3.Atom.Relation), (ssl eI v_3.Atom.Terms)])), (42, .v (.bool y))])) ((if ¬ (o5 = true) then
  some true
  else
  (f118 v_3.Atom.Relation 0 (w64 ((l.length : Int) - 1))).bind fun o10 =>
  (jn (QN (fun (y : Bool) => [(0, .v (ssl eRelation l)), (1, .v (ssl eRewritingStep f)), (5, .v (iT i_1)), (6, .v (.ptr true [(iT v_3.Atom.Relation), (ssl eI v_3.Atom.Terms)])), (42, .v (.bool y))])) ((if ¬ (o10 = true) then
  some true
  else
  (ix l v_3.Atom.Relation).bind fun v_15 =>
  some (decide ((v_3.Atom.Terms.length : Int) ≠ v_15.Arity))) : Option (Bool))).bind fun x_12 =>
  some x_12) : Option (Bool))).bind fun x_7 =>
  if x_7 = true then
  some (.inr (.inr false))
  else
  (iter (lw (l, f, i_1)  (f74_1 v_3)) 0).bind fun o => match o with
  | .inl _ =>
  (f96 l v_3.Atom).bind fun o28 =>
  (f152 o28 v_3.Existential).bind fun o30 =>
  (jn (QN (fun (y : Bool) => [(0, .v (ssl eRelation l)), (1, .v (ssl eRewritingStep f)), (5, .v (iT i_1)), (77, .v (.bool y))])) ((if ¬ (o30 = true) then
  some true
  else
  (f120 v_3.Atom).bind fun o35 =>
  (f152 o35 v_3.Universal).bind fun o37 =>
  some (decide (¬ (o37 = true)))) : Option (Bool))).bind fun x_32 =>
  if x_32 = true then
  some (.inr (.inr false))
  else
  some (.inl (w64 (i_1 + 1)))
  | .inr x_27 =>
  some (.inr (.inr x_27))
  else
  some (.inr (.inl ())) : Int → Option (Int ⊕ (Unit ⊕ Bool)))) ?_
 exact go
instance i74 {l : (List Relation)} {f : (List RewritingStep)} : Rn cx (f74 l f) 74 [(ssl eRelation l), (ssl eRewritingStep f)] (fun (r : Bool) => (.bool r)) (fun r => []) := by
 refine Rn.of rfl rfl (by decide) rfl ?_; unfold f74; exact go
instance : Io0 cx 74 := ⟨rfl⟩
instance i75_0 {n0 : Int} : Lp cx (f75_0 n0) 13 L75_0 (fun (zs : (List Int)) => [(0, .v (iT n0)), (3, .v (osl eI true zs))]) (QX 0 (fun (y : (List Int)) => [(3, .v (osl eI true y))])) := by
 refine Lp.of ?_; unfold f75_0; exact go
instance i75 {n0 : Int} : Rn cx (f75 n0) 75 [(iT n0)] (fun (r : (List Int)) => (osl eI true r)) (fun r => []) := by
 refine Rn.of (e := (
  sn 3 3 (osl eI true ([])) <| 
  (iter (f75_0 n0) ([])).bind fun l_7 =>
  some l_7 : Option (List Int))) rfl rfl (by decide) rfl ?_
 exact go
instance : Io0 cx 75 := ⟨rfl⟩
instance i263 {l : (List Relation)} {f : Fact} : Rn cx (f263 l f) 263 [(ssl eRelation l), (.agg [(iT f.Relation), (ssl eI f.Values)])] (fun (r : (List Int)) => (osl eI true r)) (fun r => []) := by
 refine Rn.of (e := (
  (f150 l f).bind fun o1 =>
  if ¬ (o1 = true) then
  sn 2 4 (osl eI true ([])) <| 
  some ([])
  else
  (ix l f.Relation).bind fun v_4 =>
  (cutL f.Values 0 v_4.KeyLength).bind fun l_6 =>
  (app 8 ([]) l_6).bind fun l_8 =>
  sn 12 4 (osl eI true l_8) <| 
  some l_8 : Option (List Int))) rfl rfl (by decide) rfl ?_
 exact go
instance : Io0 cx 263 := ⟨rfl⟩
instance i241 {l : (List Relation)} {a : Fact} {b : Fact} : Rn cx (f241 l a b) 241 [(ssl eRelation l), (.agg [(iT a.Relation), (ssl eI a.Values)]), (.agg [(iT b.Relation), (ssl eI b.Values)])] (fun (r : Bool) => (.bool r)) (fun r => []) := by
 refine Rn.of (e := (
  (f150 l a).bind fun o1 =>
  (jn (QN (fun (y : Bool) => [(0, .v (ssl eRelation l)), (6, .v (.bool y))])) ((if o1 = true then
  (f150 l b).bind fun o6 =>
  (jn (QN (fun (y : Bool) => [(0, .v (ssl eRelation l)), (6, .v (.bool y))])) ((if o6 = true then
  (jn (QN (fun (y : Bool) => [(0, .v (ssl eRelation l)), (6, .v (.bool y))])) ((if a.Relation = b.Relation then
  (f263 l a).bind fun o14 =>
  (f263 l b).bind fun o16 =>
  (f207 o14 o16).bind fun o18 =>
  some (decide (o18 = 0))
  else
  some false) : Option (Bool))).bind fun x_11 =>
  some x_11
  else
  some false) : Option (Bool))).bind fun x_8 =>
  some x_8
  else
  some false) : Option (Bool))).bind fun x_3 =>
  some x_3 : Option Bool)) rfl rfl (by decide) rfl ?_
 exact go
instance : Io0 cx 241 := ⟨rfl⟩
instance i198_0 {d : Database} {i : Int} : Lp cx (f198_0 d i) 45 L198_0 (fun (zs : (List Int) × Int) => [(1, .v (iT i)), (2, .v (.ptr true [(ssl eRelation d.Relations), (ssl eFact d.Facts)])), (5, .v (osl eI true zs.1)), (6, .v (iT zs.2))]) (QX 0 (fun (y : (List Int)) => [(5, .v (osl eI true y))])) := by
 refine Lp.of (f := (fun
 | (out_1, k_2) =>
  (jn (QN (fun (y : Bool) => [(1, .v (iT i)), (2, .v (.ptr true [(ssl eRelation d.Relations), (ssl eFact d.Facts)])), (5, .v (osl eI true out_1)), (6, .v (iT k_2)), (24, .v (.bool y))])) ((if k_2 < (d.Facts.length : Int) then
  (f73 d).bind fun o6 =>
  (jn (QN (fun (y : Bool) => [(1, .v (iT i)), (2, .v (.ptr true [(ssl eRelation d.Relations), (ssl eFact d.Facts)])), (5, .v (osl eI true out_1)), (6, .v (iT k_2)), (24, .v (.bool y))])) ((if o6 = true then
  (f118 i 0 (w64 ((d.Facts.length : Int) - 1))).bind fun o11 =>
  some o11
  else
  some false) : Option (Bool))).bind fun x_8 =>
  some x_8
  else
  some false) : Option (Bool))).bind fun x_3 =>
  if x_3 = true then
  (ix d.Facts i).bind fun v_14 =>
  (ix d.Facts k_2).bind fun v_16 =>
  (f241 d.Relations v_14 v_16).bind fun o18 =>
  (jn (QN (fun (y : (List Int)) => [(1, .v (iT i)), (2, .v (.ptr true [(ssl eRelation d.Relations), (ssl eFact d.Facts)])), (5, .v (osl eI true y)), (6, .v (iT k_2))])) ((if o18 = true then
  (app 8 out_1 ([k_2])).bind fun l_23 =>
  some l_23
  else
  some out_1) : Option (List Int))).bind fun out_25 =>
  some (.inl (out_25, w64 (k_2 + 1)))
  else
  some (.inr out_1) : (List Int) × Int → Option (((List Int) × Int) ⊕ (List Int)))) ?_
 exact go
instance i198 {d : Database} {i : Int} : Rn cx (f198 d i) 198 [(.agg [(ssl eRelation d.Relations), (ssl eFact d.Facts)]), (iT i)] (fun (r : (List Int)) => (osl eI true r)) (fun r => []) := by
 refine Rn.of (e := (
  sn 4 5 (osl eI true ([])) <| 
  (iter (f198_0 d i) ([], 0)).bind fun out_28 =>
  some out_28 : Option (List Int))) rfl rfl (by decide) rfl ?_
 exact go
instance : Io0 cx 198 := ⟨rfl⟩
instance i141_0 {d : Database} : Lp cx (f141_0 d) 31 L141_0 (fun (zs : (List (List Int)) × Int) => [(1, .v (.ptr true [(ssl eRelation d.Relations), (ssl eFact d.Facts)])), (3, .v (osl (eL eI) true zs.1)), (4, .v (iT zs.2))]) (QX 0 (fun (y : (List (List Int))) => [(3, .v (osl (eL eI) true y))])) := by
 refine Lp.of (f := (fun
 | (out_1, i_2) =>
  (jn (QN (fun (y : Bool) => [(1, .v (.ptr true [(ssl eRelation d.Relations), (ssl eFact d.Facts)])), (3, .v (osl (eL eI) true out_1)), (4, .v (iT i_2)), (15, .v (.bool y))])) ((if i_2 < (d.Facts.length : Int) then
  (f73 d).bind fun o6 =>
  some o6
  else
  some false) : Option (Bool))).bind fun x_3 =>
  if x_3 = true then
  (f198 d i_2).bind fun o9 =>
  (ix o9 0).bind fun v_11 =>
  (jn (QN (fun (y : (List (List Int))) => [(1, .v (.ptr true [(ssl eRelation d.Relations), (ssl eFact d.Facts)])), (3, .v (osl (eL eI) true y)), (4, .v (iT i_2))])) ((if v_11 = i_2 then
  (app 24 out_1 ([o9])).bind fun l_16 =>
  some l_16
  else
  some out_1) : Option (List (List Int)))).bind fun out_18 =>
  some (.inl (out_18, w64 (i_2 + 1)))
  else
  some (.inr out_1) : (List (List Int)) × Int → Option (((List (List Int)) × Int) ⊕ (List (List Int))))) ?_
 exact go
instance i141 {d : Database} : Rn cx (f141 d) 141 [(.agg [(ssl eRelation d.Relations), (ssl eFact d.Facts)])] (fun (r : (List (List Int))) => (osl (eL eI) true r)) (fun r => []) := by
 refine Rn.of (e := (
  sn 4 3 (osl (eL eI) true ([])) <| 
  (iter (f141_0 d) ([], 0)).bind fun out_21 =>
  some out_21 : Option (List (List Int)))) rfl rfl (by decide) rfl ?_
 exact go
instance : Io0 cx 141 := ⟨rfl⟩
instance i153_0 {a : Atom} {f : Fact} : Lp cx (f153_0 a f) 79 L153_0 (fun (zs : (List Int) × Int) => [(3, .v (.ptr true [(iT a.Relation), (ssl eI a.Terms)])), (4, .v (.ptr true [(iT f.Relation), (ssl eI f.Values)])), (8, .v (osl eI true zs.1)), (9, .v (iT zs.2))]) (QO (QX 0 (fun (y : (List Int)) => [(8, .v (osl eI true y))])) (QR (fun (y : (List Int) × Bool) => [(6, .v (osl eI true y.1)), (7, .v (.bool y.2))]))) := by
 refine Lp.of (f := (fun
 | (x_7, i_8) =>
  if i_8 < (a.Terms.length : Int) then
  (jb 1 (QO (QN (fun (y : (List Int)) => [(3, .v (.ptr true [(iT a.Relation), (ssl eI a.Terms)])), (4, .v (.ptr true [(iT f.Relation), (ssl eI f.Values)])), (8, .v (osl eI true y)), (9, .v (iT i_8))])) (QR (fun (y : (List Int) × Bool) => [(6, .v (osl eI true y.1)), (7, .v (.bool y.2))]))) (((ix a.Terms i_8).bind fun v_12 =>
  if v_12 < 0 then
  (ix f.Values i_8).bind fun v_15 =>
  if (w64 ((-1) - v_12)) ≠ v_15 then
  some (.inr (x_7, false))
  else
  some (.inl x_7)
  else
  (ix x_7 v_12).bind fun v_18 =>
  (jn (QN (fun (y : Bool) => [(3, .v (.ptr true [(iT a.Relation), (ssl eI a.Terms)])), (4, .v (.ptr true [(iT f.Relation), (ssl eI f.Values)])), (8, .v (osl eI true x_7)), (9, .v (iT i_8)), (10, .v (iT v_12)), (68, .v (.bool y))])) ((if v_18 ≥ 0 then
  (ix f.Values i_8).bind fun v_23 =>
  some (decide (v_18 ≠ v_23))
  else
  some false) : Option (Bool))).bind fun x_20 =>
  if x_20 = true then
  some (.inr (x_7, false))
  else
  (ix f.Values i_8).bind fun v_26 =>
  some (.inl (x_7.set v_12.toNat v_26))) : Option ((List Int) ⊕ ((List Int) × Bool)))).bind fun o => match o with
  | .inl x_29 =>
  some (.inl (x_29, w64 (i_8 + 1)))
  | .inr (x_30, x_31) =>
  some (.inr (.inr (x_30, x_31)))
  else
  some (.inr (.inl x_7)) : (List Int) × Int → Option (((List Int) × Int) ⊕ ((List Int) ⊕ ((List Int) × Bool))))) ?_
 exact go
instance i153 {a : Atom} {f : Fact} {vals : (List Int)} : Rn cx (f153 a f vals) 153 [(.agg [(iT a.Relation), (ssl eI a.Terms)]), (.agg [(iT f.Relation), (ssl eI f.Values)]), (ssl eI vals)] (fun (r : (List Int) × Bool) => (.tup [(osl eI true r.1), (.bool r.2)])) (fun r => []) := by
 refine Rn.of (e := (
  (app 8 ([]) vals).bind fun l_1 =>
  sn 8 8 (osl eI true l_1) <| 
  (jn (QN (fun (y : Bool) => [(3, .v (.ptr true [(iT a.Relation), (ssl eI a.Terms)])), (4, .v (.ptr true [(iT f.Relation), (ssl eI f.Values)])), (8, .v (osl eI true l_1)), (27, .v (.bool y))])) ((if f.Relation ≠ a.Relation then
  some true
  else
  some (decide ((f.Values.length : Int) ≠ (a.Terms.length : Int)))) : Option (Bool))).bind fun x_3 =>
  if x_3 = true then
  some (l_1, false)
  else
  (iter (f153_0 a f) (l_1, 0)).bind fun o => match o with
  | .inl x_34 =>
  some (x_34, true)
  | .inr (x_35, x_36) =>
  some (x_35, x_36) : Option ((List Int) × Bool))) rfl rfl (by decide) rfl ?_
 exact go
instance : Io0 cx 153 := ⟨rfl⟩
instance i76_1 {d : Database} {f : (List RewritingStep)} {n2 : Int} {vals : (List Int)} {v_2 : RewritingStep} {v_4 : Relation} {o6 : (List (List Int))} {i_8 : Int} {o23 : ((List Int) × Bool)} {rec : Database → (List RewritingStep) → Int → (List Int) → Option Bool} [hrec : ∀ d f n2 vals, Rn cx (rec d f n2 vals) 76 [(.agg [(ssl eRelation d.Relations), (ssl eFact d.Facts)]), (ssl eRewritingStep f), (iT n2), (ssl eI vals)] (fun o => (.bool o)) (fun o => [])] : Lp cx (lw (vals, v_4) (f76_1 d f n2 rec v_2 o6 i_8 o23)) 116 L76_1 (fun (zs : Bool × Int) => [(1, .v (ssl eRewritingStep f)), (2, .v (iT n2)), (3, .v (ssl eI vals)), (4, .v (.ptr true [(ssl eRelation d.Relations), (ssl eFact d.Facts)])), (9, .v (.ptr true [(iT v_2.Atom.Relation), (ssl eI v_2.Atom.Terms)])), (10, .v (iT v_4.KeyLength)), (11, .v (osl (eL eI) true o6)), (12, .v (iT i_8)), (14, .v (osl eI true o23.1)), (15, .v (.bool zs.1)), (16, .v (iT zs.2))]) (QX 2 (fun (y : Bool) => [(1, .v (ssl eRewritingStep f)), (2, .v (iT n2)), (3, .v (ssl eI vals)), (4, .v (.ptr true [(ssl eRelation d.Relations), (ssl eFact d.Facts)])), (9, .v (.ptr true [(iT v_2.Atom.Relation), (ssl eI v_2.Atom.Terms)])), (10, .v (iT v_4.KeyLength)), (11, .v (osl (eL eI) true o6)), (12, .v (iT i_8)), (15, .v (.bool y))])) := by
 refine Lp.of (f := (fun
 | (is_25, k_26) =>
  (ix o6 i_8).bind fun v_27 =>
  (jn (QN (fun (y : Bool) => [(1, .v (ssl eRewritingStep f)), (2, .v (iT n2)), (3, .v (ssl eI vals)), (4, .v (.ptr true [(ssl eRelation d.Relations), (ssl eFact d.Facts)])), (9, .v (.ptr true [(iT v_2.Atom.Relation), (ssl eI v_2.Atom.Terms)])), (10, .v (iT v_4.KeyLength)), (11, .v (osl (eL eI) true o6)), (12, .v (iT i_8)), (14, .v (osl eI true o23.1)), (15, .v (.bool is_25)), (16, .v (iT k_26)), (86, .v (.bool y))])) ((if k_26 < (v_27.length : Int) then
  some is_25
  else
  some false) : Option (Bool))).bind fun x_29 =>
  if x_29 = true then
  (ix v_27 k_26).bind fun v_33 =>
  (ix d.Facts v_33).bind fun v_35 =>
  (f153 v_2.Atom v_35 o23.1).bind fun o37 =>
  (jn (QN (fun (y : Bool) => [(1, .v (ssl eRewritingStep f)), (2, .v (iT n2)), (3, .v (ssl eI vals)), (4, .v (.ptr true [(ssl eRelation d.Relations), (ssl eFact d.Facts)])), (9, .v (.ptr true [(iT v_2.Atom.Relation), (ssl eI v_2.Atom.Terms)])), (10, .v (iT v_4.KeyLength)), (11, .v (osl (eL eI) true o6)), (12, .v (iT i_8)), (14, .v (osl eI true o23.1)), (15, .v (.bool y)), (16, .v (iT k_26))])) ((if o37.2 = true then
  (rec d f (w64 (n2 + 1)) o37.1).bind fun o42 =>
  some o42
  else
  some false) : Option (Bool))).bind fun is_39 =>
  some (.inl (is_39, w64 (k_26 + 1)))
  else
  some (.inr is_25) : Bool × Int → Option ((Bool × Int) ⊕ Bool))) ?_
 exact go
instance i76_0 {d : Database} {f : (List RewritingStep)} {n2 : Int} {vals : (List Int)} {v_2 : RewritingStep} {v_4 : Relation} {o6 : (List (List Int))} {rec : Database → (List RewritingStep) → Int → (List Int) → Option Bool} [hrec : ∀ d f n2 vals, Rn cx (rec d f n2 vals) 76 [(.agg [(ssl eRelation d.Relations), (ssl eFact d.Facts)]), (ssl eRewritingStep f), (iT n2), (ssl eI vals)] (fun o => (.bool o)) (fun o => [])] : Lp cx (f76_0 d f n2 vals rec v_2 v_4 o6) 116 L76_0 (fun (zs : Int) => [(1, .v (ssl eRewritingStep f)), (2, .v (iT n2)), (3, .v (ssl eI vals)), (4, .v (.ptr true [(ssl eRelation d.Relations), (ssl eFact d.Facts)])), (9, .v (.ptr true [(iT v_2.Atom.Relation), (ssl eI v_2.Atom.Terms)])), (10, .v (iT v_4.KeyLength)), (11, .v (osl (eL eI) true o6)), (12, .v (iT zs))]) (QO (QX 0 (fun (y : Unit) => [])) (QR (fun (y : Bool) => [(8, .v (.bool y))]))) := by
 refine Lp.of (f := (fun
 | i_8 =>
  if i_8 < (o6.length : Int) then
  (jb 1 (QO (QN (fun (y : Unit) => [(1, .v (ssl eRewritingStep f)), (2, .v (iT n2)), (3, .v (ssl eI vals)), (4, .v (.ptr true [(ssl eRelation d.Relations), (ssl eFact d.Facts)])), (9, .v (.ptr true [(iT v_2.Atom.Relation), (ssl eI v_2.Atom.Terms)])), (10, .v (iT v_4.KeyLength)), (11, .v (osl (eL eI) true o6)), (12, .v (iT i_8))])) (QR (fun (y : Bool) => [(8, .v (.bool y))]))) (((ix o6 i_8).bind fun v_12 =>
  (ix v_12 0).bind fun v_14 =>
  (ix d.Facts v_14).bind fun v_16 =>
  if v_16.Relation ≠ v_2.Atom.Relation then
  some (.inl ())
  else
  (cutL v_2.Atom.Terms 0 v_4.KeyLength).bind fun l_19 =>
  (cutL v_16.Values 0 v_4.KeyLength).bind fun l_21 =>
  (f153 ({ Relation := v_2.Atom.Relation, Terms := l_19 } : Atom) ({ Relation := v_2.Atom.Relation, Values := l_21 } : Fact) vals).bind fun o23 =>
  (iter (lw (vals, v_4)  (f76_1 d f n2 rec v_2 o6 i_8 o23)) (o23.2, 0)).bind fun is_46 =>
  if is_46 = true then
  some (.inr true)
  else
  some (.inl ())) : Option (Unit ⊕ Bool))).bind fun o => match o with
  | .inl _ =>
  some (.inl (w64 (i_8 + 1)))
  | .inr x_48 =>
  some (.inr (.inr x_48))
  else
  some (.inr (.inl ())) : Int → Option (Int ⊕ (Unit ⊕ Bool)))) ?_
 exact go
instance i76 : ∀ (n : Nat) d f n2 vals, Rn cx (f76 n d f n2 vals) 76 [(.agg [(ssl eRelation d.Relations), (ssl eFact d.Facts)]), (ssl eRewritingStep f), (iT n2), (ssl eI vals)] (fun (r : Bool) => (.bool r)) (fun r => []) := by
 intro n
 induction n with
 | zero => intro d f n2 vals; exact ⟨fun r h => by simp [f76] at h⟩
 | succ n ih =>
  intro d f n2 vals
  refine Rn.of rfl rfl (by decide) rfl ?_
  simp only [f76]
  exact go
instance : Io0 cx 76 := ⟨rfl⟩
instance i13_0 {d : Database} {f : (List RewritingStep)} {vals : (List Int)} : Lp cx (lw (d, f) (f13_0 vals)) 43 L13_0 (fun (zs : (List Int) × Int) => [(1, .v (ssl eRewritingStep f)), (2, .v (ssl eI vals)), (3, .v (.ptr true [(ssl eRelation d.Relations), (ssl eFact d.Facts)])), (7, .v (osl eI true zs.1)), (8, .v (iT zs.2))]) (QX 0 (fun (y : (List Int)) => [(1, .v (ssl eRewritingStep f)), (3, .v (.ptr true [(ssl eRelation d.Relations), (ssl eFact d.Facts)])), (7, .v (osl eI true y))])) := by
 refine Lp.of ?_; unfold lw f13_0; exact go
instance i13 {d : Database} {f : (List RewritingStep)} {vals : (List Int)} : Rn cx (f13 d f vals) 13 [(.agg [(ssl eRelation d.Relations), (ssl eFact d.Facts)]), (ssl eRewritingStep f), (ssl eI vals)] (fun (r : Bool) => (.bool r)) (fun r => []) := by
 refine Rn.of (e := (
  (f73 d).bind fun o1 =>
  (jn (QN (fun (y : Bool) => [(1, .v (ssl eRewritingStep f)), (2, .v (ssl eI vals)), (3, .v (.ptr true [(ssl eRelation d.Relations), (ssl eFact d.Facts)])), (23, .v (.bool y))])) ((if ¬ (o1 = true) then
  some true
  else
  (f74 d.Relations f).bind fun o6 =>
  (jn (QN (fun (y : Bool) => [(1, .v (ssl eRewritingStep f)), (2, .v (ssl eI vals)), (3, .v (.ptr true [(ssl eRelation d.Relations), (ssl eFact d.Facts)])), (23, .v (.bool y))])) ((if ¬ (o6 = true) then
  some true
  else
  some (decide ((vals.length : Int) > 4))) : Option (Bool))).bind fun x_8 =>
  some x_8) : Option (Bool))).bind fun x_3 =>
  if x_3 = true then
  some false
  else
  (f75 4).bind fun o12 =>
  (iter (lw (d, f)  (f13_0 vals)) (o12, 0)).bind fun x_24 =>
  (f76 64 d f 0 x_24).bind fun o25 =>
  some o25 : Option Bool)) rfl rfl (by decide) rfl ?_
 exact go
instance : Io0 cx 13 := ⟨rfl⟩
instance i122 {n0 : Int} {low : Int} {high : Int} : Rn cx (f122 n0 low high) 122 [(iT n0), (iT low), (iT high)] (fun (r : Bool) => (.bool r)) (fun r => []) := by
 refine Rn.of (e := (
  (jn (QN (fun (y : Bool) => [(6, .v (.bool y))])) ((if low ≤ n0 then
  some (decide (n0 ≤ high))
  else
  some false) : Option (Bool))).bind fun x_1 =>
  some x_1 : Option Bool)) rfl rfl (by decide) rfl ?_
 exact go
instance : Io0 cx 122 := ⟨rfl⟩
instance i208 {relation : Relation} : Rn cx (f208 relation) 208 [(.agg [(.str relation.Name), (iT relation.Arity), (iT relation.KeyLength)])] (fun (r : Bool) => (.bool r)) (fun r => []) := by
 refine Rn.of (e := (
  (jn (QN (fun (y : Bool) => [(2, .v (.bool y))])) ((if (relation.Name.length : Int) = 1 then
  (ix relation.Name 0).bind fun c_4 =>
  (jn (QN (fun (y : Bool) => [(2, .v (.bool y))])) ((if (c_4.toNat : Int) ≥ 97 then
  (jn (QN (fun (y : Bool) => [(2, .v (.bool y))])) ((if (c_4.toNat : Int) ≤ 122 then
  (f122 relation.Arity 1 3).bind fun o12 =>
  (jn (QN (fun (y : Bool) => [(2, .v (.bool y))])) ((if o12 = true then
  (f122 relation.KeyLength 0 relation.Arity).bind fun o17 =>
  some o17
  else
  some false) : Option (Bool))).bind fun x_14 =>
  some x_14
  else
  some false) : Option (Bool))).bind fun x_9 =>
  some x_9
  else
  some false) : Option (Bool))).bind fun x_6 =>
  some x_6
  else
  some false) : Option (Bool))).bind fun x_1 =>
  some x_1 : Option Bool)) rfl rfl (by decide) rfl ?_
 exact go
instance : Io0 cx 208 := ⟨rfl⟩
instance i156_0 {relations : (List Relation)} : Lp cx (f156_0 relations) 34 L156_0 (fun (zs : Int) => [(0, .v (ssl eRelation relations)), (5, .v (ssl eRelation relations)), (6, .v (iT (relations.length : Int))), (7, .v (iT zs))]) (QO (QX 0 (fun (y : Unit) => [(0, .v (ssl eRelation relations))])) (QR (fun (y : Bool) => [(2, .v (.bool y))]))) := by
 refine Lp.of (f := (fun
 | x_1 =>
  if x_1 < (relations.length : Int) then
  (ix relations x_1).bind fun v_3 =>
  (f208 v_3).bind fun o5 =>
  (jn (QN (fun (y : Bool) => [(0, .v (ssl eRelation relations)), (5, .v (ssl eRelation relations)), (6, .v (iT (relations.length : Int))), (7, .v (iT x_1)), (29, .v (.bool y))])) ((if ¬ (o5 = true) then
  some true
  else
  (jn (QN (fun (y : Bool) => [(0, .v (ssl eRelation relations)), (5, .v (ssl eRelation relations)), (6, .v (iT (relations.length : Int))), (7, .v (iT x_1)), (29, .v (.bool y))])) ((if x_1 > 0 then
  (ix relations (w64 (x_1 - 1))).bind fun v_13 =>
  some (!(Op.bytesLess v_13.Name v_3.Name))
  else
  some false) : Option (Bool))).bind fun x_10 =>
  some x_10) : Option (Bool))).bind fun x_7 =>
  if x_7 = true then
  some (.inr (.inr false))
  else
  some (.inl (w64 (x_1 + 1)))
  else
  some (.inr (.inl ())) : Int → Option (Int ⊕ (Unit ⊕ Bool)))) ?_
 exact go
instance i156 {relations : (List Relation)} : Rn cx (f156 relations) 156 [(ssl eRelation relations)] (fun (r : Bool) => (.bool r)) (fun r => []) := by
 refine Rn.of rfl rfl (by decide) rfl ?_; unfold f156; exact go
instance : Io0 cx 156 := ⟨rfl⟩
instance i212_0 {s0 : (List Int)} {g_f : Nat} {cp_f : List T} {f : Int → Option Bool} [hp_f : ∀ x0, Rn cx (f x0) g_f ((iT x0) :: cp_f) (fun o => (.bool o)) (fun _ => [])] [Io0 cx g_f] : Lp cx (f212_0 s0 f) 19 L212_0 (fun (zs : Int) => [(0, .v (ssl eI s0)), (1, .v (.fn g_f cp_f)), (7, .v (iT (s0.length : Int))), (8, .v (iT zs))]) (QO (QX 0 (fun (y : Unit) => [])) (QR (fun (y : Int) => [(4, .v (iT y))]))) := by
 refine Lp.of ?_; unfold f212_0; exact go
instance i212 {s0 : (List Int)} {g_f : Nat} {cp_f : List T} {f : Int → Option Bool} [hp_f : ∀ x0, Rn cx (f x0) g_f ((iT x0) :: cp_f) (fun o => (.bool o)) (fun _ => [])] [Io0 cx g_f] : Rn cx (f212 s0 f) 212 [(ssl eI s0), (.fn g_f cp_f)] (fun (r : Int) => (iT r)) (fun r => []) := by
 refine Rn.of rfl rfl (by decide) rfl ?_; unfold f212; exact go
instance : Io0 cx 212 := ⟨rfl⟩
instance i159 {s0 : (List Int)} {g_f : Nat} {cp_f : List T} {f : Int → Option Bool} [hp_f : ∀ x0, Rn cx (f x0) g_f ((iT x0) :: cp_f) (fun o => (.bool o)) (fun _ => [])] [Io0 cx g_f] : Rn cx (f159 s0 f) 159 [(ssl eI s0), (.fn g_f cp_f)] (fun (r : Bool) => (.bool r)) (fun r => []) := by
 refine Rn.of rfl rfl (by decide) rfl ?_; unfold f159; exact go
instance : Io0 cx 159 := ⟨rfl⟩
instance i245 {v : Int} : Rn cx (f245 v) 245 [(iT v)] (fun (r : Bool) => (.bool r)) (fun r => []) := by
 refine Rn.of rfl rfl (by decide) rfl ?_; unfold f245; exact go
instance : Io0 cx 245 := ⟨rfl⟩
instance i209 {list : (List Int)} : Rn cx (f209 list) 209 [(ssl eI list)] (fun (r : Bool) => (.bool r)) (fun r => []) := by
 refine Rn.of rfl rfl (by decide) rfl ?_; unfold f209; exact go
instance : Io0 cx 209 := ⟨rfl⟩
instance i157 {relations : (List Relation)} {fact : Fact} : Rn cx (f157 relations fact) 157 [(ssl eRelation relations), (.agg [(iT fact.Relation), (ssl eI fact.Values)])] (fun (r : Bool) => (.bool r)) (fun r => []) := by
 refine Rn.of (e := (
  (f122 fact.Relation 0 (w64 ((relations.length : Int) - 1))).bind fun o1 =>
  (jn (QN (fun (y : Bool) => [(4, .v (.bool y))])) ((if o1 = true then
  (ix relations fact.Relation).bind fun v_6 =>
  (jn (QN (fun (y : Bool) => [(4, .v (.bool y))])) ((if (fact.Values.length : Int) = v_6.Arity then
  (f209 fact.Values).bind fun o11 =>
  some o11
  else
  some false) : Option (Bool))).bind fun x_8 =>
  some x_8
  else
  some false) : Option (Bool))).bind fun x_3 =>
  some x_3 : Option Bool)) rfl rfl (by decide) rfl ?_
 exact go
instance : Io0 cx 157 := ⟨rfl⟩
instance i210 {a : Int} {b : Int} : Rn cx (f210 a b) 210 [(iT a), (iT b)] (fun (r : Int) => (iT r)) (fun r => []) := by
 refine Rn.of rfl rfl (by decide) rfl ?_; unfold f210; exact go
instance : Io0 cx 210 := ⟨rfl⟩
instance i262 {x : Int} : Rn cx (f262 x) 262 [(iT x)] (fun (r : Bool) => (.bool r)) (fun r => []) := by
 refine Rn.of rfl rfl (by decide) rfl ?_; unfold f262; exact go
instance : Io0 cx 262 := ⟨rfl⟩
instance i246 {x : Int} {y : Int} : Rn cx (f246 x y) 246 [(iT x), (iT y)] (fun (r : Int) => (iT r)) (fun r => []) := by
 refine Rn.of rfl rfl (by decide) rfl ?_; unfold f246; exact go
instance : Io0 cx 246 := ⟨rfl⟩
end
end Go.Proofs.YtcllfkplpdppiaaGreatH
