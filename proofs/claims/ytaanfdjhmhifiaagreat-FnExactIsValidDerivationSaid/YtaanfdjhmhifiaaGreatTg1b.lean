import Derived.Test.YtaanfdjhmhifiaaGreatTg1a
set_option maxHeartbeats 2000000
set_option linter.unusedVariables false
set_option linter.unusedSimpArgs false
set_option linter.defProp false
set_option linter.unusedSectionVars false
set_option maxRecDepth 100000
namespace Go.Proofs.YtaanfdjhmhifiaaGreatH
open Go
noncomputable section
instance i110 {d : Database} {l : (List Int)} : Rn cx (f110 d l) 110 [(.agg [(ssl eRelation d.Relations), (ssl eFact d.Facts)]), (ssl eI l)] (fun (r : Bool) => (.bool r)) (fun r => []) := by
 refine Rn.of (e := (
  (f43 d l).bind fun o1 =>
  (jn (QN (fun (y : Bool) => [(4, .v (.bool y))])) ((if o1.2 = true then
  (f134 o1.1).bind fun o6 =>
  some o6
  else
  some false) : Option (Bool))).bind fun x_3 =>
  some x_3 : Option Bool)) rfl rfl (by decide) rfl ?_
 exact go
instance : Io0 cx 110 := ⟨rfl⟩
instance i65_0 {d : Database} {o1 : (List Embedding)} : Lp cx (f65_0 d o1) 33 L65_0 (fun (zs : (List (List Int)) × Int) => [(2, .v (.ptr true [(ssl eRelation d.Relations), (ssl eFact d.Facts)])), (5, .v (osl (eL eI) false zs.1)), (6, .v (ssl eEmbedding o1)), (7, .v (iT zs.2))]) (QX 0 (fun (y : (List (List Int))) => [(5, .v (osl (eL eI) false y))])) := by
 refine Lp.of (f := (fun
 | (out_3, i_4) =>
  if i_4 < (o1.length : Int) then
  (ix o1 i_4).bind fun v_6 =>
  (f112 v_6.Facts).bind fun o8 =>
  (f110 d o8).bind fun o10 =>
  (jn (QN (fun (y : (List (List Int))) => [(2, .v (.ptr true [(ssl eRelation d.Relations), (ssl eFact d.Facts)])), (5, .v (osl (eL eI) false y)), (6, .v (ssl eEmbedding o1)), (7, .v (iT i_4))])) ((if o10 = true then
  (app 24 out_3 ([o8])).bind fun l_15 =>
  some l_15
  else
  some out_3) : Option (List (List Int)))).bind fun out_17 =>
  some (.inl (out_17, w64 (i_4 + 1)))
  else
  some (.inr out_3) : (List (List Int)) × Int → Option (((List (List Int)) × Int) ⊕ (List (List Int))))) ?_
 exact go
instance i65 {d : Database} {q : Query} : Rn cx (f65 d q) 65 [(.agg [(ssl eRelation d.Relations), (ssl eFact d.Facts)]), (.agg [(iT q.VariableCount), (ssl eAtom q.Atoms), (ssl eI q.Free)])] (fun (r : (List (List Int))) => (osl (eL eI) false r)) (fun r => []) := by
 refine Rn.of (e := (
  sn 5 5 (osl (eL eI) false ([])) <| 
  (f111 d q).bind fun o1 =>
  sn 1 6 (ssl eEmbedding o1) <| 
  (iter (f65_0 d o1) ([], 0)).bind fun out_20 =>
  some out_20 : Option (List (List Int)))) rfl rfl (by decide) rfl ?_
 exact go
instance : Io0 cx 65 := ⟨rfl⟩
instance i42_0 {l : (List Int)} {x : Int} : Lp cx (f42_0 l x) 18 L42_0 (fun (zs : Int) => [(0, .v (ssl eI l)), (1, .v (iT x)), (5, .v (iT zs))]) (QO (QX 0 (fun (y : Unit) => [])) (QR (fun (y : Bool) => [(4, .v (.bool y))]))) := by
 refine Lp.of ?_; unfold f42_0; exact go
instance i42 {l : (List Int)} {x : Int} : Rn cx (f42 l x) 42 [(ssl eI l), (iT x)] (fun (r : Bool) => (.bool r)) (fun r => []) := by
 refine Rn.of rfl rfl (by decide) rfl ?_; unfold f42; exact go
instance : Io0 cx 42 := ⟨rfl⟩
instance i113_1 {l : (List (List Int))} {s1 : (List Int)} {i_1 : Int} : Lp cx (f113_1 l s1 i_1) 36 L113_1 (fun (zs : Bool × Int) => [(0, .v (ssl (eL eI) l)), (1, .v (ssl eI s1)), (5, .v (iT i_1)), (6, .v (.bool zs.1)), (7, .v (iT zs.2))]) (QX 2 (fun (y : Bool) => [(0, .v (ssl (eL eI) l)), (1, .v (ssl eI s1)), (5, .v (iT i_1)), (6, .v (.bool y))])) := by
 refine Lp.of (f := (fun
 | (all_3, k_4) =>
  (ix l i_1).bind fun v_5 =>
  if k_4 < (v_5.length : Int) then
  (jn (QN (fun (y : Bool) => [(0, .v (ssl (eL eI) l)), (1, .v (ssl eI s1)), (5, .v (iT i_1)), (6, .v (.bool y)), (7, .v (iT k_4))])) ((if all_3 = true then
  (ix v_5 k_4).bind fun v_11 =>
  (f42 s1 v_11).bind fun o13 =>
  some o13
  else
  some false) : Option (Bool))).bind fun all_8 =>
  some (.inl (all_8, w64 (k_4 + 1)))
  else
  some (.inr all_3) : Bool × Int → Option ((Bool × Int) ⊕ Bool))) ?_
 exact go
instance i113_0 {l : (List (List Int))} {s1 : (List Int)} : Lp cx (f113_0 l s1) 36 L113_0 (fun (zs : Int) => [(0, .v (ssl (eL eI) l)), (1, .v (ssl eI s1)), (5, .v (iT zs))]) (QO (QX 0 (fun (y : Unit) => [])) (QR (fun (y : Bool) => [(4, .v (.bool y))]))) := by
 refine Lp.of ?_; unfold f113_0; exact go
instance i113 {l : (List (List Int))} {s1 : (List Int)} : Rn cx (f113 l s1) 113 [(ssl (eL eI) l), (ssl eI s1)] (fun (r : Bool) => (.bool r)) (fun r => []) := by
 refine Rn.of rfl rfl (by decide) rfl ?_; unfold f113; exact go
instance : Io0 cx 113 := ⟨rfl⟩
instance i66 {l : (List (List Int))} {s1 : (List Int)} : Rn cx (f66 l s1) 66 [(ssl (eL eI) l), (ssl eI s1)] (fun (r : Bool) => (.bool r)) (fun r => []) := by
 refine Rn.of rfl rfl (by decide) rfl ?_; unfold f66; exact go
instance : Io0 cx 66 := ⟨rfl⟩
instance i79_0 {blocks : (List (List Int))} {l : (List DerivationStep)} {i : Int} {v_1 : DerivationStep} {v_12 : (List Int)} : Lp cx (lw (blocks, v_1, v_12) (f79_0 l i)) 92 L79_0 (fun (zs : (List (List Int)) × Int) => [(3, .v (ssl eDerivationStep l)), (4, .v (iT i)), (11, .v (ssl eI v_1.Facts)), (12, .v (ssl eI v_12)), (13, .v (osl (eL eI) false zs.1)), (14, .v (iT zs.2)), (16, .v (ssl eDerivationStep l)), (17, .v (iT i)), (44, .v (ssl (eL eI) blocks)), (49, .v (iT v_1.Block))]) (QX 0 (fun (y : (List (List Int))) => [(11, .v (ssl eI v_1.Facts)), (12, .v (ssl eI v_12)), (13, .v (osl (eL eI) false y)), (16, .v (ssl eDerivationStep l)), (17, .v (iT i)), (44, .v (ssl (eL eI) blocks)), (49, .v (iT v_1.Block))])) := by
 refine Lp.of ?_; unfold lw f79_0; exact go
instance i79_1 {blocks : (List (List Int))} {l : (List DerivationStep)} {i : Int} {v_1 : DerivationStep} {v_12 : (List Int)} {sets_23 : (List (List Int))} : Lp cx (lw (blocks, l, i) (f79_1 v_1 v_12 sets_23)) 92 L79_1 (fun (zs : Int) => [(11, .v (ssl eI v_1.Facts)), (12, .v (ssl eI v_12)), (13, .v (osl (eL eI) false sets_23)), (15, .v (iT zs)), (16, .v (ssl eDerivationStep l)), (17, .v (iT i)), (44, .v (ssl (eL eI) blocks)), (49, .v (iT v_1.Block))]) (QO (QX 2 (fun (y : Unit) => [])) (QR (fun (y : Bool) => [(10, .v (.bool y))]))) := by
 refine Lp.of (f := (fun
 | k_24 =>
  if k_24 < (v_12.length : Int) then
  (ix v_12 k_24).bind fun v_26 =>
  (f42 v_1.Facts v_26).bind fun o28 =>
  (jn (QN (fun (y : Bool) => [(11, .v (ssl eI v_1.Facts)), (12, .v (ssl eI v_12)), (13, .v (osl (eL eI) false sets_23)), (15, .v (iT k_24)), (16, .v (ssl eDerivationStep l)), (17, .v (iT i)), (44, .v (ssl (eL eI) blocks)), (49, .v (iT v_1.Block)), (91, .v (.bool y))])) ((if o28 = true then
  some true
  else
  (app 8 ([]) v_1.Facts).bind fun l_33 =>
  (app 8 l_33 ([v_26])).bind fun l_35 =>
  sn 0 88 (osl eI true l_35) <| 
  (f66 sets_23 l_35).bind fun o37 =>
  some (decide (¬ (o37 = true)))) : Option (Bool))).bind fun x_30 =>
  if x_30 = true then
  some (.inr (.inr false))
  else
  some (.inl (w64 (k_24 + 1)))
  else
  some (.inr (.inl ())) : Int → Option (Int ⊕ (Unit ⊕ Bool)))) ?_
 exact go
instance i79 {d : Database} {need : (List (List Int))} {blocks : (List (List Int))} {l : (List DerivationStep)} {i : Int} : Rn cx (f79 d need blocks l i) 79 [(.agg [(ssl eRelation d.Relations), (ssl eFact d.Facts)]), (ssl (eL eI) need), (ssl (eL eI) blocks), (ssl eDerivationStep l), (iT i)] (fun (r : Bool) => (.bool r)) (fun r => []) := by
 refine Rn.of (e := (
  (ix l i).bind fun v_1 =>
  (f110 d v_1.Facts).bind fun o3 =>
  if ¬ (o3 = true) then
  some false
  else
  if v_1.Block = (-1) then
  (f66 need v_1.Facts).bind fun o7 =>
  some o7
  else
  (f94 v_1.Block 0 (w64 ((blocks.length : Int) - 1))).bind fun o9 =>
  if ¬ (o9 = true) then
  some false
  else
  (ix blocks v_1.Block).bind fun v_12 =>
  sn 11 13 (osl (eL eI) false ([])) <| 
  (iter (lw (blocks, v_1, v_12)  (f79_0 l i)) ([], 0)).bind fun sets_23 =>
  (iter (lw (blocks, l, i)  (f79_1 v_1 v_12 sets_23)) 0).bind fun o => match o with
  | .inl _ =>
  some true
  | .inr x_42 =>
  some x_42 : Option Bool)) rfl rfl (by decide) rfl ?_
 exact go
instance : Io0 cx 79 := ⟨rfl⟩
instance i27_0 {d : Database} {l : (List DerivationStep)} {o12 : (List (List Int))} {o14 : (List (List Int))} : Lp cx (f27_0 d l o12 o14) 48 L27_0 (fun (zs : Int) => [(2, .v (ssl eDerivationStep l)), (3, .v (.ptr true [(ssl eRelation d.Relations), (ssl eFact d.Facts)])), (7, .v (osl (eL eI) false o12)), (8, .v (osl (eL eI) true o14)), (9, .v (iT zs))]) (QO (QX 0 (fun (y : Unit) => [])) (QR (fun (y : Bool) => [(6, .v (.bool y))]))) := by
 refine Lp.of ?_; unfold f27_0; exact go
instance i27 {d : Database} {q : Query} {l : (List DerivationStep)} : Rn cx (f27 d q l) 27 [(.agg [(ssl eRelation d.Relations), (ssl eFact d.Facts)]), (.agg [(iT q.VariableCount), (ssl eAtom q.Atoms), (ssl eI q.Free)]), (ssl eDerivationStep l)] (fun (r : Bool) => (.bool r)) (fun r => []) := by
 refine Rn.of (e := (
  (f63 d q).bind fun o1 =>
  (jn (QN (fun (y : Bool) => [(2, .v (ssl eDerivationStep l)), (3, .v (.ptr true [(ssl eRelation d.Relations), (ssl eFact d.Facts)])), (4, .v (.ptr true [(iT q.VariableCount), (ssl eAtom q.Atoms), (ssl eI q.Free)])), (29, .v (.bool y))])) ((if ¬ (o1 = true) then
  some true
  else
  (jn (QN (fun (y : Bool) => [(2, .v (ssl eDerivationStep l)), (3, .v (.ptr true [(ssl eRelation d.Relations), (ssl eFact d.Facts)])), (4, .v (.ptr true [(iT q.VariableCount), (ssl eAtom q.Atoms), (ssl eI q.Free)])), (29, .v (.bool y))])) ((if (l.length : Int) = 0 then
  some true
  else
  (ix l (w64 ((l.length : Int) - 1))).bind fun v_9 =>
  some (decide ((v_9.Facts.length : Int) > 0))) : Option (Bool))).bind fun x_6 =>
  some x_6) : Option (Bool))).bind fun x_3 =>
  if x_3 = true then
  some false
  else
  (f65 d q).bind fun o12 =>
  (f67 d).bind fun o14 =>
  (iter (f27_0 d l o12 o14) 0).bind fun o => match o with
  | .inl _ =>
  some true
  | .inr x_23 =>
  some x_23 : Option Bool)) rfl rfl (by decide) rfl ?_
 exact go
instance : Io0 cx 27 := ⟨rfl⟩
instance i82 {n0 : Int} {low : Int} {high : Int} : Rn cx (f82 n0 low high) 82 [(iT n0), (iT low), (iT high)] (fun (r : Bool) => (.bool r)) (fun r => []) := by
 refine Rn.of (e := (
  (jn (QN (fun (y : Bool) => [(6, .v (.bool y))])) ((if low ≤ n0 then
  some (decide (n0 ≤ high))
  else
  some false) : Option (Bool))).bind fun x_1 =>
  some x_1 : Option Bool)) rfl rfl (by decide) rfl ?_
 exact go
instance : Io0 cx 82 := ⟨rfl⟩
instance i154 {relation : Relation} : Rn cx (f154 relation) 154 [(.agg [(.str relation.Name), (iT relation.Arity), (iT relation.KeyLength)])] (fun (r : Bool) => (.bool r)) (fun r => []) := by
 refine Rn.of (e := (
  (jn (QN (fun (y : Bool) => [(2, .v (.bool y))])) ((if (relation.Name.length : Int) = 1 then
  (ix relation.Name 0).bind fun c_4 =>
  (jn (QN (fun (y : Bool) => [(2, .v (.bool y))])) ((if (c_4.toNat : Int) ≥ 97 then
  (jn (QN (fun (y : Bool) => [(2, .v (.bool y))])) ((if (c_4.toNat : Int) ≤ 122 then
  (f82 relation.Arity 1 3).bind fun o12 =>
  (jn (QN (fun (y : Bool) => [(2, .v (.bool y))])) ((if o12 = true then
  (f82 relation.KeyLength 0 relation.Arity).bind fun o17 =>
  some o17
  else
  some false) : Option (Bool))).bind fun x_14 =>
  some x_14
  else
  some false) : Option (Bool))).bind fun x_9 =>
  some x_9
  else
  some false) : Option (Bool))).bind fun x_6 =>
  some x_6
  else
  some false) : Option (Bool))).bind fun x_1 =>
  some x_1 : Option Bool)) rfl rfl (by decide) rfl ?_
 exact go
instance : Io0 cx 154 := ⟨rfl⟩
instance i131_0 {relations : (List Relation)} : Lp cx (f131_0 relations) 34 L131_0 (fun (zs : Int) => [(0, .v (ssl eRelation relations)), (5, .v (ssl eRelation relations)), (6, .v (iT (relations.length : Int))), (7, .v (iT zs))]) (QO (QX 0 (fun (y : Unit) => [(0, .v (ssl eRelation relations))])) (QR (fun (y : Bool) => [(2, .v (.bool y))]))) := by
 refine Lp.of (f := (fun
 | x_1 =>
  if x_1 < (relations.length : Int) then
  (ix relations x_1).bind fun v_3 =>
  (f154 v_3).bind fun o5 =>
  (jn (QN (fun (y : Bool) => [(0, .v (ssl eRelation relations)), (5, .v (ssl eRelation relations)), (6, .v (iT (relations.length : Int))), (7, .v (iT x_1)), (29, .v (.bool y))])) ((if ¬ (o5 = true) then
  some true
  else
  (jn (QN (fun (y : Bool) => [(0, .v (ssl eRelation relations)), (5, .v (ssl eRelation relations)), (6, .v (iT (relations.length : Int))), (7, .v (iT x_1)), (29, .v (.bool y))])) ((if x_1 > 0 then
  (ix relations (w64 (x_1 - 1))).bind fun v_13 =>
  some (!(Op.bytesLess v_13.Name v_3.Name))
  else
  some false) : Option (Bool))).bind fun x_10 =>
  some x_10) : Option (Bool))).bind fun x_7 =>
  if x_7 = true then
  some (.inr (.inr false))
  else
  some (.inl (w64 (x_1 + 1)))
  else
  some (.inr (.inl ())) : Int → Option (Int ⊕ (Unit ⊕ Bool)))) ?_
 exact go
instance i131 {relations : (List Relation)} : Rn cx (f131 relations) 131 [(ssl eRelation relations)] (fun (r : Bool) => (.bool r)) (fun r => []) := by
 refine Rn.of rfl rfl (by decide) rfl ?_; unfold f131; exact go
instance : Io0 cx 131 := ⟨rfl⟩
instance i174_0 {s0 : (List Int)} {g_f : Nat} {cp_f : List T} {f : Int → Option Bool} [hp_f : ∀ x0, Rn cx (f x0) g_f ((iT x0) :: cp_f) (fun o => (.bool o)) (fun _ => [])] [Io0 cx g_f] : Lp cx (f174_0 s0 f) 19 L174_0 (fun (zs : Int) => [(0, .v (ssl eI s0)), (1, .v (.fn g_f cp_f)), (7, .v (iT (s0.length : Int))), (8, .v (iT zs))]) (QO (QX 0 (fun (y : Unit) => [])) (QR (fun (y : Int) => [(4, .v (iT y))]))) := by
 refine Lp.of ?_; unfold f174_0; exact go
instance i174 {s0 : (List Int)} {g_f : Nat} {cp_f : List T} {f : Int → Option Bool} [hp_f : ∀ x0, Rn cx (f x0) g_f ((iT x0) :: cp_f) (fun o => (.bool o)) (fun _ => [])] [Io0 cx g_f] : Rn cx (f174 s0 f) 174 [(ssl eI s0), (.fn g_f cp_f)] (fun (r : Int) => (iT r)) (fun r => []) := by
 refine Rn.of rfl rfl (by decide) rfl ?_; unfold f174; exact go
instance : Io0 cx 174 := ⟨rfl⟩
instance i148 {s0 : (List Int)} {g_f : Nat} {cp_f : List T} {f : Int → Option Bool} [hp_f : ∀ x0, Rn cx (f x0) g_f ((iT x0) :: cp_f) (fun o => (.bool o)) (fun _ => [])] [Io0 cx g_f] : Rn cx (f148 s0 f) 148 [(ssl eI s0), (.fn g_f cp_f)] (fun (r : Bool) => (.bool r)) (fun r => []) := by
 refine Rn.of rfl rfl (by decide) rfl ?_; unfold f148; exact go
instance : Io0 cx 148 := ⟨rfl⟩
instance i176 {v : Int} : Rn cx (f176 v) 176 [(iT v)] (fun (r : Bool) => (.bool r)) (fun r => []) := by
 refine Rn.of rfl rfl (by decide) rfl ?_; unfold f176; exact go
instance : Io0 cx 176 := ⟨rfl⟩
instance i155 {list : (List Int)} : Rn cx (f155 list) 155 [(ssl eI list)] (fun (r : Bool) => (.bool r)) (fun r => []) := by
 refine Rn.of rfl rfl (by decide) rfl ?_; unfold f155; exact go
instance : Io0 cx 155 := ⟨rfl⟩
instance i132 {relations : (List Relation)} {fact : Fact} : Rn cx (f132 relations fact) 132 [(ssl eRelation relations), (.agg [(iT fact.Relation), (ssl eI fact.Values)])] (fun (r : Bool) => (.bool r)) (fun r => []) := by
 refine Rn.of (e := (
  (f82 fact.Relation 0 (w64 ((relations.length : Int) - 1))).bind fun o1 =>
  (jn (QN (fun (y : Bool) => [(4, .v (.bool y))])) ((if o1 = true then
  (ix relations fact.Relation).bind fun v_6 =>
  (jn (QN (fun (y : Bool) => [(4, .v (.bool y))])) ((if (fact.Values.length : Int) = v_6.Arity then
  (f155 fact.Values).bind fun o11 =>
  some o11
  else
  some false) : Option (Bool))).bind fun x_8 =>
  some x_8
  else
  some false) : Option (Bool))).bind fun x_3 =>
  some x_3 : Option Bool)) rfl rfl (by decide) rfl ?_
 exact go
instance : Io0 cx 132 := ⟨rfl⟩
instance i156 {a : Int} {b : Int} : Rn cx (f156 a b) 156 [(iT a), (iT b)] (fun (r : Int) => (iT r)) (fun r => []) := by
 refine Rn.of rfl rfl (by decide) rfl ?_; unfold f156; exact go
instance : Io0 cx 156 := ⟨rfl⟩
instance i184 {x : Int} : Rn cx (f184 x) 184 [(iT x)] (fun (r : Bool) => (.bool r)) (fun r => []) := by
 refine Rn.of rfl rfl (by decide) rfl ?_; unfold f184; exact go
instance : Io0 cx 184 := ⟨rfl⟩
instance i177 {x : Int} {y : Int} : Rn cx (f177 x y) 177 [(iT x), (iT y)] (fun (r : Int) => (iT r)) (fun r => []) := by
 refine Rn.of rfl rfl (by decide) rfl ?_; unfold f177; exact go
instance : Io0 cx 177 := ⟨rfl⟩
instance i157_0 {s1 : (List Int)} {s2 : (List Int)} : Lp cx (f157_0 s1 s2) 36 L157_0 (fun (zs : Int) => [(0, .v (ssl eI s1)), (1, .v (ssl eI s2)), (9, .v (ssl eI s1)), (10, .v (iT (s1.length : Int))), (11, .v (iT zs))]) (QO (QX 0 (fun (y : Unit) => [(0, .v (ssl eI s1)), (1, .v (ssl eI s2))])) (QR (fun (y : Int) => [(4, .v (iT y))]))) := by
 refine Lp.of ?_; unfold f157_0; exact go
instance i157 {s1 : (List Int)} {s2 : (List Int)} : Rn cx (f157 s1 s2) 157 [(ssl eI s1), (ssl eI s2)] (fun (r : Int) => (iT r)) (fun r => []) := by
 refine Rn.of rfl rfl (by decide) rfl ?_; unfold f157; exact go
instance : Io0 cx 157 := ⟨rfl⟩
instance i133 {a : Fact} {b : Fact} : Rn cx (f133 a b) 133 [(.agg [(iT a.Relation), (ssl eI a.Values)]), (.agg [(iT b.Relation), (ssl eI b.Values)])] (fun (r : Int) => (iT r)) (fun r => []) := by
 refine Rn.of rfl rfl (by decide) rfl ?_; unfold f133; exact go
instance : Io0 cx 133 := ⟨rfl⟩
instance i102_0 {db : Database} : Lp cx (f102_0 db) 44 L102_0 (fun (zs : Int) => [(1, .v (.ptr true [(ssl eRelation db.Relations), (ssl eFact db.Facts)])), (16, .v (ssl eFact db.Facts)), (17, .v (iT (db.Facts.length : Int))), (18, .v (iT zs))]) (QO (QX 0 (fun (y : Unit) => [])) (QR (fun (y : Bool) => [(2, .v (.bool y))]))) := by
 refine Lp.of (f := (fun
 | x_7 =>
  if x_7 < (db.Facts.length : Int) then
  (ix db.Facts x_7).bind fun v_9 =>
  (f132 db.Relations v_9).bind fun o11 =>
  (jn (QN (fun (y : Bool) => [(1, .v (.ptr true [(ssl eRelation db.Relations), (ssl eFact db.Facts)])), (16, .v (ssl eFact db.Facts)), (17, .v (iT (db.Facts.length : Int))), (18, .v (iT x_7)), (42, .v (.bool y))])) ((if ¬ (o11 = true) then
  some true
  else
  (jn (QN (fun (y : Bool) => [(1, .v (.ptr true [(ssl eRelation db.Relations), (ssl eFact db.Facts)])), (16, .v (ssl eFact db.Facts)), (17, .v (iT (db.Facts.length : Int))), (18, .v (iT x_7)), (42, .v (.bool y))])) ((if x_7 > 0 then
  (ix db.Facts (w64 (x_7 - 1))).bind fun v_19 =>
  (f133 v_19 v_9).bind fun o21 =>
  some (decide (o21 ≥ 0))
  else
  some false) : Option (Bool))).bind fun x_16 =>
  some x_16) : Option (Bool))).bind fun x_13 =>
  if x_13 = true then
  some (.inr (.inr false))
  else
  some (.inl (w64 (x_7 + 1)))
  else
  some (.inr (.inl ())) : Int → Option (Int ⊕ (Unit ⊕ Bool)))) ?_
 exact go
instance i102 {db : Database} : Rn cx (f102 db) 102 [(.agg [(ssl eRelation db.Relations), (ssl eFact db.Facts)])] (fun (r : Bool) => (.bool r)) (fun r => []) := by
 refine Rn.of (e := (
  (f131 db.Relations).bind fun o1 =>
  (jn (QN (fun (y : Bool) => [(1, .v (.ptr true [(ssl eRelation db.Relations), (ssl eFact db.Facts)])), (14, .v (.bool y))])) ((if ¬ (o1 = true) then
  some true
  else
  some (decide ((db.Facts.length : Int) > 14))) : Option (Bool))).bind fun x_3 =>
  if x_3 = true then
  some false
  else
  (iter (f102_0 db) 0).bind fun o => match o with
  | .inl _ =>
  some true
  | .inr x_26 =>
  some x_26 : Option Bool)) rfl rfl (by decide) rfl ?_
 exact go
instance : Io0 cx 102 := ⟨rfl⟩
instance i103_0 {indices : (List Int)} {n1 : Int} : Lp cx (f103_0 indices n1) 33 L103_0 (fun (zs : Int) => [(0, .v (ssl eI indices)), (1, .v (iT n1)), (7, .v (ssl eI indices)), (8, .v (iT (indices.length : Int))), (9, .v (iT zs))]) (QO (QX 0 (fun (y : Unit) => [])) (QR (fun (y : Bool) => [(4, .v (.bool y))]))) := by
 refine Lp.of (f := (fun
 | x_1 =>
  if x_1 < (indices.length : Int) then
  (ix indices x_1).bind fun v_3 =>
  (f82 v_3 0 (w64 (n1 - 1))).bind fun o5 =>
  (jn (QN (fun (y : Bool) => [(0, .v (ssl eI indices)), (1, .v (iT n1)), (7, .v (ssl eI indices)), (8, .v (iT (indices.length : Int))), (9, .v (iT x_1)), (31, .v (.bool y))])) ((if ¬ (o5 = true) then
  some true
  else
  (jn (QN (fun (y : Bool) => [(0, .v (ssl eI indices)), (1, .v (iT n1)), (7, .v (ssl eI indices)), (8, .v (iT (indices.length : Int))), (9, .v (iT x_1)), (31, .v (.bool y))])) ((if x_1 > 0 then
  (ix indices (w64 (x_1 - 1))).bind fun v_13 =>
  some (decide (v_13 ≥ v_3))
  else
  some false) : Option (Bool))).bind fun x_10 =>
  some x_10) : Option (Bool))).bind fun x_7 =>
  if x_7 = true then
  some (.inr (.inr false))
  else
  some (.inl (w64 (x_1 + 1)))
  else
  some (.inr (.inl ())) : Int → Option (Int ⊕ (Unit ⊕ Bool)))) ?_
 exact go
instance i103 {indices : (List Int)} {n1 : Int} : Rn cx (f103 indices n1) 103 [(ssl eI indices), (iT n1)] (fun (r : Bool) => (.bool r)) (fun r => []) := by
 refine Rn.of rfl rfl (by decide) rfl ?_; unfold f103; exact go
instance : Io0 cx 103 := ⟨rfl⟩
instance i159_0 {s0 : (List Atom)} {g_f : Nat} {cp_f : List T} {f : Atom → Option Bool} [hp_f : ∀ x0, Rn cx (f x0) g_f ((.agg [(iT x0.Relation), (ssl eI x0.Terms)]) :: cp_f) (fun o => (.bool o)) (fun _ => [])] [Io0 cx g_f] : Lp cx (f159_0 s0 f) 19 L159_0 (fun (zs : Int) => [(0, .v (ssl eAtom s0)), (1, .v (.fn g_f cp_f)), (7, .v (iT (s0.length : Int))), (8, .v (iT zs))]) (QO (QX 0 (fun (y : Unit) => [])) (QR (fun (y : Int) => [(4, .v (iT y))]))) := by
 refine Lp.of ?_; unfold f159_0; exact go
instance i159 {s0 : (List Atom)} {g_f : Nat} {cp_f : List T} {f : Atom → Option Bool} [hp_f : ∀ x0, Rn cx (f x0) g_f ((.agg [(iT x0.Relation), (ssl eI x0.Terms)]) :: cp_f) (fun o => (.bool o)) (fun _ => [])] [Io0 cx g_f] : Rn cx (f159 s0 f) 159 [(ssl eAtom s0), (.fn g_f cp_f)] (fun (r : Int) => (iT r)) (fun r => []) := by
 refine Rn.of rfl rfl (by decide) rfl ?_; unfold f159; exact go
instance : Io0 cx 159 := ⟨rfl⟩
instance i137 {s0 : (List Atom)} {g_f : Nat} {cp_f : List T} {f : Atom → Option Bool} [hp_f : ∀ x0, Rn cx (f x0) g_f ((.agg [(iT x0.Relation), (ssl eI x0.Terms)]) :: cp_f) (fun o => (.bool o)) (fun _ => [])] [Io0 cx g_f] : Rn cx (f137 s0 f) 137 [(ssl eAtom s0), (.fn g_f cp_f)] (fun (r : Bool) => (.bool r)) (fun r => []) := by
 refine Rn.of rfl rfl (by decide) rfl ?_; unfold f137; exact go
instance : Io0 cx 137 := ⟨rfl⟩
instance i138 {own : Atom} {c : Atom} : Rn cx (f138 own c) 138 [(.agg [(iT own.Relation), (ssl eI own.Terms)]), (.ptr false [(iT c.Relation), (ssl eI c.Terms)])] (fun (r : Bool) => (.bool r)) (fun r => []) := by
 refine Rn.of rfl rfl (by decide) rfl ?_; unfold f138; exact go
instance : Io0 cx 138 := ⟨rfl⟩
theorem r175 {n : Int} {r : Nat} (h : f175 n = some r) : VJx cx (.ca 175 [.nils, .int .i64 n] (.sl true true 1 r []) []) := by
 exact ca_grow (zs := [.int .i64 (0)]) (zt := [(iT 0)]) rfl rfl rfl rfl (by decide) (by decide) h
instance i175 {n : Int} : Rn cx (f175 n) 175 [.nils, .int .i64 n] (fun r => .sl true true 1 r []) (fun _ => []) := ⟨fun _ h => r175 h⟩
instance i152_0 {slices : (List (List Int))} : Lp cx (f152_0 slices) 36 L152_0 (fun (zs : Int × Int) => [(0, .v (ssl (eL eI) slices)), (3, .v (iT zs.1)), (9, .v (ssl (eL eI) slices)), (10, .v (iT (slices.length : Int))), (11, .v (iT zs.2))]) (QX 0 (fun (y : Int) => [(0, .v (ssl (eL eI) slices)), (3, .v (iT y))])) := by
 refine Lp.of (f := (fun
 | (size_1, x_2) =>
  if x_2 < (slices.length : Int) then
  (ix slices x_2).bind fun v_4 =>
  (jn (QN (fun (y : Unit) => [(0, .v (ssl (eL eI) slices)), (3, .v (iT (w64 (size_1 + (v_4.length : Int))))), (9, .v (ssl (eL eI) slices)), (10, .v (iT (slices.length : Int))), (11, .v (iT x_2))])) ((if (w64 (size_1 + (v_4.length : Int))) < 0 then
  none
  else
  some ()) : Option Unit)).bind fun _ =>
  some (.inl (w64 (size_1 + (v_4.length : Int)), w64 (x_2 + 1)))
  else
  some (.inr size_1) : Int × Int → Option ((Int × Int) ⊕ Int))) ?_
 exact go
instance i152_1 {slices : (List (List Int))} : Lp cx (f152_1 slices) 36 L152_1 (fun (zs : Nat × (List Int) × Int) => [(6, .v (.sl true true 1 zs.1 (arr eI true zs.2.1))), (25, .v (ssl (eL eI) slices)), (26, .v (iT (slices.length : Int))), (27, .v (iT zs.2.2))]) (QX 2 (fun (y : Nat × (List Int)) => [(6, .v (.sl true true 1 y.1 (arr eI true y.2)))])) := by
 refine Lp.of ?_; unfold f152_1; exact go
instance i152 {slices : (List (List Int))} : Rn cx (f152 slices) 152 [(ssl (eL eI) slices)] (fun (r : (List Int)) => (osl eI true r)) (fun r => []) := by
 refine Rn.of rfl rfl (by decide) rfl ?_; unfold f152; exact go
instance : Io0 cx 152 := ⟨rfl⟩
instance i173 {x : Int} : Rn cx (f173 x) 173 [(.int .u64 x)] (fun (r : Int) => (iT r)) (fun r => []) := by
 refine Rn.of (e := (
  (jn (QN (fun (y : Int × Int) => [(0, .v (.int .u64 y.1)), (2, .v (iT y.2))])) ((if x ≥ 4294967296 then
  some (sshr .u64 x 32, 32)
  else
  some (x, 0)) : Option (Int × Int))).bind fun (x_4, n_5) =>
  (jn (QN (fun (y : Int × Int) => [(0, .v (.int .u64 y.1)), (2, .v (iT y.2))])) ((if x_4 ≥ 65536 then
  some (sshr .u64 x_4 16, w64 (n_5 + 16))
  else
  some (x_4, n_5)) : Option (Int × Int))).bind fun (x_9, n_10) =>
  (jn (QN (fun (y : Int × Int) => [(0, .v (.int .u64 y.1)), (2, .v (iT y.2))])) ((if x_9 ≥ 256 then
  some (sshr .u64 x_9 8, w64 (n_10 + 8))
  else
  some (x_9, n_10)) : Option (Int × Int))).bind fun (x_14, n_15) =>
  (ix ([0, 1, 2, 2, 3, 3, 3, 3, 4, 4, 4, 4, 4, 4, 4, 4, 5, 5, 5, 5, 5, 5, 5, 5, 5, 5, 5, 5, 5, 5, 5, 5, 6, 6, 6, 6, 6, 6, 6, 6, 6, 6, 6, 6, 6, 6, 6, 6, 6, 6, 6, 6, 6, 6, 6, 6, 6, 6, 6, 6, 6, 6, 6, 6, 7, 7, 7, 7, 7, 7, 7, 7, 7, 7, 7, 7, 7, 7, 7, 7, 7, 7, 7, 7, 7, 7, 7, 7, 7, 7, 7, 7, 7, 7, 7, 7, 7, 7, 7, 7, 7, 7, 7, 7, 7, 7, 7, 7, 7, 7, 7, 7, 7, 7, 7, 7, 7, 7, 7, 7, 7, 7, 7, 7, 7, 7, 7, 7, 8, 8, 8, 8, 8, 8, 8, 8, 8, 8, 8, 8, 8, 8, 8, 8, 8, 8, 8, 8, 8, 8, 8, 8, 8, 8, 8, 8, 8, 8, 8, 8, 8, 8, 8, 8, 8, 8, 8, 8, 8, 8, 8, 8, 8, 8, 8, 8, 8, 8, 8, 8, 8, 8, 8, 8, 8, 8, 8, 8, 8, 8, 8, 8, 8, 8, 8, 8, 8, 8, 8, 8, 8, 8, 8, 8, 8, 8, 8, 8, 8, 8, 8, 8, 8, 8, 8, 8, 8, 8, 8, 8, 8, 8, 8, 8, 8, 8, 8, 8, 8, 8, 8, 8, 8, 8, 8, 8, 8, 8, 8, 8, 8, 8, 8, 8, 8, 8, 8, 8, 8, 8, 8, 8, 8, 8, 8, 8] : List UInt8) (w8 x_14)).bind fun c_16 =>
  some (w64 (n_15 + (w64 (c_16.toNat : Int)))) : Option Int)) rfl rfl (by decide) rfl ?_
 exact go
instance : Io0 cx 173 := ⟨rfl⟩
instance i145 {x : Int} : Rn cx (f145 x) 145 [(.int .u64 x)] (fun (r : Int) => (iT r)) (fun r => []) := by
 refine Rn.of rfl rfl (by decide) rfl ?_; unfold f145; exact go
instance : Io0 cx 145 := ⟨rfl⟩
instance i169 {x : Int} {y : Int} : Rn cx (f169 x y) 169 [(iT x), (iT y)] (fun (r : Bool) => (.bool r)) (fun r => []) := by
 refine Rn.of (e := (
  (f184 x).bind fun o1 =>
  (jn (QN (fun (y : Bool) => [(4, .v (.bool y))])) ((if o1 = true then
  (f184 y).bind fun o6 =>
  (jn (QN (fun (y : Bool) => [(4, .v (.bool y))])) ((if ¬ (o6 = true) then
  some true
  else
  some (decide (x < y))) : Option (Bool))).bind fun x_8 =>
  some x_8
  else
  some (decide (x < y))) : Option (Bool))).bind fun x_3 =>
  some x_3 : Option Bool)) rfl rfl (by decide) rfl ?_
 exact go
instance : Io0 cx 169 := ⟨rfl⟩
instance i163_1 {a : Int} {b : Int} {i_2 : Int} : Lp cx (lw (b, i_2) (f163_1 a)) 49 L163_1 (fun (zs : (List Int) × Int) => [(0, .v (osl eI true zs.1)), (1, .v (iT a)), (2, .v (iT b)), (6, .v (iT i_2)), (7, .v (iT zs.2))]) (QX 2 (fun (y : (List Int)) => [(0, .v (osl eI true y)), (1, .v (iT a)), (2, .v (iT b)), (6, .v (iT i_2))])) := by
 refine Lp.of (f := (fun
 | (data_4, j_5) =>
  (jn (QN (fun (y : Bool) => [(0, .v (osl eI true data_4)), (1, .v (iT a)), (2, .v (iT b)), (6, .v (iT i_2)), (7, .v (iT j_5)), (30, .v (.bool y))])) ((if j_5 > a then
  (ix data_4 j_5).bind fun v_9 =>
  (ix data_4 (w64 (j_5 - 1))).bind fun v_11 =>
  (f169 v_9 v_11).bind fun o13 =>
  some o13
  else
  some false) : Option (Bool))).bind fun x_6 =>
  if x_6 = true then
  (ix data_4 (w64 (j_5 - 1))).bind fun v_16 =>
  (ix data_4 j_5).bind fun v_18 =>
  (ix (data_4.set j_5.toNat v_16) (w64 (j_5 - 1))).bind fun v_21 =>
  some (.inl (((data_4.set j_5.toNat v_16).set (w64 (j_5 - 1)).toNat v_18), w64 (j_5 - 1)))
  else
  some (.inr data_4) : (List Int) × Int → Option (((List Int) × Int) ⊕ (List Int)))) ?_
 exact go
instance i163_0 {a : Int} {b : Int} : Lp cx (f163_0 a b) 49 L163_0 (fun (zs : (List Int) × Int) => [(0, .v (osl eI true zs.1)), (1, .v (iT a)), (2, .v (iT b)), (6, .v (iT zs.2))]) (QX 0 (fun (y : (List Int)) => [(0, .v (osl eI true y))])) := by
 refine Lp.of (f := (fun
 | (data_1, i_2) =>
  if i_2 < b then
  (iter (lw (b, i_2)  (f163_1 a)) (data_1, i_2)).bind fun data_26 =>
  some (.inl (data_26, w64 (i_2 + 1)))
  else
  some (.inr data_1) : (List Int) × Int → Option (((List Int) × Int) ⊕ (List Int)))) ?_
 exact go
instance i163 {data : (List Int)} {a : Int} {b : Int} : Rn cx (f163 data a b) 163 [(osl eI true data), (iT a), (iT b)] (fun (r : (List Int)) => (.tup [])) (fun r => [(osl eI true r)]) := by
 refine Rn.of rfl rfl (by decide) rfl ?_; unfold f163; exact go
instance i179_0 {hi : Int} {first : Int} : Lp cx (f179_0 hi first) 76 L179_0 (fun (zs : (List Int) × Int) => [(0, .v (osl eI true zs.1)), (2, .v (iT hi)), (3, .v (iT first)), (8, .v (iT zs.2))]) (QO (QX 0 (fun (y : (List Int)) => [(0, .v (osl eI true y))])) (QR (fun (y : (List Int)) => [(0, .v (osl eI true y))]))) := by
 refine Lp.of (f := (fun
 | (data_1, root_2) =>
  if (w64 ((w64 (2 * root_2)) + 1)) ≥ hi then
  some (.inr (.inl data_1))
  else
  (jn (QN (fun (y : Bool) => [(0, .v (osl eI true data_1)), (2, .v (iT hi)), (3, .v (iT first)), (8, .v (iT root_2)), (9, .v (iT (w64 ((w64 (2 * root_2)) + 1)))), (36, .v (.bool y))])) ((if (w64 ((w64 ((w64 (2 * root_2)) + 1)) + 1)) < hi then
  (ix data_1 (w64 (first + (w64 ((w64 (2 * root_2)) + 1))))).bind fun v_7 =>
  (ix data_1 (w64 ((w64 (first + (w64 ((w64 (2 * root_2)) + 1)))) + 1))).bind fun v_9 =>
  (f169 v_7 v_9).bind fun o11 =>
  some o11
  else
  some false) : Option (Bool))).bind fun x_4 =>
  (jn (QN (fun (y : Int) => [(0, .v (osl eI true data_1)), (2, .v (iT hi)), (3, .v (iT first)), (8, .v (iT root_2)), (9, .v (iT y))])) ((if x_4 = true then
  some (w64 ((w64 ((w64 (2 * root_2)) + 1)) + 1))
  else
  some (w64 ((w64 (2 * root_2)) + 1))) : Option Int)).bind fun child_16 =>
  (ix data_1 (w64 (first + root_2))).bind fun v_17 =>
  (ix data_1 (w64 (first + child_16))).bind fun v_19 =>
  (f169 v_17 v_19).bind fun o21 =>
  if ¬ (o21 = true) then
  some (.inr (.inr data_1))
  else
  (ix (data_1.set (w64 (first + root_2)).toNat v_19) (w64 (first + child_16))).bind fun v_25 =>
  some (.inl (((data_1.set (w64 (first + root_2)).toNat v_19).set (w64 (first + child_16)).toNat v_17), child_16)) : (List Int) × Int → Option (((List Int) × Int) ⊕ ((List Int) ⊕ (List Int))))) ?_
 exact go
instance i179 {data : (List Int)} {lo : Int} {hi : Int} {first : Int} : Rn cx (f179 data lo hi first) 179 [(osl eI true data), (iT lo), (iT hi), (iT first)] (fun (r : (List Int)) => (.tup [])) (fun r => [(osl eI true r)]) := by
 refine Rn.of rfl rfl (by decide) rfl ?_; unfold f179; exact go
instance i164_0 {a : Int} {b : Int} : Lp cx (f164_0 a b) 56 L164_0 (fun (zs : (List Int) × Int) => [(0, .v (osl eI true zs.1)), (6, .v (iT a)), (7, .v (iT 0)), (8, .v (iT (w64 (b - a)))), (9, .v (iT zs.2))]) (QX 0 (fun (y : (List Int)) => [(0, .v (osl eI true y)), (6, .v (iT a)), (7, .v (iT 0)), (8, .v (iT (w64 (b - a))))])) := by
 refine Lp.of ?_; unfold f164_0; exact go
instance i164_1 {a : Int} : Lp cx (f164_1 a) 56 L164_1 (fun (zs : (List Int) × Int) => [(0, .v (osl eI true zs.1)), (6, .v (iT a)), (7, .v (iT 0)), (10, .v (iT zs.2))]) (QX 2 (fun (y : (List Int)) => [(0, .v (osl eI true y))])) := by
 refine Lp.of ?_; unfold f164_1; exact go
instance i164 {data : (List Int)} {a : Int} {b : Int} : Rn cx (f164 data a b) 164 [(osl eI true data), (iT a), (iT b)] (fun (r : (List Int)) => (.tup [])) (fun r => [(osl eI true r)]) := by
 refine Rn.of rfl rfl (by decide) rfl ?_; unfold f164; exact go
instance i180 {length : Int} : Rn cx (f180 length) 180 [(iT length)] (fun (r : Int) => (.int .u64 r)) (fun r => []) := by
 refine Rn.of rfl rfl (by decide) rfl ?_; unfold f180; exact go
instance : Io0 cx 180 := ⟨rfl⟩
instance i181 {r0 : Int} : Rn cx (f181 r0) 181 [(.ptr true [(.int .u64 r0)])] (fun (r : Int × Int) => (.int .u64 r.1)) (fun r => [(.ptr true [(.int .u64 r.2)])]) := by
 refine Rn.of rfl rfl (by decide) rfl ?_; unfold f181; exact go
instance i165_0 {a : Int} {b : Int} {o4 : Int} : Lp cx (f165_0 a b o4) 65 L165_0 (fun (zs : (List Int) × Int × Int) => [(0, .v (osl eI true zs.1)), (1, .v (iT a)), (6, .v (iT (w64 (b - a)))), (7, .v (.ptr true [(.int .u64 zs.2.1)])), (8, .v (.int .u64 o4)), (9, .v (iT zs.2.2))]) (QX 0 (fun (y : (List Int)) => [(0, .v (osl eI true y))])) := by
 refine Lp.of (f := (fun
 | (data_6, random_7, idx_8) =>
  if idx_8 ≤ (w64 ((w64 (a + (w64 ((w64 ((w64 (b - a)).tdiv 4)) * 2)))) + 1)) then
  (f181 random_7).bind fun o10 =>
  (jn (QN (fun (y : Int) => [(0, .v (osl eI true data_6)), (1, .v (iT a)), (6, .v (iT (w64 (b - a)))), (7, .v (.ptr true [(.int .u64 o10.2)])), (8, .v (.int .u64 o4)), (9, .v (iT idx_8)), (10, .v (iT y))])) ((if (w64 (band .u64 o10.1 (IntKind.u64.wrap (o4 - 1)))) ≥ (w64 (b - a)) then
  some (w64 ((w64 (band .u64 o10.1 (IntKind.u64.wrap (o4 - 1)))) - (w64 (b - a))))
  else
  some (w64 (band .u64 o10.1 (IntKind.u64.wrap (o4 - 1))))) : Option Int)).bind fun other_15 =>
  (ix data_6 (w64 (a + other_15))).bind fun v_16 =>
  (ix data_6 idx_8).bind fun v_18 =>
  (ix (data_6.set idx_8.toNat v_16) (w64 (a + other_15))).bind fun v_21 =>
  some (.inl (((data_6.set idx_8.toNat v_16).set (w64 (a + other_15)).toNat v_18), o10.2, w64 (idx_8 + 1)))
  else
  some (.inr data_6) : (List Int) × Int × Int → Option (((List Int) × Int × Int) ⊕ (List Int)))) ?_
 exact go
instance i165 {data : (List Int)} {a : Int} {b : Int} : Rn cx (f165 data a b) 165 [(osl eI true data), (iT a), (iT b)] (fun (r : (List Int)) => (.tup [])) (fun r => [(osl eI true r)]) := by
 refine Rn.of (e := (
  (jn (QN (fun (y : (List Int)) => [(0, .v (osl eI true y))])) ((if (w64 (b - a)) ≥ 8 then
  (f180 (w64 (b - a))).bind fun o4 =>
  (iter (f165_0 a b o4) (data, IntKind.u64.wrap (w64 (b - a)), w64 ((w64 (a + (w64 ((w64 ((w64 (b - a)).tdiv 4)) * 2)))) - 1))).bind fun data_26 =>
  some data_26
  else
  some data) : Option (List Int))).bind fun data_27 =>
  some data_27 : Option (List Int))) rfl rfl (by decide) rfl ?_
 exact go
instance i187 {data : (List Int)} {a : Int} {b : Int} {swaps : Int} : Rn cx (f187 data a b swaps) 187 [(ssl eI data), (iT a), (iT b), (.ptr true [(iT swaps)])] (fun (r : Int × Int × Int) => (.tup [(iT r.1), (iT r.2.1)])) (fun r => [(.ptr true [(iT r.2.2)])]) := by
 refine Rn.of rfl rfl (by decide) rfl ?_; unfold f187; exact go
instance i183 {data : (List Int)} {a : Int} {b : Int} {c : Int} {swaps : Int} : Rn cx (f183 data a b c swaps) 183 [(ssl eI data), (iT a), (iT b), (iT c), (.ptr true [(iT swaps)])] (fun (r : Int × Int) => (iT r.1)) (fun r => [(.ptr true [(iT r.2)])]) := by
 refine Rn.of rfl rfl (by decide) rfl ?_; unfold f183; exact go
instance i182 {data : (List Int)} {a : Int} {swaps : Int} : Rn cx (f182 data a swaps) 182 [(ssl eI data), (iT a), (.ptr true [(iT swaps)])] (fun (r : Int × Int) => (iT r.1)) (fun r => [(.ptr true [(iT r.2)])]) := by
 refine Rn.of rfl rfl (by decide) rfl ?_; unfold f182; exact go
instance i166 {data : (List Int)} {a : Int} {b : Int} : Rn cx (f166 data a b) 166 [(ssl eI data), (iT a), (iT b)] (fun (r : Int × Int) => (.tup [(iT r.1), (iT r.2)])) (fun r => []) := by
 refine Rn.of (e := (
  (jn (QN (fun (y : Int × Int) => [(9, .v (.ptr true [(iT y.1)])), (11, .v (iT y.2))])) ((if (w64 (b - a)) ≥ 8 then
  (jn (QN (fun (y : Int × Int × Int × Int) => [(0, .v (ssl eI data)), (9, .v (.ptr true [(iT y.1)])), (10, .v (iT y.2.1)), (11, .v (iT y.2.2.1)), (12, .v (iT y.2.2.2))])) ((if (w64 (b - a)) ≥ 50 then
  (f182 data (w64 (a + (w64 (w64 ((w64 (b - a)).tdiv 4))))) 0).bind fun o7 =>
  (f182 data (w64 (a + (w64 ((w64 ((w64 (b - a)).tdiv 4)) * 2)))) o7.2).bind fun o9 =>
  (f182 data (w64 (a + (w64 ((w64 ((w64 (b - a)).tdiv 4)) * 3)))) o9.2).bind fun o11 =>
  some (o11.2, o7.1, o9.1, o11.1)
  else
  some (0, w64 (a + (w64 (w64 ((w64 (b - a)).tdiv 4)))), w64 (a + (w64 ((w64 ((w64 (b - a)).tdiv 4)) * 2))), w64 (a + (w64 ((w64 ((w64 (b - a)).tdiv 4)) * 3))))) : Option (Int × Int × Int × Int))).bind fun (swaps_13, i_14, j_15, k_16) =>
  (f183 data i_14 j_15 k_16 swaps_13).bind fun o17 =>
  some (o17.2, o17.1)
  else
  some (0, w64 (a + (w64 ((w64 ((w64 (b - a)).tdiv 4)) * 2))))) : Option (Int × Int))).bind fun (swaps_19, j_20) =>
  if swaps_19 = 0 then
  some (j_20, 1)
  else
  if swaps_19 = 12 then
  some (j_20, 2)
  else
  some (j_20, 0) : Option (Int × Int))) rfl rfl (by decide) rfl ?_
 exact go
instance : Io0 cx 166 := ⟨rfl⟩
instance i167_0 : Lp cx f167_0 32 L167_0 (fun (zs : (List Int) × Int × Int) => [(0, .v (osl eI true zs.1)), (6, .v (iT zs.2.1)), (7, .v (iT zs.2.2))]) (QX 0 (fun (y : (List Int)) => [(0, .v (osl eI true y))])) := by
 refine Lp.of ?_; unfold f167_0; exact go
instance i167 {data : (List Int)} {a : Int} {b : Int} : Rn cx (f167 data a b) 167 [(osl eI true data), (iT a), (iT b)] (fun (r : (List Int)) => (.tup [])) (fun r => [(osl eI true r)]) := by
 refine Rn.of rfl rfl (by decide) rfl ?_; unfold f167; exact go
instance i168_1 {a : Int} {b : Int} {data_1 : (List Int)} {j_3 : Int} : Lp cx (lw (a, j_3) (f168_1 b data_1)) 133 L168_1 (fun (zs : Int) => [(0, .v (osl eI true data_1)), (1, .v (iT a)), (2, .v (iT b)), (7, .v (iT zs)), (8, .v (iT j_3))]) (QX 2 (fun (y : Int) => [(0, .v (osl eI true data_1)), (1, .v (iT a)), (2, .v (iT b)), (7, .v (iT y)), (8, .v (iT j_3))])) := by
 refine Lp.of (f := (fun
 | i_5 =>
  (jn (QN (fun (y : Bool) => [(0, .v (osl eI true data_1)), (1, .v (iT a)), (2, .v (iT b)), (7, .v (iT i_5)), (8, .v (iT j_3)), (32, .v (.bool y))])) ((if i_5 < b then
  (ix data_1 i_5).bind fun v_9 =>
  (ix data_1 (w64 (i_5 - 1))).bind fun v_11 =>
  (f169 v_9 v_11).bind fun o13 =>
  some (decide (¬ (o13 = true)))
  else
  some false) : Option (Bool))).bind fun x_6 =>
  if x_6 = true then
  some (.inl (w64 (i_5 + 1)))
  else
  some (.inr i_5) : Int → Option (Int ⊕ Int))) ?_
 exact go
instance i168_2 {a : Int} {b : Int} {j_3 : Int} {i_18 : Int} : Lp cx (lw (a, b, j_3, i_18) f168_2) 133 L168_2 (fun (zs : (List Int) × Int) => [(0, .v (osl eI true zs.1)), (1, .v (iT a)), (2, .v (iT b)), (7, .v (iT i_18)), (8, .v (iT j_3)), (9, .v (iT zs.2))]) (QX 4 (fun (y : (List Int)) => [(0, .v (osl eI true y)), (1, .v (iT a)), (2, .v (iT b)), (7, .v (iT i_18)), (8, .v (iT j_3))])) := by
 refine Lp.of ?_; unfold lw f168_2; exact go
instance i168_3 {a : Int} {b : Int} {j_3 : Int} {i_18 : Int} : Lp cx (lw (a, j_3, i_18) (f168_3 b)) 133 L168_3 (fun (zs : (List Int) × Int) => [(0, .v (osl eI true zs.1)), (1, .v (iT a)), (2, .v (iT b)), (7, .v (iT i_18)), (8, .v (iT j_3)), (10, .v (iT zs.2))]) (QX 6 (fun (y : (List Int)) => [(0, .v (osl eI true y)), (1, .v (iT a)), (2, .v (iT b)), (7, .v (iT i_18)), (8, .v (iT j_3))])) := by
 refine Lp.of ?_; unfold lw f168_3; exact go
instance i168_0 {a : Int} {b : Int} : Lp cx (f168_0 a b) 133 L168_0 (fun (zs : (List Int) × Int × Int) => [(0, .v (osl eI true zs.1)), (1, .v (iT a)), (2, .v (iT b)), (7, .v (iT zs.2.1)), (8, .v (iT zs.2.2))]) (QO (QX 0 (fun (y : (List Int)) => [(0, .v (osl eI true y))])) (QR (fun (y : (List Int) × Bool) => [(0, .v (osl eI true y.1)), (6, .v (.bool y.2))]))) := by
 refine Lp.of (f := (fun
 | (data_1, i_2, j_3) =>
  if j_3 < 5 then
  (iter (lw (a, j_3)  (f168_1 b data_1)) i_2).bind fun i_18 =>
  if i_18 = b then
  some (.inr (.inr (data_1, true)))
  else
  if (w64 (b - a)) < 50 then
  some (.inr (.inr (data_1, false)))
  else
  (ix data_1 (w64 (i_18 - 1))).bind fun v_21 =>
  (ix data_1 i_18).bind fun v_23 =>
  (ix (data_1.set i_18.toNat v_21) (w64 (i_18 - 1))).bind fun v_26 =>
  (jn (QN (fun (y : (List Int)) => [(0, .v (osl eI true y)), (1, .v (iT a)), (2, .v (iT b)), (7, .v (iT i_18)), (8, .v (iT j_3))])) ((if (w64 (i_18 - a)) ≥ 2 then
  (iter (lw (a, b, j_3, i_18)  f168_2) (((data_1.set i_18.toNat v_21).set (w64 (i_18 - 1)).toNat v_23), w64 (i_18 - 1))).bind fun data_48 =>
  some data_48
  else
  some ((data_1.set i_18.toNat v_21).set (w64 (i_18 - 1)).toNat v_23)) : Option (List Int))).bind fun data_49 =>
  (jn (QN (fun (y : (List Int)) => [(0, .v (osl eI true y)), (1, .v (iT a)), (2, .v (iT b)), (7, .v (iT i_18)), (8, .v (iT j_3))])) ((if (w64 (b - i_18)) ≥ 2 then
  (iter (lw (a, j_3, i_18)  (f168_3 b)) (data_49, w64 (i_18 + 1))).bind fun data_69 =>
  some data_69
  else
  some data_49) : Option (List Int))).bind fun data_70 =>
  some (.inl (data_70, i_18, w64 (j_3 + 1)))
  else
  some (.inr (.inl data_1)) : (List Int) × Int × Int → Option (((List Int) × Int × Int) ⊕ ((List Int) ⊕ ((List Int) × Bool))))) ?_
 exact go
instance i168 {data : (List Int)} {a : Int} {b : Int} : Rn cx (f168 data a b) 168 [(osl eI true data), (iT a), (iT b)] (fun (r : Bool × (List Int)) => (.bool r.1)) (fun r => [(osl eI true r.2)]) := by
 refine Rn.of rfl rfl (by decide) rfl ?_; unfold f168; exact go
instance i170_1 {a : Int} {data_9 : (List Int)} {j_11 : Int} : Lp cx (f170_1 a data_9 j_11) 84 L170_1 (fun (zs : Int) => [(0, .v (osl eI true data_9)), (1, .v (iT a)), (9, .v (iT zs)), (10, .v (iT j_11))]) (QX 2 (fun (y : Int) => [(0, .v (osl eI true data_9)), (1, .v (iT a)), (9, .v (iT y)), (10, .v (iT j_11))])) := by
 refine Lp.of (f := (fun
 | i_12 =>
  (jn (QN (fun (y : Bool) => [(0, .v (osl eI true data_9)), (1, .v (iT a)), (9, .v (iT i_12)), (10, .v (iT j_11)), (43, .v (.bool y))])) ((if i_12 ≤ j_11 then
  (ix data_9 a).bind fun v_16 =>
  (ix data_9 i_12).bind fun v_18 =>
  (f169 v_16 v_18).bind fun o20 =>
  some (decide (¬ (o20 = true)))
  else
  some false) : Option (Bool))).bind fun x_13 =>
  if x_13 = true then
  some (.inl (w64 (i_12 + 1)))
  else
  some (.inr i_12) : Int → Option (Int ⊕ Int))) ?_
 exact go
instance i170_2 {a : Int} {data_9 : (List Int)} {i_25 : Int} : Lp cx (f170_2 a data_9 i_25) 84 L170_2 (fun (zs : Int) => [(0, .v (osl eI true data_9)), (1, .v (iT a)), (9, .v (iT i_25)), (10, .v (iT zs))]) (QX 4 (fun (y : Int) => [(0, .v (osl eI true data_9)), (1, .v (iT a)), (9, .v (iT i_25)), (10, .v (iT y))])) := by
 refine Lp.of (f := (fun
 | j_26 =>
  (jn (QN (fun (y : Bool) => [(0, .v (osl eI true data_9)), (1, .v (iT a)), (9, .v (iT i_25)), (10, .v (iT j_26)), (59, .v (.bool y))])) ((if i_25 ≤ j_26 then
  (ix data_9 a).bind fun v_30 =>
  (ix data_9 j_26).bind fun v_32 =>
  (f169 v_30 v_32).bind fun o34 =>
  some o34
  else
  some false) : Option (Bool))).bind fun x_27 =>
  if x_27 = true then
  some (.inl (w64 (j_26 - 1)))
  else
  some (.inr j_26) : Int → Option (Int ⊕ Int))) ?_
 exact go
instance i170_0 {a : Int} : Lp cx (f170_0 a) 84 L170_0 (fun (zs : (List Int) × Int × Int) => [(0, .v (osl eI true zs.1)), (1, .v (iT a)), (9, .v (iT zs.2.1)), (10, .v (iT zs.2.2))]) (QX 0 (fun (y : (List Int) × Int) => [(0, .v (osl eI true y.1)), (9, .v (iT y.2))])) := by
 refine Lp.of ?_; unfold f170_0; exact go
instance i170 {data : (List Int)} {a : Int} {b : Int} {pivot : Int} : Rn cx (f170 data a b pivot) 170 [(osl eI true data), (iT a), (iT b), (iT pivot)] (fun (r : Int × (List Int)) => (iT r.1)) (fun r => [(osl eI true r.2)]) := by
 refine Rn.of rfl rfl (by decide) rfl ?_; unfold f170; exact go
instance i171_0 {data : (List Int)} {a : Int} {b : Int} {pivot : Int} {v_1 : Int} {v_3 : Int} : Lp cx (f171_0 data a b pivot v_1 v_3) 168 L171_0 (fun (zs : Int) => [(0, .v (osl eI true ((data.set a.toNat v_1).set pivot.toNat v_3))), (1, .v (iT a)), (10, .v (iT zs)), (11, .v (iT (w64 (b - 1))))]) (QX 0 (fun (y : Int) => [(0, .v (osl eI true ((data.set a.toNat v_1).set pivot.toNat v_3))), (1, .v (iT a)), (10, .v (iT y)), (11, .v (iT (w64 (b - 1))))])) := by
 refine Lp.of (f := (fun
 | i_9 =>
  (jn (QN (fun (y : Bool) => [(0, .v (osl eI true ((data.set a.toNat v_1).set pivot.toNat v_3))), (1, .v (iT a)), (10, .v (iT i_9)), (11, .v (iT (w64 (b - 1)))), (43, .v (.bool y))])) ((if i_9 ≤ (w64 (b - 1)) then
  (ix ((data.set a.toNat v_1).set pivot.toNat v_3) i_9).bind fun v_13 =>
  (ix ((data.set a.toNat v_1).set pivot.toNat v_3) a).bind fun v_15 =>
  (f169 v_13 v_15).bind fun o17 =>
  some o17
  else
  some false) : Option (Bool))).bind fun x_10 =>
  if x_10 = true then
  some (.inl (w64 (i_9 + 1)))
  else
  some (.inr i_9) : Int → Option (Int ⊕ Int))) ?_
 exact go
instance i171_1 {data : (List Int)} {a : Int} {pivot : Int} {v_1 : Int} {v_3 : Int} {i_22 : Int} : Lp cx (f171_1 data a pivot v_1 v_3 i_22) 168 L171_1 (fun (zs : Int) => [(0, .v (osl eI true ((data.set a.toNat v_1).set pivot.toNat v_3))), (1, .v (iT a)), (10, .v (iT i_22)), (11, .v (iT zs))]) (QX 2 (fun (y : Int) => [(0, .v (osl eI true ((data.set a.toNat v_1).set pivot.toNat v_3))), (1, .v (iT a)), (10, .v (iT i_22)), (11, .v (iT y))])) := by
 refine Lp.of (f := (fun
 | j_23 =>
  (jn (QN (fun (y : Bool) => [(0, .v (osl eI true ((data.set a.toNat v_1).set pivot.toNat v_3))), (1, .v (iT a)), (10, .v (iT i_22)), (11, .v (iT j_23)), (60, .v (.bool y))])) ((if i_22 ≤ j_23 then
  (ix ((data.set a.toNat v_1).set pivot.toNat v_3) j_23).bind fun v_27 =>
  (ix ((data.set a.toNat v_1).set pivot.toNat v_3) a).bind fun v_29 =>
  (f169 v_27 v_29).bind fun o31 =>
  some (decide (¬ (o31 = true)))
  else
  some false) : Option (Bool))).bind fun x_24 =>
  if x_24 = true then
  some (.inl (w64 (j_23 - 1)))
  else
  some (.inr j_23) : Int → Option (Int ⊕ Int))) ?_
 exact go
end
end Go.Proofs.YtaanfdjhmhifiaaGreatH
