import Derived.Test.YtjmemfggbhkofaaGreatTg1c
set_option maxHeartbeats 2000000
set_option linter.unusedVariables false
set_option linter.unusedSimpArgs false
set_option linter.defProp false
set_option linter.unusedSectionVars false
set_option maxRecDepth 100000
namespace Go.Proofs.YtjmemfggbhkofaaGreatH
open Go
noncomputable section
instance i11 {db : Database} {query : Query} : Rn cx (f11 db query) 11 [(.agg [(ssl eRelation db.Relations), (ssl eFact db.Facts)]), (.agg [(iT query.VariableCount), (ssl eAtom query.Atoms), (ssl eI query.Free)])] (fun (r : Database × Bool) => (.tup [(.agg [(ssl eRelation r.1.Relations), (ssl eFact r.1.Facts)]), (.bool r.2)])) (fun r => []) := Rn.o (e := (
  sn 4 4 (.ptr true [(osl eRelation true ([])), (osl eFact true ([]))]) <| 
  (f16 db query).bind fun o1 =>
  if (o1.length : Int) = 0 then
  (f36 db).bind fun o4 =>
  some (o4, false)
  else
  sn 2 7 (osl eI true ([])) <| 
  (iter (lw o1  (f11_0 db)) ([], 0)).bind fun all_13 =>
  (ix o1 0).bind fun v_14 =>
  (f39 db v_14).bind fun o16 =>
  (f38 all_13 o16).bind fun o18 =>
  sn 0 36 (ssl eI o18) <| 
  (f37 db o18).bind fun o20 =>
  some (o20.1, o20.2) : Option (Database × Bool))) rfl (by exact go)
instance : Io0 cx 11 := ⟨rfl⟩
instance i10_0 {query : Query} : Lp cx (f10_0 query) 21 L10_0 (fun (zs : (List Relation) × (List Fact) × Bool) => [(3, .v (.ptr true [(iT query.VariableCount), (ssl eAtom query.Atoms), (ssl eI query.Free)])), (4, .v (.ptr true [(osl eRelation true ([])), (osl eFact true ([]))])), (5, .v (.ptr true [(ssl eRelation zs.1), (ssl eFact zs.2.1)])), (6, .v (.bool zs.2.2))]) (QX 0 (fun (y : (List Relation) × (List Fact)) => [(4, .v (.ptr true [(osl eRelation true ([])), (osl eFact true ([]))])), (5, .v (.ptr true [(ssl eRelation y.1), (ssl eFact y.2)]))])) := Lp.of (by unfold f10_0; exact go)
instance i10 {db : Database} {query : Query} : Rn cx (f10 db query) 10 [(.agg [(ssl eRelation db.Relations), (ssl eFact db.Facts)]), (.agg [(iT query.VariableCount), (ssl eAtom query.Atoms), (ssl eI query.Free)])] (fun (r : Database) => (.agg [(ssl eRelation r.Relations), (ssl eFact r.Facts)])) (fun r => []) := Rn.o (e := (
  sn 3 4 (.ptr true [(osl eRelation true ([])), (osl eFact true ([]))]) <| 
  (f11 db query).bind fun o1 =>
  (iter (f10_0 query) (o1.1.Relations, o1.1.Facts, o1.2)).bind fun (out_11, out_12) =>
  some ({ Relations := out_11, Facts := out_12 } : Database) : Option Database)) rfl (by exact go)
instance : Io0 cx 10 := ⟨rfl⟩
instance i18 {d : Database} {q : Query} : Rn cx (f18 d q) 18 [(.agg [(ssl eRelation d.Relations), (ssl eFact d.Facts)]), (.agg [(iT q.VariableCount), (ssl eAtom q.Atoms), (ssl eI q.Free)])] (fun (r : Bool) => (.bool r)) (fun r => []) := Rn.o (e := (
  (f49 d).bind fun o1 =>
  (jn (QN (fun (y : Bool) => [(4, .v (.bool y))])) ((if o1 = true then
  (f50 d.Relations q).bind fun o6 =>
  some o6
  else
  some false) : Option (Bool))).bind fun x_3 =>
  some x_3 : Option Bool)) rfl (by exact go)
instance : Io0 cx 18 := ⟨rfl⟩
instance i163_0 {n0 : Int} : Lp cx (f163_0 n0) 13 L163_0 (fun (zs : (List Int)) => [(0, .v (iT n0)), (3, .v (osl eI true zs))]) (QX 0 (fun (y : (List Int)) => [(3, .v (osl eI true y))])) := Lp.of (by unfold f163_0; exact go)
instance i163 {n0 : Int} : Rn cx (f163 n0) 163 [(iT n0)] (fun (r : (List Int)) => (osl eI true r)) (fun r => []) := Rn.o (e := (
  sn 3 3 (osl eI true ([])) <| 
  (iter (f163_0 n0) ([])).bind fun l_7 =>
  some l_7 : Option (List Int))) rfl (by exact go)
instance : Io0 cx 163 := ⟨rfl⟩
instance i197_0 {a : Atom} {f : Fact} : Lp cx (f197_0 a f) 79 L197_0 (fun (zs : (List Int) × Int) => [(3, .v (.ptr true [(iT a.Relation), (ssl eI a.Terms)])), (4, .v (.ptr true [(iT f.Relation), (ssl eI f.Values)])), (8, .v (osl eI true zs.1)), (9, .v (iT zs.2))]) (QO (QX 0 (fun (y : (List Int)) => [(8, .v (osl eI true y))])) (QR (fun (y : (List Int) × Bool) => [(6, .v (osl eI true y.1)), (7, .v (.bool y.2))]))) := Lp.of (f := (fun
 | (x_7, i_8) =>
  if i_8 < (a.Terms.length : Int) then
  (jb 1 (QO (QN (fun (y : (List Int)) => [(3, .v (.ptr true [(iT a.Relation), (ssl eI a.Terms)])), (4, .v (.ptr true [(iT f.Relation), (ssl eI f.Values)])), (8, .v (osl eI true y)), (9, .v (iT i_8))])) (QR (fun (y : (List Int) × Bool) => [(6, .v (osl eI true y.1)), (7, .v (.bool y.2))]))) (((ix a.Terms i_8).bind fun v_12 =>
  if v_12 < 0 then
  (ix f.Values i_8).bind fun v_15 =>
  if (w64 ((-1) - v_12)) ≠ v_15 then
  some (.inr (x_7, false))
  else
  some (.inl x_7)
  else
  (ix x_7 v_12).bind fun v_18 =>
  (jn (QN (fun (y : Bool) => [(3, .v (.ptr true [(iT a.Relation), (ssl eI a.Terms)])), (4, .v (.ptr true [(iT f.Relation), (ssl eI f.Values)])), (8, .v (osl eI true x_7)), (9, .v (iT i_8)), (10, .v (iT v_12)), (68, .v (.bool y))])) ((if v_18 ≥ 0 then
  (ix f.Values i_8).bind fun v_23 =>
  some (decide (v_18 ≠ v_23))
  else
  some false) : Option (Bool))).bind fun x_20 =>
  if x_20 = true then
  some (.inr (x_7, false))
  else
  (ix f.Values i_8).bind fun v_26 =>
  some (.inl (x_7.set v_12.toNat v_26))) : Option ((List Int) ⊕ ((List Int) × Bool)))).bind fun o => match o with
  | .inl x_29 =>
  some (.inl (x_29, w64 (i_8 + 1)))
  | .inr (x_30, x_31) =>
  some (.inr (.inr (x_30, x_31)))
  else
  some (.inr (.inl x_7)) : (List Int) × Int → Option (((List Int) × Int) ⊕ ((List Int) ⊕ ((List Int) × Bool))))) (by exact go)
instance i197 {a : Atom} {f : Fact} {vals : (List Int)} : Rn cx (f197 a f vals) 197 [(.agg [(iT a.Relation), (ssl eI a.Terms)]), (.agg [(iT f.Relation), (ssl eI f.Values)]), (ssl eI vals)] (fun (r : (List Int) × Bool) => (.tup [(osl eI true r.1), (.bool r.2)])) (fun r => []) := Rn.o (e := (
  (app 8 ([]) vals).bind fun l_1 =>
  sn 8 8 (osl eI true l_1) <| 
  (jn (QN (fun (y : Bool) => [(3, .v (.ptr true [(iT a.Relation), (ssl eI a.Terms)])), (4, .v (.ptr true [(iT f.Relation), (ssl eI f.Values)])), (8, .v (osl eI true l_1)), (27, .v (.bool y))])) ((if f.Relation ≠ a.Relation then
  some true
  else
  some (decide ((f.Values.length : Int) ≠ (a.Terms.length : Int)))) : Option (Bool))).bind fun x_3 =>
  if x_3 = true then
  some (l_1, false)
  else
  (iter (f197_0 a f) (l_1, 0)).bind fun o => match o with
  | .inl x_34 =>
  some (x_34, true)
  | .inr (x_35, x_36) =>
  some (x_35, x_36) : Option ((List Int) × Bool))) rfl (by exact go)
instance : Io0 cx 197 := ⟨rfl⟩
instance i162_0 {d : Database} {q : Query} {k : Int} {vals : (List Int)} {facts : (List Int)} {rec : Database → Query → Int → (List Int) → (List Int) → Option (List Embedding)} [hrec : ∀ d q k vals facts, Rn cx (rec d q k vals facts) 162 [(.agg [(ssl eRelation d.Relations), (ssl eFact d.Facts)]), (.agg [(iT q.VariableCount), (ssl eAtom q.Atoms), (ssl eI q.Free)]), (iT k), (ssl eI vals), (ssl eI facts)] (fun o => (osl eEmbedding true o)) (fun o => [])] : Lp cx (f162_0 d q k vals facts rec) 67 L162_0 (fun (zs : (List Embedding) × Int) => [(2, .v (iT k)), (3, .v (ssl eI vals)), (4, .v (ssl eI facts)), (5, .v (.ptr true [(ssl eRelation d.Relations), (ssl eFact d.Facts)])), (6, .v (.ptr true [(iT q.VariableCount), (ssl eAtom q.Atoms), (ssl eI q.Free)])), (11, .v (osl eEmbedding true zs.1)), (12, .v (iT zs.2))]) (QX 0 (fun (y : (List Embedding)) => [(11, .v (osl eEmbedding true y))])) := Lp.of (f := (fun
 | (out_6, i_7) =>
  if i_7 < (d.Facts.length : Int) then
  (ix q.Atoms k).bind fun v_9 =>
  (ix d.Facts i_7).bind fun v_11 =>
  (f197 v_9 v_11 vals).bind fun o13 =>
  (jn (QN (fun (y : (List Embedding)) => [(2, .v (iT k)), (3, .v (ssl eI vals)), (4, .v (ssl eI facts)), (5, .v (.ptr true [(ssl eRelation d.Relations), (ssl eFact d.Facts)])), (6, .v (.ptr true [(iT q.VariableCount), (ssl eAtom q.Atoms), (ssl eI q.Free)])), (11, .v (osl eEmbedding true y)), (12, .v (iT i_7))])) ((if o13.2 = true then
  (app 8 ([]) facts).bind fun l_18 =>
  (app 8 l_18 ([i_7])).bind fun l_20 =>
  sn 12 63 (osl eI true l_20) <| 
  (rec d q (w64 (k + 1)) o13.1 l_20).bind fun o22 =>
  pl (plains (arr eEmbedding true o22)) <| 
  (app 48 out_6 o22).bind fun l_24 =>
  some l_24
  else
  some out_6) : Option (List Embedding))).bind fun out_26 =>
  some (.inl (out_26, w64 (i_7 + 1)))
  else
  some (.inr out_6) : (List Embedding) × Int → Option (((List Embedding) × Int) ⊕ (List Embedding)))) (by exact go)
instance i162 : ∀ (n : Nat) d q k vals facts, Rn cx (f162 n d q k vals facts) 162 [(.agg [(ssl eRelation d.Relations), (ssl eFact d.Facts)]), (.agg [(iT q.VariableCount), (ssl eAtom q.Atoms), (ssl eI q.Free)]), (iT k), (ssl eI vals), (ssl eI facts)] (fun (r : (List Embedding)) => (osl eEmbedding true r)) (fun r => []) := by
 intro n
 induction n with
 | zero => intro d q k vals facts; exact ⟨fun r h => by simp [f162] at h⟩
 | succ n ih =>
  intro d q k vals facts
  refine Rn.of (e := (
   if k = (q.Atoms.length : Int) then
   (app 8 ([]) vals).bind fun l_2 =>
   (app 8 ([]) facts).bind fun l_4 =>
   sn 6 22 (osl eI true l_2) <| 
   sn 0 25 (osl eI true l_4) <| 
   sn 3 10 (osl eEmbedding true ([({ Values := l_2, Facts := l_4 } : Embedding)])) <| 
   some ([({ Values := l_2, Facts := l_4 } : Embedding)])
   else
   sn 2 11 (osl eEmbedding true ([])) <| 
   (iter (f162_0 d q k vals facts (f162 n)) ([], 0)).bind fun out_29 =>
   some out_29 : Option (List Embedding))) rfl rfl (by decide) rfl ?_
  exact go
instance : Io0 cx 162 := ⟨rfl⟩
instance i112 {d : Database} {q : Query} : Rn cx (f112 d q) 112 [(.agg [(ssl eRelation d.Relations), (ssl eFact d.Facts)]), (.agg [(iT q.VariableCount), (ssl eAtom q.Atoms), (ssl eI q.Free)])] (fun (r : (List Embedding)) => (osl eEmbedding true r)) (fun r => []) := Rn.o (e := (
  (f18 d q).bind fun o1 =>
  if ¬ (o1 = true) then
  sn 2 4 (osl eEmbedding true ([])) <| 
  some ([])
  else
  sn 5 15 (osl eI true ([])) <| 
  (f163 q.VariableCount).bind fun o4 =>
  (f162 64 d q 0 o4 ([])).bind fun o6 =>
  some o6 : Option (List Embedding))) rfl (by exact go)
instance : Io0 cx 112 := ⟨rfl⟩
instance i113_1 {l : (List Int)} {out_1 : (List Int)} {i_2 : Int} : Lp cx (f113_1 l out_1 i_2) 47 L113_1 (fun (zs : Int) => [(0, .v (ssl eI l)), (3, .v (ssl eI out_1)), (4, .v (iT i_2)), (5, .v (iT zs))]) (QX 2 (fun (y : Int) => [(0, .v (ssl eI l)), (3, .v (ssl eI out_1)), (4, .v (iT i_2)), (5, .v (iT y))])) := Lp.of (f := (fun
 | k_4 =>
  (jn (QN (fun (y : Bool) => [(0, .v (ssl eI l)), (3, .v (ssl eI out_1)), (4, .v (iT i_2)), (5, .v (iT k_4)), (28, .v (.bool y))])) ((if k_4 > 0 then
  (ix out_1 (w64 (k_4 - 1))).bind fun v_8 =>
  (ix l i_2).bind fun v_10 =>
  some (decide (v_8 > v_10))
  else
  some false) : Option (Bool))).bind fun x_5 =>
  if x_5 = true then
  some (.inl (w64 (k_4 - 1)))
  else
  some (.inr k_4) : Int → Option (Int ⊕ Int))) (by exact go)
instance i113_0 {l : (List Int)} : Lp cx (f113_0 l) 47 L113_0 (fun (zs : (List Int) × Int) => [(0, .v (ssl eI l)), (3, .v (ssl eI zs.1)), (4, .v (iT zs.2))]) (QX 0 (fun (y : (List Int)) => [(3, .v (ssl eI y))])) := Lp.of (f := (fun
 | (out_1, i_2) =>
  if i_2 < (l.length : Int) then
  (iter (f113_1 l out_1 i_2) (out_1.length : Int)).bind fun k_15 =>
  (cutL out_1 0 k_15).bind fun l_16 =>
  (ix l i_2).bind fun v_18 =>
  (cutL out_1 k_15 out_1.length).bind fun l_20 =>
  (app 8 ([]) l_16).bind fun l_22 =>
  (app 8 l_22 ([v_18])).bind fun l_24 =>
  (app 8 l_24 l_20).bind fun l_26 =>
  sn 16 3 (osl eI true l_26) <| 
  sn 0 3 (ssl eI l_26) <| 
  some (.inl (l_26, w64 (i_2 + 1)))
  else
  some (.inr out_1) : (List Int) × Int → Option (((List Int) × Int) ⊕ (List Int)))) (by exact go)
instance i113 {l : (List Int)} : Rn cx (f113 l) 113 [(ssl eI l)] (fun (r : (List Int)) => (ssl eI r)) (fun r => []) := Rn.o (e := (
  sn 3 3 (osl eI true ([])) <| 
  sn 0 3 (ssl eI ([])) <| 
  (iter (f113_0 l) ([], 0)).bind fun out_30 =>
  some out_30 : Option (List Int))) rfl (by exact go)
instance : Io0 cx 113 := ⟨rfl⟩
instance i89_0 {d : Database} {l : (List Int)} : Lp cx (f89_0 d l) 38 L89_0 (fun (zs : Int) => [(1, .v (ssl eI l)), (2, .v (.ptr true [(ssl eRelation d.Relations), (ssl eFact d.Facts)])), (5, .v (iT zs))]) (QO (QX 0 (fun (y : Unit) => [])) (QR (fun (y : Bool) => [(4, .v (.bool y))]))) := Lp.of (f := (fun
 | i_1 =>
  if i_1 < (l.length : Int) then
  (ix l i_1).bind fun v_3 =>
  (f87 v_3 0 (w64 ((d.Facts.length : Int) - 1))).bind fun o5 =>
  (jn (QN (fun (y : Bool) => [(1, .v (ssl eI l)), (2, .v (.ptr true [(ssl eRelation d.Relations), (ssl eFact d.Facts)])), (5, .v (iT i_1)), (37, .v (.bool y))])) ((if ¬ (o5 = true) then
  some true
  else
  (jn (QN (fun (y : Bool) => [(1, .v (ssl eI l)), (2, .v (.ptr true [(ssl eRelation d.Relations), (ssl eFact d.Facts)])), (5, .v (iT i_1)), (37, .v (.bool y))])) ((if i_1 > 0 then
  (ix l (w64 (i_1 - 1))).bind fun v_13 =>
  some (decide (v_3 ≤ v_13))
  else
  some false) : Option (Bool))).bind fun x_10 =>
  some x_10) : Option (Bool))).bind fun x_7 =>
  if x_7 = true then
  some (.inr (.inr false))
  else
  some (.inl (w64 (i_1 + 1)))
  else
  some (.inr (.inl ())) : Int → Option (Int ⊕ (Unit ⊕ Bool)))) (by exact go)
instance i89 {d : Database} {l : (List Int)} : Rn cx (f89 d l) 89 [(.agg [(ssl eRelation d.Relations), (ssl eFact d.Facts)]), (ssl eI l)] (fun (r : Bool) => (.bool r)) (fun r => []) := Rn.o rfl (by unfold f89; exact go)
instance : Io0 cx 89 := ⟨rfl⟩
instance i43_0 {d : Database} {l : (List Int)} : Lp cx (f43_0 d l) 51 L43_0 (fun (zs : (List Relation) × (List Fact) × Int) => [(1, .v (ssl eI l)), (2, .v (.ptr true [(ssl eRelation d.Relations), (ssl eFact d.Facts)])), (4, .v (.ptr true [(osl eRelation true ([])), (osl eFact true ([]))])), (6, .v (.ptr true [(osl eRelation true zs.1), (osl eFact true zs.2.1)])), (7, .v (iT zs.2.2))]) (QX 0 (fun (y : (List Relation) × (List Fact)) => [(4, .v (.ptr true [(osl eRelation true ([])), (osl eFact true ([]))])), (6, .v (.ptr true [(osl eRelation true y.1), (osl eFact true y.2)]))])) := Lp.of (f := (fun
 | (x_11, x_12, i_13) =>
  if i_13 < (l.length : Int) then
  (ix l i_13).bind fun v_15 =>
  (ix d.Facts v_15).bind fun v_17 =>
  (app 8 ([]) v_17.Values).bind fun l_19 =>
  sn 18 45 (osl eI true l_19) <| 
  (app 32 x_12 ([({ Relation := v_17.Relation, Values := l_19 } : Fact)])).bind fun l_21 =>
  some (.inl (x_11, l_21, w64 (i_13 + 1)))
  else
  some (.inr (x_11, x_12)) : (List Relation) × (List Fact) × Int → Option (((List Relation) × (List Fact) × Int) ⊕ ((List Relation) × (List Fact))))) (by exact go)
instance i43 {d : Database} {l : (List Int)} : Rn cx (f43 d l) 43 [(.agg [(ssl eRelation d.Relations), (ssl eFact d.Facts)]), (ssl eI l)] (fun (r : Database × Bool) => (.tup [(.agg [(osl eRelation true r.1.Relations), (osl eFact true r.1.Facts)]), (.bool r.2)])) (fun r => []) := Rn.o (e := (
  sn 3 4 (.ptr true [(osl eRelation true ([])), (osl eFact true ([]))]) <| 
  (f49 d).bind fun o1 =>
  (jn (QN (fun (y : Bool) => [(1, .v (ssl eI l)), (2, .v (.ptr true [(ssl eRelation d.Relations), (ssl eFact d.Facts)])), (4, .v (.ptr true [(osl eRelation true ([])), (osl eFact true ([]))])), (17, .v (.bool y))])) ((if ¬ (o1 = true) then
  some true
  else
  (f89 d l).bind fun o6 =>
  some (decide (¬ (o6 = true)))) : Option (Bool))).bind fun x_3 =>
  if x_3 = true then
  sn 1 18 (.agg [(osl eRelation true ([])), (osl eFact true ([]))]) <| 
  some (({ Relations := [], Facts := [] } : Database), false)
  else
  (app 32 ([]) d.Relations).bind fun l_9 =>
  sn 4 22 (osl eRelation true l_9) <| 
  sn 2 23 (.agg [(osl eRelation true l_9), (osl eFact true ([]))]) <| 
  (iter (f43_0 d l) (l_9, [], 0)).bind fun (x_25, x_26) =>
  some (({ Relations := x_25, Facts := x_26 } : Database), true) : Option (Database × Bool))) rfl (by exact go)
instance : Io0 cx 43 := ⟨rfl⟩
instance i135 {l : (List Relation)} {f : Fact} : Rn cx (f135 l f) 135 [(ssl eRelation l), (.agg [(iT f.Relation), (ssl eI f.Values)])] (fun (r : (List Int)) => (osl eI true r)) (fun r => []) := Rn.o (e := (
  (f94 l f).bind fun o1 =>
  if ¬ (o1 = true) then
  sn 2 4 (osl eI true ([])) <| 
  some ([])
  else
  (ix l f.Relation).bind fun v_4 =>
  (cutL f.Values 0 v_4.KeyLength).bind fun l_6 =>
  (app 8 ([]) l_6).bind fun l_8 =>
  sn 12 4 (osl eI true l_8) <| 
  some l_8 : Option (List Int))) rfl (by exact go)
instance : Io0 cx 135 := ⟨rfl⟩
instance i88 {l : (List Relation)} {a : Fact} {b : Fact} : Rn cx (f88 l a b) 88 [(ssl eRelation l), (.agg [(iT a.Relation), (ssl eI a.Values)]), (.agg [(iT b.Relation), (ssl eI b.Values)])] (fun (r : Bool) => (.bool r)) (fun r => []) := Rn.o (e := (
  (f94 l a).bind fun o1 =>
  (jn (QN (fun (y : Bool) => [(0, .v (ssl eRelation l)), (6, .v (.bool y))])) ((if o1 = true then
  (f94 l b).bind fun o6 =>
  (jn (QN (fun (y : Bool) => [(0, .v (ssl eRelation l)), (6, .v (.bool y))])) ((if o6 = true then
  (jn (QN (fun (y : Bool) => [(0, .v (ssl eRelation l)), (6, .v (.bool y))])) ((if a.Relation = b.Relation then
  (f135 l a).bind fun o14 =>
  (f135 l b).bind fun o16 =>
  (f90 o14 o16).bind fun o18 =>
  some (decide (o18 = 0))
  else
  some false) : Option (Bool))).bind fun x_11 =>
  some x_11
  else
  some false) : Option (Bool))).bind fun x_8 =>
  some x_8
  else
  some false) : Option (Bool))).bind fun x_3 =>
  some x_3 : Option Bool)) rfl (by exact go)
instance : Io0 cx 88 := ⟨rfl⟩
instance i41_0 {d : Database} {i : Int} : Lp cx (f41_0 d i) 45 L41_0 (fun (zs : (List Int) × Int) => [(1, .v (iT i)), (2, .v (.ptr true [(ssl eRelation d.Relations), (ssl eFact d.Facts)])), (5, .v (osl eI true zs.1)), (6, .v (iT zs.2))]) (QX 0 (fun (y : (List Int)) => [(5, .v (osl eI true y))])) := Lp.of (f := (fun
 | (out_1, k_2) =>
  (jn (QN (fun (y : Bool) => [(1, .v (iT i)), (2, .v (.ptr true [(ssl eRelation d.Relations), (ssl eFact d.Facts)])), (5, .v (osl eI true out_1)), (6, .v (iT k_2)), (24, .v (.bool y))])) ((if k_2 < (d.Facts.length : Int) then
  (f49 d).bind fun o6 =>
  (jn (QN (fun (y : Bool) => [(1, .v (iT i)), (2, .v (.ptr true [(ssl eRelation d.Relations), (ssl eFact d.Facts)])), (5, .v (osl eI true out_1)), (6, .v (iT k_2)), (24, .v (.bool y))])) ((if o6 = true then
  (f87 i 0 (w64 ((d.Facts.length : Int) - 1))).bind fun o11 =>
  some o11
  else
  some false) : Option (Bool))).bind fun x_8 =>
  some x_8
  else
  some false) : Option (Bool))).bind fun x_3 =>
  if x_3 = true then
  (ix d.Facts i).bind fun v_14 =>
  (ix d.Facts k_2).bind fun v_16 =>
  (f88 d.Relations v_14 v_16).bind fun o18 =>
  (jn (QN (fun (y : (List Int)) => [(1, .v (iT i)), (2, .v (.ptr true [(ssl eRelation d.Relations), (ssl eFact d.Facts)])), (5, .v (osl eI true y)), (6, .v (iT k_2))])) ((if o18 = true then
  (app 8 out_1 ([k_2])).bind fun l_23 =>
  some l_23
  else
  some out_1) : Option (List Int))).bind fun out_25 =>
  some (.inl (out_25, w64 (k_2 + 1)))
  else
  some (.inr out_1) : (List Int) × Int → Option (((List Int) × Int) ⊕ (List Int)))) (by exact go)
instance i41 {d : Database} {i : Int} : Rn cx (f41 d i) 41 [(.agg [(ssl eRelation d.Relations), (ssl eFact d.Facts)]), (iT i)] (fun (r : (List Int)) => (osl eI true r)) (fun r => []) := Rn.o (e := (
  sn 4 5 (osl eI true ([])) <| 
  (iter (f41_0 d i) ([], 0)).bind fun out_28 =>
  some out_28 : Option (List Int))) rfl (by exact go)
instance : Io0 cx 41 := ⟨rfl⟩
instance i63_0 {d : Database} : Lp cx (f63_0 d) 31 L63_0 (fun (zs : (List (List Int)) × Int) => [(1, .v (.ptr true [(ssl eRelation d.Relations), (ssl eFact d.Facts)])), (3, .v (osl (eL eI) true zs.1)), (4, .v (iT zs.2))]) (QX 0 (fun (y : (List (List Int))) => [(3, .v (osl (eL eI) true y))])) := Lp.of (f := (fun
 | (out_1, i_2) =>
  (jn (QN (fun (y : Bool) => [(1, .v (.ptr true [(ssl eRelation d.Relations), (ssl eFact d.Facts)])), (3, .v (osl (eL eI) true out_1)), (4, .v (iT i_2)), (15, .v (.bool y))])) ((if i_2 < (d.Facts.length : Int) then
  (f49 d).bind fun o6 =>
  some o6
  else
  some false) : Option (Bool))).bind fun x_3 =>
  if x_3 = true then
  (f41 d i_2).bind fun o9 =>
  (ix o9 0).bind fun v_11 =>
  (jn (QN (fun (y : (List (List Int))) => [(1, .v (.ptr true [(ssl eRelation d.Relations), (ssl eFact d.Facts)])), (3, .v (osl (eL eI) true y)), (4, .v (iT i_2))])) ((if v_11 = i_2 then
  (app 24 out_1 ([o9])).bind fun l_16 =>
  some l_16
  else
  some out_1) : Option (List (List Int)))).bind fun out_18 =>
  some (.inl (out_18, w64 (i_2 + 1)))
  else
  some (.inr out_1) : (List (List Int)) × Int → Option (((List (List Int)) × Int) ⊕ (List (List Int))))) (by exact go)
instance i63 {d : Database} : Rn cx (f63 d) 63 [(.agg [(ssl eRelation d.Relations), (ssl eFact d.Facts)])] (fun (r : (List (List Int))) => (osl (eL eI) true r)) (fun r => []) := Rn.o (e := (
  sn 4 3 (osl (eL eI) true ([])) <| 
  (iter (f63_0 d) ([], 0)).bind fun out_21 =>
  some out_21 : Option (List (List Int)))) rfl (by exact go)
instance : Io0 cx 63 := ⟨rfl⟩
instance i164 {d : Database} : Rn cx (f164 d) 164 [(.agg [(ssl eRelation d.Relations), (ssl eFact d.Facts)])] (fun (r : Bool) => (.bool r)) (fun r => []) := Rn.o (e := (
  (f49 d).bind fun o1 =>
  (jn (QN (fun (y : Bool) => [(2, .v (.bool y))])) ((if o1 = true then
  (f63 d).bind fun o6 =>
  some (decide ((o6.length : Int) = (d.Facts.length : Int)))
  else
  some false) : Option (Bool))).bind fun x_3 =>
  some x_3 : Option Bool)) rfl (by exact go)
instance : Io0 cx 164 := ⟨rfl⟩
instance i114 {d : Database} {l : (List Int)} : Rn cx (f114 d l) 114 [(.agg [(ssl eRelation d.Relations), (ssl eFact d.Facts)]), (ssl eI l)] (fun (r : Bool) => (.bool r)) (fun r => []) := Rn.o (e := (
  (f43 d l).bind fun o1 =>
  (jn (QN (fun (y : Bool) => [(4, .v (.bool y))])) ((if o1.2 = true then
  (f164 o1.1).bind fun o6 =>
  some o6
  else
  some false) : Option (Bool))).bind fun x_3 =>
  some x_3 : Option Bool)) rfl (by exact go)
instance : Io0 cx 114 := ⟨rfl⟩
instance i62_0 {d : Database} {o1 : (List Embedding)} : Lp cx (f62_0 d o1) 33 L62_0 (fun (zs : (List (List Int)) × Int) => [(2, .v (.ptr true [(ssl eRelation d.Relations), (ssl eFact d.Facts)])), (5, .v (osl (eL eI) false zs.1)), (6, .v (ssl eEmbedding o1)), (7, .v (iT zs.2))]) (QX 0 (fun (y : (List (List Int))) => [(5, .v (osl (eL eI) false y))])) := Lp.of (f := (fun
 | (out_3, i_4) =>
  if i_4 < (o1.length : Int) then
  (ix o1 i_4).bind fun v_6 =>
  (f113 v_6.Facts).bind fun o8 =>
  (f114 d o8).bind fun o10 =>
  (jn (QN (fun (y : (List (List Int))) => [(2, .v (.ptr true [(ssl eRelation d.Relations), (ssl eFact d.Facts)])), (5, .v (osl (eL eI) false y)), (6, .v (ssl eEmbedding o1)), (7, .v (iT i_4))])) ((if o10 = true then
  (app 24 out_3 ([o8])).bind fun l_15 =>
  some l_15
  else
  some out_3) : Option (List (List Int)))).bind fun out_17 =>
  some (.inl (out_17, w64 (i_4 + 1)))
  else
  some (.inr out_3) : (List (List Int)) × Int → Option (((List (List Int)) × Int) ⊕ (List (List Int))))) (by exact go)
instance i62 {d : Database} {q : Query} : Rn cx (f62 d q) 62 [(.agg [(ssl eRelation d.Relations), (ssl eFact d.Facts)]), (.agg [(iT q.VariableCount), (ssl eAtom q.Atoms), (ssl eI q.Free)])] (fun (r : (List (List Int))) => (osl (eL eI) false r)) (fun r => []) := Rn.o (e := (
  sn 5 5 (osl (eL eI) false ([])) <| 
  (f112 d q).bind fun o1 =>
  sn 1 6 (ssl eEmbedding o1) <| 
  (iter (f62_0 d o1) ([], 0)).bind fun out_20 =>
  some out_20 : Option (List (List Int)))) rfl (by exact go)
instance : Io0 cx 62 := ⟨rfl⟩
instance i42_0 {l : (List Int)} {x : Int} : Lp cx (f42_0 l x) 18 L42_0 (fun (zs : Int) => [(0, .v (ssl eI l)), (1, .v (iT x)), (5, .v (iT zs))]) (QO (QX 0 (fun (y : Unit) => [])) (QR (fun (y : Bool) => [(4, .v (.bool y))]))) := Lp.of (by unfold f42_0; exact go)
instance i42 {l : (List Int)} {x : Int} : Rn cx (f42 l x) 42 [(ssl eI l), (iT x)] (fun (r : Bool) => (.bool r)) (fun r => []) := Rn.o rfl (by unfold f42; exact go)
instance : Io0 cx 42 := ⟨rfl⟩
instance i48_1 {d : Database} {o1 : (List (List Int))} {out_3 : (List Int)} {x_4 : Int} : Lp cx (lw (d, out_3) (f48_1 o1 x_4)) 42 L48_1 (fun (zs : Bool × Int) => [(2, .v (.ptr true [(ssl eRelation d.Relations), (ssl eFact d.Facts)])), (5, .v (osl eI true out_3)), (6, .v (osl (eL eI) false o1)), (7, .v (iT x_4)), (8, .v (.bool zs.1)), (9, .v (iT zs.2))]) (QX 2 (fun (y : Bool) => [(2, .v (.ptr true [(ssl eRelation d.Relations), (ssl eFact d.Facts)])), (5, .v (osl eI true out_3)), (6, .v (osl (eL eI) false o1)), (7, .v (iT x_4)), (8, .v (.bool y))])) := Lp.of (f := (fun
 | (is_6, i_7) =>
  if i_7 < (o1.length : Int) then
  (jn (QN (fun (y : Bool) => [(2, .v (.ptr true [(ssl eRelation d.Relations), (ssl eFact d.Facts)])), (5, .v (osl eI true out_3)), (6, .v (osl (eL eI) false o1)), (7, .v (iT x_4)), (8, .v (.bool y)), (9, .v (iT i_7))])) ((if is_6 = true then
  some true
  else
  (ix o1 i_7).bind fun v_12 =>
  (f42 v_12 x_4).bind fun o14 =>
  some o14) : Option (Bool))).bind fun is_9 =>
  some (.inl (is_9, w64 (i_7 + 1)))
  else
  some (.inr is_6) : Bool × Int → Option ((Bool × Int) ⊕ Bool))) (by exact go)
instance i48_0 {d : Database} {o1 : (List (List Int))} : Lp cx (f48_0 d o1) 42 L48_0 (fun (zs : (List Int) × Int) => [(2, .v (.ptr true [(ssl eRelation d.Relations), (ssl eFact d.Facts)])), (5, .v (osl eI true zs.1)), (6, .v (osl (eL eI) false o1)), (7, .v (iT zs.2))]) (QX 0 (fun (y : (List Int)) => [(5, .v (osl eI true y))])) := Lp.of (f := (fun
 | (out_3, x_4) =>
  if x_4 < (d.Facts.length : Int) then
  (iter (lw (d, out_3)  (f48_1 o1 x_4)) (false, 0)).bind fun is_18 =>
  (jn (QN (fun (y : (List Int)) => [(2, .v (.ptr true [(ssl eRelation d.Relations), (ssl eFact d.Facts)])), (5, .v (osl eI true y)), (6, .v (osl (eL eI) false o1)), (7, .v (iT x_4))])) ((if is_18 = true then
  (app 8 out_3 ([x_4])).bind fun l_22 =>
  some l_22
  else
  some out_3) : Option (List Int))).bind fun out_24 =>
  some (.inl (out_24, w64 (x_4 + 1)))
  else
  some (.inr out_3) : (List Int) × Int → Option (((List Int) × Int) ⊕ (List Int)))) (by exact go)
instance i48 {d : Database} {q : Query} : Rn cx (f48 d q) 48 [(.agg [(ssl eRelation d.Relations), (ssl eFact d.Facts)]), (.agg [(iT q.VariableCount), (ssl eAtom q.Atoms), (ssl eI q.Free)])] (fun (r : (List Int)) => (osl eI true r)) (fun r => []) := Rn.o (e := (
  sn 5 5 (osl eI true ([])) <| 
  (f62 d q).bind fun o1 =>
  (iter (f48_0 d o1) ([], 0)).bind fun out_27 =>
  some out_27 : Option (List Int))) rfl (by exact go)
instance : Io0 cx 48 := ⟨rfl⟩
instance i17_0 {d : Database} {q : Query} {o1 : (List Int)} : Lp cx (f17_0 d q o1) 33 L17_0 (fun (zs : (List Int) × Int) => [(2, .v (.ptr true [(ssl eRelation d.Relations), (ssl eFact d.Facts)])), (3, .v (.ptr true [(iT q.VariableCount), (ssl eAtom q.Atoms), (ssl eI q.Free)])), (5, .v (osl eI true zs.1)), (6, .v (osl eI true o1)), (7, .v (iT zs.2))]) (QX 0 (fun (y : (List Int)) => [(5, .v (osl eI true y))])) := Lp.of (f := (fun
 | (out_3, i_4) =>
  (jn (QN (fun (y : Bool) => [(2, .v (.ptr true [(ssl eRelation d.Relations), (ssl eFact d.Facts)])), (3, .v (.ptr true [(iT q.VariableCount), (ssl eAtom q.Atoms), (ssl eI q.Free)])), (5, .v (osl eI true out_3)), (6, .v (osl eI true o1)), (7, .v (iT i_4)), (21, .v (.bool y))])) ((if i_4 < (d.Facts.length : Int) then
  (f18 d q).bind fun o8 =>
  some o8
  else
  some false) : Option (Bool))).bind fun x_5 =>
  if x_5 = true then
  (f42 o1 i_4).bind fun o11 =>
  (jn (QN (fun (y : (List Int)) => [(2, .v (.ptr true [(ssl eRelation d.Relations), (ssl eFact d.Facts)])), (3, .v (.ptr true [(iT q.VariableCount), (ssl eAtom q.Atoms), (ssl eI q.Free)])), (5, .v (osl eI true y)), (6, .v (osl eI true o1)), (7, .v (iT i_4))])) ((if ¬ (o11 = true) then
  (app 8 out_3 ([i_4])).bind fun l_16 =>
  some l_16
  else
  some out_3) : Option (List Int))).bind fun out_18 =>
  some (.inl (out_18, w64 (i_4 + 1)))
  else
  some (.inr out_3) : (List Int) × Int → Option (((List Int) × Int) ⊕ (List Int)))) (by exact go)
instance i17 {d : Database} {q : Query} : Rn cx (f17 d q) 17 [(.agg [(ssl eRelation d.Relations), (ssl eFact d.Facts)]), (.agg [(iT q.VariableCount), (ssl eAtom q.Atoms), (ssl eI q.Free)])] (fun (r : (List Int)) => (osl eI true r)) (fun r => []) := Rn.o (e := (
  sn 5 5 (osl eI true ([])) <| 
  (f48 d q).bind fun o1 =>
  (iter (f17_0 d q o1) ([], 0)).bind fun out_21 =>
  some out_21 : Option (List Int))) rfl (by exact go)
instance : Io0 cx 17 := ⟨rfl⟩
instance i12_0 {d : Database} {o8 : (List Int)} : Lp cx (f12_0 d o8) 48 L12_0 (fun (zs : (List Int) × Int) => [(2, .v (.ptr true [(ssl eRelation d.Relations), (ssl eFact d.Facts)])), (4, .v (.ptr true [(osl eRelation true ([])), (osl eFact true ([]))])), (7, .v (osl eI true o8)), (8, .v (osl eI true zs.1)), (9, .v (iT zs.2))]) (QX 0 (fun (y : (List Int)) => [(2, .v (.ptr true [(ssl eRelation d.Relations), (ssl eFact d.Facts)])), (4, .v (.ptr true [(osl eRelation true ([])), (osl eFact true ([]))])), (8, .v (osl eI true y))])) := Lp.of (f := (fun
 | (keep_10, i_11) =>
  if i_11 < (d.Facts.length : Int) then
  (f42 o8 i_11).bind fun o13 =>
  (jn (QN (fun (y : (List Int)) => [(2, .v (.ptr true [(ssl eRelation d.Relations), (ssl eFact d.Facts)])), (4, .v (.ptr true [(osl eRelation true ([])), (osl eFact true ([]))])), (7, .v (osl eI true o8)), (8, .v (osl eI true y)), (9, .v (iT i_11))])) ((if ¬ (o13 = true) then
  (app 8 keep_10 ([i_11])).bind fun l_18 =>
  some l_18
  else
  some keep_10) : Option (List Int))).bind fun keep_20 =>
  some (.inl (keep_20, w64 (i_11 + 1)))
  else
  some (.inr keep_10) : (List Int) × Int → Option (((List Int) × Int) ⊕ (List Int)))) (by exact go)
instance i12 {d : Database} {q : Query} : Rn cx (f12 d q) 12 [(.agg [(ssl eRelation d.Relations), (ssl eFact d.Facts)]), (.agg [(iT q.VariableCount), (ssl eAtom q.Atoms), (ssl eI q.Free)])] (fun (r : Database × Bool) => (.tup [(.agg [(osl eRelation true r.1.Relations), (osl eFact true r.1.Facts)]), (.bool r.2)])) (fun r => []) := Rn.o (e := (
  sn 4 4 (.ptr true [(osl eRelation true ([])), (osl eFact true ([]))]) <| 
  (f17 d q).bind fun o1 =>
  if (o1.length : Int) = 0 then
  (f40 d).bind fun o4 =>
  some (o4, false)
  else
  (ix o1 0).bind fun v_6 =>
  (f41 d v_6).bind fun o8 =>
  sn 3 8 (osl eI true ([])) <| 
  (iter (f12_0 d o8) ([], 0)).bind fun keep_23 =>
  (f43 d keep_23).bind fun o24 =>
  some (o24.1, true) : Option (Database × Bool))) rfl (by exact go)
instance : Io0 cx 12 := ⟨rfl⟩
instance i14_0 {q : Query} : Lp cx (f14_0 q) 20 L14_0 (fun (zs : (List Relation) × (List Fact)) => [(3, .v (.ptr true [(iT q.VariableCount), (ssl eAtom q.Atoms), (ssl eI q.Free)])), (4, .v (.ptr true [(osl eRelation true ([])), (osl eFact true ([]))])), (5, .v (.ptr true [(osl eRelation true zs.1), (osl eFact true zs.2)]))]) (QR (fun (y : (List Relation) × (List Fact)) => [(4, .v (.ptr true [(osl eRelation true y.1), (osl eFact true y.2)]))])) := Lp.of (by unfold f14_0; exact go)
instance i14 {d : Database} {q : Query} : Rn cx (f14 d q) 14 [(.agg [(ssl eRelation d.Relations), (ssl eFact d.Facts)]), (.agg [(iT q.VariableCount), (ssl eAtom q.Atoms), (ssl eI q.Free)])] (fun (r : Database) => (.agg [(osl eRelation true r.Relations), (osl eFact true r.Facts)])) (fun r => []) := Rn.o (e := (
  sn 3 4 (.ptr true [(osl eRelation true ([])), (osl eFact true ([]))]) <| 
  (f40 d).bind fun o1 =>
  (iter (f14_0 q) (o1.Relations, o1.Facts)).bind fun (x_10, x_11) =>
  some ({ Relations := x_10, Facts := x_11 } : Database) : Option Database)) rfl (by exact go)
instance : Io0 cx 14 := ⟨rfl⟩
instance i13_0 {a : Database} {b : Database} : Lp cx (f13_0 a b) 60 L13_0 (fun (zs : Int) => [(2, .v (.ptr true [(ssl eRelation a.Relations), (ssl eFact a.Facts)])), (3, .v (.ptr true [(ssl eRelation b.Relations), (ssl eFact b.Facts)])), (5, .v (iT zs))]) (QO (QX 0 (fun (y : Unit) => [(2, .v (.ptr true [(ssl eRelation a.Relations), (ssl eFact a.Facts)])), (3, .v (.ptr true [(ssl eRelation b.Relations), (ssl eFact b.Facts)]))])) (QR (fun (y : Bool) => [(4, .v (.bool y))]))) := Lp.of (by unfold f13_0; exact go)
instance i13_1 {a : Database} {b : Database} : Lp cx (f13_1 a b) 60 L13_1 (fun (zs : Int) => [(2, .v (.ptr true [(ssl eRelation a.Relations), (ssl eFact a.Facts)])), (3, .v (.ptr true [(ssl eRelation b.Relations), (ssl eFact b.Facts)])), (6, .v (iT zs))]) (QO (QX 2 (fun (y : Unit) => [])) (QR (fun (y : Bool) => [(4, .v (.bool y))]))) := Lp.of (by unfold f13_1; exact go)
instance i13 {a : Database} {b : Database} : Rn cx (f13 a b) 13 [(.agg [(ssl eRelation a.Relations), (ssl eFact a.Facts)]), (.agg [(ssl eRelation b.Relations), (ssl eFact b.Facts)])] (fun (r : Bool) => (.bool r)) (fun r => []) := Rn.o (e := (
  (jn (QN (fun (y : Bool) => [(2, .v (.ptr true [(ssl eRelation a.Relations), (ssl eFact a.Facts)])), (3, .v (.ptr true [(ssl eRelation b.Relations), (ssl eFact b.Facts)])), (22, .v (.bool y))])) ((if (a.Relations.length : Int) ≠ (b.Relations.length : Int) then
  some true
  else
  some (decide ((a.Facts.length : Int) ≠ (b.Facts.length : Int)))) : Option (Bool))).bind fun x_1 =>
  if x_1 = true then
  some false
  else
  (iter (f13_0 a b) 0).bind fun o => match o with
  | .inl _ =>
  ((iter (f13_1 a b) 0).bind fun o => match o with
  | .inl _ =>
  some true
  | .inr x_26 =>
  some x_26)
  | .inr x_14 =>
  some x_14 : Option Bool)) rfl (by exact go)
instance : Io0 cx 13 := ⟨rfl⟩
instance i15_0 {a : (List Int)} {b : (List Int)} : Lp cx (f15_0 a b) 26 L15_0 (fun (zs : Int) => [(0, .v (ssl eI a)), (1, .v (ssl eI b)), (5, .v (iT zs))]) (QO (QX 0 (fun (y : Unit) => [])) (QR (fun (y : Bool) => [(4, .v (.bool y))]))) := Lp.of (by unfold f15_0; exact go)
instance i15 {a : (List Int)} {b : (List Int)} : Rn cx (f15 a b) 15 [(ssl eI a), (ssl eI b)] (fun (r : Bool) => (.bool r)) (fun r => []) := Rn.o rfl (by unfold f15; exact go)
instance : Io0 cx 15 := ⟨rfl⟩
instance i19 {db : Database} {query : Query} : Rn cx (f19 db query) 19 [(.agg [(ssl eRelation db.Relations), (ssl eFact db.Facts)]), (.agg [(iT query.VariableCount), (ssl eAtom query.Atoms), (ssl eI query.Free)])] (fun (r : Bool) => (.bool r)) (fun r => []) := Rn.o (e := (
  (f45 db query).bind fun o1 =>
  (jn (QN (fun (y : Bool) => [(4, .v (.bool y))])) ((if o1 = true then
  (f16 db query).bind fun o6 =>
  some (decide ((o6.length : Int) = 0))
  else
  some false) : Option (Bool))).bind fun x_3 =>
  some x_3 : Option Bool)) rfl (by exact go)
instance : Io0 cx 19 := ⟨rfl⟩
instance i20 {d : Database} {q : Query} : Rn cx (f20 d q) 20 [(.agg [(ssl eRelation d.Relations), (ssl eFact d.Facts)]), (.agg [(iT q.VariableCount), (ssl eAtom q.Atoms), (ssl eI q.Free)])] (fun (r : Bool) => (.bool r)) (fun r => []) := Rn.o (e := (
  (f18 d q).bind fun o1 =>
  (jn (QN (fun (y : Bool) => [(4, .v (.bool y))])) ((if o1 = true then
  (f17 d q).bind fun o6 =>
  some (decide ((o6.length : Int) = 0))
  else
  some false) : Option (Bool))).bind fun x_3 =>
  some x_3 : Option Bool)) rfl (by exact go)
instance : Io0 cx 20 := ⟨rfl⟩
instance i179_0 {o1 : (List (List Int))} : Lp cx (f179_0 o1) 24 L179_0 (fun (zs : (List Int) × Int) => [(3, .v (osl eI true zs.1)), (4, .v (osl (eL eI) true o1)), (5, .v (iT zs.2))]) (QX 0 (fun (y : (List Int)) => [(3, .v (osl eI true y))])) := Lp.of (by unfold f179_0; exact go)
instance i179 {d : Database} : Rn cx (f179 d) 179 [(.agg [(ssl eRelation d.Relations), (ssl eFact d.Facts)])] (fun (r : (List Int)) => (osl eI true r)) (fun r => []) := Rn.o (e := (
  sn 4 3 (osl eI true ([])) <| 
  (f63 d).bind fun o1 =>
  (iter (f179_0 o1) ([], 0)).bind fun out_12 =>
  some out_12 : Option (List Int))) rfl (by exact go)
instance : Io0 cx 179 := ⟨rfl⟩
instance i142_0 {o4 : (List Int)} : Lp cx (f142_0 o4) 24 L142_0 (fun (zs : Int × Int) => [(3, .v (iT zs.1)), (4, .v (osl eI true o4)), (5, .v (iT zs.2))]) (QX 0 (fun (y : Int) => [(3, .v (iT y))])) := Lp.of (by unfold f142_0; exact go)
instance i142 {d : Database} : Rn cx (f142 d) 142 [(.agg [(ssl eRelation d.Relations), (ssl eFact d.Facts)])] (fun (r : Int) => (iT r)) (fun r => []) := Rn.o rfl (by unfold f142; exact go)
instance : Io0 cx 142 := ⟨rfl⟩
instance i143_0 {o6 : (List (List Int))} : Lp cx (f143_0 o6) 51 L143_0 (fun (zs : Int × (List Int) × Int) => [(1, .v (iT zs.1)), (6, .v (osl (eL eI) true o6)), (7, .v (osl eI true zs.2.1)), (8, .v (iT zs.2.2))]) (QX 0 (fun (y : (List Int)) => [(7, .v (osl eI true y))])) := Lp.of (by unfold f143_0; exact go)
instance i143 {d : Database} {k : Int} : Rn cx (f143 d k) 143 [(.agg [(ssl eRelation d.Relations), (ssl eFact d.Facts)]), (iT k)] (fun (r : (List Int) × Bool) => (.tup [(ssl eI r.1), (.bool r.2)])) (fun r => []) := Rn.o (e := (
  (f142 d).bind fun o1 =>
  (f87 k 0 (w64 (o1 - 1))).bind fun o3 =>
  if ¬ (o3 = true) then
  sn 3 4 (osl eI true ([])) <| 
  some ([], false)
  else
  (f63 d).bind fun o6 =>
  sn 3 7 (osl eI true ([])) <| 
  (iter (f143_0 o6) (k, [], w64 ((o6.length : Int) - 1))).bind fun out_24 =>
  sn 1 49 (ssl eI out_24) <| 
  (f113 out_24).bind fun o25 =>
  some (o25, true) : Option ((List Int) × Bool))) rfl (by exact go)
instance : Io0 cx 143 := ⟨rfl⟩
instance i144_1 {l : (List (List Int))} {s1 : (List Int)} {i_1 : Int} : Lp cx (f144_1 l s1 i_1) 36 L144_1 (fun (zs : Bool × Int) => [(0, .v (ssl (eL eI) l)), (1, .v (ssl eI s1)), (5, .v (iT i_1)), (6, .v (.bool zs.1)), (7, .v (iT zs.2))]) (QX 2 (fun (y : Bool) => [(0, .v (ssl (eL eI) l)), (1, .v (ssl eI s1)), (5, .v (iT i_1)), (6, .v (.bool y))])) := Lp.of (f := (fun
 | (all_3, k_4) =>
  (ix l i_1).bind fun v_5 =>
  if k_4 < (v_5.length : Int) then
  (jn (QN (fun (y : Bool) => [(0, .v (ssl (eL eI) l)), (1, .v (ssl eI s1)), (5, .v (iT i_1)), (6, .v (.bool y)), (7, .v (iT k_4))])) ((if all_3 = true then
  (ix v_5 k_4).bind fun v_11 =>
  (f42 s1 v_11).bind fun o13 =>
  some o13
  else
  some false) : Option (Bool))).bind fun all_8 =>
  some (.inl (all_8, w64 (k_4 + 1)))
  else
  some (.inr all_3) : Bool × Int → Option ((Bool × Int) ⊕ Bool))) (by exact go)
instance i144_0 {l : (List (List Int))} {s1 : (List Int)} : Lp cx (f144_0 l s1) 36 L144_0 (fun (zs : Int) => [(0, .v (ssl (eL eI) l)), (1, .v (ssl eI s1)), (5, .v (iT zs))]) (QO (QX 0 (fun (y : Unit) => [])) (QR (fun (y : Bool) => [(4, .v (.bool y))]))) := Lp.of (by unfold f144_0; exact go)
instance i144 {l : (List (List Int))} {s1 : (List Int)} : Rn cx (f144 l s1) 144 [(ssl (eL eI) l), (ssl eI s1)] (fun (r : Bool) => (.bool r)) (fun r => []) := Rn.o rfl (by unfold f144; exact go)
instance : Io0 cx 144 := ⟨rfl⟩
instance i96_0 {d : Database} {want : Bool} {o4 : (List (List Int))} : Lp cx (f96_0 d want o4) 39 L96_0 (fun (zs : Int) => [(2, .v (.bool want)), (3, .v (.ptr true [(ssl eRelation d.Relations), (ssl eFact d.Facts)])), (8, .v (osl (eL eI) false o4)), (9, .v (iT zs))]) (QO (QX 0 (fun (y : Unit) => [])) (QR (fun (y : (List Int) × Bool) => [(6, .v (ssl eI y.1)), (7, .v (.bool y.2))]))) := Lp.of (by unfold f96_0; exact go)
instance i96 {d : Database} {q : Query} {want : Bool} : Rn cx (f96 d q want) 96 [(.agg [(ssl eRelation d.Relations), (ssl eFact d.Facts)]), (.agg [(iT q.VariableCount), (ssl eAtom q.Atoms), (ssl eI q.Free)]), (.bool want)] (fun (r : (List Int) × Bool) => (.tup [(ssl eI r.1), (.bool r.2)])) (fun r => []) := Rn.o (e := (
  (f18 d q).bind fun o1 =>
  if ¬ (o1 = true) then
  sn 3 6 (osl eI true ([])) <| 
  some ([], false)
  else
  (f62 d q).bind fun o4 =>
  (iter (f96_0 d want o4) 0).bind fun o => match o with
  | .inl _ =>
  sn 3 6 (osl eI true ([])) <| 
  some ([], false)
  | .inr (x_17, x_18) =>
  some (x_17, x_18) : Option ((List Int) × Bool))) rfl (by exact go)
instance : Io0 cx 96 := ⟨rfl⟩
instance i51 {d : Database} {q : Query} : Rn cx (f51 d q) 51 [(.agg [(ssl eRelation d.Relations), (ssl eFact d.Facts)]), (.agg [(iT q.VariableCount), (ssl eAtom q.Atoms), (ssl eI q.Free)])] (fun (r : (List Int) × Bool) => (.tup [(ssl eI r.1), (.bool r.2)])) (fun r => []) := Rn.o rfl (by unfold f51; exact go)
instance : Io0 cx 51 := ⟨rfl⟩
instance i21 {d : Database} {q : Query} : Rn cx (f21 d q) 21 [(.agg [(ssl eRelation d.Relations), (ssl eFact d.Facts)]), (.agg [(iT q.VariableCount), (ssl eAtom q.Atoms), (ssl eI q.Free)])] (fun (r : Bool) => (.bool r)) (fun r => []) := Rn.o (e := (
  (f51 d q).bind fun o1 =>
  (f18 d q).bind fun o3 =>
  (jn (QN (fun (y : Bool) => [(4, .v (.bool y))])) ((if o3 = true then
  some (decide (¬ (o1.2 = true)))
  else
  some false) : Option (Bool))).bind fun x_5 =>
  some x_5 : Option Bool)) rfl (by exact go)
instance : Io0 cx 21 := ⟨rfl⟩
instance i97_0 {list : (List (List Int))} : Lp cx (f97_0 list) 18 L97_0 (fun (zs : Int × Int) => [(3, .v (iT zs.1)), (6, .v (ssl (eL eI) list)), (7, .v (iT (list.length : Int))), (8, .v (iT zs.2))]) (QX 0 (fun (y : Int) => [(3, .v (iT y))])) := Lp.of (by unfold f97_0; exact go)
instance i97 {list : (List (List Int))} : Rn cx (f97 list) 97 [(ssl (eL eI) list)] (fun (r : Int) => (iT r)) (fun r => []) := Rn.o rfl (by unfold f97; exact go)
instance : Io0 cx 97 := ⟨rfl⟩
instance i98_0 {list : (List (List Int))} : Lp cx (f98_0 list) 41 L98_0 (fun (zs : Int × (List Int) × Int) => [(0, .v (ssl (eL eI) list)), (1, .v (iT zs.1)), (5, .v (osl eI true zs.2.1)), (6, .v (iT zs.2.2))]) (QX 0 (fun (y : (List Int)) => [(5, .v (osl eI true y))])) := Lp.of (by unfold f98_0; exact go)
instance i98 {list : (List (List Int))} {rank : Int} : Rn cx (f98 list rank) 98 [(ssl (eL eI) list), (iT rank)] (fun (r : (List Int)) => (osl eI true r)) (fun r => []) := Rn.o (e := (
  (mkl 8 (list.length : Int) 0).bind fun l_1 =>
  sn 5 5 (osl eI true l_1) <| 
  (iter (f98_0 list) (rank, l_1, w64 ((list.length : Int) - 1))).bind fun out_20 =>
  some out_20 : Option (List Int))) rfl (by exact go)
instance : Io0 cx 98 := ⟨rfl⟩
instance i145_0 {s0 : (List (List Int))} {g_f : Nat} {cp_f : List T} {f : (List Int) → Option Bool} [hp_f : ∀ x0, Rn cx (f x0) g_f ((ssl eI x0) :: cp_f) (fun o => (.bool o)) (fun _ => [])] [Io0 cx g_f] : Lp cx (f145_0 s0 f) 19 L145_0 (fun (zs : Int) => [(0, .v (ssl (eL eI) s0)), (1, .v (.fn g_f cp_f)), (7, .v (iT (s0.length : Int))), (8, .v (iT zs))]) (QO (QX 0 (fun (y : Unit) => [])) (QR (fun (y : Int) => [(4, .v (iT y))]))) := Lp.of (by unfold f145_0; exact go)
instance i145 {s0 : (List (List Int))} {g_f : Nat} {cp_f : List T} {f : (List Int) → Option Bool} [hp_f : ∀ x0, Rn cx (f x0) g_f ((ssl eI x0) :: cp_f) (fun o => (.bool o)) (fun _ => [])] [Io0 cx g_f] : Rn cx (f145 s0 f) 145 [(ssl (eL eI) s0), (.fn g_f cp_f)] (fun (r : Int) => (iT r)) (fun r => []) := Rn.o rfl (by unfold f145; exact go)
instance : Io0 cx 145 := ⟨rfl⟩
instance i99 {s0 : (List (List Int))} {g_f : Nat} {cp_f : List T} {f : (List Int) → Option Bool} [hp_f : ∀ x0, Rn cx (f x0) g_f ((ssl eI x0) :: cp_f) (fun o => (.bool o)) (fun _ => [])] [Io0 cx g_f] : Rn cx (f99 s0 f) 99 [(ssl (eL eI) s0), (.fn g_f cp_f)] (fun (r : Bool) => (.bool r)) (fun r => []) := Rn.o rfl (by unfold f99; exact go)
instance : Io0 cx 99 := ⟨rfl⟩
instance i147 {n0 : Int} {c : (List Int)} : Rn cx (f147 n0 c) 147 [(iT n0), (.ptr false [(ssl eI c)])] (fun (r : Bool) => (.bool r)) (fun r => []) := Rn.o rfl (by unfold f147; exact go)
instance : Io0 cx 147 := ⟨rfl⟩
instance i101 {a : (List Int)} {b : (List Int)} : Rn cx (f101 a b) 101 [(ssl eI a), (ssl eI b)] (fun (r : Bool) => (.bool r)) (fun r => []) := Rn.o rfl (by unfold f101; exact go)
instance : Io0 cx 101 := ⟨rfl⟩
instance i100 {w : (List Int)} {c : (List Int)} : Rn cx (f100 w c) 100 [(ssl eI w), (.ptr false [(ssl eI c)])] (fun (r : Bool) => (.bool r)) (fun r => []) := Rn.o rfl (by unfold f100; exact go)
instance : Io0 cx 100 := ⟨rfl⟩
instance i52_0 {holds : Bool} {o4 : (List (List Int))} {o6 : (List (List Int))} {o8 : Int} : Lp cx (f52_0 holds o4 o6 o8) 45 L52_0 (fun (zs : (List Int) × Int × Int) => [(2, .v (.bool holds)), (9, .v (osl (eL eI) true o4)), (10, .v (osl (eL eI) true o6)), (11, .v (ssl eI zs.1)), (12, .v (iT zs.2.1)), (25, .v (iT o8)), (26, .v (iT zs.2.2))]) (QX 0 (fun (y : (List Int) × Int) => [(11, .v (ssl eI y.1)), (12, .v (iT y.2))])) := Lp.of (f := (fun
 | (first_10, count_11, x_12) =>
  if x_12 < o8 then
  (jb 1 (QN (fun (y : (List Int) × Int × (List Int)) => [(2, .v (.bool holds)), (9, .v (osl (eL eI) true o4)), (10, .v (osl (eL eI) true o6)), (11, .v (ssl eI y.1)), (12, .v (iT y.2.1)), (14, .v (.ptr false [(ssl eI y.2.2)])), (25, .v (iT o8)), (26, .v (iT x_12))])) (((f98 o6 x_12).bind fun o16 =>
  sn 2 14 (.ptr false [(ssl eI o16)]) <| 
  (f99 o4 (fun x0 => f100 x0 o16)).bind fun o18 =>
  if (o18 != holds) = true then
  some (first_10, count_11, o16)
  else
  (jn (QN (fun (y : (List Int)) => [(2, .v (.bool holds)), (9, .v (osl (eL eI) true o4)), (10, .v (osl (eL eI) true o6)), (11, .v (ssl eI y)), (12, .v (iT count_11)), (14, .v (.ptr false [(ssl eI o16)])), (25, .v (iT o8)), (26, .v (iT x_12))])) ((if count_11 = 0 then
  some o16
  else
  some first_10) : Option (List Int))).bind fun first_24 =>
  some (first_24, w64 (count_11 + 1), o16)) : Option ((List Int) × Int × (List Int)))).bind fun (first_25, count_26, repair_27) =>
  some (.inl (first_25, count_26, w64 (x_12 + 1)))
  else
  some (.inr (first_10, count_11)) : (List Int) × Int × Int → Option (((List Int) × Int × Int) ⊕ ((List Int) × Int)))) (by exact go)
end
end Go.Proofs.YtjmemfggbhkofaaGreatH
