import Derived.Test.YtcllfkplpdppiaaGreatTg1c
set_option maxHeartbeats 2000000
set_option linter.unusedVariables false
set_option linter.unusedSimpArgs false
set_option linter.defProp false
set_option linter.unusedSectionVars false
set_option maxRecDepth 100000
namespace Go.Proofs.YtcllfkplpdppiaaGreatH
open Go
noncomputable section
instance i134_0 {a2 : AV} {a3 : AV} {a4 : AV} {a5 : AV} {values : (List Int)} {facts : (List Int)} {c : Query} {c4 : Database} {v_8 : Atom} {rec : (List Int) → (List Int) → Query → (List Embedding) → Database → Option (List Embedding)} [hrec : ∀ values facts c c3 c4, Rn cx (ag (a2, a3, a4, a5) <| rec values facts c c3 c4) 134 [(ssl eI values), (ssl eI facts), (.at a2 (.ptr false [(iT c.VariableCount), (ssl eAtom c.Atoms), (ssl eI c.Free)])), (.at a3 (.ptr true [(osl eEmbedding true c3)])), (.at a4 (.ptr false [(ssl eRelation c4.Relations), (ssl eFact c4.Facts)])), (.at a5 (.ptr false [(.at (.fn 134 [a2, a3, a4, a5]) .und)]))] (fun o => (.tup [])) (fun o => [(.at a3 (.ptr true [(osl eEmbedding true o)]))])] : Lp cx (lw (a2, a3, a4, a5) (f134_0 values facts c c4 rec v_8)) 65 L134_0 (fun (zs : (List Embedding) × Int) => [(0, .v (ssl eI values)), (1, .v (ssl eI facts)), (2, .v (.at a2 (.ptr false [(iT c.VariableCount), (ssl eAtom c.Atoms), (ssl eI c.Free)]))), (3, .v (.at a3 (.ptr true [(osl eEmbedding true zs.1)]))), (4, .v (.at a4 (.ptr false [(ssl eRelation c4.Relations), (ssl eFact c4.Facts)]))), (5, .v (.at a5 (.ptr false [(.at (.fn 134 [a2, a3, a4, a5]) .und)]))), (8, .v (.ptr true [(iT v_8.Relation), (ssl eI v_8.Terms)])), (34, .v (ssl eFact c4.Facts)), (35, .v (iT (c4.Facts.length : Int))), (36, .v (iT zs.2))]) (QX 0 (fun (y : (List Embedding)) => [(3, .v (.at a3 (.ptr true [(osl eEmbedding true y)])))])) := by
 refine Lp.of (f := (fun
 | (x_10, x_11) =>
  if x_11 < (c4.Facts.length : Int) then
  (jb 1 (QN (fun (y : (List Embedding)) => [(0, .v (ssl eI values)), (1, .v (ssl eI facts)), (2, .v (.at a2 (.ptr false [(iT c.VariableCount), (ssl eAtom c.Atoms), (ssl eI c.Free)]))), (3, .v (.at a3 (.ptr true [(osl eEmbedding true y)]))), (4, .v (.at a4 (.ptr false [(ssl eRelation c4.Relations), (ssl eFact c4.Facts)]))), (5, .v (.at a5 (.ptr false [(.at (.fn 134 [a2, a3, a4, a5]) .und)]))), (8, .v (.ptr true [(iT v_8.Relation), (ssl eI v_8.Terms)])), (34, .v (ssl eFact c4.Facts)), (35, .v (iT (c4.Facts.length : Int))), (36, .v (iT x_11))])) (((ix c4.Facts x_11).bind fun v_15 =>
  if v_15.Relation ≠ v_8.Relation then
  some x_10
  else
  (f136 values v_8.Terms v_15.Values).bind fun o18 =>
  (jn (QN (fun (y : (List Embedding)) => [(0, .v (ssl eI values)), (1, .v (ssl eI facts)), (2, .v (.at a2 (.ptr false [(iT c.VariableCount), (ssl eAtom c.Atoms), (ssl eI c.Free)]))), (3, .v (.at a3 (.ptr true [(osl eEmbedding true y)]))), (4, .v (.at a4 (.ptr false [(ssl eRelation c4.Relations), (ssl eFact c4.Facts)]))), (5, .v (.at a5 (.ptr false [(.at (.fn 134 [a2, a3, a4, a5]) .und)]))), (8, .v (.ptr true [(iT v_8.Relation), (ssl eI v_8.Terms)])), (34, .v (ssl eFact c4.Facts)), (35, .v (iT (c4.Facts.length : Int))), (36, .v (iT x_11))])) ((if o18.2 = true then
  sn 5 61 (osl eI true ([x_11])) <| 
  (f135 facts).bind fun o23 =>
  (app 8 o23 ([x_11])).bind fun l_25 =>
  (ca [2, 3, 4, 5] <| ag (a2, a3, a4, a5) (rec o18.1 l_25 c x_10 c4)).bind fun o27 =>
  some o27
  else
  some x_10) : Option (List Embedding))).bind fun x_29 =>
  some x_29) : Option (List Embedding))).bind fun x_30 =>
  some (.inl (x_30, w64 (x_11 + 1)))
  else
  some (.inr x_10) : (List Embedding) × Int → Option (((List Embedding) × Int) ⊕ (List Embedding)))) ?_
 exact go
instance i134 : ∀ (n : Nat) values facts c c3 c4 (a2 a3 a4 a5 : AV), Rn cx (ag (a2, a3, a4, a5) (f134 n values facts c c3 c4)) 134 [(ssl eI values), (ssl eI facts), (.at a2 (.ptr false [(iT c.VariableCount), (ssl eAtom c.Atoms), (ssl eI c.Free)])), (.at a3 (.ptr true [(osl eEmbedding true c3)])), (.at a4 (.ptr false [(ssl eRelation c4.Relations), (ssl eFact c4.Facts)])), (.at a5 (.ptr false [(.at (.fn 134 [a2, a3, a4, a5]) .und)]))] (fun (r : (List Embedding)) => (.tup [])) (fun r => [(.at a3 (.ptr true [(osl eEmbedding true r)]))]) := by
 intro n
 induction n with
 | zero => intro values facts c c3 c4 a2 a3 a4 a5; exact ⟨fun r h => by simp [ag, f134] at h⟩
 | succ n ih =>
  intro values facts c c3 c4 a2 a3 a4 a5
  refine Rn.of (e := (
   if (facts.length : Int) = (c.Atoms.length : Int) then
   (f135 values).bind fun o2 =>
   (f135 facts).bind fun o4 =>
   (app 48 c3 ([({ Values := o2, Facts := o4 } : Embedding)])).bind fun l_6 =>
   some l_6
   else
   (ix c.Atoms (facts.length : Int)).bind fun v_8 =>
   (iter (lw (a2, a3, a4, a5)  (f134_0 values facts c c4 (f134 n) v_8)) (c3, 0)).bind fun x_33 =>
   some x_33 : Option (List Embedding))) rfl rfl (by decide) rfl ?_
  exact go
instance i61 {db : Database} {query : Query} : Rn cx (f61 db query) 61 [(.agg [(ssl eRelation db.Relations), (ssl eFact db.Facts)]), (.agg [(iT query.VariableCount), (ssl eAtom query.Atoms), (ssl eI query.Free)])] (fun (r : (List Embedding)) => (osl eEmbedding true r)) (fun r => []) := by
 refine Rn.of (e := (
  sn 5 7 (osl eEmbedding true ([])) <| 
  (f90 db query).bind fun o1 =>
  if ¬ (o1 = true) then
  some ([])
  else
  lc 1 6 fun (a5 : AV) => 
  lc 0 3 fun (a2 : AV) => 
  lc 0 5 fun (a3 : AV) => 
  lc 0 2 fun (a4 : AV) => 
  fa 0 [a2, a3, a4, a5] <| 
  (f81 query.VariableCount).bind fun o4 =>
  (ca [3, 5, 2, 6] <| ag (a2, a3, a4, a5) (f134 64 o4 ([] : (List Int)) query ([]) db)).bind fun o6 =>
  some o6 : Option (List Embedding))) rfl rfl (by decide) rfl ?_
 exact go
instance : Io0 cx 61 := ⟨rfl⟩
instance i58 {db : Database} {indices : (List Int)} {query : Query} : Rn cx (f58 db indices query) 58 [(.agg [(ssl eRelation db.Relations), (ssl eFact db.Facts)]), (ssl eI indices), (.agg [(iT query.VariableCount), (ssl eAtom query.Atoms), (ssl eI query.Free)])] (fun (r : Bool) => (.bool r)) (fun r => []) := by
 refine Rn.of (e := (
  (f131 db indices).bind fun o1 =>
  (jn (QN (fun (y : Bool) => [(6, .v (.bool y))])) ((if o1.2 = true then
  (f61 o1.1 query).bind fun o6 =>
  some (decide ((o6.length : Int) > 0))
  else
  some false) : Option (Bool))).bind fun x_3 =>
  some x_3 : Option Bool)) rfl rfl (by decide) rfl ?_
 exact go
instance : Io0 cx 58 := ⟨rfl⟩
instance i133_0 {d : Database} {l : (List Int)} : Lp cx (f133_0 d l) 38 L133_0 (fun (zs : Int) => [(1, .v (ssl eI l)), (2, .v (.ptr true [(ssl eRelation d.Relations), (ssl eFact d.Facts)])), (5, .v (iT zs))]) (QO (QX 0 (fun (y : Unit) => [])) (QR (fun (y : Bool) => [(4, .v (.bool y))]))) := by
 refine Lp.of (f := (fun
 | i_1 =>
  if i_1 < (l.length : Int) then
  (ix l i_1).bind fun v_3 =>
  (f118 v_3 0 (w64 ((d.Facts.length : Int) - 1))).bind fun o5 =>
  (jn (QN (fun (y : Bool) => [(1, .v (ssl eI l)), (2, .v (.ptr true [(ssl eRelation d.Relations), (ssl eFact d.Facts)])), (5, .v (iT i_1)), (37, .v (.bool y))])) ((if ¬ (o5 = true) then
  some true
  else
  (jn (QN (fun (y : Bool) => [(1, .v (ssl eI l)), (2, .v (.ptr true [(ssl eRelation d.Relations), (ssl eFact d.Facts)])), (5, .v (iT i_1)), (37, .v (.bool y))])) ((if i_1 > 0 then
  (ix l (w64 (i_1 - 1))).bind fun v_13 =>
  some (decide (v_3 ≤ v_13))
  else
  some false) : Option (Bool))).bind fun x_10 =>
  some x_10) : Option (Bool))).bind fun x_7 =>
  if x_7 = true then
  some (.inr (.inr false))
  else
  some (.inl (w64 (i_1 + 1)))
  else
  some (.inr (.inl ())) : Int → Option (Int ⊕ (Unit ⊕ Bool)))) ?_
 exact go
instance i133 {d : Database} {l : (List Int)} : Rn cx (f133 d l) 133 [(.agg [(ssl eRelation d.Relations), (ssl eFact d.Facts)]), (ssl eI l)] (fun (r : Bool) => (.bool r)) (fun r => []) := by
 refine Rn.of rfl rfl (by decide) rfl ?_; unfold f133; exact go
instance : Io0 cx 133 := ⟨rfl⟩
instance i60_0 {d : Database} {l : (List Int)} : Lp cx (f60_0 d l) 51 L60_0 (fun (zs : (List Relation) × (List Fact) × Int) => [(1, .v (ssl eI l)), (2, .v (.ptr true [(ssl eRelation d.Relations), (ssl eFact d.Facts)])), (4, .v (.ptr true [(osl eRelation true ([])), (osl eFact true ([]))])), (6, .v (.ptr true [(osl eRelation true zs.1), (osl eFact true zs.2.1)])), (7, .v (iT zs.2.2))]) (QX 0 (fun (y : (List Relation) × (List Fact)) => [(4, .v (.ptr true [(osl eRelation true ([])), (osl eFact true ([]))])), (6, .v (.ptr true [(osl eRelation true y.1), (osl eFact true y.2)]))])) := by
 refine Lp.of (f := (fun
 | (x_11, x_12, i_13) =>
  if i_13 < (l.length : Int) then
  (ix l i_13).bind fun v_15 =>
  (ix d.Facts v_15).bind fun v_17 =>
  (app 8 ([]) v_17.Values).bind fun l_19 =>
  sn 18 45 (osl eI true l_19) <| 
  (app 32 x_12 ([({ Relation := v_17.Relation, Values := l_19 } : Fact)])).bind fun l_21 =>
  some (.inl (x_11, l_21, w64 (i_13 + 1)))
  else
  some (.inr (x_11, x_12)) : (List Relation) × (List Fact) × Int → Option (((List Relation) × (List Fact) × Int) ⊕ ((List Relation) × (List Fact))))) ?_
 exact go
instance i60 {d : Database} {l : (List Int)} : Rn cx (f60 d l) 60 [(.agg [(ssl eRelation d.Relations), (ssl eFact d.Facts)]), (ssl eI l)] (fun (r : Database × Bool) => (.tup [(.agg [(osl eRelation true r.1.Relations), (osl eFact true r.1.Facts)]), (.bool r.2)])) (fun r => []) := by
 refine Rn.of (e := (
  sn 3 4 (.ptr true [(osl eRelation true ([])), (osl eFact true ([]))]) <| 
  (f73 d).bind fun o1 =>
  (jn (QN (fun (y : Bool) => [(1, .v (ssl eI l)), (2, .v (.ptr true [(ssl eRelation d.Relations), (ssl eFact d.Facts)])), (4, .v (.ptr true [(osl eRelation true ([])), (osl eFact true ([]))])), (17, .v (.bool y))])) ((if ¬ (o1 = true) then
  some true
  else
  (f133 d l).bind fun o6 =>
  some (decide (¬ (o6 = true)))) : Option (Bool))).bind fun x_3 =>
  if x_3 = true then
  sn 1 18 (.agg [(osl eRelation true ([])), (osl eFact true ([]))]) <| 
  some (({ Relations := [], Facts := [] } : Database), false)
  else
  (app 32 ([]) d.Relations).bind fun l_9 =>
  sn 4 22 (osl eRelation true l_9) <| 
  sn 2 23 (.agg [(osl eRelation true l_9), (osl eFact true ([]))]) <| 
  (iter (f60_0 d l) (l_9, [], 0)).bind fun (x_25, x_26) =>
  some (({ Relations := x_25, Facts := x_26 } : Database), true) : Option (Database × Bool))) rfl rfl (by decide) rfl ?_
 exact go
instance : Io0 cx 60 := ⟨rfl⟩
instance i88 {d : Database} {q : Query} : Rn cx (f88 d q) 88 [(.agg [(ssl eRelation d.Relations), (ssl eFact d.Facts)]), (.agg [(iT q.VariableCount), (ssl eAtom q.Atoms), (ssl eI q.Free)])] (fun (r : Bool) => (.bool r)) (fun r => []) := by
 refine Rn.of (e := (
  (f73 d).bind fun o1 =>
  (jn (QN (fun (y : Bool) => [(4, .v (.bool y))])) ((if o1 = true then
  (f48 d.Relations q).bind fun o6 =>
  some o6
  else
  some false) : Option (Bool))).bind fun x_3 =>
  some x_3 : Option Bool)) rfl rfl (by decide) rfl ?_
 exact go
instance : Io0 cx 88 := ⟨rfl⟩
instance i75_0 {n0 : Int} : Lp cx (f75_0 n0) 13 L75_0 (fun (zs : (List Int)) => [(0, .v (iT n0)), (3, .v (osl eI true zs))]) (QX 0 (fun (y : (List Int)) => [(3, .v (osl eI true y))])) := by
 refine Lp.of ?_; unfold f75_0; exact go
instance i75 {n0 : Int} : Rn cx (f75 n0) 75 [(iT n0)] (fun (r : (List Int)) => (osl eI true r)) (fun r => []) := by
 refine Rn.of (e := (
  sn 3 3 (osl eI true ([])) <| 
  (iter (f75_0 n0) ([])).bind fun l_7 =>
  some l_7 : Option (List Int))) rfl rfl (by decide) rfl ?_
 exact go
instance : Io0 cx 75 := ⟨rfl⟩
instance i153_0 {a : Atom} {f : Fact} : Lp cx (f153_0 a f) 79 L153_0 (fun (zs : (List Int) × Int) => [(3, .v (.ptr true [(iT a.Relation), (ssl eI a.Terms)])), (4, .v (.ptr true [(iT f.Relation), (ssl eI f.Values)])), (8, .v (osl eI true zs.1)), (9, .v (iT zs.2))]) (QO (QX 0 (fun (y : (List Int)) => [(8, .v (osl eI true y))])) (QR (fun (y : (List Int) × Bool) => [(6, .v (osl eI true y.1)), (7, .v (.bool y.2))]))) := by
 refine Lp.of (f := (fun
 | (x_7, i_8) =>
  if i_8 < (a.Terms.length : Int) then
  (jb 1 (QO (QN (fun (y : (List Int)) => [(3, .v (.ptr true [(iT a.Relation), (ssl eI a.Terms)])), (4, .v (.ptr true [(iT f.Relation), (ssl eI f.Values)])), (8, .v (osl eI true y)), (9, .v (iT i_8))])) (QR (fun (y : (List Int) × Bool) => [(6, .v (osl eI true y.1)), (7, .v (.bool y.2))]))) (((ix a.Terms i_8).bind fun v_12 =>
  if v_12 < 0 then
  (ix f.Values i_8).bind fun v_15 =>
  if (w64 ((-1) - v_12)) ≠ v_15 then
  some (.inr (x_7, false))
  else
  some (.inl x_7)
  else
  (ix x_7 v_12).bind fun v_18 =>
  (jn (QN (fun (y : Bool) => [(3, .v (.ptr true [(iT a.Relation), (ssl eI a.Terms)])), (4, .v (.ptr true [(iT f.Relation), (ssl eI f.Values)])), (8, .v (osl eI true x_7)), (9, .v (iT i_8)), (10, .v (iT v_12)), (68, .v (.bool y))])) ((if v_18 ≥ 0 then
  (ix f.Values i_8).bind fun v_23 =>
  some (decide (v_18 ≠ v_23))
  else
  some false) : Option (Bool))).bind fun x_20 =>
  if x_20 = true then
  some (.inr (x_7, false))
  else
  (ix f.Values i_8).bind fun v_26 =>
  some (.inl (x_7.set v_12.toNat v_26))) : Option ((List Int) ⊕ ((List Int) × Bool)))).bind fun o => match o with
  | .inl x_29 =>
  some (.inl (x_29, w64 (i_8 + 1)))
  | .inr (x_30, x_31) =>
  some (.inr (.inr (x_30, x_31)))
  else
  some (.inr (.inl x_7)) : (List Int) × Int → Option (((List Int) × Int) ⊕ ((List Int) ⊕ ((List Int) × Bool))))) ?_
 exact go
instance i153 {a : Atom} {f : Fact} {vals : (List Int)} : Rn cx (f153 a f vals) 153 [(.agg [(iT a.Relation), (ssl eI a.Terms)]), (.agg [(iT f.Relation), (ssl eI f.Values)]), (ssl eI vals)] (fun (r : (List Int) × Bool) => (.tup [(osl eI true r.1), (.bool r.2)])) (fun r => []) := by
 refine Rn.of (e := (
  (app 8 ([]) vals).bind fun l_1 =>
  sn 8 8 (osl eI true l_1) <| 
  (jn (QN (fun (y : Bool) => [(3, .v (.ptr true [(iT a.Relation), (ssl eI a.Terms)])), (4, .v (.ptr true [(iT f.Relation), (ssl eI f.Values)])), (8, .v (osl eI true l_1)), (27, .v (.bool y))])) ((if f.Relation ≠ a.Relation then
  some true
  else
  some (decide ((f.Values.length : Int) ≠ (a.Terms.length : Int)))) : Option (Bool))).bind fun x_3 =>
  if x_3 = true then
  some (l_1, false)
  else
  (iter (f153_0 a f) (l_1, 0)).bind fun o => match o with
  | .inl x_34 =>
  some (x_34, true)
  | .inr (x_35, x_36) =>
  some (x_35, x_36) : Option ((List Int) × Bool))) rfl rfl (by decide) rfl ?_
 exact go
instance : Io0 cx 153 := ⟨rfl⟩
instance i191_0 {d : Database} {q : Query} {k : Int} {vals : (List Int)} {facts : (List Int)} {rec : Database → Query → Int → (List Int) → (List Int) → Option (List Embedding)} [hrec : ∀ d q k vals facts, Rn cx (rec d q k vals facts) 191 [(.agg [(ssl eRelation d.Relations), (ssl eFact d.Facts)]), (.agg [(iT q.VariableCount), (ssl eAtom q.Atoms), (ssl eI q.Free)]), (iT k), (ssl eI vals), (ssl eI facts)] (fun o => (osl eEmbedding true o)) (fun o => [])] : Lp cx (f191_0 d q k vals facts rec) 67 L191_0 (fun (zs : (List Embedding) × Int) => [(2, .v (iT k)), (3, .v (ssl eI vals)), (4, .v (ssl eI facts)), (5, .v (.ptr true [(ssl eRelation d.Relations), (ssl eFact d.Facts)])), (6, .v (.ptr true [(iT q.VariableCount), (ssl eAtom q.Atoms), (ssl eI q.Free)])), (11, .v (osl eEmbedding true zs.1)), (12, .v (iT zs.2))]) (QX 0 (fun (y : (List Embedding)) => [(11, .v (osl eEmbedding true y))])) := by
 refine Lp.of (f := (fun
 | (out_6, i_7) =>
  if i_7 < (d.Facts.length : Int) then
  (ix q.Atoms k).bind fun v_9 =>
  (ix d.Facts i_7).bind fun v_11 =>
  (f153 v_9 v_11 vals).bind fun o13 =>
  (jn (QN (fun (y : (List Embedding)) => [(2, .v (iT k)), (3, .v (ssl eI vals)), (4, .v (ssl eI facts)), (5, .v (.ptr true [(ssl eRelation d.Relations), (ssl eFact d.Facts)])), (6, .v (.ptr true [(iT q.VariableCount), (ssl eAtom q.Atoms), (ssl eI q.Free)])), (11, .v (osl eEmbedding true y)), (12, .v (iT i_7))])) ((if o13.2 = true then
  (app 8 ([]) facts).bind fun l_18 =>
  (app 8 l_18 ([i_7])).bind fun l_20 =>
  sn 12 63 (osl eI true l_20) <| 
  (rec d q (w64 (k + 1)) o13.1 l_20).bind fun o22 =>
  pl (plains (arr eEmbedding true o22)) <| 
  (app 48 out_6 o22).bind fun l_24 =>
  some l_24
  else
  some out_6) : Option (List Embedding))).bind fun out_26 =>
  some (.inl (out_26, w64 (i_7 + 1)))
  else
  some (.inr out_6) : (List Embedding) × Int → Option (((List Embedding) × Int) ⊕ (List Embedding)))) ?_
 exact go
instance i191 : ∀ (n : Nat) d q k vals facts, Rn cx (f191 n d q k vals facts) 191 [(.agg [(ssl eRelation d.Relations), (ssl eFact d.Facts)]), (.agg [(iT q.VariableCount), (ssl eAtom q.Atoms), (ssl eI q.Free)]), (iT k), (ssl eI vals), (ssl eI facts)] (fun (r : (List Embedding)) => (osl eEmbedding true r)) (fun r => []) := by
 intro n
 induction n with
 | zero => intro d q k vals facts; exact ⟨fun r h => by simp [f191] at h⟩
 | succ n ih =>
  intro d q k vals facts
  refine Rn.of (e := (
   if k = (q.Atoms.length : Int) then
   (app 8 ([]) vals).bind fun l_2 =>
   (app 8 ([]) facts).bind fun l_4 =>
   sn 6 22 (osl eI true l_2) <| 
   sn 0 25 (osl eI true l_4) <| 
   sn 3 10 (osl eEmbedding true ([({ Values := l_2, Facts := l_4 } : Embedding)])) <| 
   some ([({ Values := l_2, Facts := l_4 } : Embedding)])
   else
   sn 2 11 (osl eEmbedding true ([])) <| 
   (iter (f191_0 d q k vals facts (f191 n)) ([], 0)).bind fun out_29 =>
   some out_29 : Option (List Embedding))) rfl rfl (by decide) rfl ?_
  exact go
instance : Io0 cx 191 := ⟨rfl⟩
instance i132 {d : Database} {q : Query} : Rn cx (f132 d q) 132 [(.agg [(ssl eRelation d.Relations), (ssl eFact d.Facts)]), (.agg [(iT q.VariableCount), (ssl eAtom q.Atoms), (ssl eI q.Free)])] (fun (r : (List Embedding)) => (osl eEmbedding true r)) (fun r => []) := by
 refine Rn.of (e := (
  (f88 d q).bind fun o1 =>
  if ¬ (o1 = true) then
  sn 2 4 (osl eEmbedding true ([])) <| 
  some ([])
  else
  sn 5 15 (osl eI true ([])) <| 
  (f75 q.VariableCount).bind fun o4 =>
  (f191 64 d q 0 o4 ([])).bind fun o6 =>
  some o6 : Option (List Embedding))) rfl rfl (by decide) rfl ?_
 exact go
instance : Io0 cx 132 := ⟨rfl⟩
instance i59 {d : Database} {l : (List Int)} {q : Query} : Rn cx (f59 d l q) 59 [(.agg [(ssl eRelation d.Relations), (ssl eFact d.Facts)]), (ssl eI l), (.agg [(iT q.VariableCount), (ssl eAtom q.Atoms), (ssl eI q.Free)])] (fun (r : Bool) => (.bool r)) (fun r => []) := by
 refine Rn.of (e := (
  (f60 d l).bind fun o1 =>
  (jn (QN (fun (y : Bool) => [(6, .v (.bool y))])) ((if o1.2 = true then
  (f132 o1.1 q).bind fun o6 =>
  some (decide ((o6.length : Int) > 0))
  else
  some false) : Option (Bool))).bind fun x_3 =>
  some x_3 : Option Bool)) rfl rfl (by decide) rfl ?_
 exact go
instance : Io0 cx 59 := ⟨rfl⟩
instance i63_0 {o11 : (List Embedding)} : Lp cx (f63_0 o11) 27 L63_0 (fun (zs : (List (List Int)) × Nat × Int) => [(5, .v (osl (eL eI) true zs.1)), (11, .v (.sl true true 2 0 (arrM eEmbedding zs.2.1 o11))), (12, .v (iT (o11.length : Int))), (13, .v (iT zs.2.2))]) (QX 0 (fun (y : (List (List Int))) => [(5, .v (osl (eL eI) true y))])) := by
 refine Lp.of (f := (fun
 | (out, k, x) =>
  if x < (o11.length : Int) then
  (ml o11 k x).bind fun v =>
  mv 1 <|
  (f140 v.Facts).bind fun s =>
  mf 2 <|
  (app 24 out ([s])).bind fun l =>
  some (.inl (l, k + 1, w64 (x + 1)))
  else
  some (.inr out) : (List (List Int)) × Nat × Int → Option (((List (List Int)) × Nat × Int) ⊕ (List (List Int))))) ?_
 exact go
instance i63 {db : Database} {query : Query} : Rn cx (f63 db query) 63 [(.agg [(ssl eRelation db.Relations), (ssl eFact db.Facts)]), (.agg [(iT query.VariableCount), (ssl eAtom query.Atoms), (ssl eI query.Free)])] (fun (r : (List (List Int))) => (osl (eL eI) true r)) (fun r => []) := by
 refine Rn.of (e := (
  sn 5 5 (osl (eL eI) true ([])) <|
  (f61 db query).bind fun o11 =>
  (iter (f63_0 o11) ([], 0, 0)).bind fun out =>
  some out : Option (List (List Int)))) rfl rfl (by decide) rfl ?_
 exact go
instance : Io0 cx 63 := ⟨rfl⟩
instance i194_0 {s0 : (List (List Int))} {g_f : Nat} {cp_f : List T} {f : (List Int) → Option Bool} [hp_f : ∀ x0, Rn cx (f x0) g_f ((ssl eI x0) :: cp_f) (fun o => (.bool o)) (fun _ => [])] [Io0 cx g_f] : Lp cx (f194_0 s0 f) 19 L194_0 (fun (zs : Int) => [(0, .v (ssl (eL eI) s0)), (1, .v (.fn g_f cp_f)), (7, .v (iT (s0.length : Int))), (8, .v (iT zs))]) (QO (QX 0 (fun (y : Unit) => [])) (QR (fun (y : Int) => [(4, .v (iT y))]))) := by
 refine Lp.of ?_; unfold f194_0; exact go
instance i194 {s0 : (List (List Int))} {g_f : Nat} {cp_f : List T} {f : (List Int) → Option Bool} [hp_f : ∀ x0, Rn cx (f x0) g_f ((ssl eI x0) :: cp_f) (fun o => (.bool o)) (fun _ => [])] [Io0 cx g_f] : Rn cx (f194 s0 f) 194 [(ssl (eL eI) s0), (.fn g_f cp_f)] (fun (r : Int) => (iT r)) (fun r => []) := by
 refine Rn.of rfl rfl (by decide) rfl ?_; unfold f194; exact go
instance : Io0 cx 194 := ⟨rfl⟩
instance i137 {s0 : (List (List Int))} {g_f : Nat} {cp_f : List T} {f : (List Int) → Option Bool} [hp_f : ∀ x0, Rn cx (f x0) g_f ((ssl eI x0) :: cp_f) (fun o => (.bool o)) (fun _ => [])] [Io0 cx g_f] : Rn cx (f137 s0 f) 137 [(ssl (eL eI) s0), (.fn g_f cp_f)] (fun (r : Bool) => (.bool r)) (fun r => []) := by
 refine Rn.of rfl rfl (by decide) rfl ?_; unfold f137; exact go
instance : Io0 cx 137 := ⟨rfl⟩
instance i182_0 {s0 : (List Int)} {v : Int} : Lp cx (f182_0 s0 v) 19 L182_0 (fun (zs : Int) => [(0, .v (ssl eI s0)), (1, .v (iT v)), (7, .v (iT (s0.length : Int))), (8, .v (iT zs))]) (QO (QX 0 (fun (y : Unit) => [])) (QR (fun (y : Int) => [(4, .v (iT y))]))) := by
 refine Lp.of ?_; unfold f182_0; exact go
instance i182 {s0 : (List Int)} {v : Int} : Rn cx (f182 s0 v) 182 [(ssl eI s0), (iT v)] (fun (r : Int) => (iT r)) (fun r => []) := by
 refine Rn.of rfl rfl (by decide) rfl ?_; unfold f182; exact go
instance : Io0 cx 182 := ⟨rfl⟩
instance i125 {s0 : (List Int)} {v : Int} : Rn cx (f125 s0 v) 125 [(ssl eI s0), (iT v)] (fun (r : Bool) => (.bool r)) (fun r => []) := by
 refine Rn.of rfl rfl (by decide) rfl ?_; unfold f125; exact go
instance : Io0 cx 125 := ⟨rfl⟩
instance i195 {n0 : Int} {c : (List Int)} : Rn cx (f195 n0 c) 195 [(iT n0), (.ptr false [(ssl eI c)])] (fun (r : Bool) => (.bool r)) (fun r => []) := by
 refine Rn.of rfl rfl (by decide) rfl ?_; unfold f195; exact go
instance : Io0 cx 195 := ⟨rfl⟩
instance i139 {a : (List Int)} {b : (List Int)} : Rn cx (f139 a b) 139 [(ssl eI a), (ssl eI b)] (fun (r : Bool) => (.bool r)) (fun r => []) := by
 refine Rn.of rfl rfl (by decide) rfl ?_; unfold f139; exact go
instance : Io0 cx 139 := ⟨rfl⟩
instance i138 {own : (List Int)} {c : (List Int)} : Rn cx (f138 own c) 138 [(ssl eI own), (.ptr false [(ssl eI c)])] (fun (r : Bool) => (.bool r)) (fun r => []) := by
 refine Rn.of rfl rfl (by decide) rfl ?_; unfold f138; exact go
instance : Io0 cx 138 := ⟨rfl⟩
instance i62 {sets : (List (List Int))} {set1 : (List Int)} : Rn cx (f62 sets set1) 62 [(ssl (eL eI) sets), (ssl eI set1)] (fun (r : Bool) => (.bool r)) (fun r => []) := by
 refine Rn.of rfl rfl (by decide) rfl ?_; unfold f62; exact go
instance : Io0 cx 62 := ⟨rfl⟩
instance i8 {code : (List Int)} : Rn cx (f8 code) 8 [(ssl eU code)] (fun (r : Bool) => (.bool r)) (fun r => []) := by
 refine Rn.of (e := (
  (f35 code).bind fun o1 =>
  if o1 = true then
  some true
  else
  (f57 code).bind fun o4 =>
  (f58 o4.1 o4.2.1 o4.2.2).bind fun o6 =>
  (f59 o4.1 o4.2.1 o4.2.2).bind fun o8 =>
  if (o6 != o8) = true then
  some false
  else
  (f60 o4.1 o4.2.1).bind fun o11 =>
  (jn (QN (fun (y : Bool) => [(2, .v (.bool y))])) ((if o11.2 = true then
  (f61 o11.1 o4.2.2).bind fun o16 =>
  (jn (QN (fun (y : Bool) => [(2, .v (.bool y))])) ((if (o6 == (decide ((o16.length : Int) > 0))) = true then
  (jn (QN (fun (y : Bool) => [(2, .v (.bool y))])) ((if ¬ (o6 = true) then
  some true
  else
  (f63 o4.1 o4.2.2).bind fun o24 =>
  (f62 o24 o4.2.1).bind fun o26 =>
  some o26) : Option (Bool))).bind fun x_21 =>
  some x_21
  else
  some false) : Option (Bool))).bind fun x_18 =>
  some x_18
  else
  (jn (QN (fun (y : Bool) => [(2, .v (.bool y))])) ((if (o6 == false) = true then
  (jn (QN (fun (y : Bool) => [(2, .v (.bool y))])) ((if ¬ (o6 = true) then
  some true
  else
  (f63 o4.1 o4.2.2).bind fun o34 =>
  (f62 o34 o4.2.1).bind fun o36 =>
  some o36) : Option (Bool))).bind fun x_31 =>
  some x_31
  else
  some false) : Option (Bool))).bind fun x_28 =>
  some x_28) : Option (Bool))).bind fun x_13 =>
  some x_13 : Option Bool)) rfl rfl (by decide) rfl ?_
 exact go
instance : Io0 cx 8 := ⟨rfl⟩
end
end Go.Proofs.YtcllfkplpdppiaaGreatH
