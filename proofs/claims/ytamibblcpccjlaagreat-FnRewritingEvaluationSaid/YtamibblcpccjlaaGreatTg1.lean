import Derived.Test.YtamibblcpccjlaaGreatTg1d
set_option maxHeartbeats 2000000
set_option linter.unusedVariables false
set_option linter.unusedSimpArgs false
set_option linter.defProp false
set_option linter.unusedSectionVars false
set_option maxRecDepth 100000
namespace Go.Proofs.YtamibblcpccjlaaGreatH
open Go
noncomputable section
instance i7 {db : Database} {rewriting : (List RewritingStep)} {values : (List Int)} : Rn cx (f7 db rewriting values) 7 [(.agg [(ssl eRelation db.Relations), (ssl eFact db.Facts)]), (ssl eRewritingStep rewriting), (ssl eI values)] (fun (r : Bool) => (.bool r)) (fun r => []) := Rn.o (e := (
  (f24 db).bind fun o1 =>
  (jn (QN (fun (y : Bool) => [(1, .v (ssl eRewritingStep rewriting)), (2, .v (ssl eI values)), (3, .v (.ptr true [(ssl eRelation db.Relations), (ssl eFact db.Facts)])), (22, .v (.bool y))])) ((if ¬ (o1 = true) then
  some true
  else
  (f9 db.Relations rewriting).bind fun o6 =>
  (jn (QN (fun (y : Bool) => [(1, .v (ssl eRewritingStep rewriting)), (2, .v (ssl eI values)), (3, .v (.ptr true [(ssl eRelation db.Relations), (ssl eFact db.Facts)])), (22, .v (.bool y))])) ((if ¬ (o6 = true) then
  some true
  else
  some (decide ((values.length : Int) > 4))) : Option (Bool))).bind fun x_8 =>
  some x_8) : Option (Bool))).bind fun x_3 =>
  if x_3 = true then
  some false
  else
  (f25 4).bind fun o12 =>
  (nel o12).bind fun z_14 =>
  cp 3 <| 
  (f27 db).bind fun o16 =>
  (f26 64 db o16 rewriting (cpL o12 values)).bind fun o18 =>
  some o18 : Option Bool)) rfl (by exact go)
instance : Io0 cx 7 := ⟨rfl⟩
instance i10_1 {l : (List Relation)} {f : (List RewritingStep)} {i_1 : Int} {v_3 : RewritingStep} : Lp cx (lw (l, f, i_1) (f10_1 v_3)) 81 L10_1 (fun (zs : Int) => [(0, .v (ssl eRelation l)), (1, .v (ssl eRewritingStep f)), (5, .v (iT i_1)), (6, .v (.ptr true [(iT v_3.Atom.Relation), (ssl eI v_3.Atom.Terms)])), (7, .v (iT zs))]) (QO (QX 2 (fun (y : Unit) => [(0, .v (ssl eRelation l)), (1, .v (ssl eRewritingStep f)), (5, .v (iT i_1)), (6, .v (.ptr true [(iT v_3.Atom.Relation), (ssl eI v_3.Atom.Terms)]))])) (QR (fun (y : Bool) => [(4, .v (.bool y))]))) := Lp.of (by unfold lw f10_1; exact go)
instance i10_0 {l : (List Relation)} {f : (List RewritingStep)} : Lp cx (f10_0 l f) 81 L10_0 (fun (zs : Int) => [(0, .v (ssl eRelation l)), (1, .v (ssl eRewritingStep f)), (5, .v (iT zs))]) (QO (QX 0 (fun (y : Unit) => [(1, .v (ssl eRewritingStep f))])) (QR (fun (y : Bool) => [(4, .v (.bool y))]))) := Lp.of (f := (fun
 | i_1 =>
  if i_1 < (f.length : Int) then
  (ix f i_1).bind fun v_3 =>
  (f37 l).bind fun o5 =>
  (jn (QN (fun (y : Bool) => [(0, .v (ssl eRelation l)), (1, .v (ssl eRewritingStep f)), (5, .v (iT i_1)), (6, .v (.ptr true [(iT v_3.Atom.Relation), (ssl eI v_3.Atom.Terms)])), (42, .v (.bool y))])) ((if ¬ (o5 = true) then
  some true
  else
  (f38 v_3.Atom.Relation 0 (w64 ((l.length : Int) - 1))).bind fun o10 =>
  (jn (QN (fun (y : Bool) => [(0, .v (ssl eRelation l)), (1, .v (ssl eRewritingStep f)), (5, .v (iT i_1)), (6, .v (.ptr true [(iT v_3.Atom.Relation), (ssl eI v_3.Atom.Terms)])), (42, .v (.bool y))])) ((if ¬ (o10 = true) then
  some true
  else
  (ix l v_3.Atom.Relation).bind fun v_15 =>
  some (decide ((v_3.Atom.Terms.length : Int) ≠ v_15.Arity))) : Option (Bool))).bind fun x_12 =>
  some x_12) : Option (Bool))).bind fun x_7 =>
  if x_7 = true then
  some (.inr (.inr false))
  else
  (iter (lw (l, f, i_1)  (f10_1 v_3)) 0).bind fun o => match o with
  | .inl _ =>
  (f40 l v_3.Atom).bind fun o28 =>
  (f39 o28 v_3.Existential).bind fun o30 =>
  (jn (QN (fun (y : Bool) => [(0, .v (ssl eRelation l)), (1, .v (ssl eRewritingStep f)), (5, .v (iT i_1)), (77, .v (.bool y))])) ((if ¬ (o30 = true) then
  some true
  else
  (f41 v_3.Atom).bind fun o35 =>
  (f39 o35 v_3.Universal).bind fun o37 =>
  some (decide (¬ (o37 = true)))) : Option (Bool))).bind fun x_32 =>
  if x_32 = true then
  some (.inr (.inr false))
  else
  some (.inl (w64 (i_1 + 1)))
  | .inr x_27 =>
  some (.inr (.inr x_27))
  else
  some (.inr (.inl ())) : Int → Option (Int ⊕ (Unit ⊕ Bool)))) (by exact go)
instance i10 {l : (List Relation)} {f : (List RewritingStep)} : Rn cx (f10 l f) 10 [(ssl eRelation l), (ssl eRewritingStep f)] (fun (r : Bool) => (.bool r)) (fun r => []) := Rn.o rfl (by unfold f10; exact go)
instance : Io0 cx 10 := ⟨rfl⟩
instance i28_0 {n0 : Int} : Lp cx (f28_0 n0) 13 L28_0 (fun (zs : (List Int)) => [(0, .v (iT n0)), (3, .v (osl eI true zs))]) (QX 0 (fun (y : (List Int)) => [(3, .v (osl eI true y))])) := Lp.of (by unfold f28_0; exact go)
instance i28 {n0 : Int} : Rn cx (f28 n0) 28 [(iT n0)] (fun (r : (List Int)) => (osl eI true r)) (fun r => []) := Rn.o (e := (
  sn 3 3 (osl eI true ([])) <| 
  (iter (f28_0 n0) ([])).bind fun l_7 =>
  some l_7 : Option (List Int))) rfl (by exact go)
instance : Io0 cx 28 := ⟨rfl⟩
instance i174 {l : (List Relation)} {f : Fact} : Rn cx (f174 l f) 174 [(ssl eRelation l), (.agg [(iT f.Relation), (ssl eI f.Values)])] (fun (r : (List Int)) => (osl eI true r)) (fun r => []) := Rn.o (e := (
  (f42 l f).bind fun o1 =>
  if ¬ (o1 = true) then
  sn 2 4 (osl eI true ([])) <| 
  some ([])
  else
  (ix l f.Relation).bind fun v_4 =>
  (cutL f.Values 0 v_4.KeyLength).bind fun l_6 =>
  (app 8 ([]) l_6).bind fun l_8 =>
  sn 12 4 (osl eI true l_8) <| 
  some l_8 : Option (List Int))) rfl (by exact go)
instance : Io0 cx 174 := ⟨rfl⟩
instance i140 {l : (List Relation)} {a : Fact} {b : Fact} : Rn cx (f140 l a b) 140 [(ssl eRelation l), (.agg [(iT a.Relation), (ssl eI a.Values)]), (.agg [(iT b.Relation), (ssl eI b.Values)])] (fun (r : Bool) => (.bool r)) (fun r => []) := Rn.o (e := (
  (f42 l a).bind fun o1 =>
  (jn (QN (fun (y : Bool) => [(0, .v (ssl eRelation l)), (6, .v (.bool y))])) ((if o1 = true then
  (f42 l b).bind fun o6 =>
  (jn (QN (fun (y : Bool) => [(0, .v (ssl eRelation l)), (6, .v (.bool y))])) ((if o6 = true then
  (jn (QN (fun (y : Bool) => [(0, .v (ssl eRelation l)), (6, .v (.bool y))])) ((if a.Relation = b.Relation then
  (f174 l a).bind fun o14 =>
  (f174 l b).bind fun o16 =>
  (f81 o14 o16).bind fun o18 =>
  some (decide (o18 = 0))
  else
  some false) : Option (Bool))).bind fun x_11 =>
  some x_11
  else
  some false) : Option (Bool))).bind fun x_8 =>
  some x_8
  else
  some false) : Option (Bool))).bind fun x_3 =>
  some x_3 : Option Bool)) rfl (by exact go)
instance : Io0 cx 140 := ⟨rfl⟩
instance i97_0 {d : Database} {i : Int} : Lp cx (f97_0 d i) 45 L97_0 (fun (zs : (List Int) × Int) => [(1, .v (iT i)), (2, .v (.ptr true [(ssl eRelation d.Relations), (ssl eFact d.Facts)])), (5, .v (osl eI true zs.1)), (6, .v (iT zs.2))]) (QX 0 (fun (y : (List Int)) => [(5, .v (osl eI true y))])) := Lp.of (f := (fun
 | (out_1, k_2) =>
  (jn (QN (fun (y : Bool) => [(1, .v (iT i)), (2, .v (.ptr true [(ssl eRelation d.Relations), (ssl eFact d.Facts)])), (5, .v (osl eI true out_1)), (6, .v (iT k_2)), (24, .v (.bool y))])) ((if k_2 < (d.Facts.length : Int) then
  (f11 d).bind fun o6 =>
  (jn (QN (fun (y : Bool) => [(1, .v (iT i)), (2, .v (.ptr true [(ssl eRelation d.Relations), (ssl eFact d.Facts)])), (5, .v (osl eI true out_1)), (6, .v (iT k_2)), (24, .v (.bool y))])) ((if o6 = true then
  (f38 i 0 (w64 ((d.Facts.length : Int) - 1))).bind fun o11 =>
  some o11
  else
  some false) : Option (Bool))).bind fun x_8 =>
  some x_8
  else
  some false) : Option (Bool))).bind fun x_3 =>
  if x_3 = true then
  (ix d.Facts i).bind fun v_14 =>
  (ix d.Facts k_2).bind fun v_16 =>
  (f140 d.Relations v_14 v_16).bind fun o18 =>
  (jn (QN (fun (y : (List Int)) => [(1, .v (iT i)), (2, .v (.ptr true [(ssl eRelation d.Relations), (ssl eFact d.Facts)])), (5, .v (osl eI true y)), (6, .v (iT k_2))])) ((if o18 = true then
  (app 8 out_1 ([k_2])).bind fun l_23 =>
  some l_23
  else
  some out_1) : Option (List Int))).bind fun out_25 =>
  some (.inl (out_25, w64 (k_2 + 1)))
  else
  some (.inr out_1) : (List Int) × Int → Option (((List Int) × Int) ⊕ (List Int)))) (by exact go)
instance i97 {d : Database} {i : Int} : Rn cx (f97 d i) 97 [(.agg [(ssl eRelation d.Relations), (ssl eFact d.Facts)]), (iT i)] (fun (r : (List Int)) => (osl eI true r)) (fun r => []) := Rn.o (e := (
  sn 4 5 (osl eI true ([])) <| 
  (iter (f97_0 d i) ([], 0)).bind fun out_28 =>
  some out_28 : Option (List Int))) rfl (by exact go)
instance : Io0 cx 97 := ⟨rfl⟩
instance i58_0 {d : Database} : Lp cx (f58_0 d) 31 L58_0 (fun (zs : (List (List Int)) × Int) => [(1, .v (.ptr true [(ssl eRelation d.Relations), (ssl eFact d.Facts)])), (3, .v (osl (eL eI) true zs.1)), (4, .v (iT zs.2))]) (QX 0 (fun (y : (List (List Int))) => [(3, .v (osl (eL eI) true y))])) := Lp.of (f := (fun
 | (out_1, i_2) =>
  (jn (QN (fun (y : Bool) => [(1, .v (.ptr true [(ssl eRelation d.Relations), (ssl eFact d.Facts)])), (3, .v (osl (eL eI) true out_1)), (4, .v (iT i_2)), (15, .v (.bool y))])) ((if i_2 < (d.Facts.length : Int) then
  (f11 d).bind fun o6 =>
  some o6
  else
  some false) : Option (Bool))).bind fun x_3 =>
  if x_3 = true then
  (f97 d i_2).bind fun o9 =>
  (ix o9 0).bind fun v_11 =>
  (jn (QN (fun (y : (List (List Int))) => [(1, .v (.ptr true [(ssl eRelation d.Relations), (ssl eFact d.Facts)])), (3, .v (osl (eL eI) true y)), (4, .v (iT i_2))])) ((if v_11 = i_2 then
  (app 24 out_1 ([o9])).bind fun l_16 =>
  some l_16
  else
  some out_1) : Option (List (List Int)))).bind fun out_18 =>
  some (.inl (out_18, w64 (i_2 + 1)))
  else
  some (.inr out_1) : (List (List Int)) × Int → Option (((List (List Int)) × Int) ⊕ (List (List Int))))) (by exact go)
instance i58 {d : Database} : Rn cx (f58 d) 58 [(.agg [(ssl eRelation d.Relations), (ssl eFact d.Facts)])] (fun (r : (List (List Int))) => (osl (eL eI) true r)) (fun r => []) := Rn.o (e := (
  sn 4 3 (osl (eL eI) true ([])) <| 
  (iter (f58_0 d) ([], 0)).bind fun out_21 =>
  some out_21 : Option (List (List Int)))) rfl (by exact go)
instance : Io0 cx 58 := ⟨rfl⟩
instance i73_0 {a : Atom} {f : Fact} : Lp cx (f73_0 a f) 79 L73_0 (fun (zs : (List Int) × Int) => [(3, .v (.ptr true [(iT a.Relation), (ssl eI a.Terms)])), (4, .v (.ptr true [(iT f.Relation), (ssl eI f.Values)])), (8, .v (osl eI true zs.1)), (9, .v (iT zs.2))]) (QO (QX 0 (fun (y : (List Int)) => [(8, .v (osl eI true y))])) (QR (fun (y : (List Int) × Bool) => [(6, .v (osl eI true y.1)), (7, .v (.bool y.2))]))) := Lp.of (f := (fun
 | (x_7, i_8) =>
  if i_8 < (a.Terms.length : Int) then
  (jb 1 (QO (QN (fun (y : (List Int)) => [(3, .v (.ptr true [(iT a.Relation), (ssl eI a.Terms)])), (4, .v (.ptr true [(iT f.Relation), (ssl eI f.Values)])), (8, .v (osl eI true y)), (9, .v (iT i_8))])) (QR (fun (y : (List Int) × Bool) => [(6, .v (osl eI true y.1)), (7, .v (.bool y.2))]))) (((ix a.Terms i_8).bind fun v_12 =>
  if v_12 < 0 then
  (ix f.Values i_8).bind fun v_15 =>
  if (w64 ((-1) - v_12)) ≠ v_15 then
  some (.inr (x_7, false))
  else
  some (.inl x_7)
  else
  (ix x_7 v_12).bind fun v_18 =>
  (jn (QN (fun (y : Bool) => [(3, .v (.ptr true [(iT a.Relation), (ssl eI a.Terms)])), (4, .v (.ptr true [(iT f.Relation), (ssl eI f.Values)])), (8, .v (osl eI true x_7)), (9, .v (iT i_8)), (10, .v (iT v_12)), (68, .v (.bool y))])) ((if v_18 ≥ 0 then
  (ix f.Values i_8).bind fun v_23 =>
  some (decide (v_18 ≠ v_23))
  else
  some false) : Option (Bool))).bind fun x_20 =>
  if x_20 = true then
  some (.inr (x_7, false))
  else
  (ix f.Values i_8).bind fun v_26 =>
  some (.inl (x_7.set v_12.toNat v_26))) : Option ((List Int) ⊕ ((List Int) × Bool)))).bind fun o => match o with
  | .inl x_29 =>
  some (.inl (x_29, w64 (i_8 + 1)))
  | .inr (x_30, x_31) =>
  some (.inr (.inr (x_30, x_31)))
  else
  some (.inr (.inl x_7)) : (List Int) × Int → Option (((List Int) × Int) ⊕ ((List Int) ⊕ ((List Int) × Bool))))) (by exact go)
instance i73 {a : Atom} {f : Fact} {vals : (List Int)} : Rn cx (f73 a f vals) 73 [(.agg [(iT a.Relation), (ssl eI a.Terms)]), (.agg [(iT f.Relation), (ssl eI f.Values)]), (ssl eI vals)] (fun (r : (List Int) × Bool) => (.tup [(osl eI true r.1), (.bool r.2)])) (fun r => []) := Rn.o (e := (
  (app 8 ([]) vals).bind fun l_1 =>
  sn 8 8 (osl eI true l_1) <| 
  (jn (QN (fun (y : Bool) => [(3, .v (.ptr true [(iT a.Relation), (ssl eI a.Terms)])), (4, .v (.ptr true [(iT f.Relation), (ssl eI f.Values)])), (8, .v (osl eI true l_1)), (27, .v (.bool y))])) ((if f.Relation ≠ a.Relation then
  some true
  else
  some (decide ((f.Values.length : Int) ≠ (a.Terms.length : Int)))) : Option (Bool))).bind fun x_3 =>
  if x_3 = true then
  some (l_1, false)
  else
  (iter (f73_0 a f) (l_1, 0)).bind fun o => match o with
  | .inl x_34 =>
  some (x_34, true)
  | .inr (x_35, x_36) =>
  some (x_35, x_36) : Option ((List Int) × Bool))) rfl (by exact go)
instance : Io0 cx 73 := ⟨rfl⟩
instance i29_1 {d : Database} {f : (List RewritingStep)} {n2 : Int} {vals : (List Int)} {v_2 : RewritingStep} {v_4 : Relation} {o6 : (List (List Int))} {i_8 : Int} {o23 : ((List Int) × Bool)} {rec : Database → (List RewritingStep) → Int → (List Int) → Option Bool} [hrec : ∀ d f n2 vals, Rn cx (rec d f n2 vals) 29 [(.agg [(ssl eRelation d.Relations), (ssl eFact d.Facts)]), (ssl eRewritingStep f), (iT n2), (ssl eI vals)] (fun o => (.bool o)) (fun o => [])] : Lp cx (lw (vals, v_4) (f29_1 d f n2 rec v_2 o6 i_8 o23)) 116 L29_1 (fun (zs : Bool × Int) => [(1, .v (ssl eRewritingStep f)), (2, .v (iT n2)), (3, .v (ssl eI vals)), (4, .v (.ptr true [(ssl eRelation d.Relations), (ssl eFact d.Facts)])), (9, .v (.ptr true [(iT v_2.Atom.Relation), (ssl eI v_2.Atom.Terms)])), (10, .v (iT v_4.KeyLength)), (11, .v (osl (eL eI) true o6)), (12, .v (iT i_8)), (14, .v (osl eI true o23.1)), (15, .v (.bool zs.1)), (16, .v (iT zs.2))]) (QX 2 (fun (y : Bool) => [(1, .v (ssl eRewritingStep f)), (2, .v (iT n2)), (3, .v (ssl eI vals)), (4, .v (.ptr true [(ssl eRelation d.Relations), (ssl eFact d.Facts)])), (9, .v (.ptr true [(iT v_2.Atom.Relation), (ssl eI v_2.Atom.Terms)])), (10, .v (iT v_4.KeyLength)), (11, .v (osl (eL eI) true o6)), (12, .v (iT i_8)), (15, .v (.bool y))])) := Lp.of (f := (fun
 | (is_25, k_26) =>
  (ix o6 i_8).bind fun v_27 =>
  (jn (QN (fun (y : Bool) => [(1, .v (ssl eRewritingStep f)), (2, .v (iT n2)), (3, .v (ssl eI vals)), (4, .v (.ptr true [(ssl eRelation d.Relations), (ssl eFact d.Facts)])), (9, .v (.ptr true [(iT v_2.Atom.Relation), (ssl eI v_2.Atom.Terms)])), (10, .v (iT v_4.KeyLength)), (11, .v (osl (eL eI) true o6)), (12, .v (iT i_8)), (14, .v (osl eI true o23.1)), (15, .v (.bool is_25)), (16, .v (iT k_26)), (86, .v (.bool y))])) ((if k_26 < (v_27.length : Int) then
  some is_25
  else
  some false) : Option (Bool))).bind fun x_29 =>
  if x_29 = true then
  (ix v_27 k_26).bind fun v_33 =>
  (ix d.Facts v_33).bind fun v_35 =>
  (f73 v_2.Atom v_35 o23.1).bind fun o37 =>
  (jn (QN (fun (y : Bool) => [(1, .v (ssl eRewritingStep f)), (2, .v (iT n2)), (3, .v (ssl eI vals)), (4, .v (.ptr true [(ssl eRelation d.Relations), (ssl eFact d.Facts)])), (9, .v (.ptr true [(iT v_2.Atom.Relation), (ssl eI v_2.Atom.Terms)])), (10, .v (iT v_4.KeyLength)), (11, .v (osl (eL eI) true o6)), (12, .v (iT i_8)), (14, .v (osl eI true o23.1)), (15, .v (.bool y)), (16, .v (iT k_26))])) ((if o37.2 = true then
  (rec d f (w64 (n2 + 1)) o37.1).bind fun o42 =>
  some o42
  else
  some false) : Option (Bool))).bind fun is_39 =>
  some (.inl (is_39, w64 (k_26 + 1)))
  else
  some (.inr is_25) : Bool × Int → Option ((Bool × Int) ⊕ Bool))) (by exact go)
instance i29_0 {d : Database} {f : (List RewritingStep)} {n2 : Int} {vals : (List Int)} {v_2 : RewritingStep} {v_4 : Relation} {o6 : (List (List Int))} {rec : Database → (List RewritingStep) → Int → (List Int) → Option Bool} [hrec : ∀ d f n2 vals, Rn cx (rec d f n2 vals) 29 [(.agg [(ssl eRelation d.Relations), (ssl eFact d.Facts)]), (ssl eRewritingStep f), (iT n2), (ssl eI vals)] (fun o => (.bool o)) (fun o => [])] : Lp cx (f29_0 d f n2 vals rec v_2 v_4 o6) 116 L29_0 (fun (zs : Int) => [(1, .v (ssl eRewritingStep f)), (2, .v (iT n2)), (3, .v (ssl eI vals)), (4, .v (.ptr true [(ssl eRelation d.Relations), (ssl eFact d.Facts)])), (9, .v (.ptr true [(iT v_2.Atom.Relation), (ssl eI v_2.Atom.Terms)])), (10, .v (iT v_4.KeyLength)), (11, .v (osl (eL eI) true o6)), (12, .v (iT zs))]) (QO (QX 0 (fun (y : Unit) => [])) (QR (fun (y : Bool) => [(8, .v (.bool y))]))) := Lp.of (f := (fun
 | i_8 =>
  if i_8 < (o6.length : Int) then
  (jb 1 (QO (QN (fun (y : Unit) => [(1, .v (ssl eRewritingStep f)), (2, .v (iT n2)), (3, .v (ssl eI vals)), (4, .v (.ptr true [(ssl eRelation d.Relations), (ssl eFact d.Facts)])), (9, .v (.ptr true [(iT v_2.Atom.Relation), (ssl eI v_2.Atom.Terms)])), (10, .v (iT v_4.KeyLength)), (11, .v (osl (eL eI) true o6)), (12, .v (iT i_8))])) (QR (fun (y : Bool) => [(8, .v (.bool y))]))) (((ix o6 i_8).bind fun v_12 =>
  (ix v_12 0).bind fun v_14 =>
  (ix d.Facts v_14).bind fun v_16 =>
  if v_16.Relation ≠ v_2.Atom.Relation then
  some (.inl ())
  else
  (cutL v_2.Atom.Terms 0 v_4.KeyLength).bind fun l_19 =>
  (cutL v_16.Values 0 v_4.KeyLength).bind fun l_21 =>
  (f73 ({ Relation := v_2.Atom.Relation, Terms := l_19 } : Atom) ({ Relation := v_2.Atom.Relation, Values := l_21 } : Fact) vals).bind fun o23 =>
  (iter (lw (vals, v_4)  (f29_1 d f n2 rec v_2 o6 i_8 o23)) (o23.2, 0)).bind fun is_46 =>
  if is_46 = true then
  some (.inr true)
  else
  some (.inl ())) : Option (Unit ⊕ Bool))).bind fun o => match o with
  | .inl _ =>
  some (.inl (w64 (i_8 + 1)))
  | .inr x_48 =>
  some (.inr (.inr x_48))
  else
  some (.inr (.inl ())) : Int → Option (Int ⊕ (Unit ⊕ Bool)))) (by exact go)
instance i29 : ∀ (n : Nat) d f n2 vals, Rn cx (f29 n d f n2 vals) 29 [(.agg [(ssl eRelation d.Relations), (ssl eFact d.Facts)]), (ssl eRewritingStep f), (iT n2), (ssl eI vals)] (fun (r : Bool) => (.bool r)) (fun r => []) := by
 intro n
 induction n with
 | zero => intro d f n2 vals; exact ⟨fun r h => by simp [f29] at h⟩
 | succ n ih =>
  intro d f n2 vals
  refine Rn.of rfl rfl (by decide) rfl ?_
  simp only [f29]
  exact go
instance : Io0 cx 29 := ⟨rfl⟩
instance i8_0 {d : Database} {f : (List RewritingStep)} {vals : (List Int)} : Lp cx (lw (d, f) (f8_0 vals)) 43 L8_0 (fun (zs : (List Int) × Int) => [(1, .v (ssl eRewritingStep f)), (2, .v (ssl eI vals)), (3, .v (.ptr true [(ssl eRelation d.Relations), (ssl eFact d.Facts)])), (7, .v (osl eI true zs.1)), (8, .v (iT zs.2))]) (QX 0 (fun (y : (List Int)) => [(1, .v (ssl eRewritingStep f)), (3, .v (.ptr true [(ssl eRelation d.Relations), (ssl eFact d.Facts)])), (7, .v (osl eI true y))])) := Lp.of (by unfold lw f8_0; exact go)
instance i8 {d : Database} {f : (List RewritingStep)} {vals : (List Int)} : Rn cx (f8 d f vals) 8 [(.agg [(ssl eRelation d.Relations), (ssl eFact d.Facts)]), (ssl eRewritingStep f), (ssl eI vals)] (fun (r : Bool) => (.bool r)) (fun r => []) := Rn.o (e := (
  (f11 d).bind fun o1 =>
  (jn (QN (fun (y : Bool) => [(1, .v (ssl eRewritingStep f)), (2, .v (ssl eI vals)), (3, .v (.ptr true [(ssl eRelation d.Relations), (ssl eFact d.Facts)])), (23, .v (.bool y))])) ((if ¬ (o1 = true) then
  some true
  else
  (f10 d.Relations f).bind fun o6 =>
  (jn (QN (fun (y : Bool) => [(1, .v (ssl eRewritingStep f)), (2, .v (ssl eI vals)), (3, .v (.ptr true [(ssl eRelation d.Relations), (ssl eFact d.Facts)])), (23, .v (.bool y))])) ((if ¬ (o6 = true) then
  some true
  else
  some (decide ((vals.length : Int) > 4))) : Option (Bool))).bind fun x_8 =>
  some x_8) : Option (Bool))).bind fun x_3 =>
  if x_3 = true then
  some false
  else
  (f28 4).bind fun o12 =>
  (iter (lw (d, f)  (f8_0 vals)) (o12, 0)).bind fun x_24 =>
  (f29 64 d f 0 x_24).bind fun o25 =>
  some o25 : Option Bool)) rfl (by exact go)
instance : Io0 cx 8 := ⟨rfl⟩
instance i3 {code : (List Int)} : Rn cx (f3 code) 3 [(ssl eU code)] (fun (r : Bool) => (.bool r)) (fun r => []) := Rn.o (e := (
  (f5 code).bind fun o1 =>
  if o1 = true then
  some true
  else
  (f6 code).bind fun o4 =>
  (f7 o4.1 o4.2.1 o4.2.2).bind fun o6 =>
  (f8 o4.1 o4.2.1 o4.2.2).bind fun o8 =>
  (jn (QN (fun (y : Bool) => [(3, .v (.ptr true [(ssl eRelation o4.1.Relations), (ssl eFact o4.1.Facts)])), (4, .v (osl eRewritingStep true o4.2.1)), (6, .v (.bool o6)), (35, .v (.bool y))])) ((if (o6 != o8) = true then
  some true
  else
  (f9 o4.1.Relations o4.2.1).bind fun o13 =>
  (f10 o4.1.Relations o4.2.1).bind fun o15 =>
  some (o13 != o15)) : Option (Bool))).bind fun x_10 =>
  if x_10 = true then
  some false
  else
  sn 4 37 (osl eRewritingStep true ([])) <| 
  sn 0 38 (osl eI true ([])) <| 
  (f7 o4.1 ([]) ([])).bind fun o18 =>
  (f11 o4.1).bind fun o20 =>
  (jn (QN (fun (y : Bool) => [(2, .v (.bool y)), (4, .v (osl eRewritingStep true o4.2.1))])) ((if (o18 == o20) = true then
  (jn (QN (fun (y : Bool) => [(2, .v (.bool y)), (4, .v (osl eRewritingStep true o4.2.1))])) ((if ¬ (o6 = true) then
  some true
  else
  (f11 o4.1).bind fun o28 =>
  some o28) : Option (Bool))).bind fun x_25 =>
  some x_25
  else
  some false) : Option (Bool))).bind fun x_22 =>
  some x_22 : Option Bool)) rfl (by exact go)
instance : Io0 cx 3 := ⟨rfl⟩
end
end Go.Proofs.YtamibblcpccjlaaGreatH
