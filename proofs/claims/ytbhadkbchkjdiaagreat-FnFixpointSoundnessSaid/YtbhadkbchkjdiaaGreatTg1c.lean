import Derived.Test.YtbhadkbchkjdiaaGreatTg1b
set_option maxHeartbeats 2000000
set_option linter.unusedVariables false
set_option linter.unusedSimpArgs false
set_option linter.defProp false
set_option linter.unusedSectionVars false
set_option maxRecDepth 100000
namespace Go.Proofs.YtbhadkbchkjdiaaGreatH
open Go
noncomputable section
instance i31 {db : Database} {query : Query} : Rn cx (f31 db query) 31 [(.agg [(ssl eRelation db.Relations), (ssl eFact db.Facts)]), (.agg [(iT query.VariableCount), (ssl eAtom query.Atoms), (ssl eI query.Free)])] (fun (r : Bool) => (.bool r)) (fun r => []) := Rn.o (e := (
  (f65 db).bind fun o1 =>
  (jn (QN (fun (y : Bool) => [(4, .v (.bool y))])) ((if o1 = true then
  (f66 db.Relations query).bind fun o6 =>
  some o6
  else
  some false) : Option (Bool))).bind fun x_3 =>
  some x_3 : Option Bool)) rfl (by exact go)
instance : Io0 cx 31 := ⟨rfl⟩
instance i167 {x : Int} {y : Int} : Rn cx (f167 x y) 167 [(.int .u64 x), (.int .u64 y)] (fun (r : Int × Int) => (.tup [(.int .u64 r.1), (.int .u64 r.2)])) (fun r => []) := Rn.o rfl (by unfold f167; exact go)
instance : Io0 cx 167 := ⟨rfl⟩
instance i156 {x : Int} {y : Int} : Rn cx (f156 x y) 156 [(.int .u64 x), (.int .u64 y)] (fun (r : Int × Int) => (.tup [(.int .u64 r.1), (.int .u64 r.2)])) (fun r => []) := Rn.o rfl (by unfold f156; exact go)
instance : Io0 cx 156 := ⟨rfl⟩
instance i133_0 : Lp cx f133_0 48 L133_0 (fun (zs : (List Int) × Int) => [(7, .v (.sl true false 1 0 (arr eI true zs.1))), (8, .v (iT zs.2))]) (QX 0 (fun (y : (List Int)) => [(7, .v (.sl true false 1 0 (arr eI true y)))])) := Lp.of (f := (fun
 | (newslice_14, n_15) =>
  if n_15 < (newslice_14.length : Int) then
  (cutL newslice_14 0 n_15).bind fun z_17 =>
  cs 3 <| 
  some (.inl ((csL newslice_14 n_15.toNat), w64 (n_15 + (min n_15 ((newslice_14.length : Int) - n_15)))))
  else
  some (.inr newslice_14) : (List Int) × Int → Option (((List Int) × Int) ⊕ (List Int)))) (by exact go)
instance i133 {x : (List Int)} {count : Int} : Rn cx (f133 x count) 133 [(ssl eI x), (iT count)] (fun (r : (List Int)) => (osl eI true r)) (fun r => []) := Rn.o (e := (
  (jn (QN (fun (y : Unit) => [(0, .v (ssl eI x)), (1, .v (iT count))])) ((if count < 0 then
  none
  else
  some ()) : Option Unit)).bind fun _ =>
  (f156 (IntKind.u64.wrap (x.length : Int)) (IntKind.u64.wrap count)).bind fun o4 =>
  (jn (QN (fun (y : Bool) => [(0, .v (ssl eI x)), (6, .v (.int .u64 o4.2)), (26, .v (.bool y))])) ((if o4.1 > 0 then
  some true
  else
  some (decide (o4.2 > 9223372036854775807))) : Option (Bool))).bind fun x_6 =>
  (jn (QN (fun (y : Unit) => [(0, .v (ssl eI x)), (6, .v (.int .u64 o4.2))])) ((if x_6 = true then
  none
  else
  some ()) : Option Unit)).bind fun _ =>
  (mkl 8 (w64 o4.2) 0).bind fun l_12 =>
  cp 6 <| 
  (iter f133_0 ((cpL l_12 x), ((min x.length l_12.length : Nat) : Int))).bind fun newslice_21 =>
  sn 2 4 (osl eI true newslice_21) <| 
  some newslice_21 : Option (List Int))) rfl (by exact go)
instance : Io0 cx 133 := ⟨rfl⟩
instance i106 {n0 : Int} : Rn cx (f106 n0) 106 [(iT n0)] (fun (r : (List Int)) => (osl eI true r)) (fun r => []) := Rn.o (e := (
  sn 3 3 (osl eI true ([-1])) <| 
  (f133 ([-1]) n0).bind fun o1 =>
  some o1 : Option (List Int))) rfl (by exact go)
instance : Io0 cx 106 := ⟨rfl⟩
theorem r104 {s0 : (List Int)} {r : (List Int)} (h : f104 s0 = some r) : VJx cx (.ca 104 [(ssl eI s0)] (osl eI true r) []) := by
 unfold f104 at h
 refine ca_clone (X := noExt) (fun _ _ _ _ h => h) (fun _ _ _ _ h => h) rfl (by decide) rfl (cl_eq h) ?_
 refine Wc.start (V1 := [(0, .v (ssl eI s0))]) (by simp) ?_
 refine Wc.seq ?_
 obtain ⟨l_1, h2, h⟩ := bind_some h
 have gx2 := appT_arr2 (E := eI) (b := true) (b' := false) (y := false) h2 (by decide) (arr_sc rfl _)
 simp [-aI_app0, -aB_app0, -aS_app0, -aL_app0, -aLt_app1I, -aLf_app1I, -aLt_app10I, -aLf_app10I] at gx2
 refine Wc.evs (by conv => lhs; simp [-aI_app0, -aB_app0, -aS_app0, -aL_app0, -aI_app10, -aB_app10, -aS_app10, -aLt_app10I, -aLf_app10I, -aLt_app1I, -aLf_app1I, gx2]) ?_
 refine Wo.gh (vle_co (s := 2) (t1 := (osl eI true l_1)) rfl (by simp) (tle_own rfl) (by conv => lhs; simp)) ?_
 refine Wo.nil ?_
 refine Wc.ret (res_of (.inr rfl) ?_)
 cases h
 exact ⟨_, _, _, by conv => lhs; simp, by (conv => lhs; simp [cx, ioTab, List.range, List.range.loop]) <;> rfl, by first | rfl | simp [-aI_app0, -aB_app0, -aS_app0, -aL_app0, -aI_app10, -aB_app10, -aS_app10, -aLt_app10I, -aLf_app10I, -aLt_app1I, -aLf_app1I, gx2]⟩
instance i104 {s0 : (List Int)} : Rn cx (f104 s0) 104 [(ssl eI s0)] (fun (r : (List Int)) => (osl eI true r)) (fun r => []) := ⟨fun _ h => r104 h⟩
instance : Io0 cx 104 := ⟨rfl⟩
instance i131 {t : Int} : Rn cx (f131 t) 131 [(iT t)] (fun (r : Bool) => (.bool r)) (fun r => []) := Rn.o rfl (by unfold f131; exact go)
instance : Io0 cx 131 := ⟨rfl⟩
instance i132 {v : Int} : Rn cx (f132 v) 132 [(iT v)] (fun (r : Int) => (iT r)) (fun r => []) := Rn.o rfl (by unfold f132; exact go)
instance : Io0 cx 132 := ⟨rfl⟩
instance i105_0 {terms : (List Int)} {from2 : (List Int)} : Lp cx (f105_0 terms from2) 56 L105_0 (fun (zs : (List Int) × Int) => [(2, .v (ssl eI from2)), (8, .v (osl eI true zs.1)), (13, .v (ssl eI terms)), (14, .v (iT (terms.length : Int))), (15, .v (iT zs.2))]) (QO (QX 0 (fun (y : (List Int)) => [(8, .v (osl eI true y))])) (QR (fun (y : (List Int) × Bool) => [(6, .v (osl eI true y.1)), (7, .v (.bool y.2))]))) := Lp.of (f := (fun
 | (out_3, x_4) =>
  if x_4 < (terms.length : Int) then
  (ix terms x_4).bind fun v_6 =>
  (f131 v_6).bind fun o8 =>
  (jn (QO (QN (fun (y : (List Int)) => [(2, .v (ssl eI from2)), (8, .v (osl eI true y)), (13, .v (ssl eI terms)), (14, .v (iT (terms.length : Int))), (15, .v (iT x_4))])) (QR (fun (y : (List Int) × Bool) => [(6, .v (osl eI true y.1)), (7, .v (.bool y.2))]))) ((if ¬ (o8 = true) then
  (ix from2 x_4).bind fun v_13 =>
  (f132 v_6).bind fun o15 =>
  if o15 ≠ v_13 then
  sn 2 6 (osl eI true ([])) <| 
  some (.inr ([], false))
  else
  some (.inl out_3)
  else
  (ix out_3 v_6).bind fun v_18 =>
  (jn (QO (QN (fun (y : (List Int)) => [(2, .v (ssl eI from2)), (8, .v (osl eI true y)), (13, .v (ssl eI terms)), (14, .v (iT (terms.length : Int))), (15, .v (iT x_4))])) (QR (fun (y : (List Int) × Bool) => [(6, .v (osl eI true y.1)), (7, .v (.bool y.2))]))) ((if v_18 < 0 then
  (ix from2 x_4).bind fun v_23 =>
  some (.inl (out_3.set v_6.toNat v_23))
  else
  (ix from2 x_4).bind fun v_26 =>
  if v_18 ≠ v_26 then
  sn 2 6 (osl eI true ([])) <| 
  some (.inr ([], false))
  else
  some (.inl out_3)) : Option ((List Int) ⊕ ((List Int) × Bool)))).bind fun o => match o with
  | .inl out_29 =>
  some (.inl out_29)
  | .inr (x_30, x_31) =>
  some (.inr (x_30, x_31))) : Option ((List Int) ⊕ ((List Int) × Bool)))).bind fun o => match o with
  | .inl out_32 =>
  some (.inl (out_32, w64 (x_4 + 1)))
  | .inr (x_33, x_34) =>
  some (.inr (.inr (x_33, x_34)))
  else
  some (.inr (.inl out_3)) : (List Int) × Int → Option (((List Int) × Int) ⊕ ((List Int) ⊕ ((List Int) × Bool))))) (by exact go)
instance i105 {values : (List Int)} {terms : (List Int)} {from2 : (List Int)} : Rn cx (f105 values terms from2) 105 [(ssl eI values), (ssl eI terms), (ssl eI from2)] (fun (r : (List Int) × Bool) => (.tup [(osl eI true r.1), (.bool r.2)])) (fun r => []) := Rn.o rfl (by unfold f105; exact go)
instance : Io0 cx 105 := ⟨rfl⟩
instance i103_0 {a2 : AV} {a3 : AV} {a4 : AV} {a5 : AV} {values : (List Int)} {facts : (List Int)} {c : Query} {c4 : Database} {v_8 : Atom} {rec : (List Int) → (List Int) → Query → (List Embedding) → Database → Option (List Embedding)} [hrec : ∀ values facts c c3 c4, Rn cx (ag (a2, a3, a4, a5) <| rec values facts c c3 c4) 103 [(ssl eI values), (ssl eI facts), (.at a2 (.ptr false [(iT c.VariableCount), (ssl eAtom c.Atoms), (ssl eI c.Free)])), (.at a3 (.ptr true [(osl eEmbedding true c3)])), (.at a4 (.ptr false [(ssl eRelation c4.Relations), (ssl eFact c4.Facts)])), (.at a5 (.ptr false [(.at (.fn 103 [a2, a3, a4, a5]) .und)]))] (fun o => (.tup [])) (fun o => [(.at a3 (.ptr true [(osl eEmbedding true o)]))])] : Lp cx (lw (a2, a3, a4, a5) (f103_0 values facts c c4 rec v_8)) 65 L103_0 (fun (zs : (List Embedding) × Int) => [(0, .v (ssl eI values)), (1, .v (ssl eI facts)), (2, .v (.at a2 (.ptr false [(iT c.VariableCount), (ssl eAtom c.Atoms), (ssl eI c.Free)]))), (3, .v (.at a3 (.ptr true [(osl eEmbedding true zs.1)]))), (4, .v (.at a4 (.ptr false [(ssl eRelation c4.Relations), (ssl eFact c4.Facts)]))), (5, .v (.at a5 (.ptr false [(.at (.fn 103 [a2, a3, a4, a5]) .und)]))), (8, .v (.ptr true [(iT v_8.Relation), (ssl eI v_8.Terms)])), (34, .v (ssl eFact c4.Facts)), (35, .v (iT (c4.Facts.length : Int))), (36, .v (iT zs.2))]) (QX 0 (fun (y : (List Embedding)) => [(3, .v (.at a3 (.ptr true [(osl eEmbedding true y)])))])) := Lp.of (f := (fun
 | (x_10, x_11) =>
  if x_11 < (c4.Facts.length : Int) then
  (jb 1 (QN (fun (y : (List Embedding)) => [(0, .v (ssl eI values)), (1, .v (ssl eI facts)), (2, .v (.at a2 (.ptr false [(iT c.VariableCount), (ssl eAtom c.Atoms), (ssl eI c.Free)]))), (3, .v (.at a3 (.ptr true [(osl eEmbedding true y)]))), (4, .v (.at a4 (.ptr false [(ssl eRelation c4.Relations), (ssl eFact c4.Facts)]))), (5, .v (.at a5 (.ptr false [(.at (.fn 103 [a2, a3, a4, a5]) .und)]))), (8, .v (.ptr true [(iT v_8.Relation), (ssl eI v_8.Terms)])), (34, .v (ssl eFact c4.Facts)), (35, .v (iT (c4.Facts.length : Int))), (36, .v (iT x_11))])) (((ix c4.Facts x_11).bind fun v_15 =>
  if v_15.Relation ≠ v_8.Relation then
  some x_10
  else
  (f105 values v_8.Terms v_15.Values).bind fun o18 =>
  (jn (QN (fun (y : (List Embedding)) => [(0, .v (ssl eI values)), (1, .v (ssl eI facts)), (2, .v (.at a2 (.ptr false [(iT c.VariableCount), (ssl eAtom c.Atoms), (ssl eI c.Free)]))), (3, .v (.at a3 (.ptr true [(osl eEmbedding true y)]))), (4, .v (.at a4 (.ptr false [(ssl eRelation c4.Relations), (ssl eFact c4.Facts)]))), (5, .v (.at a5 (.ptr false [(.at (.fn 103 [a2, a3, a4, a5]) .und)]))), (8, .v (.ptr true [(iT v_8.Relation), (ssl eI v_8.Terms)])), (34, .v (ssl eFact c4.Facts)), (35, .v (iT (c4.Facts.length : Int))), (36, .v (iT x_11))])) ((if o18.2 = true then
  sn 5 61 (osl eI true ([x_11])) <| 
  (f104 facts).bind fun o23 =>
  (app 8 o23 ([x_11])).bind fun l_25 =>
  (ca [2, 3, 4, 5] <| ag (a2, a3, a4, a5) (rec o18.1 l_25 c x_10 c4)).bind fun o27 =>
  some o27
  else
  some x_10) : Option (List Embedding))).bind fun x_29 =>
  some x_29) : Option (List Embedding))).bind fun x_30 =>
  some (.inl (x_30, w64 (x_11 + 1)))
  else
  some (.inr x_10) : (List Embedding) × Int → Option (((List Embedding) × Int) ⊕ (List Embedding)))) (by exact go)
instance i103 : ∀ (n : Nat) values facts c c3 c4 (a2 a3 a4 a5 : AV), Rn cx (ag (a2, a3, a4, a5) (f103 n values facts c c3 c4)) 103 [(ssl eI values), (ssl eI facts), (.at a2 (.ptr false [(iT c.VariableCount), (ssl eAtom c.Atoms), (ssl eI c.Free)])), (.at a3 (.ptr true [(osl eEmbedding true c3)])), (.at a4 (.ptr false [(ssl eRelation c4.Relations), (ssl eFact c4.Facts)])), (.at a5 (.ptr false [(.at (.fn 103 [a2, a3, a4, a5]) .und)]))] (fun (r : (List Embedding)) => (.tup [])) (fun r => [(.at a3 (.ptr true [(osl eEmbedding true r)]))]) := by
 intro n
 induction n with
 | zero => intro values facts c c3 c4 a2 a3 a4 a5; exact ⟨fun r h => by simp [ag, f103] at h⟩
 | succ n ih =>
  intro values facts c c3 c4 a2 a3 a4 a5
  refine Rn.of (e := (
   if (facts.length : Int) = (c.Atoms.length : Int) then
   (f104 values).bind fun o2 =>
   (f104 facts).bind fun o4 =>
   (app 48 c3 ([({ Values := o2, Facts := o4 } : Embedding)])).bind fun l_6 =>
   some l_6
   else
   (ix c.Atoms (facts.length : Int)).bind fun v_8 =>
   (iter (lw (a2, a3, a4, a5)  (f103_0 values facts c c4 (f103 n) v_8)) (c3, 0)).bind fun x_33 =>
   some x_33 : Option (List Embedding))) rfl rfl (by decide) rfl ?_
  exact go
instance i68 {db : Database} {query : Query} : Rn cx (f68 db query) 68 [(.agg [(ssl eRelation db.Relations), (ssl eFact db.Facts)]), (.agg [(iT query.VariableCount), (ssl eAtom query.Atoms), (ssl eI query.Free)])] (fun (r : (List Embedding)) => (osl eEmbedding true r)) (fun r => []) := Rn.o (e := (
  sn 5 7 (osl eEmbedding true ([])) <| 
  (f31 db query).bind fun o1 =>
  if ¬ (o1 = true) then
  some ([])
  else
  lc 1 6 fun (a5 : AV) => 
  lc 0 3 fun (a2 : AV) => 
  lc 0 5 fun (a3 : AV) => 
  lc 0 2 fun (a4 : AV) => 
  fa 0 [a2, a3, a4, a5] <| 
  (f106 query.VariableCount).bind fun o4 =>
  (ca [3, 5, 2, 6] <| ag (a2, a3, a4, a5) (f103 64 o4 ([] : (List Int)) query ([]) db)).bind fun o6 =>
  some o6 : Option (List Embedding))) rfl (by exact go)
instance : Io0 cx 68 := ⟨rfl⟩
instance i34_0 {o11 : (List Embedding)} : Lp cx (f34_0 o11) 27 L34_0 (fun (zs : (List (List Int)) × Nat × Int) => [(5, .v (osl (eL eI) true zs.1)), (11, .v (.sl true true 2 0 (arrM eEmbedding zs.2.1 o11))), (12, .v (iT (o11.length : Int))), (13, .v (iT zs.2.2))]) (QX 0 (fun (y : (List (List Int))) => [(5, .v (osl (eL eI) true y))])) := Lp.of (f := (fun
 | (out, k, x) =>
  if x < (o11.length : Int) then
  (ml o11 k x).bind fun v =>
  mv 1 <|
  (f69 v.Facts).bind fun s =>
  mf 2 <|
  (app 24 out ([s])).bind fun l =>
  some (.inl (l, k + 1, w64 (x + 1)))
  else
  some (.inr out) : (List (List Int)) × Nat × Int → Option (((List (List Int)) × Nat × Int) ⊕ (List (List Int))))) (by exact go)
instance i34 {db : Database} {query : Query} : Rn cx (f34 db query) 34 [(.agg [(ssl eRelation db.Relations), (ssl eFact db.Facts)]), (.agg [(iT query.VariableCount), (ssl eAtom query.Atoms), (ssl eI query.Free)])] (fun (r : (List (List Int))) => (osl (eL eI) true r)) (fun r => []) := Rn.o (e := (
  sn 5 5 (osl (eL eI) true ([])) <|
  (f68 db query).bind fun o11 =>
  (iter (f34_0 o11) ([], 0, 0)).bind fun out =>
  some out : Option (List (List Int)))) rfl (by exact go)
instance : Io0 cx 34 := ⟨rfl⟩
instance i102_0 {s1 : (List Int)} {s2 : (List Int)} : Lp cx (f102_0 s1 s2) 26 L102_0 (fun (zs : Int) => [(0, .v (ssl eI s1)), (1, .v (ssl eI s2)), (12, .v (iT (s1.length : Int))), (13, .v (iT zs))]) (QO (QX 0 (fun (y : Unit) => [])) (QR (fun (y : Bool) => [(4, .v (.bool y))]))) := Lp.of (by unfold f102_0; exact go)
instance i102 {s1 : (List Int)} {s2 : (List Int)} : Rn cx (f102 s1 s2) 102 [(ssl eI s1), (ssl eI s2)] (fun (r : Bool) => (.bool r)) (fun r => []) := Rn.o rfl (by unfold f102; exact go)
instance : Io0 cx 102 := ⟨rfl⟩
instance i67 {relations : (List Relation)} {a : Fact} {b : Fact} : Rn cx (f67 relations a b) 67 [(ssl eRelation relations), (.agg [(iT a.Relation), (ssl eI a.Values)]), (.agg [(iT b.Relation), (ssl eI b.Values)])] (fun (r : Bool) => (.bool r)) (fun r => []) := Rn.o rfl (by unfold f67; exact go)
instance : Io0 cx 67 := ⟨rfl⟩
instance i32_0 {db : Database} : Lp cx (f32_0 db) 54 L32_0 (fun (zs : (List (List Int)) × Int) => [(1, .v (.ptr true [(ssl eRelation db.Relations), (ssl eFact db.Facts)])), (3, .v (osl (eL eI) true zs.1)), (9, .v (ssl eFact db.Facts)), (10, .v (iT (db.Facts.length : Int))), (11, .v (iT zs.2))]) (QX 0 (fun (y : (List (List Int))) => [(3, .v (osl (eL eI) true y))])) := Lp.of (f := (fun
 | (out_1, x_2) =>
  if x_2 < (db.Facts.length : Int) then
  (ix db.Facts x_2).bind fun v_4 =>
  (jn (QN (fun (y : Bool) => [(1, .v (.ptr true [(ssl eRelation db.Relations), (ssl eFact db.Facts)])), (3, .v (osl (eL eI) true out_1)), (4, .v (iT x_2)), (6, .v (iT (w64 ((out_1.length : Int) - 1)))), (9, .v (ssl eFact db.Facts)), (10, .v (iT (db.Facts.length : Int))), (11, .v (iT x_2)), (36, .v (.bool y))])) ((if (w64 ((out_1.length : Int) - 1)) ≥ 0 then
  (ix out_1 (w64 ((out_1.length : Int) - 1))).bind fun v_9 =>
  (ix v_9 0).bind fun v_11 =>
  (ix db.Facts v_11).bind fun v_13 =>
  (f67 db.Relations v_13 v_4).bind fun o15 =>
  some o15
  else
  some false) : Option (Bool))).bind fun x_6 =>
  (jn (QN (fun (y : (List (List Int))) => [(1, .v (.ptr true [(ssl eRelation db.Relations), (ssl eFact db.Facts)])), (3, .v (osl (eL eI) true y)), (9, .v (ssl eFact db.Facts)), (10, .v (iT (db.Facts.length : Int))), (11, .v (iT x_2))])) ((if x_6 = true then
  (ix out_1 (w64 ((out_1.length : Int) - 1))).bind fun v_20 =>
  (app 8 v_20 ([x_2])).bind fun l_22 =>
  some (out_1.set (w64 ((out_1.length : Int) - 1)).toNat l_22)
  else
  sn 3 49 (osl eI true ([x_2])) <| 
  (app 24 out_1 ([[x_2]])).bind fun l_25 =>
  some l_25) : Option (List (List Int)))).bind fun out_27 =>
  some (.inl (out_27, w64 (x_2 + 1)))
  else
  some (.inr out_1) : (List (List Int)) × Int → Option (((List (List Int)) × Int) ⊕ (List (List Int))))) (by exact go)
instance i32 {db : Database} : Rn cx (f32 db) 32 [(.agg [(ssl eRelation db.Relations), (ssl eFact db.Facts)])] (fun (r : (List (List Int))) => (osl (eL eI) true r)) (fun r => []) := Rn.o (e := (
  sn 4 3 (osl (eL eI) true ([])) <| 
  (iter (f32_0 db) ([], 0)).bind fun out_30 =>
  some out_30 : Option (List (List Int)))) rfl (by exact go)
instance : Io0 cx 32 := ⟨rfl⟩
instance i114 {own : Int} {c : Database} {c2 : Int} : Rn cx (f114 own c c2) 114 [(iT own), (.ptr false [(ssl eRelation c.Relations), (ssl eFact c.Facts)]), (.ptr false [(iT c2)])] (fun (r : Bool) => (.bool r)) (fun r => []) := Rn.o rfl (by unfold f114; exact go)
instance : Io0 cx 114 := ⟨rfl⟩
instance i113_0 {a2 : AV} {a3 : AV} {a4 : AV} {a5 : AV} {set0 : (List Int)} {c : Int} {c4 : Database} {rec : (List Int) → Int → Int → (List (List Int)) → Database → Option (List (List Int))} [hrec : ∀ set0 from1 c c3 c4, Rn cx (ag (a2, a3, a4, a5) <| rec set0 from1 c c3 c4) 113 [(ssl eI set0), (iT from1), (.at a2 (.ptr false [(iT c)])), (.at a3 (.ptr true [(osl (eL eI) true c3)])), (.at a4 (.ptr false [(ssl eRelation c4.Relations), (ssl eFact c4.Facts)])), (.at a5 (.ptr false [(.at (.fn 113 [a2, a3, a4, a5]) .und)]))] (fun o => (.tup [])) (fun o => [(.at a3 (.ptr true [(osl (eL eI) true o)]))])] : Lp cx (lw (a2, a3, a4, a5) (f113_0 set0 c c4 rec)) 41 L113_0 (fun (zs : (List (List Int)) × Int) => [(0, .v (ssl eI set0)), (2, .v (.at a2 (.ptr false [(iT c)]))), (3, .v (.at a3 (.ptr true [(osl (eL eI) true zs.1)]))), (4, .v (.at a4 (.ptr false [(ssl eRelation c4.Relations), (ssl eFact c4.Facts)]))), (5, .v (.at a5 (.ptr false [(.at (.fn 113 [a2, a3, a4, a5]) .und)]))), (8, .v (.ptr true [(iT zs.2)]))]) (QX 0 (fun (y : (List (List Int))) => [(3, .v (.at a3 (.ptr true [(osl (eL eI) true y)])))])) := Lp.of (f := (fun
 | (x_6, i_7) =>
  if i_7 < (c4.Facts.length : Int) then
  (f44 set0 (fun x0 => f114 x0 c4 i_7)).bind fun o9 =>
  (jn (QN (fun (y : (List (List Int))) => [(0, .v (ssl eI set0)), (2, .v (.at a2 (.ptr false [(iT c)]))), (3, .v (.at a3 (.ptr true [(osl (eL eI) true y)]))), (4, .v (.at a4 (.ptr false [(ssl eRelation c4.Relations), (ssl eFact c4.Facts)]))), (5, .v (.at a5 (.ptr false [(.at (.fn 113 [a2, a3, a4, a5]) .und)]))), (8, .v (.ptr true [(iT i_7)]))])) ((if ¬ (o9 = true) then
  sn 6 35 (osl eI true ([i_7])) <| 
  (f104 set0).bind fun o14 =>
  (app 8 o14 ([i_7])).bind fun l_16 =>
  (ca [2, 3, 4, 5] <| ag (a2, a3, a4, a5) (rec l_16 (w64 (i_7 + 1)) c x_6 c4)).bind fun o18 =>
  some o18
  else
  some x_6) : Option (List (List Int)))).bind fun x_20 =>
  some (.inl (x_20, w64 (i_7 + 1)))
  else
  some (.inr x_6) : (List (List Int)) × Int → Option (((List (List Int)) × Int) ⊕ (List (List Int))))) (by exact go)
instance i113 : ∀ (n : Nat) set0 from1 c c3 c4 (a2 a3 a4 a5 : AV), Rn cx (ag (a2, a3, a4, a5) (f113 n set0 from1 c c3 c4)) 113 [(ssl eI set0), (iT from1), (.at a2 (.ptr false [(iT c)])), (.at a3 (.ptr true [(osl (eL eI) true c3)])), (.at a4 (.ptr false [(ssl eRelation c4.Relations), (ssl eFact c4.Facts)])), (.at a5 (.ptr false [(.at (.fn 113 [a2, a3, a4, a5]) .und)]))] (fun (r : (List (List Int))) => (.tup [])) (fun r => [(.at a3 (.ptr true [(osl (eL eI) true r)]))]) := by
 intro n
 induction n with
 | zero => intro set0 from1 c c3 c4 a2 a3 a4 a5; exact ⟨fun r h => by simp [ag, f113] at h⟩
 | succ n ih =>
  intro set0 from1 c c3 c4 a2 a3 a4 a5
  refine Rn.of (e := (
   if (set0.length : Int) = c then
   (app 8 ([]) set0).bind fun l_2 =>
   sn 4 16 (osl eI true l_2) <| 
   (app 24 c3 ([l_2])).bind fun l_4 =>
   some l_4
   else
   (iter (lw (a2, a3, a4, a5)  (f113_0 set0 c c4 (f113 n))) (c3, from1)).bind fun x_23 =>
   some x_23 : Option (List (List Int)))) rfl rfl (by decide) rfl ?_
  exact go
instance i82 {db : Database} {size : Int} : Rn cx (f82 db size) 82 [(.agg [(ssl eRelation db.Relations), (ssl eFact db.Facts)]), (iT size)] (fun (r : (List (List Int))) => (osl (eL eI) true r)) (fun r => []) := Rn.o (e := (
  sn 5 7 (osl (eL eI) true ([])) <| 
  lc 2 6 fun (a5 : AV) => 
  lc 0 3 fun (a2 : AV) => 
  lc 0 5 fun (a3 : AV) => 
  lc 0 2 fun (a4 : AV) => 
  fa 0 [a2, a3, a4, a5] <| 
  (ca [3, 5, 2, 6] <| ag (a2, a3, a4, a5) (f113 64 ([] : (List Int)) 0 size ([]) db)).bind fun o1 =>
  some o1 : Option (List (List Int)))) rfl (by exact go)
instance : Io0 cx 82 := ⟨rfl⟩
instance i49_0 {db : Database} {size : Int} : Lp cx (f49_0 db size) 29 L49_0 (fun (zs : (List (List Int)) × Int) => [(2, .v (.ptr true [(ssl eRelation db.Relations), (ssl eFact db.Facts)])), (5, .v (osl (eL eI) true zs.1)), (18, .v (iT (w64 (size + 1)))), (19, .v (iT zs.2))]) (QX 0 (fun (y : (List (List Int))) => [(5, .v (osl (eL eI) true y))])) := Lp.of (f := (fun
 | (out_9, x_10) =>
  if x_10 < (w64 (size + 1)) then
  (f82 db x_10).bind fun o12 =>
  pl (plains (arr (eL eI) true o12)) <| 
  (app 24 out_9 o12).bind fun l_14 =>
  some (.inl (l_14, w64 (x_10 + 1)))
  else
  some (.inr out_9) : (List (List Int)) × Int → Option (((List (List Int)) × Int) ⊕ (List (List Int))))) (by exact go)
instance i49 {db : Database} {size : Int} : Rn cx (f49 db size) 49 [(.agg [(ssl eRelation db.Relations), (ssl eFact db.Facts)]), (iT size)] (fun (r : (List (List Int))) => (osl (eL eI) true r)) (fun r => []) := Rn.o (e := (
  sn 4 5 (osl (eL eI) true ([])) <| 
  (f65 db).bind fun o1 =>
  (jn (QN (fun (y : Bool) => [(1, .v (iT size)), (2, .v (.ptr true [(ssl eRelation db.Relations), (ssl eFact db.Facts)])), (5, .v (osl (eL eI) true ([]))), (15, .v (.bool y))])) ((if ¬ (o1 = true) then
  some true
  else
  (f74 size 0 3).bind fun o6 =>
  some (decide (¬ (o6 = true)))) : Option (Bool))).bind fun x_3 =>
  if x_3 = true then
  some ([])
  else
  (iter (f49_0 db size) ([], 0)).bind fun out_18 =>
  some out_18 : Option (List (List Int)))) rfl (by exact go)
instance : Io0 cx 49 := ⟨rfl⟩
instance i77_0 {s0 : (List (List Int))} {g_f : Nat} {cp_f : List T} {f : (List Int) → Option Bool} [hp_f : ∀ x0, Rn cx (f x0) g_f ((ssl eI x0) :: cp_f) (fun o => (.bool o)) (fun _ => [])] [Io0 cx g_f] : Lp cx (f77_0 s0 f) 19 L77_0 (fun (zs : Int) => [(0, .v (ssl (eL eI) s0)), (1, .v (.fn g_f cp_f)), (7, .v (iT (s0.length : Int))), (8, .v (iT zs))]) (QO (QX 0 (fun (y : Unit) => [])) (QR (fun (y : Int) => [(4, .v (iT y))]))) := Lp.of (by unfold f77_0; exact go)
instance i77 {s0 : (List (List Int))} {g_f : Nat} {cp_f : List T} {f : (List Int) → Option Bool} [hp_f : ∀ x0, Rn cx (f x0) g_f ((ssl eI x0) :: cp_f) (fun o => (.bool o)) (fun _ => [])] [Io0 cx g_f] : Rn cx (f77 s0 f) 77 [(ssl (eL eI) s0), (.fn g_f cp_f)] (fun (r : Int) => (iT r)) (fun r => []) := Rn.o rfl (by unfold f77; exact go)
instance : Io0 cx 77 := ⟨rfl⟩
instance i42 {s0 : (List (List Int))} {g_f : Nat} {cp_f : List T} {f : (List Int) → Option Bool} [hp_f : ∀ x0, Rn cx (f x0) g_f ((ssl eI x0) :: cp_f) (fun o => (.bool o)) (fun _ => [])] [Io0 cx g_f] : Rn cx (f42 s0 f) 42 [(ssl (eL eI) s0), (.fn g_f cp_f)] (fun (r : Bool) => (.bool r)) (fun r => []) := Rn.o rfl (by unfold f42; exact go)
instance : Io0 cx 42 := ⟨rfl⟩
instance i115_0 {s0 : (List Int)} {v : Int} : Lp cx (f115_0 s0 v) 19 L115_0 (fun (zs : Int) => [(0, .v (ssl eI s0)), (1, .v (iT v)), (7, .v (iT (s0.length : Int))), (8, .v (iT zs))]) (QO (QX 0 (fun (y : Unit) => [])) (QR (fun (y : Int) => [(4, .v (iT y))]))) := Lp.of (by unfold f115_0; exact go)
instance i115 {s0 : (List Int)} {v : Int} : Rn cx (f115 s0 v) 115 [(ssl eI s0), (iT v)] (fun (r : Int) => (iT r)) (fun r => []) := Rn.o rfl (by unfold f115; exact go)
instance : Io0 cx 115 := ⟨rfl⟩
instance i83 {s0 : (List Int)} {v : Int} : Rn cx (f83 s0 v) 83 [(ssl eI s0), (iT v)] (fun (r : Bool) => (.bool r)) (fun r => []) := Rn.o rfl (by unfold f83; exact go)
instance : Io0 cx 83 := ⟨rfl⟩
instance i86 {n0 : Int} {c : (List Int)} : Rn cx (f86 n0 c) 86 [(iT n0), (.ptr false [(ssl eI c)])] (fun (r : Bool) => (.bool r)) (fun r => []) := Rn.o rfl (by unfold f86; exact go)
instance : Io0 cx 86 := ⟨rfl⟩
instance i55 {a : (List Int)} {b : (List Int)} : Rn cx (f55 a b) 55 [(ssl eI a), (ssl eI b)] (fun (r : Bool) => (.bool r)) (fun r => []) := Rn.o rfl (by unfold f55; exact go)
instance : Io0 cx 55 := ⟨rfl⟩
instance i54 {own : (List Int)} {c : (List Int)} : Rn cx (f54 own c) 54 [(ssl eI own), (.ptr false [(ssl eI c)])] (fun (r : Bool) => (.bool r)) (fun r => []) := Rn.o rfl (by unfold f54; exact go)
instance : Io0 cx 54 := ⟨rfl⟩
instance i23 {sets : (List (List Int))} {set1 : (List Int)} : Rn cx (f23 sets set1) 23 [(ssl (eL eI) sets), (ssl eI set1)] (fun (r : Bool) => (.bool r)) (fun r => []) := Rn.o rfl (by unfold f23; exact go)
instance : Io0 cx 23 := ⟨rfl⟩
instance i84 {set0 : (List Int)} {fact : Int} : Rn cx (f84 set0 fact) 84 [(ssl eI set0), (iT fact)] (fun (r : (List Int)) => (ssl eI r)) (fun r => []) := Rn.o (e := (
  sn 4 7 (osl eI true ([fact])) <| 
  sn 0 7 (ssl eI ([fact])) <| 
  (f100 set0 ([fact])).bind fun o1 =>
  some o1 : Option (List Int))) rfl (by exact go)
instance : Io0 cx 84 := ⟨rfl⟩
instance i51_0 {known : (List (List Int))} {set1 : (List Int)} {block : (List Int)} : Lp cx (f51_0 known set1 block) 27 L51_0 (fun (zs : Int) => [(0, .v (ssl (eL eI) known)), (1, .v (ssl eI set1)), (9, .v (ssl eI block)), (10, .v (iT (block.length : Int))), (11, .v (iT zs))]) (QO (QX 0 (fun (y : Unit) => [])) (QR (fun (y : Bool) => [(6, .v (.bool y))]))) := Lp.of (f := (fun
 | x_1 =>
  if x_1 < (block.length : Int) then
  (ix block x_1).bind fun v_3 =>
  (f83 set1 v_3).bind fun o5 =>
  (jn (QN (fun (y : Bool) => [(0, .v (ssl (eL eI) known)), (1, .v (ssl eI set1)), (9, .v (ssl eI block)), (10, .v (iT (block.length : Int))), (11, .v (iT x_1)), (25, .v (.bool y))])) ((if o5 = true then
  some true
  else
  (f84 set1 v_3).bind fun o10 =>
  (f23 known o10).bind fun o12 =>
  some (decide (¬ (o12 = true)))) : Option (Bool))).bind fun x_7 =>
  if x_7 = true then
  some (.inr (.inr false))
  else
  some (.inl (w64 (x_1 + 1)))
  else
  some (.inr (.inl ())) : Int → Option (Int ⊕ (Unit ⊕ Bool)))) (by exact go)
instance i51 {known : (List (List Int))} {set1 : (List Int)} {block : (List Int)} : Rn cx (f51 known set1 block) 51 [(ssl (eL eI) known), (ssl eI set1), (ssl eI block)] (fun (r : Bool) => (.bool r)) (fun r => []) := Rn.o rfl (by unfold f51; exact go)
instance : Io0 cx 51 := ⟨rfl⟩
instance i50 {block : (List Int)} {c : (List (List Int))} {c2 : (List Int)} : Rn cx (f50 block c c2) 50 [(ssl eI block), (.ptr false [(ssl (eL eI) c)]), (.ptr false [(ssl eI c2)])] (fun (r : Bool) => (.bool r)) (fun r => []) := Rn.o rfl (by unfold f50; exact go)
instance : Io0 cx 50 := ⟨rfl⟩
theorem r21_0 {o4 : (List (List Int))} {o6 : (List (List Int))} {o8 : (List (List Int))} : ∀ zs zo, iter (f21_0 o4 o8) zs = some zo → Wc cx 73 (.loop L21_0) [(5, .v (.ptr true [(osl (eL eI) false zs.1)])), (6, .v (osl (eL eI) false zs.2.1)), (7, .v (osl (eL eI) true o4)), (8, .v (osl (eL eI) true o6)), (29, .v (ssl (eL eI) o8)), (30, .v (iT (o8.length : Int))), (31, .v (iT zs.2.2))] ((QX 0 (fun (y : (List (List Int)) × (List (List Int))) => [(5, .v (.ptr true [(osl (eL eI) false y.1)])), (6, .v (osl (eL eI) false y.2)), (8, .v (osl (eL eI) true o6))])) zo) := by
 intro zs0 zo0 zh0
 refine Wc.postG ?_
 refine iter_run (f := (f21_0 o4 o8)) (P := fun zs zo => Wc cx 73 (.loop L21_0) [(5, .v (.ptr true [(osl (eL eI) false zs.1)])), (6, .v (osl (eL eI) false zs.2.1)), (7, .v (osl (eL eI) true o4)), (8, .v (osl (eL eI) true o6)), (29, .v (ssl (eL eI) o8)), (30, .v (iT (o8.length : Int))), (31, .v (iT zs.2.2))] (fun ex V => ∃ V2, VLe V V2 ∧ (QX 0 (fun (y : (List (List Int)) × (List (List Int))) => [(5, .v (.ptr true [(osl (eL eI) false y.1)])), (6, .v (osl (eL eI) false y.2)), (8, .v (osl (eL eI) true o6))])) zo ex V2)) ?_ zh0
 rintro ⟨known_10, others_11, x_12⟩ zo zr h hk hx
 try dsimp only at hk ⊢
 rw [f21_0] at h
 refine Wc.loop ?_
 refine Wc.seq ?_
 refine Wc.evs (by conv => lhs; simp [-aI_app0, -aB_app0, -aS_app0, -aL_app0, -aI_app10, -aB_app10, -aS_app10, -aLt_app10I, -aLf_app10I, -aLt_app1I, -aLf_app1I]) ?_
 refine Wo.nil ?_
 refine Wc.seq ?_
 by_cases kc13 : x_12 < (o8.length : Int)
 ·rw [if_pos kc13] at h
  refine Wc.condT' (t := _) (by conv => lhs; simp) (by simpa using kc13) ?_
  refine Wc.seq ?_
  refine Wc.kil (by conv => lhs; simp) ?_
  refine Wc.skip ?_
  refine Wc.seq ?_
  refine Wc.block ?_
  refine Wc.seq ?_
  obtain ⟨v_14, h15, h⟩ := bind_some h
  obtain ⟨ga15, gb15, gc15⟩ := ix_some h15
  have gn15 := ix_ne h15
  have gd15 := arr_at (E := (eL eI)) (b := false) gc15
  simp at gd15
  refine Wc.evs (by conv => lhs; simp [-aI_app0, -aB_app0, -aS_app0, -aL_app0, -aI_app10, -aB_app10, -aS_app10, -aLt_app10I, -aLf_app10I, -aLt_app1I, -aLf_app1I, ga15, gb15, gn15, gd15]) ?_
  refine Wo.nil ?_
  refine Wc.seq ?_
  refine Wc.evs (by conv => lhs; simp [-aI_app0, -aB_app0, -aS_app0, -aL_app0, -aI_app10, -aB_app10, -aS_app10, -aLt_app10I, -aLf_app10I, -aLt_app1I, -aLf_app1I]) ?_
  obtain ⟨o16, h17, h⟩ := bind_some h
  refine Wo.call rfl rfl (by (conv => lhs; simp [-aI_app0, -aB_app0, -aS_app0, -aL_app0, -aI_app10, -aB_app10, -aS_app10, -aLt_app10I, -aLf_app10I, -aLt_app1I, -aLf_app1I, cx, ioTab]) <;> rfl) (run_ h17) (by simp) (by simp) (by (conv => lhs; simp [-aI_app0, -aB_app0, -aS_app0, -aL_app0, -aI_app10, -aB_app10, -aS_app10, -aLt_app10I, -aLf_app10I, -aLt_app1I, -aLf_app1I, cx, ioTab]) <;> rfl) (by (conv => lhs; simp [-aI_app0, -aB_app0, -aS_app0, -aL_app0, -aI_app10, -aB_app10, -aS_app10, -aLt_app10I, -aLf_app10I, -aLt_app1I, -aLf_app1I]) <;> rfl) ?_
  refine Wo.nil ?_
  obtain ⟨w18, h19, h⟩ := bind_some h
  refine Wc.monoG (Q := (QN (fun (y : (List (List Int)) × (List (List Int))) => [(5, .v (.ptr true [(osl (eL eI) false y.1)])), (6, .v (osl (eL eI) false y.2)), (7, .v (osl (eL eI) true o4)), (8, .v (osl (eL eI) true o6)), (29, .v (ssl (eL eI) o8)), (30, .v (iT (o8.length : Int))), (31, .v (iT x_12))])) w18) ?_ ?_
  ·skip
   by_cases kc20 : o16 = true
   ·rw [if_pos kc20] at h19
    refine Wc.condT' (t := _) (by conv => lhs; simp) (by simpa using kc20) ?_
    refine Wc.seq ?_
    refine Wc.kil (by conv => lhs; simp) ?_
    obtain ⟨l_21, h22, h19⟩ := bind_some h19
    have gx22 := appT_arr (E := (eL eI)) (b := false) (y := true) h22 (by decide)
    simp [-aI_app0, -aB_app0, -aS_app0, -aL_app0, -aLt_app1I, -aLf_app1I, -aLt_app10I, -aLf_app10I] at gx22
    refine Wc.evs (by conv => lhs; simp [-aI_app0, -aB_app0, -aS_app0, -aL_app0, -aI_app10, -aB_app10, -aS_app10, -aLt_app10I, -aLf_app10I, -aLt_app1I, -aLf_app1I, gx22, h22, ga15, gb15, gn15, gd15]) ?_
    refine Wo.nil ?_
    cases h19
    exact ⟨_, (VLe.refl _), rfl, by first | rfl | simp [-aI_app0, -aB_app0, -aS_app0, -aL_app0, -aI_app10, -aB_app10, -aS_app10, -aLt_app10I, -aLf_app10I, -aLt_app1I, -aLf_app1I, gx22, h22, ga15, gb15, gn15, gd15]⟩
   ·rw [if_neg kc20] at h19
    refine Wc.condF' (t := _) (by conv => lhs; simp) (by simpa using kc20) ?_
    refine Wc.seq ?_
    refine Wc.kil (by conv => lhs; simp) ?_
    obtain ⟨l_23, h24, h19⟩ := bind_some h19
    have gx24 := appT_arr (E := (eL eI)) (b := false) (y := true) h24 (by decide)
    simp [-aI_app0, -aB_app0, -aS_app0, -aL_app0, -aLt_app1I, -aLf_app1I, -aLt_app10I, -aLf_app10I] at gx24
    refine Wc.evs (by conv => lhs; simp [-aI_app0, -aB_app0, -aS_app0, -aL_app0, -aI_app10, -aB_app10, -aS_app10, -aLt_app10I, -aLf_app10I, -aLt_app1I, -aLf_app1I, gx24, h24]) ?_
    refine Wo.nil ?_
    cases h19
    exact ⟨_, (VLe.refl _), rfl, by first | rfl | simp [-aI_app0, -aB_app0, -aS_app0, -aL_app0, -aI_app10, -aB_app10, -aS_app10, -aLt_app10I, -aLf_app10I, -aLt_app1I, -aLf_app1I, gx24, h24]⟩
  ·skip
   obtain ⟨known_25, others_26⟩ := w18
   rintro ex V ⟨rfl, rfl⟩
   dsimp only at h ⊢
   refine Wc.evs (by conv => lhs; simp [-aI_app0, -aB_app0, -aS_app0, -aL_app0, -aI_app10, -aB_app10, -aS_app10, -aLt_app10I, -aLf_app10I, -aLt_app1I, -aLf_app1I]) ?_
   refine Wo.nil ?_
   refine Wc.start (V1 := [(5, .v (.ptr true [(osl (eL eI) false known_25)])), (6, .v (osl (eL eI) false others_26)), (7, .v (osl (eL eI) true o4)), (8, .v (osl (eL eI) true o6)), (29, .v (ssl (eL eI) o8)), (30, .v (iT (o8.length : Int))), (31, .v (iT (w64 (x_12 + 1))))]) ?_ (hk _ (Option.some.inj h).symm)
   first | rfl | simp [-aI_app0, -aB_app0, -aS_app0, -aL_app0, -aI_app10, -aB_app10, -aS_app10, -aLt_app10I, -aLf_app10I, -aLt_app1I, -aLf_app1I]
 ·rw [if_neg kc13] at h
  refine Wc.condF' (t := _) (by conv => lhs; simp) (by simpa using kc13) ?_
  refine Wc.seq ?_
  refine Wc.kil (by conv => lhs; simp) ?_
  refine Wc.exit ?_
  have e0 := hx _ (Option.some.inj h).symm
  subst e0
  exact ⟨_, (VLe.refl _), rfl, by first | rfl | simp [-aI_app0, -aB_app0, -aS_app0, -aL_app0, -aI_app10, -aB_app10, -aS_app10, -aLt_app10I, -aLf_app10I, -aLt_app1I, -aLf_app1I]⟩
theorem r21_2 {o6 : (List (List Int))} {others_32 : (List (List Int))} : ∀ zs zo, iter (f21_2 o6 others_32) zs = some zo → Wc cx 73 (.loop L21_2) [(5, .v (.ptr true [(osl (eL eI) false zs.1)])), (6, .v (osl (eL eI) false others_32)), (8, .v (osl (eL eI) true o6)), (11, .v (osl (eL eI) false zs.2.1)), (48, .al 6), (49, .v (iT (others_32.length : Int))), (50, .v (iT zs.2.2))] ((QX 4 (fun (y : (List (List Int)) × (List (List Int))) => [(5, .v (.ptr true [(osl (eL eI) false y.1)])), (6, .v (osl (eL eI) false others_32)), (8, .v (osl (eL eI) true o6)), (11, .v (osl (eL eI) false y.2))])) zo) := by
 intro zs0 zo0 zh0
 refine Wc.postG ?_
 refine iter_run (f := (f21_2 o6 others_32)) (P := fun zs zo => Wc cx 73 (.loop L21_2) [(5, .v (.ptr true [(osl (eL eI) false zs.1)])), (6, .v (osl (eL eI) false others_32)), (8, .v (osl (eL eI) true o6)), (11, .v (osl (eL eI) false zs.2.1)), (48, .al 6), (49, .v (iT (others_32.length : Int))), (50, .v (iT zs.2.2))] (fun ex V => ∃ V2, VLe V V2 ∧ (QX 4 (fun (y : (List (List Int)) × (List (List Int))) => [(5, .v (.ptr true [(osl (eL eI) false y.1)])), (6, .v (osl (eL eI) false others_32)), (8, .v (osl (eL eI) true o6)), (11, .v (osl (eL eI) false y.2))])) zo ex V2)) ?_ zh0
 rintro ⟨known_33, rest_34, x_35⟩ zo zr h hk hx
 try dsimp only at hk ⊢
 rw [f21_2] at h
 refine Wc.loop ?_
 refine Wc.seq ?_
 refine Wc.evs (by conv => lhs; simp [-aI_app0, -aB_app0, -aS_app0, -aL_app0, -aI_app10, -aB_app10, -aS_app10, -aLt_app10I, -aLf_app10I, -aLt_app1I, -aLf_app1I]) ?_
 refine Wo.nil ?_
 refine Wc.seq ?_
 by_cases kc36 : x_35 < (others_32.length : Int)
 ·rw [if_pos kc36] at h
  refine Wc.condT' (t := _) (by conv => lhs; simp) (by simpa using kc36) ?_
  refine Wc.seq ?_
  refine Wc.kil (by conv => lhs; simp) ?_
  refine Wc.skip ?_
  refine Wc.seq ?_
  refine Wc.block ?_
  refine Wc.seq ?_
  obtain ⟨v_37, h38, h⟩ := bind_some h
  obtain ⟨ga38, gb38, gc38⟩ := ix_some h38
  have gn38 := ix_ne h38
  have gf38 := arr_fit (E := (eL eI)) (b := false) (i := x_35.toNat) (l := others_32) (by omega)
  have gg38_0 := arr_get (E := (eL eI)) (b := false) (o := 0) gc38 (by decide)
  simp at gf38 gg38_0
  have gl38 : x_35.toNat < others_32.length := by omega
  refine Wc.evs (by conv => lhs; simp [-aI_app0, -aB_app0, -aS_app0, -aL_app0, -aI_app10, -aB_app10, -aS_app10, -aLt_app10I, -aLf_app10I, -aLt_app1I, -aLf_app1I, -getElem?_pos, List.getElem?_cons_zero, List.getElem?_cons_succ, ga38, gb38, gn38, gf38, gg38_0, gc38, gl38]) ?_
  refine Wo.nil ?_
  refine Wc.seq ?_
  refine Wc.evs (by conv => lhs; simp [-aI_app0, -aB_app0, -aS_app0, -aL_app0, -aI_app10, -aB_app10, -aS_app10, -aLt_app10I, -aLf_app10I, -aLt_app1I, -aLf_app1I]) ?_
  obtain ⟨o39, h40, h⟩ := bind_some h
  refine Wo.call rfl rfl (by (conv => lhs; simp [-aI_app0, -aB_app0, -aS_app0, -aL_app0, -aI_app10, -aB_app10, -aS_app10, -aLt_app10I, -aLf_app10I, -aLt_app1I, -aLf_app1I, cx, ioTab]) <;> rfl) (run_ h40) (by simp) (by simp) (by (conv => lhs; simp [-aI_app0, -aB_app0, -aS_app0, -aL_app0, -aI_app10, -aB_app10, -aS_app10, -aLt_app10I, -aLf_app10I, -aLt_app1I, -aLf_app1I, cx, ioTab]) <;> rfl) (by (conv => lhs; simp [-aI_app0, -aB_app0, -aS_app0, -aL_app0, -aI_app10, -aB_app10, -aS_app10, -aLt_app10I, -aLf_app10I, -aLt_app1I, -aLf_app1I]) <;> rfl) ?_
  refine Wo.nil ?_
  obtain ⟨w41, h42, h⟩ := bind_some h
  refine Wc.monoG (Q := (QN (fun (y : (List (List Int)) × (List (List Int))) => [(5, .v (.ptr true [(osl (eL eI) false y.1)])), (6, .v (osl (eL eI) false others_32)), (8, .v (osl (eL eI) true o6)), (11, .v (osl (eL eI) false y.2)), (48, .al 6), (49, .v (iT (others_32.length : Int))), (50, .v (iT x_35))])) w41) ?_ ?_
  ·skip
   by_cases kc43 : o39 = true
   ·rw [if_pos kc43] at h42
    refine Wc.condT' (t := _) (by conv => lhs; simp) (by simpa using kc43) ?_
    refine Wc.seq ?_
    refine Wc.kil (by conv => lhs; simp) ?_
    obtain ⟨l_44, h45, h42⟩ := bind_some h42
    have gx45 := appT_arr (E := (eL eI)) (b := false) (y := true) h45 (by decide)
    simp [-aI_app0, -aB_app0, -aS_app0, -aL_app0, -aLt_app1I, -aLf_app1I, -aLt_app10I, -aLf_app10I] at gx45
    refine Wc.evs (by conv => lhs; simp [-aI_app0, -aB_app0, -aS_app0, -aL_app0, -aI_app10, -aB_app10, -aS_app10, -aLt_app10I, -aLf_app10I, -aLt_app1I, -aLf_app1I, gx45, h45, -getElem?_pos, List.getElem?_cons_zero, List.getElem?_cons_succ, ga38, gb38, gn38, gf38, gg38_0, gc38, gl38]) ?_
    refine Wo.nil ?_
    cases h42
    exact ⟨_, (VLe.refl _), rfl, by first | rfl | simp [-aI_app0, -aB_app0, -aS_app0, -aL_app0, -aI_app10, -aB_app10, -aS_app10, -aLt_app10I, -aLf_app10I, -aLt_app1I, -aLf_app1I, gx45, h45, -getElem?_pos, List.getElem?_cons_zero, List.getElem?_cons_succ, ga38, gb38, gn38, gf38, gg38_0, gc38, gl38]⟩
   ·rw [if_neg kc43] at h42
    refine Wc.condF' (t := _) (by conv => lhs; simp) (by simpa using kc43) ?_
    refine Wc.seq ?_
    refine Wc.kil (by conv => lhs; simp) ?_
    obtain ⟨l_46, h47, h42⟩ := bind_some h42
    have gx47 := appT_arr (E := (eL eI)) (b := false) (y := true) h47 (by decide)
    simp [-aI_app0, -aB_app0, -aS_app0, -aL_app0, -aLt_app1I, -aLf_app1I, -aLt_app10I, -aLf_app10I] at gx47
    refine Wc.evs (by conv => lhs; simp [-aI_app0, -aB_app0, -aS_app0, -aL_app0, -aI_app10, -aB_app10, -aS_app10, -aLt_app10I, -aLf_app10I, -aLt_app1I, -aLf_app1I, gx47, h47]) ?_
    refine Wo.nil ?_
    cases h42
    exact ⟨_, (VLe.refl _), rfl, by first | rfl | simp [-aI_app0, -aB_app0, -aS_app0, -aL_app0, -aI_app10, -aB_app10, -aS_app10, -aLt_app10I, -aLf_app10I, -aLt_app1I, -aLf_app1I, gx47, h47]⟩
  ·skip
   obtain ⟨known_48, rest_49⟩ := w41
   rintro ex V ⟨rfl, rfl⟩
   dsimp only at h ⊢
   refine Wc.evs (by conv => lhs; simp [-aI_app0, -aB_app0, -aS_app0, -aL_app0, -aI_app10, -aB_app10, -aS_app10, -aLt_app10I, -aLf_app10I, -aLt_app1I, -aLf_app1I]) ?_
   refine Wo.nil ?_
   refine Wc.start (V1 := [(5, .v (.ptr true [(osl (eL eI) false known_48)])), (6, .v (osl (eL eI) false others_32)), (8, .v (osl (eL eI) true o6)), (11, .v (osl (eL eI) false rest_49)), (48, .al 6), (49, .v (iT (others_32.length : Int))), (50, .v (iT (w64 (x_35 + 1))))]) ?_ (hk _ (Option.some.inj h).symm)
   first | rfl | simp [-aI_app0, -aB_app0, -aS_app0, -aL_app0, -aI_app10, -aB_app10, -aS_app10, -aLt_app10I, -aLf_app10I, -aLt_app1I, -aLf_app1I]
 ·rw [if_neg kc36] at h
  refine Wc.condF' (t := _) (by conv => lhs; simp) (by simpa using kc36) ?_
  refine Wc.seq ?_
  refine Wc.kil (by conv => lhs; simp) ?_
  refine Wc.exit ?_
  have e0 := hx _ (Option.some.inj h).symm
  subst e0
  exact ⟨_, (VLe.refl _), rfl, by first | rfl | simp [-aI_app0, -aB_app0, -aS_app0, -aL_app0, -aI_app10, -aB_app10, -aS_app10, -aLt_app10I, -aLf_app10I, -aLt_app1I, -aLf_app1I]⟩
theorem r21_1 {o6 : (List (List Int))} : ∀ zs zo, iter (f21_1 o6) zs = some zo → Wc cx 73 (.loop L21_1) [(5, .v (.ptr true [(osl (eL eI) false zs.1)])), (6, .v (osl (eL eI) false zs.2)), (8, .v (osl (eL eI) true o6))] ((QR (fun (y : (List (List Int))) => [(4, .v (osl (eL eI) false y)), (5, .v (.ptr true [.und]))])) zo) := by
 intro zs0 zo0 zh0
 refine Wc.postG ?_
 refine iter_run (f := (f21_1 o6)) (P := fun zs zo => Wc cx 73 (.loop L21_1) [(5, .v (.ptr true [(osl (eL eI) false zs.1)])), (6, .v (osl (eL eI) false zs.2)), (8, .v (osl (eL eI) true o6))] (fun ex V => ∃ V2, VLe V V2 ∧ (QR (fun (y : (List (List Int))) => [(4, .v (osl (eL eI) false y)), (5, .v (.ptr true [.und]))])) zo ex V2)) ?_ zh0
 rintro ⟨known_31, others_32⟩ zo zr h hk hx
 try dsimp only at hk ⊢
 rw [f21_1] at h
 refine Wc.loop ?_
 refine Wc.block ?_
 refine Wc.seq ?_
 refine Wc.evs (by conv => lhs; simp [-aI_app0, -aB_app0, -aS_app0, -aL_app0, -aI_app10, -aB_app10, -aS_app10, -aLt_app10I, -aLf_app10I, -aLt_app1I, -aLf_app1I]) ?_
 refine Wo.gh (vle_co (s := 11) (t1 := (osl (eL eI) true ([]))) rfl (by simp) (TLe.own (show TLes _ [] from (TLes.refl _)) rfl) (by conv => lhs; simp)) ?_
 refine Wo.nil ?_
 refine Wc.seq ?_
 refine Wc.seq ?_
 refine Wc.evs (by conv => lhs; simp [-aI_app0, -aB_app0, -aS_app0, -aL_app0, -aI_app10, -aB_app10, -aS_app10, -aLt_app10I, -aLf_app10I, -aLt_app1I, -aLf_app1I]) ?_
 refine Wo.nil ?_
 refine Wc.block ?_
 refine Wc.gh (vle_pf (s := 11) (t1 := (osl (eL eI) false ([]))) rfl (by simp) (by first | exact PF.inner (E := (eL eI)) (y := true) _ | exact pf_go) (by conv => lhs; simp)) ?_
 obtain ⟨w50, h51, h⟩ := bind_some h
 refine Wc.start (V1 := [(5, .v (.ptr true [(osl (eL eI) false known_31)])), (6, .v (osl (eL eI) false others_32)), (8, .v (osl (eL eI) true o6)), (11, .v (osl (eL eI) false ([]))), (48, .al 6), (49, .v (iT (others_32.length : Int))), (50, .v (iT 0))]) (by first | rfl | simp [-aI_app0, -aB_app0, -aS_app0, -aL_app0, -aI_app10, -aB_app10, -aS_app10, -aLt_app10I, -aLf_app10I, -aLt_app1I, -aLf_app1I]) ?_
 refine Wc.mono (r21_2 _ _ h51) ?_
 obtain ⟨known_52, rest_53⟩ := w50
 rintro ex V ⟨rfl, rfl⟩
 dsimp only at h ⊢
 refine Wc.seq ?_
 refine Wc.seq ?_
 refine Wc.evs (by conv => lhs; simp [-aI_app0, -aB_app0, -aS_app0, -aL_app0, -aI_app10, -aB_app10, -aS_app10, -aLt_app10I, -aLf_app10I, -aLt_app1I, -aLf_app1I]) ?_
 refine Wo.nil ?_
 by_cases kc54 : (rest_53.length : Int) = (others_32.length : Int)
 ·rw [if_pos kc54] at h
  refine Wc.condT' (t := _) (by conv => lhs; simp) (by simpa using kc54) ?_
  refine Wc.seq ?_
  refine Wc.kil (by conv => lhs; simp) ?_
  refine Wc.seq ?_
  refine Wc.evs (by conv => lhs; simp [-aI_app0, -aB_app0, -aS_app0, -aL_app0, -aI_app10, -aB_app10, -aS_app10, -aLt_app10I, -aLf_app10I, -aLt_app1I, -aLf_app1I]) ?_
  refine Wo.nil ?_
  refine Wc.gh (vle_take (s := 4) (by simp) (by conv => lhs; simp [-aI_app0, -aB_app0, -aS_app0, -aL_app0, -aI_app10, -aB_app10, -aS_app10, -aLt_app10I, -aLf_app10I, -aLt_app1I, -aLf_app1I]) (by conv => lhs; simp)) ?_
  refine Wc.ret ?_
  have e0 := hx _ (Option.some.inj h).symm
  subst e0
  exact ⟨_, (VLe.refl _), rfl, by first | rfl | simp [-aI_app0, -aB_app0, -aS_app0, -aL_app0, -aI_app10, -aB_app10, -aS_app10, -aLt_app10I, -aLf_app10I, -aLt_app1I, -aLf_app1I]⟩
 ·rw [if_neg kc54] at h
  refine Wc.condF' (t := _) (by conv => lhs; simp) (by simpa using kc54) ?_
  refine Wc.seq ?_
  refine Wc.kil (by conv => lhs; simp) ?_
  refine Wc.skip ?_
  refine Wc.evs (by conv => lhs; simp [-aI_app0, -aB_app0, -aS_app0, -aL_app0, -aI_app10, -aB_app10, -aS_app10, -aLt_app10I, -aLf_app10I, -aLt_app1I, -aLf_app1I]) ?_
  refine Wo.nil ?_
  refine Wc.start (V1 := [(5, .v (.ptr true [(osl (eL eI) false known_52)])), (6, .v (osl (eL eI) false rest_53)), (8, .v (osl (eL eI) true o6))]) ?_ (hk _ (Option.some.inj h).symm)
  first | rfl | simp [-aI_app0, -aB_app0, -aS_app0, -aL_app0, -aI_app10, -aB_app10, -aS_app10, -aLt_app10I, -aLf_app10I, -aLt_app1I, -aLf_app1I]
end
end Go.Proofs.YtbhadkbchkjdiaaGreatH
