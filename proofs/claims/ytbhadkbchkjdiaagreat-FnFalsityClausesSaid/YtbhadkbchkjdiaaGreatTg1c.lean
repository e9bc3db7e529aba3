import Derived.Test.YtbhadkbchkjdiaaGreatTg1b
set_option maxHeartbeats 2000000
set_option linter.unusedVariables false
set_option linter.unusedSimpArgs false
set_option linter.defProp false
set_option linter.unusedSectionVars false
set_option maxRecDepth 100000
namespace Go.Proofs.YtbhadkbchkjdiaaGreatH
open Go
noncomputable section
instance i66 {relations : (List Relation)} {query : Query} : Rn cx (f66 relations query) 66 [(ssl eRelation relations), (.agg [(iT query.VariableCount), (ssl eAtom query.Atoms), (ssl eI query.Free)])] (fun (r : Bool) => (.bool r)) (fun r => []) := by
 refine Rn.of (e := (
  (f94 relations).bind fun o1 =>
  (jn (QN (fun (y : Bool) => [(0, .v (ssl eRelation relations)), (3, .v (.ptr true [(iT query.VariableCount), (ssl eAtom query.Atoms), (ssl eI query.Free)])), (33, .v (.bool y))])) ((if ¬ (o1 = true) then
  some true
  else
  (f74 query.VariableCount 0 4).bind fun o6 =>
  (jn (QN (fun (y : Bool) => [(0, .v (ssl eRelation relations)), (3, .v (.ptr true [(iT query.VariableCount), (ssl eAtom query.Atoms), (ssl eI query.Free)])), (33, .v (.bool y))])) ((if ¬ (o6 = true) then
  some true
  else
  (f74 (query.Atoms.length : Int) 1 3).bind fun o11 =>
  (jn (QN (fun (y : Bool) => [(0, .v (ssl eRelation relations)), (3, .v (.ptr true [(iT query.VariableCount), (ssl eAtom query.Atoms), (ssl eI query.Free)])), (33, .v (.bool y))])) ((if ¬ (o11 = true) then
  some true
  else
  (f97 query.Free query.VariableCount).bind fun o16 =>
  some (decide (¬ (o16 = true)))) : Option (Bool))).bind fun x_13 =>
  some x_13) : Option (Bool))).bind fun x_8 =>
  some x_8) : Option (Bool))).bind fun x_3 =>
  if x_3 = true then
  some false
  else
  sn 2 5 (osl eI true ([])) <| 
  sn 0 5 (ssl eI ([])) <| 
  (iter (f66_0 relations query) ([], 0)).bind fun o => match o with
  | .inl occurring_55 =>
  some (decide ((occurring_55.length : Int) = query.VariableCount))
  | .inr x_56 =>
  some x_56 : Option Bool)) rfl rfl (by decide) rfl ?_
 exact go
instance : Io0 cx 66 := ⟨rfl⟩
instance i31 {db : Database} {query : Query} : Rn cx (f31 db query) 31 [(.agg [(ssl eRelation db.Relations), (ssl eFact db.Facts)]), (.agg [(iT query.VariableCount), (ssl eAtom query.Atoms), (ssl eI query.Free)])] (fun (r : Bool) => (.bool r)) (fun r => []) := by
 refine Rn.of (e := (
  (f65 db).bind fun o1 =>
  (jn (QN (fun (y : Bool) => [(4, .v (.bool y))])) ((if o1 = true then
  (f66 db.Relations query).bind fun o6 =>
  some o6
  else
  some false) : Option (Bool))).bind fun x_3 =>
  some x_3 : Option Bool)) rfl rfl (by decide) rfl ?_
 exact go
instance : Io0 cx 31 := ⟨rfl⟩
instance i102_0 {s1 : (List Int)} {s2 : (List Int)} : Lp cx (f102_0 s1 s2) 26 L102_0 (fun (zs : Int) => [(0, .v (ssl eI s1)), (1, .v (ssl eI s2)), (12, .v (iT (s1.length : Int))), (13, .v (iT zs))]) (QO (QX 0 (fun (y : Unit) => [])) (QR (fun (y : Bool) => [(4, .v (.bool y))]))) := by
 refine Lp.of ?_; unfold f102_0; exact go
instance i102 {s1 : (List Int)} {s2 : (List Int)} : Rn cx (f102 s1 s2) 102 [(ssl eI s1), (ssl eI s2)] (fun (r : Bool) => (.bool r)) (fun r => []) := by
 refine Rn.of rfl rfl (by decide) rfl ?_; unfold f102; exact go
instance : Io0 cx 102 := ⟨rfl⟩
instance i67 {relations : (List Relation)} {a : Fact} {b : Fact} : Rn cx (f67 relations a b) 67 [(ssl eRelation relations), (.agg [(iT a.Relation), (ssl eI a.Values)]), (.agg [(iT b.Relation), (ssl eI b.Values)])] (fun (r : Bool) => (.bool r)) (fun r => []) := by
 refine Rn.of rfl rfl (by decide) rfl ?_; unfold f67; exact go
instance : Io0 cx 67 := ⟨rfl⟩
instance i32_0 {db : Database} : Lp cx (f32_0 db) 54 L32_0 (fun (zs : (List (List Int)) × Int) => [(1, .v (.ptr true [(ssl eRelation db.Relations), (ssl eFact db.Facts)])), (3, .v (osl (eL eI) true zs.1)), (9, .v (ssl eFact db.Facts)), (10, .v (iT (db.Facts.length : Int))), (11, .v (iT zs.2))]) (QX 0 (fun (y : (List (List Int))) => [(3, .v (osl (eL eI) true y))])) := by
 refine Lp.of (f := (fun
 | (out_1, x_2) =>
  if x_2 < (db.Facts.length : Int) then
  (ix db.Facts x_2).bind fun v_4 =>
  (jn (QN (fun (y : Bool) => [(1, .v (.ptr true [(ssl eRelation db.Relations), (ssl eFact db.Facts)])), (3, .v (osl (eL eI) true out_1)), (4, .v (iT x_2)), (6, .v (iT (w64 ((out_1.length : Int) - 1)))), (9, .v (ssl eFact db.Facts)), (10, .v (iT (db.Facts.length : Int))), (11, .v (iT x_2)), (36, .v (.bool y))])) ((if (w64 ((out_1.length : Int) - 1)) ≥ 0 then
  (ix out_1 (w64 ((out_1.length : Int) - 1))).bind fun v_9 =>
  (ix v_9 0).bind fun v_11 =>
  (ix db.Facts v_11).bind fun v_13 =>
  (f67 db.Relations v_13 v_4).bind fun o15 =>
  some o15
  else
  some false) : Option (Bool))).bind fun x_6 =>
  (jn (QN (fun (y : (List (List Int))) => [(1, .v (.ptr true [(ssl eRelation db.Relations), (ssl eFact db.Facts)])), (3, .v (osl (eL eI) true y)), (9, .v (ssl eFact db.Facts)), (10, .v (iT (db.Facts.length : Int))), (11, .v (iT x_2))])) ((if x_6 = true then
  (ix out_1 (w64 ((out_1.length : Int) - 1))).bind fun v_20 =>
  (app 8 v_20 ([x_2])).bind fun l_22 =>
  some (out_1.set (w64 ((out_1.length : Int) - 1)).toNat l_22)
  else
  sn 3 49 (osl eI true ([x_2])) <| 
  (app 24 out_1 ([[x_2]])).bind fun l_25 =>
  some l_25) : Option (List (List Int)))).bind fun out_27 =>
  some (.inl (out_27, w64 (x_2 + 1)))
  else
  some (.inr out_1) : (List (List Int)) × Int → Option (((List (List Int)) × Int) ⊕ (List (List Int))))) ?_
 exact go
instance i32 {db : Database} : Rn cx (f32 db) 32 [(.agg [(ssl eRelation db.Relations), (ssl eFact db.Facts)])] (fun (r : (List (List Int))) => (osl (eL eI) true r)) (fun r => []) := by
 refine Rn.of (e := (
  sn 4 3 (osl (eL eI) true ([])) <| 
  (iter (f32_0 db) ([], 0)).bind fun out_30 =>
  some out_30 : Option (List (List Int)))) rfl rfl (by decide) rfl ?_
 exact go
instance : Io0 cx 32 := ⟨rfl⟩
instance i33_0 {facts : (List Int)} {sign : Int} : Lp cx (f33_0 facts sign) 24 L33_0 (fun (zs : (List Int) × Int) => [(1, .v (iT sign)), (5, .v (osl eI true zs.1)), (9, .v (ssl eI facts)), (10, .v (iT (facts.length : Int))), (11, .v (iT zs.2))]) (QX 0 (fun (y : (List Int)) => [(5, .v (osl eI true y))])) := by
 refine Lp.of ?_; unfold f33_0; exact go
instance i33 {facts : (List Int)} {sign : Int} : Rn cx (f33 facts sign) 33 [(ssl eI facts), (iT sign)] (fun (r : (List Int)) => (osl eI true r)) (fun r => []) := by
 refine Rn.of (e := (
  sn 3 5 (osl eI true ([])) <| 
  (iter (f33_0 facts sign) ([], 0)).bind fun out_10 =>
  some out_10 : Option (List Int))) rfl rfl (by decide) rfl ?_
 exact go
instance : Io0 cx 33 := ⟨rfl⟩
instance i167 {x : Int} {y : Int} : Rn cx (f167 x y) 167 [(.int .u64 x), (.int .u64 y)] (fun (r : Int × Int) => (.tup [(.int .u64 r.1), (.int .u64 r.2)])) (fun r => []) := by
 refine Rn.of rfl rfl (by decide) rfl ?_; unfold f167; exact go
instance : Io0 cx 167 := ⟨rfl⟩
instance i156 {x : Int} {y : Int} : Rn cx (f156 x y) 156 [(.int .u64 x), (.int .u64 y)] (fun (r : Int × Int) => (.tup [(.int .u64 r.1), (.int .u64 r.2)])) (fun r => []) := by
 refine Rn.of rfl rfl (by decide) rfl ?_; unfold f156; exact go
instance : Io0 cx 156 := ⟨rfl⟩
instance i133_0 : Lp cx f133_0 48 L133_0 (fun (zs : (List Int) × Int) => [(7, .v (.sl true false 1 0 (arr eI true zs.1))), (8, .v (iT zs.2))]) (QX 0 (fun (y : (List Int)) => [(7, .v (.sl true false 1 0 (arr eI true y)))])) := by
 refine Lp.of (f := (fun
 | (newslice_14, n_15) =>
  if n_15 < (newslice_14.length : Int) then
  (cutL newslice_14 0 n_15).bind fun z_17 =>
  cs 3 <| 
  some (.inl ((csL newslice_14 n_15.toNat), w64 (n_15 + (min n_15 ((newslice_14.length : Int) - n_15)))))
  else
  some (.inr newslice_14) : (List Int) × Int → Option (((List Int) × Int) ⊕ (List Int)))) ?_
 exact go
instance i133 {x : (List Int)} {count : Int} : Rn cx (f133 x count) 133 [(ssl eI x), (iT count)] (fun (r : (List Int)) => (osl eI true r)) (fun r => []) := by
 refine Rn.of (e := (
  (jn (QN (fun (y : Unit) => [(0, .v (ssl eI x)), (1, .v (iT count))])) ((if count < 0 then
  none
  else
  some ()) : Option Unit)).bind fun _ =>
  (f156 (IntKind.u64.wrap (x.length : Int)) (IntKind.u64.wrap count)).bind fun o4 =>
  (jn (QN (fun (y : Bool) => [(0, .v (ssl eI x)), (6, .v (.int .u64 o4.2)), (26, .v (.bool y))])) ((if o4.1 > 0 then
  some true
  else
  some (decide (o4.2 > 9223372036854775807))) : Option (Bool))).bind fun x_6 =>
  (jn (QN (fun (y : Unit) => [(0, .v (ssl eI x)), (6, .v (.int .u64 o4.2))])) ((if x_6 = true then
  none
  else
  some ()) : Option Unit)).bind fun _ =>
  (mkl 8 (w64 o4.2) 0).bind fun l_12 =>
  cp 6 <| 
  (iter f133_0 ((cpL l_12 x), ((min x.length l_12.length : Nat) : Int))).bind fun newslice_21 =>
  sn 2 4 (osl eI true newslice_21) <| 
  some newslice_21 : Option (List Int))) rfl rfl (by decide) rfl ?_
 exact go
instance : Io0 cx 133 := ⟨rfl⟩
instance i106 {n0 : Int} : Rn cx (f106 n0) 106 [(iT n0)] (fun (r : (List Int)) => (osl eI true r)) (fun r => []) := by
 refine Rn.of (e := (
  sn 3 3 (osl eI true ([-1])) <| 
  (f133 ([-1]) n0).bind fun o1 =>
  some o1 : Option (List Int))) rfl rfl (by decide) rfl ?_
 exact go
instance : Io0 cx 106 := ⟨rfl⟩
theorem r104 {s0 : (List Int)} {r : (List Int)} (h : f104 s0 = some r) : VJx cx (.ca 104 [(ssl eI s0)] (osl eI true r) []) := by
 unfold f104 at h
 refine ca_clone (X := noExt) (fun _ _ _ _ h => h) (fun _ _ _ _ h => h) rfl (by decide) rfl (cl_eq h) ?_
 refine Wc.start (V1 := [(0, .v (ssl eI s0))]) (by simp) ?_
 refine Wc.seq ?_
 obtain ⟨l_1, h2, h⟩ := bind_some h
 have gx2 := appT_arr2 (E := eI) (b := true) (b' := false) (y := false) h2 (by decide) (arr_sc rfl _)
 simp [-aI_app0, -aB_app0, -aS_app0, -aL_app0, -aLt_app1I, -aLf_app1I, -aLt_app10I, -aLf_app10I] at gx2
 refine Wc.evs (by conv => lhs; simp [-aI_app0, -aB_app0, -aS_app0, -aL_app0, -aI_app10, -aB_app10, -aS_app10, -aLt_app10I, -aLf_app10I, -aLt_app1I, -aLf_app1I, gx2]) ?_
 refine Wo.gh (vle_co (s := 2) (t1 := (osl eI true l_1)) rfl (by simp) (tle_own rfl) (by conv => lhs; simp)) ?_
 refine Wo.nil ?_
 refine Wc.ret (res_of (.inr rfl) ?_)
 cases h
 exact ⟨_, _, _, by conv => lhs; simp, by (conv => lhs; simp [cx, ioTab, List.range, List.range.loop]) <;> rfl, by first | rfl | simp [-aI_app0, -aB_app0, -aS_app0, -aL_app0, -aI_app10, -aB_app10, -aS_app10, -aLt_app10I, -aLf_app10I, -aLt_app1I, -aLf_app1I, gx2]⟩
instance i104 {s0 : (List Int)} : Rn cx (f104 s0) 104 [(ssl eI s0)] (fun (r : (List Int)) => (osl eI true r)) (fun r => []) := ⟨fun _ h => r104 h⟩
instance : Io0 cx 104 := ⟨rfl⟩
instance i131 {t : Int} : Rn cx (f131 t) 131 [(iT t)] (fun (r : Bool) => (.bool r)) (fun r => []) := by
 refine Rn.of rfl rfl (by decide) rfl ?_; unfold f131; exact go
instance : Io0 cx 131 := ⟨rfl⟩
instance i132 {v : Int} : Rn cx (f132 v) 132 [(iT v)] (fun (r : Int) => (iT r)) (fun r => []) := by
 refine Rn.of rfl rfl (by decide) rfl ?_; unfold f132; exact go
instance : Io0 cx 132 := ⟨rfl⟩
instance i105_0 {terms : (List Int)} {from2 : (List Int)} : Lp cx (f105_0 terms from2) 56 L105_0 (fun (zs : (List Int) × Int) => [(2, .v (ssl eI from2)), (8, .v (osl eI true zs.1)), (13, .v (ssl eI terms)), (14, .v (iT (terms.length : Int))), (15, .v (iT zs.2))]) (QO (QX 0 (fun (y : (List Int)) => [(8, .v (osl eI true y))])) (QR (fun (y : (List Int) × Bool) => [(6, .v (osl eI true y.1)), (7, .v (.bool y.2))]))) := by
 refine Lp.of (f := (fun
 | (out_3, x_4) =>
  if x_4 < (terms.length : Int) then
  (ix terms x_4).bind fun v_6 =>
  (f131 v_6).bind fun o8 =>
  (jn (QO (QN (fun (y : (List Int)) => [(2, .v (ssl eI from2)), (8, .v (osl eI true y)), (13, .v (ssl eI terms)), (14, .v (iT (terms.length : Int))), (15, .v (iT x_4))])) (QR (fun (y : (List Int) × Bool) => [(6, .v (osl eI true y.1)), (7, .v (.bool y.2))]))) ((if ¬ (o8 = true) then
  (ix from2 x_4).bind fun v_13 =>
  (f132 v_6).bind fun o15 =>
  if o15 ≠ v_13 then
  sn 2 6 (osl eI true ([])) <| 
  some (.inr ([], false))
  else
  some (.inl out_3)
  else
  (ix out_3 v_6).bind fun v_18 =>
  (jn (QO (QN (fun (y : (List Int)) => [(2, .v (ssl eI from2)), (8, .v (osl eI true y)), (13, .v (ssl eI terms)), (14, .v (iT (terms.length : Int))), (15, .v (iT x_4))])) (QR (fun (y : (List Int) × Bool) => [(6, .v (osl eI true y.1)), (7, .v (.bool y.2))]))) ((if v_18 < 0 then
  (ix from2 x_4).bind fun v_23 =>
  some (.inl (out_3.set v_6.toNat v_23))
  else
  (ix from2 x_4).bind fun v_26 =>
  if v_18 ≠ v_26 then
  sn 2 6 (osl eI true ([])) <| 
  some (.inr ([], false))
  else
  some (.inl out_3)) : Option ((List Int) ⊕ ((List Int) × Bool)))).bind fun o => match o with
  | .inl out_29 =>
  some (.inl out_29)
  | .inr (x_30, x_31) =>
  some (.inr (x_30, x_31))) : Option ((List Int) ⊕ ((List Int) × Bool)))).bind fun o => match o with
  | .inl out_32 =>
  some (.inl (out_32, w64 (x_4 + 1)))
  | .inr (x_33, x_34) =>
  some (.inr (.inr (x_33, x_34)))
  else
  some (.inr (.inl out_3)) : (List Int) × Int → Option (((List Int) × Int) ⊕ ((List Int) ⊕ ((List Int) × Bool))))) ?_
 exact go
instance i105 {values : (List Int)} {terms : (List Int)} {from2 : (List Int)} : Rn cx (f105 values terms from2) 105 [(ssl eI values), (ssl eI terms), (ssl eI from2)] (fun (r : (List Int) × Bool) => (.tup [(osl eI true r.1), (.bool r.2)])) (fun r => []) := by
 refine Rn.of rfl rfl (by decide) rfl ?_; unfold f105; exact go
instance : Io0 cx 105 := ⟨rfl⟩
instance i103_0 {a2 : AV} {a3 : AV} {a4 : AV} {a5 : AV} {values : (List Int)} {facts : (List Int)} {c : Query} {c4 : Database} {v_8 : Atom} {rec : (List Int) → (List Int) → Query → (List Embedding) → Database → Option (List Embedding)} [hrec : ∀ values facts c c3 c4, Rn cx (ag (a2, a3, a4, a5) <| rec values facts c c3 c4) 103 [(ssl eI values), (ssl eI facts), (.at a2 (.ptr false [(iT c.VariableCount), (ssl eAtom c.Atoms), (ssl eI c.Free)])), (.at a3 (.ptr true [(osl eEmbedding true c3)])), (.at a4 (.ptr false [(ssl eRelation c4.Relations), (ssl eFact c4.Facts)])), (.at a5 (.ptr false [(.at (.fn 103 [a2, a3, a4, a5]) .und)]))] (fun o => (.tup [])) (fun o => [(.at a3 (.ptr true [(osl eEmbedding true o)]))])] : Lp cx (lw (a2, a3, a4, a5) (f103_0 values facts c c4 rec v_8)) 65 L103_0 (fun (zs : (List Embedding) × Int) => [(0, .v (ssl eI values)), (1, .v (ssl eI facts)), (2, .v (.at a2 (.ptr false [(iT c.VariableCount), (ssl eAtom c.Atoms), (ssl eI c.Free)]))), (3, .v (.at a3 (.ptr true [(osl eEmbedding true zs.1)]))), (4, .v (.at a4 (.ptr false [(ssl eRelation c4.Relations), (ssl eFact c4.Facts)]))), (5, .v (.at a5 (.ptr false [(.at (.fn 103 [a2, a3, a4, a5]) .und)]))), (8, .v (.ptr true [(iT v_8.Relation), (ssl eI v_8.Terms)])), (34, .v (ssl eFact c4.Facts)), (35, .v (iT (c4.Facts.length : Int))), (36, .v (iT zs.2))]) (QX 0 (fun (y : (List Embedding)) => [(3, .v (.at a3 (.ptr true [(osl eEmbedding true y)])))])) := by
 refine Lp.of (f := (fun
 | (x_10, x_11) =>
  if x_11 < (c4.Facts.length : Int) then
  (jb 1 (QN (fun (y : (List Embedding)) => [(0, .v (ssl eI values)), (1, .v (ssl eI facts)), (2, .v (.at a2 (.ptr false [(iT c.VariableCount), (ssl eAtom c.Atoms), (ssl eI c.Free)]))), (3, .v (.at a3 (.ptr true [(osl eEmbedding true y)]))), (4, .v (.at a4 (.ptr false [(ssl eRelation c4.Relations), (ssl eFact c4.Facts)]))), (5, .v (.at a5 (.ptr false [(.at (.fn 103 [a2, a3, a4, a5]) .und)]))), (8, .v (.ptr true [(iT v_8.Relation), (ssl eI v_8.Terms)])), (34, .v (ssl eFact c4.Facts)), (35, .v (iT (c4.Facts.length : Int))), (36, .v (iT x_11))])) (((ix c4.Facts x_11).bind fun v_15 =>
  if v_15.Relation ≠ v_8.Relation then
  some x_10
  else
  (f105 values v_8.Terms v_15.Values).bind fun o18 =>
  (jn (QN (fun (y : (List Embedding)) => [(0, .v (ssl eI values)), (1, .v (ssl eI facts)), (2, .v (.at a2 (.ptr false [(iT c.VariableCount), (ssl eAtom c.Atoms), (ssl eI c.Free)]))), (3, .v (.at a3 (.ptr true [(osl eEmbedding true y)]))), (4, .v (.at a4 (.ptr false [(ssl eRelation c4.Relations), (ssl eFact c4.Facts)]))), (5, .v (.at a5 (.ptr false [(.at (.fn 103 [a2, a3, a4, a5]) .und)]))), (8, .v (.ptr true [(iT v_8.Relation), (ssl eI v_8.Terms)])), (34, .v (ssl eFact c4.Facts)), (35, .v (iT (c4.Facts.length : Int))), (36, .v (iT x_11))])) ((if o18.2 = true then
  sn 5 61 (osl eI true ([x_11])) <| 
  (f104 facts).bind fun o23 =>
  (app 8 o23 ([x_11])).bind fun l_25 =>
  (ca [2, 3, 4, 5] <| ag (a2, a3, a4, a5) (rec o18.1 l_25 c x_10 c4)).bind fun o27 =>
  some o27
  else
  some x_10) : Option (List Embedding))).bind fun x_29 =>
  some x_29) : Option (List Embedding))).bind fun x_30 =>
  some (.inl (x_30, w64 (x_11 + 1)))
  else
  some (.inr x_10) : (List Embedding) × Int → Option (((List Embedding) × Int) ⊕ (List Embedding)))) ?_
 exact go
instance i103 : ∀ (n : Nat) values facts c c3 c4 (a2 a3 a4 a5 : AV), Rn cx (ag (a2, a3, a4, a5) (f103 n values facts c c3 c4)) 103 [(ssl eI values), (ssl eI facts), (.at a2 (.ptr false [(iT c.VariableCount), (ssl eAtom c.Atoms), (ssl eI c.Free)])), (.at a3 (.ptr true [(osl eEmbedding true c3)])), (.at a4 (.ptr false [(ssl eRelation c4.Relations), (ssl eFact c4.Facts)])), (.at a5 (.ptr false [(.at (.fn 103 [a2, a3, a4, a5]) .und)]))] (fun (r : (List Embedding)) => (.tup [])) (fun r => [(.at a3 (.ptr true [(osl eEmbedding true r)]))]) := by
 intro n
 induction n with
 | zero => intro values facts c c3 c4 a2 a3 a4 a5; exact ⟨fun r h => by simp [ag, f103] at h⟩
 | succ n ih =>
  intro values facts c c3 c4 a2 a3 a4 a5
  refine Rn.of (e := (
   if (facts.length : Int) = (c.Atoms.length : Int) then
   (f104 values).bind fun o2 =>
   (f104 facts).bind fun o4 =>
   (app 48 c3 ([({ Values := o2, Facts := o4 } : Embedding)])).bind fun l_6 =>
   some l_6
   else
   (ix c.Atoms (facts.length : Int)).bind fun v_8 =>
   (iter (lw (a2, a3, a4, a5)  (f103_0 values facts c c4 (f103 n) v_8)) (c3, 0)).bind fun x_33 =>
   some x_33 : Option (List Embedding))) rfl rfl (by decide) rfl ?_
  exact go
instance i68 {db : Database} {query : Query} : Rn cx (f68 db query) 68 [(.agg [(ssl eRelation db.Relations), (ssl eFact db.Facts)]), (.agg [(iT query.VariableCount), (ssl eAtom query.Atoms), (ssl eI query.Free)])] (fun (r : (List Embedding)) => (osl eEmbedding true r)) (fun r => []) := by
 refine Rn.of (e := (
  sn 5 7 (osl eEmbedding true ([])) <| 
  (f31 db query).bind fun o1 =>
  if ¬ (o1 = true) then
  some ([])
  else
  lc 1 6 fun (a5 : AV) => 
  lc 0 3 fun (a2 : AV) => 
  lc 0 5 fun (a3 : AV) => 
  lc 0 2 fun (a4 : AV) => 
  fa 0 [a2, a3, a4, a5] <| 
  (f106 query.VariableCount).bind fun o4 =>
  (ca [3, 5, 2, 6] <| ag (a2, a3, a4, a5) (f103 64 o4 ([] : (List Int)) query ([]) db)).bind fun o6 =>
  some o6 : Option (List Embedding))) rfl rfl (by decide) rfl ?_
 exact go
instance : Io0 cx 68 := ⟨rfl⟩
instance i34_0 {o11 : (List Embedding)} : Lp cx (f34_0 o11) 27 L34_0 (fun (zs : (List (List Int)) × Nat × Int) => [(5, .v (osl (eL eI) true zs.1)), (11, .v (.sl true true 2 0 (arrM eEmbedding zs.2.1 o11))), (12, .v (iT (o11.length : Int))), (13, .v (iT zs.2.2))]) (QX 0 (fun (y : (List (List Int))) => [(5, .v (osl (eL eI) true y))])) := by
 refine Lp.of (f := (fun
 | (out, k, x) =>
  if x < (o11.length : Int) then
  (ml o11 k x).bind fun v =>
  mv 1 <|
  (f69 v.Facts).bind fun s =>
  mf 2 <|
  (app 24 out ([s])).bind fun l =>
  some (.inl (l, k + 1, w64 (x + 1)))
  else
  some (.inr out) : (List (List Int)) × Nat × Int → Option (((List (List Int)) × Nat × Int) ⊕ (List (List Int))))) ?_
 exact go
instance i34 {db : Database} {query : Query} : Rn cx (f34 db query) 34 [(.agg [(ssl eRelation db.Relations), (ssl eFact db.Facts)]), (.agg [(iT query.VariableCount), (ssl eAtom query.Atoms), (ssl eI query.Free)])] (fun (r : (List (List Int))) => (osl (eL eI) true r)) (fun r => []) := by
 refine Rn.of (e := (
  sn 5 5 (osl (eL eI) true ([])) <|
  (f68 db query).bind fun o11 =>
  (iter (f34_0 o11) ([], 0, 0)).bind fun out =>
  some out : Option (List (List Int)))) rfl rfl (by decide) rfl ?_
 exact go
instance : Io0 cx 34 := ⟨rfl⟩
instance i8_0 {db : Database} {query : Query} {o4 : (List (List Int))} : Lp cx (lw (db, query) (f8_0 o4)) 43 L8_0 (fun (zs : (List (List Int)) × Int) => [(2, .v (.ptr true [(ssl eRelation db.Relations), (ssl eFact db.Facts)])), (3, .v (.ptr true [(iT query.VariableCount), (ssl eAtom query.Atoms), (ssl eI query.Free)])), (5, .v (osl (eL eI) true zs.1)), (16, .v (osl (eL eI) true o4)), (17, .v (iT (o4.length : Int))), (18, .v (iT zs.2))]) (QX 0 (fun (y : (List (List Int))) => [(2, .v (.ptr true [(ssl eRelation db.Relations), (ssl eFact db.Facts)])), (3, .v (.ptr true [(iT query.VariableCount), (ssl eAtom query.Atoms), (ssl eI query.Free)])), (5, .v (osl (eL eI) true y))])) := by
 refine Lp.of ?_; unfold lw f8_0; exact go
instance i8_1 {o18 : (List (List Int))} : Lp cx (f8_1 o18) 43 L8_1 (fun (zs : (List (List Int)) × Int) => [(5, .v (osl (eL eI) true zs.1)), (30, .v (osl (eL eI) true o18)), (31, .v (iT (o18.length : Int))), (32, .v (iT zs.2))]) (QX 2 (fun (y : (List (List Int))) => [(5, .v (osl (eL eI) true y))])) := by
 refine Lp.of ?_; unfold f8_1; exact go
instance i8 {db : Database} {query : Query} : Rn cx (f8 db query) 8 [(.agg [(ssl eRelation db.Relations), (ssl eFact db.Facts)]), (.agg [(iT query.VariableCount), (ssl eAtom query.Atoms), (ssl eI query.Free)])] (fun (r : (List (List Int))) => (osl (eL eI) true r)) (fun r => []) := by
 refine Rn.of (e := (
  (f31 db query).bind fun o1 =>
  if ¬ (o1 = true) then
  sn 1 4 (osl (eL eI) true ([])) <| 
  some ([])
  else
  sn 2 5 (osl (eL eI) true ([])) <| 
  (f32 db).bind fun o4 =>
  (iter (lw (db, query)  (f8_0 o4)) ([], 0)).bind fun out_17 =>
  (f34 db query).bind fun o18 =>
  (iter (f8_1 o18) (out_17, 0)).bind fun out_31 =>
  some out_31 : Option (List (List Int)))) rfl rfl (by decide) rfl ?_
 exact go
instance : Io0 cx 8 := ⟨rfl⟩
instance i11 {d : Database} {q : Query} : Rn cx (f11 d q) 11 [(.agg [(ssl eRelation d.Relations), (ssl eFact d.Facts)]), (.agg [(iT q.VariableCount), (ssl eAtom q.Atoms), (ssl eI q.Free)])] (fun (r : Bool) => (.bool r)) (fun r => []) := by
 refine Rn.of (e := (
  (f36 d).bind fun o1 =>
  (jn (QN (fun (y : Bool) => [(4, .v (.bool y))])) ((if o1 = true then
  (f37 d.Relations q).bind fun o6 =>
  some o6
  else
  some false) : Option (Bool))).bind fun x_3 =>
  some x_3 : Option Bool)) rfl rfl (by decide) rfl ?_
 exact go
instance : Io0 cx 11 := ⟨rfl⟩
instance i145 {l : (List Relation)} {f : Fact} : Rn cx (f145 l f) 145 [(ssl eRelation l), (.agg [(iT f.Relation), (ssl eI f.Values)])] (fun (r : (List Int)) => (osl eI true r)) (fun r => []) := by
 refine Rn.of (e := (
  (f71 l f).bind fun o1 =>
  if ¬ (o1 = true) then
  sn 2 4 (osl eI true ([])) <| 
  some ([])
  else
  (ix l f.Relation).bind fun v_4 =>
  (cutL f.Values 0 v_4.KeyLength).bind fun l_6 =>
  (app 8 ([]) l_6).bind fun l_8 =>
  sn 12 4 (osl eI true l_8) <| 
  some l_8 : Option (List Int))) rfl rfl (by decide) rfl ?_
 exact go
instance : Io0 cx 145 := ⟨rfl⟩
instance i109 {l : (List Relation)} {a : Fact} {b : Fact} : Rn cx (f109 l a b) 109 [(ssl eRelation l), (.agg [(iT a.Relation), (ssl eI a.Values)]), (.agg [(iT b.Relation), (ssl eI b.Values)])] (fun (r : Bool) => (.bool r)) (fun r => []) := by
 refine Rn.of (e := (
  (f71 l a).bind fun o1 =>
  (jn (QN (fun (y : Bool) => [(0, .v (ssl eRelation l)), (6, .v (.bool y))])) ((if o1 = true then
  (f71 l b).bind fun o6 =>
  (jn (QN (fun (y : Bool) => [(0, .v (ssl eRelation l)), (6, .v (.bool y))])) ((if o6 = true then
  (jn (QN (fun (y : Bool) => [(0, .v (ssl eRelation l)), (6, .v (.bool y))])) ((if a.Relation = b.Relation then
  (f145 l a).bind fun o14 =>
  (f145 l b).bind fun o16 =>
  (f110 o14 o16).bind fun o18 =>
  some (decide (o18 = 0))
  else
  some false) : Option (Bool))).bind fun x_11 =>
  some x_11
  else
  some false) : Option (Bool))).bind fun x_8 =>
  some x_8
  else
  some false) : Option (Bool))).bind fun x_3 =>
  some x_3 : Option Bool)) rfl rfl (by decide) rfl ?_
 exact go
instance : Io0 cx 109 := ⟨rfl⟩
instance i70_0 {d : Database} {i : Int} : Lp cx (f70_0 d i) 45 L70_0 (fun (zs : (List Int) × Int) => [(1, .v (iT i)), (2, .v (.ptr true [(ssl eRelation d.Relations), (ssl eFact d.Facts)])), (5, .v (osl eI true zs.1)), (6, .v (iT zs.2))]) (QX 0 (fun (y : (List Int)) => [(5, .v (osl eI true y))])) := by
 refine Lp.of (f := (fun
 | (out_1, k_2) =>
  (jn (QN (fun (y : Bool) => [(1, .v (iT i)), (2, .v (.ptr true [(ssl eRelation d.Relations), (ssl eFact d.Facts)])), (5, .v (osl eI true out_1)), (6, .v (iT k_2)), (24, .v (.bool y))])) ((if k_2 < (d.Facts.length : Int) then
  (f36 d).bind fun o6 =>
  (jn (QN (fun (y : Bool) => [(1, .v (iT i)), (2, .v (.ptr true [(ssl eRelation d.Relations), (ssl eFact d.Facts)])), (5, .v (osl eI true out_1)), (6, .v (iT k_2)), (24, .v (.bool y))])) ((if o6 = true then
  (f38 i 0 (w64 ((d.Facts.length : Int) - 1))).bind fun o11 =>
  some o11
  else
  some false) : Option (Bool))).bind fun x_8 =>
  some x_8
  else
  some false) : Option (Bool))).bind fun x_3 =>
  if x_3 = true then
  (ix d.Facts i).bind fun v_14 =>
  (ix d.Facts k_2).bind fun v_16 =>
  (f109 d.Relations v_14 v_16).bind fun o18 =>
  (jn (QN (fun (y : (List Int)) => [(1, .v (iT i)), (2, .v (.ptr true [(ssl eRelation d.Relations), (ssl eFact d.Facts)])), (5, .v (osl eI true y)), (6, .v (iT k_2))])) ((if o18 = true then
  (app 8 out_1 ([k_2])).bind fun l_23 =>
  some l_23
  else
  some out_1) : Option (List Int))).bind fun out_25 =>
  some (.inl (out_25, w64 (k_2 + 1)))
  else
  some (.inr out_1) : (List Int) × Int → Option (((List Int) × Int) ⊕ (List Int)))) ?_
 exact go
instance i70 {d : Database} {i : Int} : Rn cx (f70 d i) 70 [(.agg [(ssl eRelation d.Relations), (ssl eFact d.Facts)]), (iT i)] (fun (r : (List Int)) => (osl eI true r)) (fun r => []) := by
 refine Rn.of (e := (
  sn 4 5 (osl eI true ([])) <| 
  (iter (f70_0 d i) ([], 0)).bind fun out_28 =>
  some out_28 : Option (List Int))) rfl rfl (by decide) rfl ?_
 exact go
instance : Io0 cx 70 := ⟨rfl⟩
instance i35_0 {d : Database} : Lp cx (f35_0 d) 31 L35_0 (fun (zs : (List (List Int)) × Int) => [(1, .v (.ptr true [(ssl eRelation d.Relations), (ssl eFact d.Facts)])), (3, .v (osl (eL eI) true zs.1)), (4, .v (iT zs.2))]) (QX 0 (fun (y : (List (List Int))) => [(3, .v (osl (eL eI) true y))])) := by
 refine Lp.of (f := (fun
 | (out_1, i_2) =>
  (jn (QN (fun (y : Bool) => [(1, .v (.ptr true [(ssl eRelation d.Relations), (ssl eFact d.Facts)])), (3, .v (osl (eL eI) true out_1)), (4, .v (iT i_2)), (15, .v (.bool y))])) ((if i_2 < (d.Facts.length : Int) then
  (f36 d).bind fun o6 =>
  some o6
  else
  some false) : Option (Bool))).bind fun x_3 =>
  if x_3 = true then
  (f70 d i_2).bind fun o9 =>
  (ix o9 0).bind fun v_11 =>
  (jn (QN (fun (y : (List (List Int))) => [(1, .v (.ptr true [(ssl eRelation d.Relations), (ssl eFact d.Facts)])), (3, .v (osl (eL eI) true y)), (4, .v (iT i_2))])) ((if v_11 = i_2 then
  (app 24 out_1 ([o9])).bind fun l_16 =>
  some l_16
  else
  some out_1) : Option (List (List Int)))).bind fun out_18 =>
  some (.inl (out_18, w64 (i_2 + 1)))
  else
  some (.inr out_1) : (List (List Int)) × Int → Option (((List (List Int)) × Int) ⊕ (List (List Int))))) ?_
 exact go
instance i35 {d : Database} : Rn cx (f35 d) 35 [(.agg [(ssl eRelation d.Relations), (ssl eFact d.Facts)])] (fun (r : (List (List Int))) => (osl (eL eI) true r)) (fun r => []) := by
 refine Rn.of (e := (
  sn 4 3 (osl (eL eI) true ([])) <| 
  (iter (f35_0 d) ([], 0)).bind fun out_21 =>
  some out_21 : Option (List (List Int)))) rfl rfl (by decide) rfl ?_
 exact go
instance : Io0 cx 35 := ⟨rfl⟩
instance i81_0 {n0 : Int} : Lp cx (f81_0 n0) 13 L81_0 (fun (zs : (List Int)) => [(0, .v (iT n0)), (3, .v (osl eI true zs))]) (QX 0 (fun (y : (List Int)) => [(3, .v (osl eI true y))])) := by
 refine Lp.of ?_; unfold f81_0; exact go
instance i81 {n0 : Int} : Rn cx (f81 n0) 81 [(iT n0)] (fun (r : (List Int)) => (osl eI true r)) (fun r => []) := by
 refine Rn.of (e := (
  sn 3 3 (osl eI true ([])) <| 
  (iter (f81_0 n0) ([])).bind fun l_7 =>
  some l_7 : Option (List Int))) rfl rfl (by decide) rfl ?_
 exact go
instance : Io0 cx 81 := ⟨rfl⟩
instance i112_0 {a : Atom} {f : Fact} : Lp cx (f112_0 a f) 79 L112_0 (fun (zs : (List Int) × Int) => [(3, .v (.ptr true [(iT a.Relation), (ssl eI a.Terms)])), (4, .v (.ptr true [(iT f.Relation), (ssl eI f.Values)])), (8, .v (osl eI true zs.1)), (9, .v (iT zs.2))]) (QO (QX 0 (fun (y : (List Int)) => [(8, .v (osl eI true y))])) (QR (fun (y : (List Int) × Bool) => [(6, .v (osl eI true y.1)), (7, .v (.bool y.2))]))) := by
 refine Lp.of (f := (fun
 | (x_7, i_8) =>
  if i_8 < (a.Terms.length : Int) then
  (jb 1 (QO (QN (fun (y : (List Int)) => [(3, .v (.ptr true [(iT a.Relation), (ssl eI a.Terms)])), (4, .v (.ptr true [(iT f.Relation), (ssl eI f.Values)])), (8, .v (osl eI true y)), (9, .v (iT i_8))])) (QR (fun (y : (List Int) × Bool) => [(6, .v (osl eI true y.1)), (7, .v (.bool y.2))]))) (((ix a.Terms i_8).bind fun v_12 =>
  if v_12 < 0 then
  (ix f.Values i_8).bind fun v_15 =>
  if (w64 ((-1) - v_12)) ≠ v_15 then
  some (.inr (x_7, false))
  else
  some (.inl x_7)
  else
  (ix x_7 v_12).bind fun v_18 =>
  (jn (QN (fun (y : Bool) => [(3, .v (.ptr true [(iT a.Relation), (ssl eI a.Terms)])), (4, .v (.ptr true [(iT f.Relation), (ssl eI f.Values)])), (8, .v (osl eI true x_7)), (9, .v (iT i_8)), (10, .v (iT v_12)), (68, .v (.bool y))])) ((if v_18 ≥ 0 then
  (ix f.Values i_8).bind fun v_23 =>
  some (decide (v_18 ≠ v_23))
  else
  some false) : Option (Bool))).bind fun x_20 =>
  if x_20 = true then
  some (.inr (x_7, false))
  else
  (ix f.Values i_8).bind fun v_26 =>
  some (.inl (x_7.set v_12.toNat v_26))) : Option ((List Int) ⊕ ((List Int) × Bool)))).bind fun o => match o with
  | .inl x_29 =>
  some (.inl (x_29, w64 (i_8 + 1)))
  | .inr (x_30, x_31) =>
  some (.inr (.inr (x_30, x_31)))
  else
  some (.inr (.inl x_7)) : (List Int) × Int → Option (((List Int) × Int) ⊕ ((List Int) ⊕ ((List Int) × Bool))))) ?_
 exact go
instance i112 {a : Atom} {f : Fact} {vals : (List Int)} : Rn cx (f112 a f vals) 112 [(.agg [(iT a.Relation), (ssl eI a.Terms)]), (.agg [(iT f.Relation), (ssl eI f.Values)]), (ssl eI vals)] (fun (r : (List Int) × Bool) => (.tup [(osl eI true r.1), (.bool r.2)])) (fun r => []) := by
 refine Rn.of (e := (
  (app 8 ([]) vals).bind fun l_1 =>
  sn 8 8 (osl eI true l_1) <| 
  (jn (QN (fun (y : Bool) => [(3, .v (.ptr true [(iT a.Relation), (ssl eI a.Terms)])), (4, .v (.ptr true [(iT f.Relation), (ssl eI f.Values)])), (8, .v (osl eI true l_1)), (27, .v (.bool y))])) ((if f.Relation ≠ a.Relation then
  some true
  else
  some (decide ((f.Values.length : Int) ≠ (a.Terms.length : Int)))) : Option (Bool))).bind fun x_3 =>
  if x_3 = true then
  some (l_1, false)
  else
  (iter (f112_0 a f) (l_1, 0)).bind fun o => match o with
  | .inl x_34 =>
  some (x_34, true)
  | .inr (x_35, x_36) =>
  some (x_35, x_36) : Option ((List Int) × Bool))) rfl rfl (by decide) rfl ?_
 exact go
instance : Io0 cx 112 := ⟨rfl⟩
instance i80_0 {d : Database} {q : Query} {k : Int} {vals : (List Int)} {facts : (List Int)} {rec : Database → Query → Int → (List Int) → (List Int) → Option (List Embedding)} [hrec : ∀ d q k vals facts, Rn cx (rec d q k vals facts) 80 [(.agg [(ssl eRelation d.Relations), (ssl eFact d.Facts)]), (.agg [(iT q.VariableCount), (ssl eAtom q.Atoms), (ssl eI q.Free)]), (iT k), (ssl eI vals), (ssl eI facts)] (fun o => (osl eEmbedding true o)) (fun o => [])] : Lp cx (f80_0 d q k vals facts rec) 67 L80_0 (fun (zs : (List Embedding) × Int) => [(2, .v (iT k)), (3, .v (ssl eI vals)), (4, .v (ssl eI facts)), (5, .v (.ptr true [(ssl eRelation d.Relations), (ssl eFact d.Facts)])), (6, .v (.ptr true [(iT q.VariableCount), (ssl eAtom q.Atoms), (ssl eI q.Free)])), (11, .v (osl eEmbedding true zs.1)), (12, .v (iT zs.2))]) (QX 0 (fun (y : (List Embedding)) => [(11, .v (osl eEmbedding true y))])) := by
 refine Lp.of (f := (fun
 | (out_6, i_7) =>
  if i_7 < (d.Facts.length : Int) then
  (ix q.Atoms k).bind fun v_9 =>
  (ix d.Facts i_7).bind fun v_11 =>
  (f112 v_9 v_11 vals).bind fun o13 =>
  (jn (QN (fun (y : (List Embedding)) => [(2, .v (iT k)), (3, .v (ssl eI vals)), (4, .v (ssl eI facts)), (5, .v (.ptr true [(ssl eRelation d.Relations), (ssl eFact d.Facts)])), (6, .v (.ptr true [(iT q.VariableCount), (ssl eAtom q.Atoms), (ssl eI q.Free)])), (11, .v (osl eEmbedding true y)), (12, .v (iT i_7))])) ((if o13.2 = true then
  (app 8 ([]) facts).bind fun l_18 =>
  (app 8 l_18 ([i_7])).bind fun l_20 =>
  sn 12 63 (osl eI true l_20) <| 
  (rec d q (w64 (k + 1)) o13.1 l_20).bind fun o22 =>
  pl (plains (arr eEmbedding true o22)) <| 
  (app 48 out_6 o22).bind fun l_24 =>
  some l_24
  else
  some out_6) : Option (List Embedding))).bind fun out_26 =>
  some (.inl (out_26, w64 (i_7 + 1)))
  else
  some (.inr out_6) : (List Embedding) × Int → Option (((List Embedding) × Int) ⊕ (List Embedding)))) ?_
 exact go
instance i80 : ∀ (n : Nat) d q k vals facts, Rn cx (f80 n d q k vals facts) 80 [(.agg [(ssl eRelation d.Relations), (ssl eFact d.Facts)]), (.agg [(iT q.VariableCount), (ssl eAtom q.Atoms), (ssl eI q.Free)]), (iT k), (ssl eI vals), (ssl eI facts)] (fun (r : (List Embedding)) => (osl eEmbedding true r)) (fun r => []) := by
 intro n
 induction n with
 | zero => intro d q k vals facts; exact ⟨fun r h => by simp [f80] at h⟩
 | succ n ih =>
  intro d q k vals facts
  refine Rn.of (e := (
   if k = (q.Atoms.length : Int) then
   (app 8 ([]) vals).bind fun l_2 =>
   (app 8 ([]) facts).bind fun l_4 =>
   sn 6 22 (osl eI true l_2) <| 
   sn 0 25 (osl eI true l_4) <| 
   sn 3 10 (osl eEmbedding true ([({ Values := l_2, Facts := l_4 } : Embedding)])) <| 
   some ([({ Values := l_2, Facts := l_4 } : Embedding)])
   else
   sn 2 11 (osl eEmbedding true ([])) <| 
   (iter (f80_0 d q k vals facts (f80 n)) ([], 0)).bind fun out_29 =>
   some out_29 : Option (List Embedding))) rfl rfl (by decide) rfl ?_
  exact go
instance : Io0 cx 80 := ⟨rfl⟩
instance i48 {d : Database} {q : Query} : Rn cx (f48 d q) 48 [(.agg [(ssl eRelation d.Relations), (ssl eFact d.Facts)]), (.agg [(iT q.VariableCount), (ssl eAtom q.Atoms), (ssl eI q.Free)])] (fun (r : (List Embedding)) => (osl eEmbedding true r)) (fun r => []) := by
 refine Rn.of (e := (
  (f11 d q).bind fun o1 =>
  if ¬ (o1 = true) then
  sn 2 4 (osl eEmbedding true ([])) <| 
  some ([])
  else
  sn 5 15 (osl eI true ([])) <| 
  (f81 q.VariableCount).bind fun o4 =>
  (f80 64 d q 0 o4 ([])).bind fun o6 =>
  some o6 : Option (List Embedding))) rfl rfl (by decide) rfl ?_
 exact go
instance : Io0 cx 48 := ⟨rfl⟩
instance i39_1 {l : (List Int)} {out_1 : (List Int)} {i_2 : Int} : Lp cx (f39_1 l out_1 i_2) 47 L39_1 (fun (zs : Int) => [(0, .v (ssl eI l)), (3, .v (ssl eI out_1)), (4, .v (iT i_2)), (5, .v (iT zs))]) (QX 2 (fun (y : Int) => [(0, .v (ssl eI l)), (3, .v (ssl eI out_1)), (4, .v (iT i_2)), (5, .v (iT y))])) := by
 refine Lp.of (f := (fun
 | k_4 =>
  (jn (QN (fun (y : Bool) => [(0, .v (ssl eI l)), (3, .v (ssl eI out_1)), (4, .v (iT i_2)), (5, .v (iT k_4)), (28, .v (.bool y))])) ((if k_4 > 0 then
  (ix out_1 (w64 (k_4 - 1))).bind fun v_8 =>
  (ix l i_2).bind fun v_10 =>
  some (decide (v_8 > v_10))
  else
  some false) : Option (Bool))).bind fun x_5 =>
  if x_5 = true then
  some (.inl (w64 (k_4 - 1)))
  else
  some (.inr k_4) : Int → Option (Int ⊕ Int))) ?_
 exact go
instance i39_0 {l : (List Int)} : Lp cx (f39_0 l) 47 L39_0 (fun (zs : (List Int) × Int) => [(0, .v (ssl eI l)), (3, .v (ssl eI zs.1)), (4, .v (iT zs.2))]) (QX 0 (fun (y : (List Int)) => [(3, .v (ssl eI y))])) := by
 refine Lp.of (f := (fun
 | (out_1, i_2) =>
  if i_2 < (l.length : Int) then
  (iter (f39_1 l out_1 i_2) (out_1.length : Int)).bind fun k_15 =>
  (cutL out_1 0 k_15).bind fun l_16 =>
  (ix l i_2).bind fun v_18 =>
  (cutL out_1 k_15 out_1.length).bind fun l_20 =>
  (app 8 ([]) l_16).bind fun l_22 =>
  (app 8 l_22 ([v_18])).bind fun l_24 =>
  (app 8 l_24 l_20).bind fun l_26 =>
  sn 16 3 (osl eI true l_26) <| 
  sn 0 3 (ssl eI l_26) <| 
  some (.inl (l_26, w64 (i_2 + 1)))
  else
  some (.inr out_1) : (List Int) × Int → Option (((List Int) × Int) ⊕ (List Int)))) ?_
 exact go
instance i39 {l : (List Int)} : Rn cx (f39 l) 39 [(ssl eI l)] (fun (r : (List Int)) => (ssl eI r)) (fun r => []) := by
 refine Rn.of (e := (
  sn 3 3 (osl eI true ([])) <| 
  sn 0 3 (ssl eI ([])) <| 
  (iter (f39_0 l) ([], 0)).bind fun out_30 =>
  some out_30 : Option (List Int))) rfl rfl (by decide) rfl ?_
 exact go
instance : Io0 cx 39 := ⟨rfl⟩
instance i79_0 {d : Database} {l : (List Int)} : Lp cx (f79_0 d l) 38 L79_0 (fun (zs : Int) => [(1, .v (ssl eI l)), (2, .v (.ptr true [(ssl eRelation d.Relations), (ssl eFact d.Facts)])), (5, .v (iT zs))]) (QO (QX 0 (fun (y : Unit) => [])) (QR (fun (y : Bool) => [(4, .v (.bool y))]))) := by
 refine Lp.of (f := (fun
 | i_1 =>
  if i_1 < (l.length : Int) then
  (ix l i_1).bind fun v_3 =>
  (f38 v_3 0 (w64 ((d.Facts.length : Int) - 1))).bind fun o5 =>
  (jn (QN (fun (y : Bool) => [(1, .v (ssl eI l)), (2, .v (.ptr true [(ssl eRelation d.Relations), (ssl eFact d.Facts)])), (5, .v (iT i_1)), (37, .v (.bool y))])) ((if ¬ (o5 = true) then
  some true
  else
  (jn (QN (fun (y : Bool) => [(1, .v (ssl eI l)), (2, .v (.ptr true [(ssl eRelation d.Relations), (ssl eFact d.Facts)])), (5, .v (iT i_1)), (37, .v (.bool y))])) ((if i_1 > 0 then
  (ix l (w64 (i_1 - 1))).bind fun v_13 =>
  some (decide (v_3 ≤ v_13))
  else
  some false) : Option (Bool))).bind fun x_10 =>
  some x_10) : Option (Bool))).bind fun x_7 =>
  if x_7 = true then
  some (.inr (.inr false))
  else
  some (.inl (w64 (i_1 + 1)))
  else
  some (.inr (.inl ())) : Int → Option (Int ⊕ (Unit ⊕ Bool)))) ?_
 exact go
instance i79 {d : Database} {l : (List Int)} : Rn cx (f79 d l) 79 [(.agg [(ssl eRelation d.Relations), (ssl eFact d.Facts)]), (ssl eI l)] (fun (r : Bool) => (.bool r)) (fun r => []) := by
 refine Rn.of rfl rfl (by decide) rfl ?_; unfold f79; exact go
instance : Io0 cx 79 := ⟨rfl⟩
instance i47_0 {d : Database} {l : (List Int)} : Lp cx (f47_0 d l) 51 L47_0 (fun (zs : (List Relation) × (List Fact) × Int) => [(1, .v (ssl eI l)), (2, .v (.ptr true [(ssl eRelation d.Relations), (ssl eFact d.Facts)])), (4, .v (.ptr true [(osl eRelation true ([])), (osl eFact true ([]))])), (6, .v (.ptr true [(osl eRelation true zs.1), (osl eFact true zs.2.1)])), (7, .v (iT zs.2.2))]) (QX 0 (fun (y : (List Relation) × (List Fact)) => [(4, .v (.ptr true [(osl eRelation true ([])), (osl eFact true ([]))])), (6, .v (.ptr true [(osl eRelation true y.1), (osl eFact true y.2)]))])) := by
 refine Lp.of (f := (fun
 | (x_11, x_12, i_13) =>
  if i_13 < (l.length : Int) then
  (ix l i_13).bind fun v_15 =>
  (ix d.Facts v_15).bind fun v_17 =>
  (app 8 ([]) v_17.Values).bind fun l_19 =>
  sn 18 45 (osl eI true l_19) <| 
  (app 32 x_12 ([({ Relation := v_17.Relation, Values := l_19 } : Fact)])).bind fun l_21 =>
  some (.inl (x_11, l_21, w64 (i_13 + 1)))
  else
  some (.inr (x_11, x_12)) : (List Relation) × (List Fact) × Int → Option (((List Relation) × (List Fact) × Int) ⊕ ((List Relation) × (List Fact))))) ?_
 exact go
instance i47 {d : Database} {l : (List Int)} : Rn cx (f47 d l) 47 [(.agg [(ssl eRelation d.Relations), (ssl eFact d.Facts)]), (ssl eI l)] (fun (r : Database × Bool) => (.tup [(.agg [(osl eRelation true r.1.Relations), (osl eFact true r.1.Facts)]), (.bool r.2)])) (fun r => []) := by
 refine Rn.of (e := (
  sn 3 4 (.ptr true [(osl eRelation true ([])), (osl eFact true ([]))]) <| 
  (f36 d).bind fun o1 =>
  (jn (QN (fun (y : Bool) => [(1, .v (ssl eI l)), (2, .v (.ptr true [(ssl eRelation d.Relations), (ssl eFact d.Facts)])), (4, .v (.ptr true [(osl eRelation true ([])), (osl eFact true ([]))])), (17, .v (.bool y))])) ((if ¬ (o1 = true) then
  some true
  else
  (f79 d l).bind fun o6 =>
  some (decide (¬ (o6 = true)))) : Option (Bool))).bind fun x_3 =>
  if x_3 = true then
  sn 1 18 (.agg [(osl eRelation true ([])), (osl eFact true ([]))]) <| 
  some (({ Relations := [], Facts := [] } : Database), false)
  else
  (app 32 ([]) d.Relations).bind fun l_9 =>
  sn 4 22 (osl eRelation true l_9) <| 
  sn 2 23 (.agg [(osl eRelation true l_9), (osl eFact true ([]))]) <| 
  (iter (f47_0 d l) (l_9, [], 0)).bind fun (x_25, x_26) =>
  some (({ Relations := x_25, Facts := x_26 } : Database), true) : Option (Database × Bool))) rfl rfl (by decide) rfl ?_
 exact go
instance : Io0 cx 47 := ⟨rfl⟩
instance i87 {d : Database} : Rn cx (f87 d) 87 [(.agg [(ssl eRelation d.Relations), (ssl eFact d.Facts)])] (fun (r : Bool) => (.bool r)) (fun r => []) := by
 refine Rn.of (e := (
  (f36 d).bind fun o1 =>
  (jn (QN (fun (y : Bool) => [(2, .v (.bool y))])) ((if o1 = true then
  (f35 d).bind fun o6 =>
  some (decide ((o6.length : Int) = (d.Facts.length : Int)))
  else
  some false) : Option (Bool))).bind fun x_3 =>
  some x_3 : Option Bool)) rfl rfl (by decide) rfl ?_
 exact go
instance : Io0 cx 87 := ⟨rfl⟩
instance i56 {d : Database} {l : (List Int)} : Rn cx (f56 d l) 56 [(.agg [(ssl eRelation d.Relations), (ssl eFact d.Facts)]), (ssl eI l)] (fun (r : Bool) => (.bool r)) (fun r => []) := by
 refine Rn.of (e := (
  (f47 d l).bind fun o1 =>
  (jn (QN (fun (y : Bool) => [(4, .v (.bool y))])) ((if o1.2 = true then
  (f87 o1.1).bind fun o6 =>
  some o6
  else
  some false) : Option (Bool))).bind fun x_3 =>
  some x_3 : Option Bool)) rfl rfl (by decide) rfl ?_
 exact go
instance : Io0 cx 56 := ⟨rfl⟩
instance i24_0 {d : Database} {o1 : (List Embedding)} : Lp cx (f24_0 d o1) 33 L24_0 (fun (zs : (List (List Int)) × Int) => [(2, .v (.ptr true [(ssl eRelation d.Relations), (ssl eFact d.Facts)])), (5, .v (osl (eL eI) false zs.1)), (6, .v (ssl eEmbedding o1)), (7, .v (iT zs.2))]) (QX 0 (fun (y : (List (List Int))) => [(5, .v (osl (eL eI) false y))])) := by
 refine Lp.of (f := (fun
 | (out_3, i_4) =>
  if i_4 < (o1.length : Int) then
  (ix o1 i_4).bind fun v_6 =>
  (f39 v_6.Facts).bind fun o8 =>
  (f56 d o8).bind fun o10 =>
  (jn (QN (fun (y : (List (List Int))) => [(2, .v (.ptr true [(ssl eRelation d.Relations), (ssl eFact d.Facts)])), (5, .v (osl (eL eI) false y)), (6, .v (ssl eEmbedding o1)), (7, .v (iT i_4))])) ((if o10 = true then
  (app 24 out_3 ([o8])).bind fun l_15 =>
  some l_15
  else
  some out_3) : Option (List (List Int)))).bind fun out_17 =>
  some (.inl (out_17, w64 (i_4 + 1)))
  else
  some (.inr out_3) : (List (List Int)) × Int → Option (((List (List Int)) × Int) ⊕ (List (List Int))))) ?_
 exact go
instance i24 {d : Database} {q : Query} : Rn cx (f24 d q) 24 [(.agg [(ssl eRelation d.Relations), (ssl eFact d.Facts)]), (.agg [(iT q.VariableCount), (ssl eAtom q.Atoms), (ssl eI q.Free)])] (fun (r : (List (List Int))) => (osl (eL eI) false r)) (fun r => []) := by
 refine Rn.of (e := (
  sn 5 5 (osl (eL eI) false ([])) <| 
  (f48 d q).bind fun o1 =>
  sn 1 6 (ssl eEmbedding o1) <| 
  (iter (f24_0 d o1) ([], 0)).bind fun out_20 =>
  some out_20 : Option (List (List Int)))) rfl rfl (by decide) rfl ?_
 exact go
instance : Io0 cx 24 := ⟨rfl⟩
instance i10_2 {d : Database} {q : Query} {o4 : (List (List Int))} {out_6 : (List (List Int))} {i_7 : Int} : Lp cx (lw (d, q, out_6) (f10_2 o4 i_7)) 88 L10_2 (fun (zs : (List Int) × Int) => [(2, .v (.ptr true [(ssl eRelation d.Relations), (ssl eFact d.Facts)])), (3, .v (.ptr true [(iT q.VariableCount), (ssl eAtom q.Atoms), (ssl eI q.Free)])), (5, .v (osl (eL eI) true out_6)), (6, .v (osl (eL eI) true o4)), (7, .v (iT i_7)), (8, .v (osl eI true zs.1)), (9, .v (iT zs.2))]) (QX 2 (fun (y : (List Int)) => [(2, .v (.ptr true [(ssl eRelation d.Relations), (ssl eFact d.Facts)])), (3, .v (.ptr true [(iT q.VariableCount), (ssl eAtom q.Atoms), (ssl eI q.Free)])), (5, .v (osl (eL eI) true out_6)), (6, .v (osl (eL eI) true o4)), (7, .v (iT i_7)), (8, .v (osl eI true y))])) := by
 refine Lp.of ?_; unfold lw f10_2; exact go
instance i10_0 {d : Database} {q : Query} {o4 : (List (List Int))} : Lp cx (lw (d, q) (f10_0 o4)) 88 L10_0 (fun (zs : (List (List Int)) × Int) => [(2, .v (.ptr true [(ssl eRelation d.Relations), (ssl eFact d.Facts)])), (3, .v (.ptr true [(iT q.VariableCount), (ssl eAtom q.Atoms), (ssl eI q.Free)])), (5, .v (osl (eL eI) true zs.1)), (6, .v (osl (eL eI) true o4)), (7, .v (iT zs.2))]) (QX 0 (fun (y : (List (List Int))) => [(2, .v (.ptr true [(ssl eRelation d.Relations), (ssl eFact d.Facts)])), (3, .v (.ptr true [(iT q.VariableCount), (ssl eAtom q.Atoms), (ssl eI q.Free)])), (5, .v (osl (eL eI) true y))])) := by
 refine Lp.of (f := (fun
 | (out_6, i_7) =>
  if i_7 < (o4.length : Int) then
  sn 2 8 (osl eI true ([])) <| 
  (iter (lw (d, q, out_6)  (f10_2 o4 i_7)) ([], 0)).bind fun c_20 =>
  (app 24 out_6 ([c_20])).bind fun l_21 =>
  some (.inl (l_21, w64 (i_7 + 1)))
  else
  some (.inr out_6) : (List (List Int)) × Int → Option (((List (List Int)) × Int) ⊕ (List (List Int))))) ?_
 exact go
instance i10_3 {o26 : (List (List Int))} {out_28 : (List (List Int))} {i_29 : Int} : Lp cx (lw out_28 (f10_3 o26 i_29)) 88 L10_3 (fun (zs : (List Int) × Int) => [(5, .v (osl (eL eI) true out_28)), (10, .v (osl (eL eI) false o26)), (11, .v (iT i_29)), (12, .v (osl eI true zs.1)), (13, .v (iT zs.2))]) (QX 6 (fun (y : (List Int)) => [(5, .v (osl (eL eI) true out_28)), (10, .v (osl (eL eI) false o26)), (11, .v (iT i_29)), (12, .v (osl eI true y))])) := by
 refine Lp.of ?_; unfold lw f10_3; exact go
end
end Go.Proofs.YtbhadkbchkjdiaaGreatH
