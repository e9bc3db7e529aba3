import Derived.Test.YtjmemfggbhkofaaGreatTg1c
set_option maxHeartbeats 2000000
set_option linter.unusedVariables false
set_option linter.unusedSimpArgs false
set_option linter.defProp false
set_option linter.unusedSectionVars false
set_option maxRecDepth 100000
namespace Go.Proofs.YtjmemfggbhkofaaGreatH
open Go
noncomputable section
instance i91_0 {relations : (List Relation)} {query : Query} : Lp cx (f91_0 relations query) 94 L91_0 (fun (zs : (List Int) × Int) => [(0, .v (ssl eRelation relations)), (3, .v (.ptr true [(iT query.VariableCount), (ssl eAtom query.Atoms), (ssl eI query.Free)])), (5, .v (ssl eI zs.1)), (36, .v (ssl eAtom query.Atoms)), (37, .v (iT (query.Atoms.length : Int))), (38, .v (iT zs.2))]) (QO (QX 0 (fun (y : (List Int)) => [(3, .v (.ptr true [(iT query.VariableCount), (ssl eAtom query.Atoms), (ssl eI query.Free)])), (5, .v (ssl eI y))])) (QR (fun (y : Bool) => [(4, .v (.bool y))]))) := Lp.of (f := (fun
 | (occurring_19, x_20) =>
  if x_20 < (query.Atoms.length : Int) then
  (ix query.Atoms x_20).bind fun v_22 =>
  (f59 v_22.Relation 0 (w64 ((relations.length : Int) - 1))).bind fun o24 =>
  (jn (QN (fun (y : Bool) => [(0, .v (ssl eRelation relations)), (3, .v (.ptr true [(iT query.VariableCount), (ssl eAtom query.Atoms), (ssl eI query.Free)])), (5, .v (ssl eI occurring_19)), (7, .v (.ptr true [(iT v_22.Relation), (ssl eI v_22.Terms)])), (36, .v (ssl eAtom query.Atoms)), (37, .v (iT (query.Atoms.length : Int))), (38, .v (iT x_20)), (69, .v (.bool y))])) ((if ¬ (o24 = true) then
  some true
  else
  (ix relations v_22.Relation).bind fun v_29 =>
  (jn (QN (fun (y : Bool) => [(0, .v (ssl eRelation relations)), (3, .v (.ptr true [(iT query.VariableCount), (ssl eAtom query.Atoms), (ssl eI query.Free)])), (5, .v (ssl eI occurring_19)), (7, .v (.ptr true [(iT v_22.Relation), (ssl eI v_22.Terms)])), (36, .v (ssl eAtom query.Atoms)), (37, .v (iT (query.Atoms.length : Int))), (38, .v (iT x_20)), (69, .v (.bool y))])) ((if (v_22.Terms.length : Int) ≠ v_29.Arity then
  some true
  else
  (cutL query.Atoms 0 x_20).bind fun l_34 =>
  (f136 l_34 (fun x0 => f137 x0 v_22)).bind fun o36 =>
  some o36) : Option (Bool))).bind fun x_31 =>
  some x_31) : Option (Bool))).bind fun x_26 =>
  if x_26 = true then
  some (.inr (.inr false))
  else
  (iter (lw (relations, occurring_19, x_20)  (f91_1 query v_22)) 0).bind fun o => match o with
  | .inl _ =>
  (f138 v_22).bind fun o49 =>
  (f92 occurring_19 o49).bind fun o51 =>
  some (.inl (o51, w64 (x_20 + 1)))
  | .inr x_48 =>
  some (.inr (.inr x_48))
  else
  some (.inr (.inl occurring_19)) : (List Int) × Int -> Option (((List Int) × Int) ⊕ ((List Int) ⊕ Bool)))) (by exact go)
instance i91 {relations : (List Relation)} {query : Query} : Rn cx (f91 relations query) 91 [(ssl eRelation relations), (.agg [(iT query.VariableCount), (ssl eAtom query.Atoms), (ssl eI query.Free)])] (fun (r : Bool) => (.bool r)) (fun r => []) := Rn.o (e := (
  (f132 relations).bind fun o1 =>
  (jn (QN (fun (y : Bool) => [(0, .v (ssl eRelation relations)), (3, .v (.ptr true [(iT query.VariableCount), (ssl eAtom query.Atoms), (ssl eI query.Free)])), (33, .v (.bool y))])) ((if ¬ (o1 = true) then
  some true
  else
  (f59 query.VariableCount 0 4).bind fun o6 =>
  (jn (QN (fun (y : Bool) => [(0, .v (ssl eRelation relations)), (3, .v (.ptr true [(iT query.VariableCount), (ssl eAtom query.Atoms), (ssl eI query.Free)])), (33, .v (.bool y))])) ((if ¬ (o6 = true) then
  some true
  else
  (f59 (query.Atoms.length : Int) 1 3).bind fun o11 =>
  (jn (QN (fun (y : Bool) => [(0, .v (ssl eRelation relations)), (3, .v (.ptr true [(iT query.VariableCount), (ssl eAtom query.Atoms), (ssl eI query.Free)])), (33, .v (.bool y))])) ((if ¬ (o11 = true) then
  some true
  else
  (f85 query.Free query.VariableCount).bind fun o16 =>
  some (decide (¬ (o16 = true)))) : Option (Bool))).bind fun x_13 =>
  some x_13) : Option (Bool))).bind fun x_8 =>
  some x_8) : Option (Bool))).bind fun x_3 =>
  if x_3 = true then
  some false
  else
  sn 2 5 (osl eI true ([])) <| 
  sn 0 5 (ssl eI ([])) <| 
  (iter (f91_0 relations query) ([], 0)).bind fun o => match o with
  | .inl occurring_55 =>
  some (decide ((occurring_55.length : Int) = query.VariableCount))
  | .inr x_56 =>
  some x_56 : Option Bool)) rfl (by exact go)
instance : Io0 cx 91 := ⟨rfl⟩
instance i45 {db : Database} {query : Query} : Rn cx (f45 db query) 45 [(.agg [(ssl eRelation db.Relations), (ssl eFact db.Facts)]), (.agg [(iT query.VariableCount), (ssl eAtom query.Atoms), (ssl eI query.Free)])] (fun (r : Bool) => (.bool r)) (fun r => []) := Rn.o (e := (
  (f84 db).bind fun o1 =>
  (jn (QN (fun (y : Bool) => [(4, .v (.bool y))])) ((if o1 = true then
  (f91 db.Relations query).bind fun o6 =>
  some o6
  else
  some false) : Option (Bool))).bind fun x_3 =>
  some x_3 : Option Bool)) rfl (by exact go)
instance : Io0 cx 45 := ⟨rfl⟩
instance i218 {x : Int} {y : Int} : Rn cx (f218 x y) 218 [(.int .u64 x), (.int .u64 y)] (fun (r : Int × Int) => (.tup [(.int .u64 r.1), (.int .u64 r.2)])) (fun r => []) := Rn.o rfl (by unfold f218; exact go)
instance : Io0 cx 218 := ⟨rfl⟩
instance i204 {x : Int} {y : Int} : Rn cx (f204 x y) 204 [(.int .u64 x), (.int .u64 y)] (fun (r : Int × Int) => (.tup [(.int .u64 r.1), (.int .u64 r.2)])) (fun r => []) := Rn.o rfl (by unfold f204; exact go)
instance : Io0 cx 204 := ⟨rfl⟩
instance i185_0 : Lp cx f185_0 48 L185_0 (fun (zs : (List Int) × Int) => [(7, .v (.sl true false 1 0 (arr eI true zs.1))), (8, .v (iT zs.2))]) (QX 0 (fun (y : (List Int)) => [(7, .v (.sl true false 1 0 (arr eI true y)))])) := Lp.of (f := (fun
 | (newslice_14, n_15) =>
  if n_15 < (newslice_14.length : Int) then
  (cutL newslice_14 0 n_15).bind fun z_17 =>
  cs 3 <| 
  some (.inl ((csL newslice_14 n_15.toNat), w64 (n_15 + (min n_15 ((newslice_14.length : Int) - n_15)))))
  else
  some (.inr newslice_14) : (List Int) × Int -> Option (((List Int) × Int) ⊕ (List Int)))) (by exact go)
instance i185 {x : (List Int)} {count : Int} : Rn cx (f185 x count) 185 [(ssl eI x), (iT count)] (fun (r : (List Int)) => (osl eI true r)) (fun r => []) := Rn.o (e := (
  (jn (QN (fun (y : Unit) => [(0, .v (ssl eI x)), (1, .v (iT count))])) ((if count < 0 then
  none
  else
  some ()) : Option Unit)).bind fun _ =>
  (f204 (IntKind.u64.wrap (x.length : Int)) (IntKind.u64.wrap count)).bind fun o4 =>
  (jn (QN (fun (y : Bool) => [(0, .v (ssl eI x)), (6, .v (.int .u64 o4.2)), (26, .v (.bool y))])) ((if o4.1 > 0 then
  some true
  else
  some (decide (o4.2 > 9223372036854775807))) : Option (Bool))).bind fun x_6 =>
  (jn (QN (fun (y : Unit) => [(0, .v (ssl eI x)), (6, .v (.int .u64 o4.2))])) ((if x_6 = true then
  none
  else
  some ()) : Option Unit)).bind fun _ =>
  (mkl 8 (w64 o4.2) 0).bind fun l_12 =>
  cp 6 <| 
  (iter f185_0 ((cpL l_12 x), ((min x.length l_12.length : Nat) : Int))).bind fun newslice_21 =>
  sn 2 4 (osl eI true newslice_21) <| 
  some newslice_21 : Option (List Int))) rfl (by exact go)
instance : Io0 cx 185 := ⟨rfl⟩
instance i158 {n0 : Int} : Rn cx (f158 n0) 158 [(iT n0)] (fun (r : (List Int)) => (osl eI true r)) (fun r => []) := Rn.o (e := (
  sn 3 3 (osl eI true ([-1])) <| 
  (f185 ([-1]) n0).bind fun o1 =>
  some o1 : Option (List Int))) rfl (by exact go)
instance : Io0 cx 158 := ⟨rfl⟩
theorem r156 {s0 : (List Int)} {r : (List Int)} (h : f156 s0 = some r) : VJx cx (.ca 156 [(ssl eI s0)] (osl eI true r) []) := by
 unfold f156 at h
 refine ca_clone (X := noExt) (fun _ _ _ _ h => h) (fun _ _ _ _ h => h) rfl (by decide) rfl (cl_eq h) ?_
 refine Wc.start (V1 := [(0, .v (ssl eI s0))]) (by simp) ?_
 refine Wc.seq ?_
 obtain ⟨l_1, h2, h⟩ := bind_some h
 have gx2 := appT_arr2 (E := eI) (b := true) (b' := false) (y := false) h2 (by decide) (arr_sc rfl _)
 simp [-aI_app0, -aB_app0, -aS_app0, -aL_app0, -aLt_app1I, -aLf_app1I, -aLt_app10I, -aLf_app10I] at gx2
 refine Wc.evs (by conv => lhs; simp [-aI_app0, -aB_app0, -aS_app0, -aL_app0, -aI_app10, -aB_app10, -aS_app10, -aLt_app10I, -aLf_app10I, -aLt_app1I, -aLf_app1I, gx2]) ?_
 refine Wo.gh (vle_co (s := 2) (t1 := (osl eI true l_1)) rfl (by simp) (tle_own rfl) (by conv => lhs; simp)) ?_
 refine Wo.nil ?_
 refine Wc.ret (res_of (.inr rfl) ?_)
 cases h
 exact ⟨_, _, _, by conv => lhs; simp, by (conv => lhs; simp [cx, ioTab, List.range, List.range.loop]) <;> rfl, by first | rfl | simp [-aI_app0, -aB_app0, -aS_app0, -aL_app0, -aI_app10, -aB_app10, -aS_app10, -aLt_app10I, -aLf_app10I, -aLt_app1I, -aLf_app1I, gx2]⟩
instance i156 {s0 : (List Int)} : Rn cx (f156 s0) 156 [(ssl eI s0)] (fun (r : (List Int)) => (osl eI true r)) (fun r => []) := ⟨fun _ h => r156 h⟩
instance : Io0 cx 156 := ⟨rfl⟩
instance i183 {t : Int} : Rn cx (f183 t) 183 [(iT t)] (fun (r : Bool) => (.bool r)) (fun r => []) := Rn.o rfl (by unfold f183; exact go)
instance : Io0 cx 183 := ⟨rfl⟩
instance i184 {v : Int} : Rn cx (f184 v) 184 [(iT v)] (fun (r : Int) => (iT r)) (fun r => []) := Rn.o rfl (by unfold f184; exact go)
instance : Io0 cx 184 := ⟨rfl⟩
instance i157_0 {terms : (List Int)} {from2 : (List Int)} : Lp cx (f157_0 terms from2) 56 L157_0 (fun (zs : (List Int) × Int) => [(2, .v (ssl eI from2)), (8, .v (osl eI true zs.1)), (13, .v (ssl eI terms)), (14, .v (iT (terms.length : Int))), (15, .v (iT zs.2))]) (QO (QX 0 (fun (y : (List Int)) => [(8, .v (osl eI true y))])) (QR (fun (y : (List Int) × Bool) => [(6, .v (osl eI true y.1)), (7, .v (.bool y.2))]))) := Lp.of (f := (fun
 | (out_3, x_4) =>
  if x_4 < (terms.length : Int) then
  (ix terms x_4).bind fun v_6 =>
  (f183 v_6).bind fun o8 =>
  (jn (QO (QN (fun (y : (List Int)) => [(2, .v (ssl eI from2)), (8, .v (osl eI true y)), (13, .v (ssl eI terms)), (14, .v (iT (terms.length : Int))), (15, .v (iT x_4))])) (QR (fun (y : (List Int) × Bool) => [(6, .v (osl eI true y.1)), (7, .v (.bool y.2))]))) ((if ¬ (o8 = true) then
  (ix from2 x_4).bind fun v_13 =>
  (f184 v_6).bind fun o15 =>
  if o15 ≠ v_13 then
  sn 2 6 (osl eI true ([])) <| 
  some (.inr ([], false))
  else
  some (.inl out_3)
  else
  (ix out_3 v_6).bind fun v_18 =>
  (jn (QO (QN (fun (y : (List Int)) => [(2, .v (ssl eI from2)), (8, .v (osl eI true y)), (13, .v (ssl eI terms)), (14, .v (iT (terms.length : Int))), (15, .v (iT x_4))])) (QR (fun (y : (List Int) × Bool) => [(6, .v (osl eI true y.1)), (7, .v (.bool y.2))]))) ((if v_18 < 0 then
  (ix from2 x_4).bind fun v_23 =>
  some (.inl (out_3.set v_6.toNat v_23))
  else
  (ix from2 x_4).bind fun v_26 =>
  if v_18 ≠ v_26 then
  sn 2 6 (osl eI true ([])) <| 
  some (.inr ([], false))
  else
  some (.inl out_3)) : Option ((List Int) ⊕ ((List Int) × Bool)))).bind fun o => match o with
  | .inl out_29 =>
  some (.inl out_29)
  | .inr (x_30, x_31) =>
  some (.inr (x_30, x_31))) : Option ((List Int) ⊕ ((List Int) × Bool)))).bind fun o => match o with
  | .inl out_32 =>
  some (.inl (out_32, w64 (x_4 + 1)))
  | .inr (x_33, x_34) =>
  some (.inr (.inr (x_33, x_34)))
  else
  some (.inr (.inl out_3)) : (List Int) × Int -> Option (((List Int) × Int) ⊕ ((List Int) ⊕ ((List Int) × Bool))))) (by exact go)
instance i157 {values : (List Int)} {terms : (List Int)} {from2 : (List Int)} : Rn cx (f157 values terms from2) 157 [(ssl eI values), (ssl eI terms), (ssl eI from2)] (fun (r : (List Int) × Bool) => (.tup [(osl eI true r.1), (.bool r.2)])) (fun r => []) := Rn.o rfl (by unfold f157; exact go)
instance : Io0 cx 157 := ⟨rfl⟩
instance i155_0 {a2 : AV} {a3 : AV} {a4 : AV} {a5 : AV} {values : (List Int)} {facts : (List Int)} {c : Query} {c4 : Database} {v_8 : Atom} {rec : (List Int) -> (List Int) -> Query -> (List Embedding) -> Database -> Option (List Embedding)} [hrec : ∀ values facts c c3 c4, Rn cx (ag (a2, a3, a4, a5) <| rec values facts c c3 c4) 155 [(ssl eI values), (ssl eI facts), (.at a2 (.ptr false [(iT c.VariableCount), (ssl eAtom c.Atoms), (ssl eI c.Free)])), (.at a3 (.ptr true [(osl eEmbedding true c3)])), (.at a4 (.ptr false [(ssl eRelation c4.Relations), (ssl eFact c4.Facts)])), (.at a5 (.ptr false [(.at (.fn 155 [a2, a3, a4, a5]) .und)]))] (fun o => (.tup [])) (fun o => [(.at a3 (.ptr true [(osl eEmbedding true o)]))])] : Lp cx (lw (a2, a3, a4, a5) (f155_0 values facts c c4 rec v_8)) 65 L155_0 (fun (zs : (List Embedding) × Int) => [(0, .v (ssl eI values)), (1, .v (ssl eI facts)), (2, .v (.at a2 (.ptr false [(iT c.VariableCount), (ssl eAtom c.Atoms), (ssl eI c.Free)]))), (3, .v (.at a3 (.ptr true [(osl eEmbedding true zs.1)]))), (4, .v (.at a4 (.ptr false [(ssl eRelation c4.Relations), (ssl eFact c4.Facts)]))), (5, .v (.at a5 (.ptr false [(.at (.fn 155 [a2, a3, a4, a5]) .und)]))), (8, .v (.ptr true [(iT v_8.Relation), (ssl eI v_8.Terms)])), (34, .v (ssl eFact c4.Facts)), (35, .v (iT (c4.Facts.length : Int))), (36, .v (iT zs.2))]) (QX 0 (fun (y : (List Embedding)) => [(3, .v (.at a3 (.ptr true [(osl eEmbedding true y)])))])) := Lp.of (f := (fun
 | (x_10, x_11) =>
  if x_11 < (c4.Facts.length : Int) then
  (jb 1 (QN (fun (y : (List Embedding)) => [(0, .v (ssl eI values)), (1, .v (ssl eI facts)), (2, .v (.at a2 (.ptr false [(iT c.VariableCount), (ssl eAtom c.Atoms), (ssl eI c.Free)]))), (3, .v (.at a3 (.ptr true [(osl eEmbedding true y)]))), (4, .v (.at a4 (.ptr false [(ssl eRelation c4.Relations), (ssl eFact c4.Facts)]))), (5, .v (.at a5 (.ptr false [(.at (.fn 155 [a2, a3, a4, a5]) .und)]))), (8, .v (.ptr true [(iT v_8.Relation), (ssl eI v_8.Terms)])), (34, .v (ssl eFact c4.Facts)), (35, .v (iT (c4.Facts.length : Int))), (36, .v (iT x_11))])) (((ix c4.Facts x_11).bind fun v_15 =>
  if v_15.Relation ≠ v_8.Relation then
  some x_10
  else
  (f157 values v_8.Terms v_15.Values).bind fun o18 =>
  (jn (QN (fun (y : (List Embedding)) => [(0, .v (ssl eI values)), (1, .v (ssl eI facts)), (2, .v (.at a2 (.ptr false [(iT c.VariableCount), (ssl eAtom c.Atoms), (ssl eI c.Free)]))), (3, .v (.at a3 (.ptr true [(osl eEmbedding true y)]))), (4, .v (.at a4 (.ptr false [(ssl eRelation c4.Relations), (ssl eFact c4.Facts)]))), (5, .v (.at a5 (.ptr false [(.at (.fn 155 [a2, a3, a4, a5]) .und)]))), (8, .v (.ptr true [(iT v_8.Relation), (ssl eI v_8.Terms)])), (34, .v (ssl eFact c4.Facts)), (35, .v (iT (c4.Facts.length : Int))), (36, .v (iT x_11))])) ((if o18.2 = true then
  sn 5 61 (osl eI true ([x_11])) <| 
  (f156 facts).bind fun o23 =>
  (app 8 o23 ([x_11])).bind fun l_25 =>
  (ca [2, 3, 4, 5] <| ag (a2, a3, a4, a5) (rec o18.1 l_25 c x_10 c4)).bind fun o27 =>
  some o27
  else
  some x_10) : Option (List Embedding))).bind fun x_29 =>
  some x_29) : Option (List Embedding))).bind fun x_30 =>
  some (.inl (x_30, w64 (x_11 + 1)))
  else
  some (.inr x_10) : (List Embedding) × Int -> Option (((List Embedding) × Int) ⊕ (List Embedding)))) (by exact go)
instance i155 : ∀ (n : Nat) values facts c c3 c4 (a2 a3 a4 a5 : AV), Rn cx (ag (a2, a3, a4, a5) (f155 n values facts c c3 c4)) 155 [(ssl eI values), (ssl eI facts), (.at a2 (.ptr false [(iT c.VariableCount), (ssl eAtom c.Atoms), (ssl eI c.Free)])), (.at a3 (.ptr true [(osl eEmbedding true c3)])), (.at a4 (.ptr false [(ssl eRelation c4.Relations), (ssl eFact c4.Facts)])), (.at a5 (.ptr false [(.at (.fn 155 [a2, a3, a4, a5]) .und)]))] (fun (r : (List Embedding)) => (.tup [])) (fun r => [(.at a3 (.ptr true [(osl eEmbedding true r)]))]) := by
 intro n
 induction n with
 | zero => intro values facts c c3 c4 a2 a3 a4 a5; exact ⟨fun r h => by simp [ag, f155] at h⟩
 | succ n ih =>
  intro values facts c c3 c4 a2 a3 a4 a5
  refine Rn.of (e := (
   if (facts.length : Int) = (c.Atoms.length : Int) then
   (f156 values).bind fun o2 =>
   (f156 facts).bind fun o4 =>
   (app 48 c3 ([({ Values := o2, Facts := o4 } : Embedding)])).bind fun l_6 =>
   some l_6
   else
   (ix c.Atoms (facts.length : Int)).bind fun v_8 =>
   (iter (lw (a2, a3, a4, a5)  (f155_0 values facts c c4 (f155 n) v_8)) (c3, 0)).bind fun x_33 =>
   some x_33 : Option (List Embedding))) rfl rfl (by decide) rfl ?_
  exact go
instance i106 {db : Database} {query : Query} : Rn cx (f106 db query) 106 [(.agg [(ssl eRelation db.Relations), (ssl eFact db.Facts)]), (.agg [(iT query.VariableCount), (ssl eAtom query.Atoms), (ssl eI query.Free)])] (fun (r : (List Embedding)) => (osl eEmbedding true r)) (fun r => []) := Rn.o (e := (
  sn 5 7 (osl eEmbedding true ([])) <| 
  (f45 db query).bind fun o1 =>
  if ¬ (o1 = true) then
  some ([])
  else
  lc 1 6 fun (a5 : AV) => 
  lc 0 3 fun (a2 : AV) => 
  lc 0 5 fun (a3 : AV) => 
  lc 0 2 fun (a4 : AV) => 
  fa 0 [a2, a3, a4, a5] <| 
  (f158 query.VariableCount).bind fun o4 =>
  (ca [3, 5, 2, 6] <| ag (a2, a3, a4, a5) (f155 64 o4 ([] : (List Int)) query ([]) db)).bind fun o6 =>
  some o6 : Option (List Embedding))) rfl (by exact go)
instance : Io0 cx 106 := ⟨rfl⟩
instance i55_0 {o11 : (List Embedding)} : Lp cx (f55_0 o11) 27 L55_0 (fun (zs : (List (List Int)) × Nat × Int) => [(5, .v (osl (eL eI) true zs.1)), (11, .v (.sl true true 2 0 (arrM eEmbedding zs.2.1 o11))), (12, .v (iT (o11.length : Int))), (13, .v (iT zs.2.2))]) (QX 0 (fun (y : (List (List Int))) => [(5, .v (osl (eL eI) true y))])) := Lp.of (f := (fun
 | (out, k, x) =>
  if x < (o11.length : Int) then
  (ml o11 k x).bind fun v =>
  mv 1 <|
  (f107 v.Facts).bind fun s =>
  mf 2 <|
  (app 24 out ([s])).bind fun l =>
  some (.inl (l, k + 1, w64 (x + 1)))
  else
  some (.inr out) : (List (List Int)) × Nat × Int -> Option (((List (List Int)) × Nat × Int) ⊕ (List (List Int))))) (by exact go)
instance i55 {db : Database} {query : Query} : Rn cx (f55 db query) 55 [(.agg [(ssl eRelation db.Relations), (ssl eFact db.Facts)]), (.agg [(iT query.VariableCount), (ssl eAtom query.Atoms), (ssl eI query.Free)])] (fun (r : (List (List Int))) => (osl (eL eI) true r)) (fun r => []) := Rn.o (e := (
  sn 5 5 (osl (eL eI) true ([])) <|
  (f106 db query).bind fun o11 =>
  (iter (f55_0 o11) ([], 0, 0)).bind fun out =>
  some out : Option (List (List Int)))) rfl (by exact go)
instance : Io0 cx 55 := ⟨rfl⟩
instance i161_0 {s1 : (List Int)} {s2 : (List Int)} : Lp cx (f161_0 s1 s2) 26 L161_0 (fun (zs : Int) => [(0, .v (ssl eI s1)), (1, .v (ssl eI s2)), (12, .v (iT (s1.length : Int))), (13, .v (iT zs))]) (QO (QX 0 (fun (y : Unit) => [])) (QR (fun (y : Bool) => [(4, .v (.bool y))]))) := Lp.of (by unfold f161_0; exact go)
instance i161 {s1 : (List Int)} {s2 : (List Int)} : Rn cx (f161 s1 s2) 161 [(ssl eI s1), (ssl eI s2)] (fun (r : Bool) => (.bool r)) (fun r => []) := Rn.o rfl (by unfold f161; exact go)
instance : Io0 cx 161 := ⟨rfl⟩
instance i108 {relations : (List Relation)} {a : Fact} {b : Fact} : Rn cx (f108 relations a b) 108 [(ssl eRelation relations), (.agg [(iT a.Relation), (ssl eI a.Values)]), (.agg [(iT b.Relation), (ssl eI b.Values)])] (fun (r : Bool) => (.bool r)) (fun r => []) := Rn.o rfl (by unfold f108; exact go)
instance : Io0 cx 108 := ⟨rfl⟩
instance i56_0 {db : Database} : Lp cx (f56_0 db) 54 L56_0 (fun (zs : (List (List Int)) × Int) => [(1, .v (.ptr true [(ssl eRelation db.Relations), (ssl eFact db.Facts)])), (3, .v (osl (eL eI) true zs.1)), (9, .v (ssl eFact db.Facts)), (10, .v (iT (db.Facts.length : Int))), (11, .v (iT zs.2))]) (QX 0 (fun (y : (List (List Int))) => [(3, .v (osl (eL eI) true y))])) := Lp.of (f := (fun
 | (out_1, x_2) =>
  if x_2 < (db.Facts.length : Int) then
  (ix db.Facts x_2).bind fun v_4 =>
  (jn (QN (fun (y : Bool) => [(1, .v (.ptr true [(ssl eRelation db.Relations), (ssl eFact db.Facts)])), (3, .v (osl (eL eI) true out_1)), (4, .v (iT x_2)), (6, .v (iT (w64 ((out_1.length : Int) - 1)))), (9, .v (ssl eFact db.Facts)), (10, .v (iT (db.Facts.length : Int))), (11, .v (iT x_2)), (36, .v (.bool y))])) ((if (w64 ((out_1.length : Int) - 1)) >= 0 then
  (ix out_1 (w64 ((out_1.length : Int) - 1))).bind fun v_9 =>
  (ix v_9 0).bind fun v_11 =>
  (ix db.Facts v_11).bind fun v_13 =>
  (f108 db.Relations v_13 v_4).bind fun o15 =>
  some o15
  else
  some false) : Option (Bool))).bind fun x_6 =>
  (jn (QN (fun (y : (List (List Int))) => [(1, .v (.ptr true [(ssl eRelation db.Relations), (ssl eFact db.Facts)])), (3, .v (osl (eL eI) true y)), (9, .v (ssl eFact db.Facts)), (10, .v (iT (db.Facts.length : Int))), (11, .v (iT x_2))])) ((if x_6 = true then
  (ix out_1 (w64 ((out_1.length : Int) - 1))).bind fun v_20 =>
  (app 8 v_20 ([x_2])).bind fun l_22 =>
  some (out_1.set (w64 ((out_1.length : Int) - 1)).toNat l_22)
  else
  sn 3 49 (osl eI true ([x_2])) <| 
  (app 24 out_1 ([[x_2]])).bind fun l_25 =>
  some l_25) : Option (List (List Int)))).bind fun out_27 =>
  some (.inl (out_27, w64 (x_2 + 1)))
  else
  some (.inr out_1) : (List (List Int)) × Int -> Option (((List (List Int)) × Int) ⊕ (List (List Int))))) (by exact go)
instance i56 {db : Database} : Rn cx (f56 db) 56 [(.agg [(ssl eRelation db.Relations), (ssl eFact db.Facts)])] (fun (r : (List (List Int))) => (osl (eL eI) true r)) (fun r => []) := Rn.o (e := (
  sn 4 3 (osl (eL eI) true ([])) <| 
  (iter (f56_0 db) ([], 0)).bind fun out_30 =>
  some out_30 : Option (List (List Int)))) rfl (by exact go)
instance : Io0 cx 56 := ⟨rfl⟩
instance i36_0 {db : Database} : Lp cx (f36_0 db) 33 L36_0 (fun (zs : (List Relation) × (List Fact) × Int) => [(1, .v (.ptr true [(ssl eRelation db.Relations), (ssl eFact db.Facts)])), (2, .v (.ptr true [(osl eRelation true ([])), (osl eFact true ([]))])), (3, .v (.ptr true [(osl eRelation true zs.1), (osl eFact true zs.2.1)])), (13, .v (ssl eFact db.Facts)), (14, .v (iT (db.Facts.length : Int))), (15, .v (iT zs.2.2))]) (QX 0 (fun (y : (List Relation) × (List Fact)) => [(2, .v (.ptr true [(osl eRelation true ([])), (osl eFact true ([]))])), (3, .v (.ptr true [(osl eRelation true y.1), (osl eFact true y.2)]))])) := Lp.of (f := (fun
 | (out_3, out_4, x_5) =>
  if x_5 < (db.Facts.length : Int) then
  (ix db.Facts x_5).bind fun v_7 =>
  (app 8 ([]) v_7.Values).bind fun l_9 =>
  sn 12 26 (osl eI true l_9) <| 
  (app 32 out_4 ([({ Relation := v_7.Relation, Values := l_9 } : Fact)])).bind fun l_11 =>
  some (.inl (out_3, l_11, w64 (x_5 + 1)))
  else
  some (.inr (out_3, out_4)) : (List Relation) × (List Fact) × Int -> Option (((List Relation) × (List Fact) × Int) ⊕ ((List Relation) × (List Fact))))) (by exact go)
instance i36 {db : Database} : Rn cx (f36 db) 36 [(.agg [(ssl eRelation db.Relations), (ssl eFact db.Facts)])] (fun (r : Database) => (.agg [(osl eRelation true r.Relations), (osl eFact true r.Facts)])) (fun r => []) := Rn.o (e := (
  sn 2 2 (.ptr true [(osl eRelation true ([])), (osl eFact true ([]))]) <| 
  (app 32 ([]) db.Relations).bind fun l_1 =>
  sn 5 9 (osl eRelation true l_1) <| 
  sn 0 10 (osl eFact true ([])) <| 
  (iter (f36_0 db) (l_1, [], 0)).bind fun (out_15, out_16) =>
  some ({ Relations := out_15, Facts := out_16 } : Database) : Option Database)) rfl (by exact go)
instance : Io0 cx 36 := ⟨rfl⟩
instance i37_0 {indices : (List Int)} : Lp cx (f37_0 indices) 45 L37_0 (fun (zs : (List Fact) × (List Relation) × (List Fact) × Int) => [(4, .v (.ptr true [(osl eRelation true ([])), (osl eFact true ([]))])), (6, .v (.ptr true [.und, (ssl eFact zs.1)])), (7, .v (.ptr true [(osl eRelation true zs.2.1), (osl eFact false zs.2.2.1)])), (27, .v (ssl eI indices)), (28, .v (iT (indices.length : Int))), (29, .v (iT zs.2.2.2))]) (QX 0 (fun (y : (List Relation) × (List Fact)) => [(4, .v (.ptr true [(osl eRelation true ([])), (osl eFact true ([]))])), (7, .v (.ptr true [(osl eRelation true y.1), (osl eFact false y.2)]))])) := Lp.of (by unfold f37_0; exact go)
instance i37 {db : Database} {indices : (List Int)} : Rn cx (f37 db indices) 37 [(.agg [(ssl eRelation db.Relations), (ssl eFact db.Facts)]), (ssl eI indices)] (fun (r : Database × Bool) => (.tup [(.agg [(osl eRelation true r.1.Relations), (osl eFact false r.1.Facts)]), (.bool r.2)])) (fun r => []) := Rn.o (e := (
  sn 3 4 (.ptr true [(osl eRelation true ([])), (osl eFact true ([]))]) <| 
  (f84 db).bind fun o1 =>
  (jn (QN (fun (y : Bool) => [(1, .v (ssl eI indices)), (2, .v (.ptr true [(ssl eRelation db.Relations), (ssl eFact db.Facts)])), (4, .v (.ptr true [(osl eRelation true ([])), (osl eFact true ([]))])), (20, .v (.bool y))])) ((if ¬ (o1 = true) then
  some true
  else
  (f85 indices (db.Facts.length : Int)).bind fun o6 =>
  some (decide (¬ (o6 = true)))) : Option (Bool))).bind fun x_3 =>
  if x_3 = true then
  sn 1 21 (.agg [(osl eRelation true ([])), (osl eFact true ([]))]) <| 
  some (({ Relations := [], Facts := [] } : Database), false)
  else
  (f36 db).bind fun o9 =>
  sn 6 26 (.agg [(osl eRelation true o9.Relations), (osl eFact true ([]))]) <| 
  (iter (f37_0 indices) (o9.Facts, o9.Relations, [], 0)).bind fun (out_24, out_25) =>
  some (({ Relations := out_24, Facts := out_25 } : Database), true) : Option (Database × Bool))) rfl (by exact go)
instance : Io0 cx 37 := ⟨rfl⟩
instance i109 {db : Database} : Rn cx (f109 db) 109 [(.agg [(ssl eRelation db.Relations), (ssl eFact db.Facts)])] (fun (r : Bool) => (.bool r)) (fun r => []) := Rn.o (e := (
  (f84 db).bind fun o1 =>
  (jn (QN (fun (y : Bool) => [(2, .v (.bool y))])) ((if o1 = true then
  (f56 db).bind fun o6 =>
  some (decide ((o6.length : Int) = (db.Facts.length : Int)))
  else
  some false) : Option (Bool))).bind fun x_3 =>
  some x_3 : Option Bool)) rfl (by exact go)
instance : Io0 cx 109 := ⟨rfl⟩
instance i57 {db : Database} {indices : (List Int)} : Rn cx (f57 db indices) 57 [(.agg [(ssl eRelation db.Relations), (ssl eFact db.Facts)]), (ssl eI indices)] (fun (r : Bool) => (.bool r)) (fun r => []) := Rn.o (e := (
  (f37 db indices).bind fun o1 =>
  (jn (QN (fun (y : Bool) => [(4, .v (.bool y))])) ((if o1.2 = true then
  (f109 o1.1).bind fun o6 =>
  some o6
  else
  some false) : Option (Bool))).bind fun x_3 =>
  some x_3 : Option Bool)) rfl (by exact go)
instance : Io0 cx 57 := ⟨rfl⟩
instance i145_0 {s0 : (List (List Int))} {g_f : Nat} {cp_f : List T} {f : (List Int) -> Option Bool} [hp_f : ∀ x0, Rn cx (f x0) g_f ((ssl eI x0) :: cp_f) (fun o => (.bool o)) (fun _ => [])] [Io0 cx g_f] : Lp cx (f145_0 s0 f) 19 L145_0 (fun (zs : Int) => [(0, .v (ssl (eL eI) s0)), (1, .v (.fn g_f cp_f)), (7, .v (iT (s0.length : Int))), (8, .v (iT zs))]) (QO (QX 0 (fun (y : Unit) => [])) (QR (fun (y : Int) => [(4, .v (iT y))]))) := Lp.of (by unfold f145_0; exact go)
instance i145 {s0 : (List (List Int))} {g_f : Nat} {cp_f : List T} {f : (List Int) -> Option Bool} [hp_f : ∀ x0, Rn cx (f x0) g_f ((ssl eI x0) :: cp_f) (fun o => (.bool o)) (fun _ => [])] [Io0 cx g_f] : Rn cx (f145 s0 f) 145 [(ssl (eL eI) s0), (.fn g_f cp_f)] (fun (r : Int) => (iT r)) (fun r => []) := Rn.o rfl (by unfold f145; exact go)
instance : Io0 cx 145 := ⟨rfl⟩
instance i99 {s0 : (List (List Int))} {g_f : Nat} {cp_f : List T} {f : (List Int) -> Option Bool} [hp_f : ∀ x0, Rn cx (f x0) g_f ((ssl eI x0) :: cp_f) (fun o => (.bool o)) (fun _ => [])] [Io0 cx g_f] : Rn cx (f99 s0 f) 99 [(ssl (eL eI) s0), (.fn g_f cp_f)] (fun (r : Bool) => (.bool r)) (fun r => []) := Rn.o rfl (by unfold f99; exact go)
instance : Io0 cx 99 := ⟨rfl⟩
instance i93_0 {s0 : (List Int)} {v : Int} : Lp cx (f93_0 s0 v) 19 L93_0 (fun (zs : Int) => [(0, .v (ssl eI s0)), (1, .v (iT v)), (7, .v (iT (s0.length : Int))), (8, .v (iT zs))]) (QO (QX 0 (fun (y : Unit) => [])) (QR (fun (y : Int) => [(4, .v (iT y))]))) := Lp.of (by unfold f93_0; exact go)
instance i93 {s0 : (List Int)} {v : Int} : Rn cx (f93 s0 v) 93 [(ssl eI s0), (iT v)] (fun (r : Int) => (iT r)) (fun r => []) := Rn.o rfl (by unfold f93; exact go)
instance : Io0 cx 93 := ⟨rfl⟩
instance i47 {s0 : (List Int)} {v : Int} : Rn cx (f47 s0 v) 47 [(ssl eI s0), (iT v)] (fun (r : Bool) => (.bool r)) (fun r => []) := Rn.o rfl (by unfold f47; exact go)
instance : Io0 cx 47 := ⟨rfl⟩
instance i147 {n0 : Int} {c : (List Int)} : Rn cx (f147 n0 c) 147 [(iT n0), (.ptr false [(ssl eI c)])] (fun (r : Bool) => (.bool r)) (fun r => []) := Rn.o rfl (by unfold f147; exact go)
instance : Io0 cx 147 := ⟨rfl⟩
instance i101 {a : (List Int)} {b : (List Int)} : Rn cx (f101 a b) 101 [(ssl eI a), (ssl eI b)] (fun (r : Bool) => (.bool r)) (fun r => []) := Rn.o rfl (by unfold f101; exact go)
instance : Io0 cx 101 := ⟨rfl⟩
instance i110 {own : (List Int)} {c : (List Int)} : Rn cx (f110 own c) 110 [(ssl eI own), (.ptr false [(ssl eI c)])] (fun (r : Bool) => (.bool r)) (fun r => []) := Rn.o rfl (by unfold f110; exact go)
instance : Io0 cx 110 := ⟨rfl⟩
instance i58 {sets : (List (List Int))} {set1 : (List Int)} : Rn cx (f58 sets set1) 58 [(ssl (eL eI) sets), (ssl eI set1)] (fun (r : Bool) => (.bool r)) (fun r => []) := Rn.o rfl (by unfold f58; exact go)
instance : Io0 cx 58 := ⟨rfl⟩
instance i61_0 {steps : (List DerivationStep)} : Lp cx (f61_0 steps) 20 L61_0 (fun (zs : (List (List Int)) × Int) => [(3, .v (osl (eL eI) false zs.1)), (7, .v (ssl eDerivationStep steps)), (8, .v (iT (steps.length : Int))), (9, .v (iT zs.2))]) (QX 0 (fun (y : (List (List Int))) => [(3, .v (osl (eL eI) false y))])) := Lp.of (by unfold f61_0; exact go)
instance i61 {steps : (List DerivationStep)} : Rn cx (f61 steps) 61 [(ssl eDerivationStep steps)] (fun (r : (List (List Int))) => (osl (eL eI) false r)) (fun r => []) := Rn.o (e := (
  sn 3 3 (osl (eL eI) false ([])) <| 
  (iter (f61_0 steps) ([], 0)).bind fun out_10 =>
  some out_10 : Option (List (List Int)))) rfl (by exact go)
instance : Io0 cx 61 := ⟨rfl⟩
instance i111 {set0 : (List Int)} {fact : Int} : Rn cx (f111 set0 fact) 111 [(ssl eI set0), (iT fact)] (fun (r : (List Int)) => (ssl eI r)) (fun r => []) := Rn.o (e := (
  sn 4 7 (osl eI true ([fact])) <| 
  sn 0 7 (ssl eI ([fact])) <| 
  (f92 set0 ([fact])).bind fun o1 =>
  some o1 : Option (List Int))) rfl (by exact go)
instance : Io0 cx 111 := ⟨rfl⟩
instance i60_0 {known : (List (List Int))} {set1 : (List Int)} {block : (List Int)} : Lp cx (f60_0 known set1 block) 27 L60_0 (fun (zs : Int) => [(0, .v (ssl (eL eI) known)), (1, .v (ssl eI set1)), (9, .v (ssl eI block)), (10, .v (iT (block.length : Int))), (11, .v (iT zs))]) (QO (QX 0 (fun (y : Unit) => [])) (QR (fun (y : Bool) => [(6, .v (.bool y))]))) := Lp.of (f := (fun
 | x_1 =>
  if x_1 < (block.length : Int) then
  (ix block x_1).bind fun v_3 =>
  (f47 set1 v_3).bind fun o5 =>
  (jn (QN (fun (y : Bool) => [(0, .v (ssl (eL eI) known)), (1, .v (ssl eI set1)), (9, .v (ssl eI block)), (10, .v (iT (block.length : Int))), (11, .v (iT x_1)), (25, .v (.bool y))])) ((if o5 = true then
  some true
  else
  (f111 set1 v_3).bind fun o10 =>
  (f58 known o10).bind fun o12 =>
  some (decide (¬ (o12 = true)))) : Option (Bool))).bind fun x_7 =>
  if x_7 = true then
  some (.inr (.inr false))
  else
  some (.inl (w64 (x_1 + 1)))
  else
  some (.inr (.inl ())) : Int -> Option (Int ⊕ (Unit ⊕ Bool)))) (by exact go)
instance i60 {known : (List (List Int))} {set1 : (List Int)} {block : (List Int)} : Rn cx (f60 known set1 block) 60 [(ssl (eL eI) known), (ssl eI set1), (ssl eI block)] (fun (r : Bool) => (.bool r)) (fun r => []) := Rn.o rfl (by unfold f60; exact go)
instance : Io0 cx 60 := ⟨rfl⟩
instance i24_0 {db : Database} {derivation : (List DerivationStep)} {o7 : (List (List Int))} {o9 : (List (List Int))} : Lp cx (f24_0 db derivation o7 o9) 79 L24_0 (fun (zs : Int) => [(2, .v (ssl eDerivationStep derivation)), (3, .v (.ptr true [(ssl eRelation db.Relations), (ssl eFact db.Facts)])), (7, .v (osl (eL eI) true o7)), (8, .v (osl (eL eI) true o9)), (25, .v (ssl eDerivationStep derivation)), (26, .v (iT (derivation.length : Int))), (27, .v (iT zs))]) (QO (QX 0 (fun (y : Unit) => [(2, .v (ssl eDerivationStep derivation))])) (QR (fun (y : Bool) => [(6, .v (.bool y))]))) := Lp.of (f := (fun
 | x_11 =>
  if x_11 < (derivation.length : Int) then
  (ix derivation x_11).bind fun v_13 =>
  (f57 db v_13.Facts).bind fun o15 =>
  if ¬ (o15 = true) then
  some (.inr (.inr false))
  else
  (jn (QO (QN (fun (y : Unit) => [(2, .v (ssl eDerivationStep derivation)), (3, .v (.ptr true [(ssl eRelation db.Relations), (ssl eFact db.Facts)])), (7, .v (osl (eL eI) true o7)), (8, .v (osl (eL eI) true o9)), (25, .v (ssl eDerivationStep derivation)), (26, .v (iT (derivation.length : Int))), (27, .v (iT x_11))])) (QR (fun (y : Bool) => [(6, .v (.bool y))]))) ((if v_13.Block = (-1) then
  (f58 o7 v_13.Facts).bind fun o21 =>
  if ¬ (o21 = true) then
  some (.inr false)
  else
  some (.inl ())
  else
  (f59 v_13.Block 0 (w64 ((o9.length : Int) - 1))).bind fun o24 =>
  (jn (QN (fun (y : Bool) => [(2, .v (ssl eDerivationStep derivation)), (3, .v (.ptr true [(ssl eRelation db.Relations), (ssl eFact db.Facts)])), (7, .v (osl (eL eI) true o7)), (8, .v (osl (eL eI) true o9)), (25, .v (ssl eDerivationStep derivation)), (26, .v (iT (derivation.length : Int))), (27, .v (iT x_11)), (46, .v (.bool y))])) ((if ¬ (o24 = true) then
  some true
  else
  (cutL derivation 0 x_11).bind fun l_29 =>
  (ix o9 v_13.Block).bind fun v_31 =>
  (f61 l_29).bind fun o33 =>
  (f60 o33 v_13.Facts v_31).bind fun o35 =>
  some (decide (¬ (o35 = true)))) : Option (Bool))).bind fun x_26 =>
  if x_26 = true then
  some (.inr false)
  else
  some (.inl ())) : Option (Unit ⊕ Bool))).bind fun o => match o with
  | .inl _ =>
  some (.inl (w64 (x_11 + 1)))
  | .inr x_38 =>
  some (.inr (.inr x_38))
  else
  some (.inr (.inl ())) : Int -> Option (Int ⊕ (Unit ⊕ Bool)))) (by exact go)
instance i24 {db : Database} {query : Query} {derivation : (List DerivationStep)} : Rn cx (f24 db query derivation) 24 [(.agg [(ssl eRelation db.Relations), (ssl eFact db.Facts)]), (.agg [(iT query.VariableCount), (ssl eAtom query.Atoms), (ssl eI query.Free)]), (ssl eDerivationStep derivation)] (fun (r : Bool) => (.bool r)) (fun r => []) := Rn.o (e := (
  (f45 db query).bind fun o1 =>
  (jn (QN (fun (y : Bool) => [(2, .v (ssl eDerivationStep derivation)), (3, .v (.ptr true [(ssl eRelation db.Relations), (ssl eFact db.Facts)])), (4, .v (.ptr true [(iT query.VariableCount), (ssl eAtom query.Atoms), (ssl eI query.Free)])), (19, .v (.bool y))])) ((if ¬ (o1 = true) then
  some true
  else
  some (decide ((derivation.length : Int) = 0))) : Option (Bool))).bind fun x_3 =>
  if x_3 = true then
  some false
  else
  (f55 db query).bind fun o7 =>
  (f56 db).bind fun o9 =>
  (iter (f24_0 db derivation o7 o9) 0).bind fun o => match o with
  | .inl _ =>
  (ix derivation (w64 ((derivation.length : Int) - 1))).bind fun v_42 =>
  some (decide ((v_42.Facts.length : Int) = 0))
  | .inr x_41 =>
  some x_41 : Option Bool)) rfl (by exact go)
instance : Io0 cx 24 := ⟨rfl⟩
instance i64_0 {blocks : (List (List Int))} {l : (List DerivationStep)} {i : Int} {v_1 : DerivationStep} {v_12 : (List Int)} : Lp cx (lw (blocks, v_1, v_12) (f64_0 l i)) 92 L64_0 (fun (zs : (List (List Int)) × Int) => [(3, .v (ssl eDerivationStep l)), (4, .v (iT i)), (11, .v (ssl eI v_1.Facts)), (12, .v (ssl eI v_12)), (13, .v (osl (eL eI) false zs.1)), (14, .v (iT zs.2)), (16, .v (ssl eDerivationStep l)), (17, .v (iT i)), (44, .v (ssl (eL eI) blocks)), (49, .v (iT v_1.Block))]) (QX 0 (fun (y : (List (List Int))) => [(11, .v (ssl eI v_1.Facts)), (12, .v (ssl eI v_12)), (13, .v (osl (eL eI) false y)), (16, .v (ssl eDerivationStep l)), (17, .v (iT i)), (44, .v (ssl (eL eI) blocks)), (49, .v (iT v_1.Block))])) := Lp.of (by unfold lw f64_0; exact go)
instance i64_1 {blocks : (List (List Int))} {l : (List DerivationStep)} {i : Int} {v_1 : DerivationStep} {v_12 : (List Int)} {sets_23 : (List (List Int))} : Lp cx (lw (blocks, l, i) (f64_1 v_1 v_12 sets_23)) 92 L64_1 (fun (zs : Int) => [(11, .v (ssl eI v_1.Facts)), (12, .v (ssl eI v_12)), (13, .v (osl (eL eI) false sets_23)), (15, .v (iT zs)), (16, .v (ssl eDerivationStep l)), (17, .v (iT i)), (44, .v (ssl (eL eI) blocks)), (49, .v (iT v_1.Block))]) (QO (QX 2 (fun (y : Unit) => [])) (QR (fun (y : Bool) => [(10, .v (.bool y))]))) := Lp.of (f := (fun
 | k_24 =>
  if k_24 < (v_12.length : Int) then
  (ix v_12 k_24).bind fun v_26 =>
  (f42 v_1.Facts v_26).bind fun o28 =>
  (jn (QN (fun (y : Bool) => [(11, .v (ssl eI v_1.Facts)), (12, .v (ssl eI v_12)), (13, .v (osl (eL eI) false sets_23)), (15, .v (iT k_24)), (16, .v (ssl eDerivationStep l)), (17, .v (iT i)), (44, .v (ssl (eL eI) blocks)), (49, .v (iT v_1.Block)), (91, .v (.bool y))])) ((if o28 = true then
  some true
  else
  (app 8 ([]) v_1.Facts).bind fun l_33 =>
  (app 8 l_33 ([v_26])).bind fun l_35 =>
  sn 0 88 (osl eI true l_35) <| 
  (f115 sets_23 l_35).bind fun o37 =>
  some (decide (¬ (o37 = true)))) : Option (Bool))).bind fun x_30 =>
  if x_30 = true then
  some (.inr (.inr false))
  else
  some (.inl (w64 (k_24 + 1)))
  else
  some (.inr (.inl ())) : Int -> Option (Int ⊕ (Unit ⊕ Bool)))) (by exact go)
instance i64 {d : Database} {need : (List (List Int))} {blocks : (List (List Int))} {l : (List DerivationStep)} {i : Int} : Rn cx (f64 d need blocks l i) 64 [(.agg [(ssl eRelation d.Relations), (ssl eFact d.Facts)]), (ssl (eL eI) need), (ssl (eL eI) blocks), (ssl eDerivationStep l), (iT i)] (fun (r : Bool) => (.bool r)) (fun r => []) := Rn.o (e := (
  (ix l i).bind fun v_1 =>
  (f114 d v_1.Facts).bind fun o3 =>
  if ¬ (o3 = true) then
  some false
  else
  if v_1.Block = (-1) then
  (f115 need v_1.Facts).bind fun o7 =>
  some o7
  else
  (f87 v_1.Block 0 (w64 ((blocks.length : Int) - 1))).bind fun o9 =>
  if ¬ (o9 = true) then
  some false
  else
  (ix blocks v_1.Block).bind fun v_12 =>
  sn 11 13 (osl (eL eI) false ([])) <| 
  (iter (lw (blocks, v_1, v_12)  (f64_0 l i)) ([], 0)).bind fun sets_23 =>
  (iter (lw (blocks, l, i)  (f64_1 v_1 v_12 sets_23)) 0).bind fun o => match o with
  | .inl _ =>
  some true
  | .inr x_42 =>
  some x_42 : Option Bool)) rfl (by exact go)
instance : Io0 cx 64 := ⟨rfl⟩
instance i25_0 {d : Database} {l : (List DerivationStep)} {o12 : (List (List Int))} {o14 : (List (List Int))} : Lp cx (f25_0 d l o12 o14) 48 L25_0 (fun (zs : Int) => [(2, .v (ssl eDerivationStep l)), (3, .v (.ptr true [(ssl eRelation d.Relations), (ssl eFact d.Facts)])), (7, .v (osl (eL eI) false o12)), (8, .v (osl (eL eI) true o14)), (9, .v (iT zs))]) (QO (QX 0 (fun (y : Unit) => [])) (QR (fun (y : Bool) => [(6, .v (.bool y))]))) := Lp.of (by unfold f25_0; exact go)
instance i25 {d : Database} {q : Query} {l : (List DerivationStep)} : Rn cx (f25 d q l) 25 [(.agg [(ssl eRelation d.Relations), (ssl eFact d.Facts)]), (.agg [(iT q.VariableCount), (ssl eAtom q.Atoms), (ssl eI q.Free)]), (ssl eDerivationStep l)] (fun (r : Bool) => (.bool r)) (fun r => []) := Rn.o (e := (
  (f18 d q).bind fun o1 =>
  (jn (QN (fun (y : Bool) => [(2, .v (ssl eDerivationStep l)), (3, .v (.ptr true [(ssl eRelation d.Relations), (ssl eFact d.Facts)])), (4, .v (.ptr true [(iT q.VariableCount), (ssl eAtom q.Atoms), (ssl eI q.Free)])), (29, .v (.bool y))])) ((if ¬ (o1 = true) then
  some true
  else
  (jn (QN (fun (y : Bool) => [(2, .v (ssl eDerivationStep l)), (3, .v (.ptr true [(ssl eRelation d.Relations), (ssl eFact d.Facts)])), (4, .v (.ptr true [(iT q.VariableCount), (ssl eAtom q.Atoms), (ssl eI q.Free)])), (29, .v (.bool y))])) ((if (l.length : Int) = 0 then
  some true
  else
  (ix l (w64 ((l.length : Int) - 1))).bind fun v_9 =>
  some (decide ((v_9.Facts.length : Int) > 0))) : Option (Bool))).bind fun x_6 =>
  some x_6) : Option (Bool))).bind fun x_3 =>
  if x_3 = true then
  some false
  else
  (f62 d q).bind fun o12 =>
  (f63 d).bind fun o14 =>
  (iter (f25_0 d l o12 o14) 0).bind fun o => match o with
  | .inl _ =>
  some true
  | .inr x_23 =>
  some x_23 : Option Bool)) rfl (by exact go)
instance : Io0 cx 25 := ⟨rfl⟩
instance i9 {q : Query} : Rn cx (f9 q) 9 [(.agg [(iT q.VariableCount), (ssl eAtom q.Atoms), (ssl eI q.Free)])] (fun (r : Query) => (.agg [(iT r.VariableCount), (ssl eAtom r.Atoms), (ssl eI r.Free)])) (fun r => []) := Rn.o (e := (
  sn 2 2 (.ptr true [(iT 0), (osl eAtom true ([])), (osl eI true ([]))]) <| 
  sn 3 4 (.agg [(iT q.VariableCount), (ssl eAtom q.Atoms), (osl eI true ([]))]) <| 
  some ({ VariableCount := q.VariableCount, Atoms := q.Atoms, Free := [] } : Query) : Option Query)) rfl (by exact go)
instance : Io0 cx 9 := ⟨rfl⟩
instance i97_0 {list : (List (List Int))} : Lp cx (f97_0 list) 18 L97_0 (fun (zs : Int × Int) => [(3, .v (iT zs.1)), (6, .v (ssl (eL eI) list)), (7, .v (iT (list.length : Int))), (8, .v (iT zs.2))]) (QX 0 (fun (y : Int) => [(3, .v (iT y))])) := Lp.of (by unfold f97_0; exact go)
instance i97 {list : (List (List Int))} : Rn cx (f97 list) 97 [(ssl (eL eI) list)] (fun (r : Int) => (iT r)) (fun r => []) := Rn.o rfl (by unfold f97; exact go)
instance : Io0 cx 97 := ⟨rfl⟩
instance i98_0 {list : (List (List Int))} : Lp cx (f98_0 list) 41 L98_0 (fun (zs : Int × (List Int) × Int) => [(0, .v (ssl (eL eI) list)), (1, .v (iT zs.1)), (5, .v (osl eI true zs.2.1)), (6, .v (iT zs.2.2))]) (QX 0 (fun (y : (List Int)) => [(5, .v (osl eI true y))])) := Lp.of (by unfold f98_0; exact go)
instance i98 {list : (List (List Int))} {rank : Int} : Rn cx (f98 list rank) 98 [(ssl (eL eI) list), (iT rank)] (fun (r : (List Int)) => (osl eI true r)) (fun r => []) := Rn.o (e := (
  (mkl 8 (list.length : Int) 0).bind fun l_1 =>
  sn 5 5 (osl eI true l_1) <| 
  (iter (f98_0 list) (rank, l_1, w64 ((list.length : Int) - 1))).bind fun out_20 =>
  some out_20 : Option (List Int))) rfl (by exact go)
instance : Io0 cx 98 := ⟨rfl⟩
instance i100 {w : (List Int)} {c : (List Int)} : Rn cx (f100 w c) 100 [(ssl eI w), (.ptr false [(ssl eI c)])] (fun (r : Bool) => (.bool r)) (fun r => []) := Rn.o rfl (by unfold f100; exact go)
instance : Io0 cx 100 := ⟨rfl⟩
instance i52_0 {holds : Bool} {o4 : (List (List Int))} {o6 : (List (List Int))} {o8 : Int} : Lp cx (f52_0 holds o4 o6 o8) 45 L52_0 (fun (zs : (List Int) × Int × Int) => [(2, .v (.bool holds)), (9, .v (osl (eL eI) true o4)), (10, .v (osl (eL eI) true o6)), (11, .v (ssl eI zs.1)), (12, .v (iT zs.2.1)), (25, .v (iT o8)), (26, .v (iT zs.2.2))]) (QX 0 (fun (y : (List Int) × Int) => [(11, .v (ssl eI y.1)), (12, .v (iT y.2))])) := Lp.of (f := (fun
 | (first_10, count_11, x_12) =>
  if x_12 < o8 then
  (jb 1 (QN (fun (y : (List Int) × Int × (List Int)) => [(2, .v (.bool holds)), (9, .v (osl (eL eI) true o4)), (10, .v (osl (eL eI) true o6)), (11, .v (ssl eI y.1)), (12, .v (iT y.2.1)), (14, .v (.ptr false [(ssl eI y.2.2)])), (25, .v (iT o8)), (26, .v (iT x_12))])) (((f98 o6 x_12).bind fun o16 =>
  sn 2 14 (.ptr false [(ssl eI o16)]) <| 
  (f99 o4 (fun x0 => f100 x0 o16)).bind fun o18 =>
  if (o18 != holds) = true then
  some (first_10, count_11, o16)
  else
  (jn (QN (fun (y : (List Int)) => [(2, .v (.bool holds)), (9, .v (osl (eL eI) true o4)), (10, .v (osl (eL eI) true o6)), (11, .v (ssl eI y)), (12, .v (iT count_11)), (14, .v (.ptr false [(ssl eI o16)])), (25, .v (iT o8)), (26, .v (iT x_12))])) ((if count_11 = 0 then
  some o16
  else
  some first_10) : Option (List Int))).bind fun first_24 =>
  some (first_24, w64 (count_11 + 1), o16)) : Option ((List Int) × Int × (List Int)))).bind fun (first_25, count_26, repair_27) =>
  some (.inl (first_25, count_26, w64 (x_12 + 1)))
  else
  some (.inr (first_10, count_11)) : (List Int) × Int × Int -> Option (((List Int) × Int × Int) ⊕ ((List Int) × Int)))) (by exact go)
instance i52 {db : Database} {query : Query} {holds : Bool} : Rn cx (f52 db query holds) 52 [(.agg [(ssl eRelation db.Relations), (ssl eFact db.Facts)]), (.agg [(iT query.VariableCount), (ssl eAtom query.Atoms), (ssl eI query.Free)]), (.bool holds)] (fun (r : (List Int) × Int × Bool) => (.tup [(ssl eI r.1), (iT r.2.1), (.bool r.2.2)])) (fun r => []) := Rn.o (e := (
  (f45 db query).bind fun o1 =>
  if ¬ (o1 = true) then
  sn 3 6 (osl eI true ([])) <| 
  some ([], 0, false)
  else
  (f55 db query).bind fun o4 =>
  (f56 db).bind fun o6 =>
  sn 3 11 (osl eI true ([])) <| 
  (f97 o6).bind fun o8 =>
  (iter (f52_0 holds o4 o6 o8) ([], 0, 0)).bind fun (first_30, count_31) =>
  some (first_30, count_31, true) : Option ((List Int) × Int × Bool))) rfl (by exact go)
instance : Io0 cx 52 := ⟨rfl⟩
instance i22 {db : Database} {query : Query} : Rn cx (f22 db query) 22 [(.agg [(ssl eRelation db.Relations), (ssl eFact db.Facts)]), (.agg [(iT query.VariableCount), (ssl eAtom query.Atoms), (ssl eI query.Free)])] (fun (r : Bool) => (.bool r)) (fun r => []) := Rn.o (e := (
  (f52 db query false).bind fun o1 =>
  (jn (QN (fun (y : Bool) => [(4, .v (.bool y))])) ((if o1.2.2 = true then
  some (decide (o1.2.1 = 0))
  else
  some false) : Option (Bool))).bind fun x_3 =>
  some x_3 : Option Bool)) rfl (by exact go)
instance : Io0 cx 22 := ⟨rfl⟩
instance i4 {code : (List Int)} : Rn cx (f4 code) 4 [(ssl eU code)] (fun (r : Bool) => (.bool r)) (fun r => []) := Rn.o (e := (
  (f7 code).bind fun o1 =>
  if o1 = true then
  some true
  else
  (f23 code).bind fun o4 =>
  (f24 o4.1 o4.2.1 o4.2.2).bind fun o6 =>
  (f25 o4.1 o4.2.1 o4.2.2).bind fun o8 =>
  (jn (QN (fun (y : Bool) => [(2, .v (.bool y))])) ((if (o6 == o8) = true then
  (jn (QN (fun (y : Bool) => [(2, .v (.bool y))])) ((if ¬ (o6 = true) then
  some true
  else
  (f9 o4.2.1).bind fun o16 =>
  (f22 o4.1 o16).bind fun o18 =>
  some o18) : Option (Bool))).bind fun x_13 =>
  some x_13
  else
  some false) : Option (Bool))).bind fun x_10 =>
  some x_10 : Option Bool)) rfl (by exact go)
instance : Io0 cx 4 := ⟨rfl⟩
end
end Go.Proofs.YtjmemfggbhkofaaGreatH
