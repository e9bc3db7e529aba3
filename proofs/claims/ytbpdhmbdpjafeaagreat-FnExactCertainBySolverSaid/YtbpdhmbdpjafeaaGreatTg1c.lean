import Derived.Test.YtbpdhmbdpjafeaaGreatTg1b
set_option maxHeartbeats 2000000
set_option linter.unusedVariables false
set_option linter.unusedSimpArgs false
set_option linter.defProp false
set_option linter.unusedSectionVars false
set_option maxRecDepth 100000
namespace Go.Proofs.YtbpdhmbdpjafeaaGreatH
open Go
noncomputable section
variable {clauses o26 o4 o9 slices : (List (List Int))} {m model : (List Bool)} {a b c clause facts from2 indices l literals s0 s1 s2 set1 terms : (List Int)} {relations : (List Relation)} {atom v_19 : Atom} {d db : Database} {f : Fact} {high i i_17 k left low n n0 n1 sign v x y : Int} {q query : Query}
instance i135_0 : Lp cx f135_0 48 L135_0 (fun (zs : (List Int) × Int) => [(7, .v (.sl true false 1 0 (arr eI true zs.1))), (8, .v (iT zs.2))]) (QX 0 (fun (y : (List Int)) => [(7, .v (.sl true false 1 0 (arr eI true y)))])) := Lp.of (f := (fun
 | (newslice_14, n_15) =>
  if n_15 < (newslice_14.length : Int) then
  (cutL newslice_14 0 n_15).bind fun z_17 =>
  cs 3 <| 
  some (.inl ((csL newslice_14 n_15.toNat), w64 (n_15 + (min n_15 ((newslice_14.length : Int) - n_15)))))
  else
  some (.inr newslice_14) : (List Int) × Int -> Option (((List Int) × Int) ⊕ (List Int)))) (by exact go)
instance i135 {x : (List Int)} {count : Int} : Rn cx (f135 x count) 135 [(ssl eI x), (iT count)] (fun (r : (List Int)) => (osl eI true r)) (fun r => []) := Rn.o (e := (
  (jn (QN (fun (y : Unit) => [(0, .v (ssl eI x)), (1, .v (iT count))])) ((if count < 0 then
  none
  else
  some ()) : Option Unit)).bind fun _ =>
  (f151 (IntKind.u64.wrap (x.length : Int)) (IntKind.u64.wrap count)).bind fun o4 =>
  (jn (QN (fun (y : Bool) => [(0, .v (ssl eI x)), (6, .v (.int .u64 o4.2)), (26, .v (.bool y))])) ((if o4.1 > 0 then
  some true
  else
  some (decide (o4.2 > 9223372036854775807))) : Option (Bool))).bind fun x_6 =>
  (jn (QN (fun (y : Unit) => [(0, .v (ssl eI x)), (6, .v (.int .u64 o4.2))])) ((if x_6 = true then
  none
  else
  some ()) : Option Unit)).bind fun _ =>
  (mkl 8 (w64 o4.2) 0).bind fun l_12 =>
  cp 6 <| 
  (iter f135_0 ((cpL l_12 x), ((min x.length l_12.length : Nat) : Int))).bind fun newslice_21 =>
  sn 2 4 (osl eI true newslice_21) <| 
  some newslice_21 : Option (List Int))) rfl (by exact go)
instance : Io0 cx 135 := ⟨rfl⟩
instance i113 : Rn cx (f113 n0) 113 [(iT n0)] (fun (r : (List Int)) => (osl eI true r)) (fun r => []) := Rn.o (e := (
  sn 3 3 (osl eI true ([-1])) <| 
  (f135 ([-1]) n0).bind fun o1 =>
  some o1 : Option (List Int))) rfl (by exact go)
instance : Io0 cx 113 := ⟨rfl⟩
theorem r99 {s0 : (List Int)} {r : (List Int)} (h : f99 s0 = some r) : VJx cx (.ca 99 [(ssl eI s0)] (osl eI true r) []) := by
 unfold f99 at h
 refine ca_clone (X := noExt) (fun _ _ _ _ h => h) (fun _ _ _ _ h => h) rfl (by decide) rfl (cl_eq h) ?_
 refine Wc.start (V1 := [(0, .v (ssl eI s0))]) (by simp) ?_
 refine Wc.seq ?_
 obtain ⟨l_1, h2, h⟩ := bind_some h
 have gx2 := appT_arr2 (E := eI) (b := true) (b' := false) (y := false) h2 (by decide) (arr_sc rfl _)
 simp [-aI_app1, -aI_app0, -aB_app0, -aS_app0, -aL_app0, -aLt_app1I, -aLf_app1I, -aLt_app10I, -aLf_app10I] at gx2
 refine Wc.evs (by conv => lhs; simp [-aI_app1, -aI_app0, -aB_app0, -aS_app0, -aL_app0, -aI_app10, -aB_app10, -aS_app10, -aLt_app10I, -aLf_app10I, -aLt_app1I, -aLf_app1I, gx2]) ?_
 refine Wo.gh (vle_co (s := 2) (t1 := (osl eI true l_1)) rfl (by simp) (tle_own rfl) (by conv => lhs; simp)) ?_
 refine Wo.nil ?_
 refine Wc.ret (res_of (.inr rfl) ?_)
 cases h
 exact ⟨_, _, _, by conv => lhs; simp, by (conv => lhs; simp [cx, ioTab, List.range, List.range.loop]) <;> rfl, by first | rfl | simp [-aI_app1, -aI_app0, -aB_app0, -aS_app0, -aL_app0, -aI_app10, -aB_app10, -aS_app10, -aLt_app10I, -aLf_app10I, -aLt_app1I, -aLf_app1I, gx2]⟩
instance i99 : Rn cx (f99 s0) 99 [(ssl eI s0)] (fun (r : (List Int)) => (osl eI true r)) (fun r => []) := ⟨fun _ h => r99 h⟩
instance : Io0 cx 99 := ⟨rfl⟩
instance i133 {t : Int} : Rn cx (f133 t) 133 [(iT t)] (fun (r : Bool) => (.bool r)) (fun r => []) := Rn.o rfl (by unfold f133; exact go)
instance : Io0 cx 133 := ⟨rfl⟩
instance i134 : Rn cx (f134 v) 134 [(iT v)] (fun (r : Int) => (iT r)) (fun r => []) := Rn.o rfl (by unfold f134; exact go)
instance : Io0 cx 134 := ⟨rfl⟩
instance i112_0 : Lp cx (f112_0 terms from2) 56 L112_0 (fun (zs : (List Int) × Int) => [(2, .v (ssl eI from2)), (8, .v (osl eI true zs.1)), (13, .v (ssl eI terms)), (14, .v (iT (terms.length : Int))), (15, .v (iT zs.2))]) (QO (QX 0 (fun (y : (List Int)) => [(8, .v (osl eI true y))])) (QR (fun (y : (List Int) × Bool) => [(6, .v (osl eI true y.1)), (7, .v (.bool y.2))]))) := Lp.of (f := (fun
 | (out_3, x_4) =>
  if x_4 < (terms.length : Int) then
  (ix terms x_4).bind fun v_6 =>
  (f133 v_6).bind fun o8 =>
  (jn (QO (QN (fun (y : (List Int)) => [(2, .v (ssl eI from2)), (8, .v (osl eI true y)), (13, .v (ssl eI terms)), (14, .v (iT (terms.length : Int))), (15, .v (iT x_4))])) (QR (fun (y : (List Int) × Bool) => [(6, .v (osl eI true y.1)), (7, .v (.bool y.2))]))) ((if ¬ (o8 = true) then
  (ix from2 x_4).bind fun v_13 =>
  (f134 v_6).bind fun o15 =>
  if o15 ≠ v_13 then
  sn 2 6 (osl eI true ([])) <| 
  some (.inr ([], false))
  else
  some (.inl out_3)
  else
  (ix out_3 v_6).bind fun v_18 =>
  (jn (QO (QN (fun (y : (List Int)) => [(2, .v (ssl eI from2)), (8, .v (osl eI true y)), (13, .v (ssl eI terms)), (14, .v (iT (terms.length : Int))), (15, .v (iT x_4))])) (QR (fun (y : (List Int) × Bool) => [(6, .v (osl eI true y.1)), (7, .v (.bool y.2))]))) ((if v_18 < 0 then
  (ix from2 x_4).bind fun v_23 =>
  some (.inl (out_3.set v_6.toNat v_23))
  else
  (ix from2 x_4).bind fun v_26 =>
  if v_18 ≠ v_26 then
  sn 2 6 (osl eI true ([])) <| 
  some (.inr ([], false))
  else
  some (.inl out_3)) : Option ((List Int) ⊕ ((List Int) × Bool)))).bind fun o => match o with
  | .inl out_29 =>
  some (.inl out_29)
  | .inr (x_30, x_31) =>
  some (.inr (x_30, x_31))) : Option ((List Int) ⊕ ((List Int) × Bool)))).bind fun o => match o with
  | .inl out_32 =>
  some (.inl (out_32, w64 (x_4 + 1)))
  | .inr (x_33, x_34) =>
  some (.inr (.inr (x_33, x_34)))
  else
  some (.inr (.inl out_3)) : (List Int) × Int -> Option (((List Int) × Int) ⊕ ((List Int) ⊕ ((List Int) × Bool))))) (by exact go)
instance i112 {values : (List Int)} : Rn cx (f112 values terms from2) 112 [(ssl eI values), (ssl eI terms), (ssl eI from2)] (fun (r : (List Int) × Bool) => (.tup [(osl eI true r.1), (.bool r.2)])) (fun r => []) := Rn.o rfl (by unfold f112; exact go)
instance : Io0 cx 112 := ⟨rfl⟩
instance i111_0 {a2 : AV} {a3 : AV} {a4 : AV} {a5 : AV} {values : (List Int)} {facts : (List Int)} {c : Query} {c4 : Database} {v_8 : Atom} {rec : (List Int) -> (List Int) -> Query -> (List Embedding) -> Database -> Option (List Embedding)} [hrec : ∀ values facts c c3 c4, Rn cx (ag (a2, a3, a4, a5) <| rec values facts c c3 c4) 111 [(ssl eI values), (ssl eI facts), (.at a2 (.ptr false [(iT c.VariableCount), (ssl eAtom c.Atoms), (ssl eI c.Free)])), (.at a3 (.ptr true [(osl eEmbedding true c3)])), (.at a4 (.ptr false [(ssl eRelation c4.Relations), (ssl eFact c4.Facts)])), (.at a5 (.ptr false [(.at (.fn 111 [a2, a3, a4, a5]) .und)]))] (fun o => (.tup [])) (fun o => [(.at a3 (.ptr true [(osl eEmbedding true o)]))])] : Lp cx (lw (a2, a3, a4, a5) (f111_0 values facts c c4 rec v_8)) 65 L111_0 (fun (zs : (List Embedding) × Int) => [(0, .v (ssl eI values)), (1, .v (ssl eI facts)), (2, .v (.at a2 (.ptr false [(iT c.VariableCount), (ssl eAtom c.Atoms), (ssl eI c.Free)]))), (3, .v (.at a3 (.ptr true [(osl eEmbedding true zs.1)]))), (4, .v (.at a4 (.ptr false [(ssl eRelation c4.Relations), (ssl eFact c4.Facts)]))), (5, .v (.at a5 (.ptr false [(.at (.fn 111 [a2, a3, a4, a5]) .und)]))), (8, .v (.ptr true [(iT v_8.Relation), (ssl eI v_8.Terms)])), (34, .v (ssl eFact c4.Facts)), (35, .v (iT (c4.Facts.length : Int))), (36, .v (iT zs.2))]) (QX 0 (fun (y : (List Embedding)) => [(3, .v (.at a3 (.ptr true [(osl eEmbedding true y)])))])) := Lp.of (f := (fun
 | (x_10, x_11) =>
  if x_11 < (c4.Facts.length : Int) then
  (jb 1 (QN (fun (y : (List Embedding)) => [(0, .v (ssl eI values)), (1, .v (ssl eI facts)), (2, .v (.at a2 (.ptr false [(iT c.VariableCount), (ssl eAtom c.Atoms), (ssl eI c.Free)]))), (3, .v (.at a3 (.ptr true [(osl eEmbedding true y)]))), (4, .v (.at a4 (.ptr false [(ssl eRelation c4.Relations), (ssl eFact c4.Facts)]))), (5, .v (.at a5 (.ptr false [(.at (.fn 111 [a2, a3, a4, a5]) .und)]))), (8, .v (.ptr true [(iT v_8.Relation), (ssl eI v_8.Terms)])), (34, .v (ssl eFact c4.Facts)), (35, .v (iT (c4.Facts.length : Int))), (36, .v (iT x_11))])) (((ix c4.Facts x_11).bind fun v_15 =>
  if v_15.Relation ≠ v_8.Relation then
  some x_10
  else
  (f112 values v_8.Terms v_15.Values).bind fun o18 =>
  (jn (QN (fun (y : (List Embedding)) => [(0, .v (ssl eI values)), (1, .v (ssl eI facts)), (2, .v (.at a2 (.ptr false [(iT c.VariableCount), (ssl eAtom c.Atoms), (ssl eI c.Free)]))), (3, .v (.at a3 (.ptr true [(osl eEmbedding true y)]))), (4, .v (.at a4 (.ptr false [(ssl eRelation c4.Relations), (ssl eFact c4.Facts)]))), (5, .v (.at a5 (.ptr false [(.at (.fn 111 [a2, a3, a4, a5]) .und)]))), (8, .v (.ptr true [(iT v_8.Relation), (ssl eI v_8.Terms)])), (34, .v (ssl eFact c4.Facts)), (35, .v (iT (c4.Facts.length : Int))), (36, .v (iT x_11))])) ((if o18.2 = true then
  sn 5 61 (osl eI true ([x_11])) <| 
  (f99 facts).bind fun o23 =>
  (app 8 o23 ([x_11])).bind fun l_25 =>
  (ca [2, 3, 4, 5] <| ag (a2, a3, a4, a5) (rec o18.1 l_25 c x_10 c4)).bind fun o27 =>
  some o27
  else
  some x_10) : Option (List Embedding))).bind fun x_29 =>
  some x_29) : Option (List Embedding))).bind fun x_30 =>
  some (.inl (x_30, w64 (x_11 + 1)))
  else
  some (.inr x_10) : (List Embedding) × Int -> Option (((List Embedding) × Int) ⊕ (List Embedding)))) (by exact go)
instance i111 : ∀ (n : Nat) values facts c c3 c4 (a2 a3 a4 a5 : AV), Rn cx (ag (a2, a3, a4, a5) (f111 n values facts c c3 c4)) 111 [(ssl eI values), (ssl eI facts), (.at a2 (.ptr false [(iT c.VariableCount), (ssl eAtom c.Atoms), (ssl eI c.Free)])), (.at a3 (.ptr true [(osl eEmbedding true c3)])), (.at a4 (.ptr false [(ssl eRelation c4.Relations), (ssl eFact c4.Facts)])), (.at a5 (.ptr false [(.at (.fn 111 [a2, a3, a4, a5]) .und)]))] (fun (r : (List Embedding)) => (.tup [])) (fun r => [(.at a3 (.ptr true [(osl eEmbedding true r)]))]) := by
 intro n
 induction n with
 | zero => intro values facts c c3 c4 a2 a3 a4 a5; exact ⟨fun r h => by simp [ag, f111] at h⟩
 | succ n ih =>
  intro values facts c c3 c4 a2 a3 a4 a5
  refine Rn.of (e := (
   if (facts.length : Int) = (c.Atoms.length : Int) then
   (f99 values).bind fun o2 =>
   (f99 facts).bind fun o4 =>
   (app 48 c3 ([({ Values := o2, Facts := o4 } : Embedding)])).bind fun l_6 =>
   some l_6
   else
   (ix c.Atoms (facts.length : Int)).bind fun v_8 =>
   (iter (lw (a2, a3, a4, a5)  (f111_0 values facts c c4 (f111 n) v_8)) (c3, 0)).bind fun x_33 =>
   some x_33 : Option (List Embedding))) rfl rfl (by decide) rfl ?_
  exact go
instance i85 : Rn cx (f85 db query) 85 [(.agg [(ssl eRelation db.Relations), (ssl eFact db.Facts)]), (.agg [(iT query.VariableCount), (ssl eAtom query.Atoms), (ssl eI query.Free)])] (fun (r : (List Embedding)) => (osl eEmbedding true r)) (fun r => []) := Rn.o (e := (
  sn 5 7 (osl eEmbedding true ([])) <| 
  (f34 db query).bind fun o1 =>
  if ¬ (o1 = true) then
  some ([])
  else
  lc 1 6 fun (a5 : AV) => 
  lc 0 3 fun (a2 : AV) => 
  lc 0 5 fun (a3 : AV) => 
  lc 0 2 fun (a4 : AV) => 
  fa 0 [a2, a3, a4, a5] <| 
  (f113 query.VariableCount).bind fun o4 =>
  (ca [3, 5, 2, 6] <| ag (a2, a3, a4, a5) (f111 64 o4 ([] : (List Int)) query ([]) db)).bind fun o6 =>
  some o6 : Option (List Embedding))) rfl (by exact go)
instance : Io0 cx 85 := ⟨rfl⟩
instance i61_0 {o11 : (List Embedding)} : Lp cx (f61_0 o11) 27 L61_0 (fun (zs : (List (List Int)) × Nat × Int) => [(5, .v (osl (eL eI) true zs.1)), (11, .v (.sl true true 2 0 (arrM eEmbedding zs.2.1 o11))), (12, .v (iT (o11.length : Int))), (13, .v (iT zs.2.2))]) (QX 0 (fun (y : (List (List Int))) => [(5, .v (osl (eL eI) true y))])) := Lp.of (f := (fun
 | (out, k, x) =>
  if x < (o11.length : Int) then
  (ml o11 k x).bind fun v =>
  mv 1 <|
  (f86 v.Facts).bind fun s =>
  mf 2 <|
  (app 24 out ([s])).bind fun l =>
  some (.inl (l, k + 1, w64 (x + 1)))
  else
  some (.inr out) : (List (List Int)) × Nat × Int -> Option (((List (List Int)) × Nat × Int) ⊕ (List (List Int))))) (by exact go)
instance i61 : Rn cx (f61 db query) 61 [(.agg [(ssl eRelation db.Relations), (ssl eFact db.Facts)]), (.agg [(iT query.VariableCount), (ssl eAtom query.Atoms), (ssl eI query.Free)])] (fun (r : (List (List Int))) => (osl (eL eI) true r)) (fun r => []) := Rn.o (e := (
  sn 5 5 (osl (eL eI) true ([])) <|
  (f85 db query).bind fun o11 =>
  (iter (f61_0 o11) ([], 0, 0)).bind fun out =>
  some out : Option (List (List Int)))) rfl (by exact go)
instance : Io0 cx 61 := ⟨rfl⟩
instance i33_0 : Lp cx (lw (db, query) (f33_0 o4)) 43 L33_0 (fun (zs : (List (List Int)) × Int) => [(2, .v (.ptr true [(ssl eRelation db.Relations), (ssl eFact db.Facts)])), (3, .v (.ptr true [(iT query.VariableCount), (ssl eAtom query.Atoms), (ssl eI query.Free)])), (5, .v (osl (eL eI) true zs.1)), (16, .v (osl (eL eI) true o4)), (17, .v (iT (o4.length : Int))), (18, .v (iT zs.2))]) (QX 0 (fun (y : (List (List Int))) => [(2, .v (.ptr true [(ssl eRelation db.Relations), (ssl eFact db.Facts)])), (3, .v (.ptr true [(iT query.VariableCount), (ssl eAtom query.Atoms), (ssl eI query.Free)])), (5, .v (osl (eL eI) true y))])) := Lp.of (by unfold lw f33_0; exact go)
instance i33_1 {o18 : (List (List Int))} : Lp cx (f33_1 o18) 43 L33_1 (fun (zs : (List (List Int)) × Int) => [(5, .v (osl (eL eI) true zs.1)), (30, .v (osl (eL eI) true o18)), (31, .v (iT (o18.length : Int))), (32, .v (iT zs.2))]) (QX 2 (fun (y : (List (List Int))) => [(5, .v (osl (eL eI) true y))])) := Lp.of (by unfold f33_1; exact go)
instance i33 : Rn cx (f33 db query) 33 [(.agg [(ssl eRelation db.Relations), (ssl eFact db.Facts)]), (.agg [(iT query.VariableCount), (ssl eAtom query.Atoms), (ssl eI query.Free)])] (fun (r : (List (List Int))) => (osl (eL eI) true r)) (fun r => []) := Rn.o (e := (
  (f34 db query).bind fun o1 =>
  if ¬ (o1 = true) then
  sn 1 4 (osl (eL eI) true ([])) <| 
  some ([])
  else
  sn 2 5 (osl (eL eI) true ([])) <| 
  (f59 db).bind fun o4 =>
  (iter (lw (db, query)  (f33_0 o4)) ([], 0)).bind fun out_17 =>
  (f61 db query).bind fun o18 =>
  (iter (f33_1 o18) (out_17, 0)).bind fun out_31 =>
  some out_31 : Option (List (List Int)))) rfl (by exact go)
instance : Io0 cx 33 := ⟨rfl⟩
instance i150_0 {s0 : (List (List Int))} {g_f : Nat} {cp_f : List T} {f : (List Int) -> Option Bool} [hp_f : ∀ x0, Rn cx (f x0) g_f ((ssl eI x0) :: cp_f) (fun o => (.bool o)) (fun _ => [])] [Io0 cx g_f] : Lp cx (f150_0 s0 f) 19 L150_0 (fun (zs : Int) => [(0, .v (ssl (eL eI) s0)), (1, .v (.fn g_f cp_f)), (7, .v (iT (s0.length : Int))), (8, .v (iT zs))]) (QO (QX 0 (fun (y : Unit) => [])) (QR (fun (y : Int) => [(4, .v (iT y))]))) := Lp.of (by unfold f150_0; exact go)
instance i150 {s0 : (List (List Int))} {g_f : Nat} {cp_f : List T} {f : (List Int) -> Option Bool} [hp_f : ∀ x0, Rn cx (f x0) g_f ((ssl eI x0) :: cp_f) (fun o => (.bool o)) (fun _ => [])] [Io0 cx g_f] : Rn cx (f150 s0 f) 150 [(ssl (eL eI) s0), (.fn g_f cp_f)] (fun (r : Int) => (iT r)) (fun r => []) := Rn.o rfl (by unfold f150; exact go)
instance : Io0 cx 150 := ⟨rfl⟩
instance i123 {s0 : (List (List Int))} {g_f : Nat} {cp_f : List T} {f : (List Int) -> Option Bool} [hp_f : ∀ x0, Rn cx (f x0) g_f ((ssl eI x0) :: cp_f) (fun o => (.bool o)) (fun _ => [])] [Io0 cx g_f] : Rn cx (f123 s0 f) 123 [(ssl (eL eI) s0), (.fn g_f cp_f)] (fun (r : Bool) => (.bool r)) (fun r => []) := Rn.o rfl (by unfold f123; exact go)
instance : Io0 cx 123 := ⟨rfl⟩
instance i100_0 : Lp cx (f100_0 s0 v) 19 L100_0 (fun (zs : Int) => [(0, .v (ssl eI s0)), (1, .v (iT v)), (7, .v (iT (s0.length : Int))), (8, .v (iT zs))]) (QO (QX 0 (fun (y : Unit) => [])) (QR (fun (y : Int) => [(4, .v (iT y))]))) := Lp.of (by unfold f100_0; exact go)
instance i100 : Rn cx (f100 s0 v) 100 [(ssl eI s0), (iT v)] (fun (r : Int) => (iT r)) (fun r => []) := Rn.o rfl (by unfold f100; exact go)
instance : Io0 cx 100 := ⟨rfl⟩
instance i69 : Rn cx (f69 s0 v) 69 [(ssl eI s0), (iT v)] (fun (r : Bool) => (.bool r)) (fun r => []) := Rn.o rfl (by unfold f69; exact go)
instance : Io0 cx 69 := ⟨rfl⟩
instance i125_0 : Lp cx (f125_0 n0 clause) 40 L125_0 (fun (zs : Int) => [(0, .v (iT n0)), (1, .v (ssl eI clause)), (7, .v (ssl eI clause)), (8, .v (iT (clause.length : Int))), (9, .v (iT zs))]) (QO (QX 0 (fun (y : Unit) => [])) (QR (fun (y : Bool) => [(4, .v (.bool y))]))) := Lp.of (f := (fun
 | x_1 =>
  if x_1 < (clause.length : Int) then
  (ix clause x_1).bind fun v_3 =>
  (jn (QN (fun (y : Bool) => [(0, .v (iT n0)), (1, .v (ssl eI clause)), (7, .v (ssl eI clause)), (8, .v (iT (clause.length : Int))), (9, .v (iT x_1)), (38, .v (.bool y))])) ((if v_3 = 0 then
  some true
  else
  (f90 v_3 (w64 (-n0)) n0).bind fun o8 =>
  (jn (QN (fun (y : Bool) => [(0, .v (iT n0)), (1, .v (ssl eI clause)), (7, .v (ssl eI clause)), (8, .v (iT (clause.length : Int))), (9, .v (iT x_1)), (38, .v (.bool y))])) ((if ¬ (o8 = true) then
  some true
  else
  (cutL clause 0 x_1).bind fun l_13 =>
  (f69 l_13 v_3).bind fun o15 =>
  (jn (QN (fun (y : Bool) => [(0, .v (iT n0)), (1, .v (ssl eI clause)), (7, .v (ssl eI clause)), (8, .v (iT (clause.length : Int))), (9, .v (iT x_1)), (38, .v (.bool y))])) ((if o15 = true then
  some true
  else
  (f69 l_13 (w64 (-v_3))).bind fun o20 =>
  some o20) : Option (Bool))).bind fun x_17 =>
  some x_17) : Option (Bool))).bind fun x_10 =>
  some x_10) : Option (Bool))).bind fun x_5 =>
  if x_5 = true then
  some (.inr (.inr false))
  else
  some (.inl (w64 (x_1 + 1)))
  else
  some (.inr (.inl ())) : Int -> Option (Int ⊕ (Unit ⊕ Bool)))) (by exact go)
instance i125 : Rn cx (f125 n0 clause) 125 [(iT n0), (ssl eI clause)] (fun (r : Bool) => (.bool r)) (fun r => []) := Rn.o rfl (by unfold f125; exact go)
instance : Io0 cx 125 := ⟨rfl⟩
instance i124 {c : Int} : Rn cx (f124 clause c) 124 [(ssl eI clause), (.ptr false [(iT c)])] (fun (r : Bool) => (.bool r)) (fun r => []) := Rn.o rfl (by unfold f124; exact go)
instance : Io0 cx 124 := ⟨rfl⟩
instance i95 : Rn cx (f95 n0 clauses) 95 [(iT n0), (ssl (eL eI) clauses)] (fun (r : Bool) => (.bool r)) (fun r => []) := Rn.o (e := (
  (f90 n0 0 14).bind fun o1 =>
  (jn (QN (fun (y : Bool) => [(4, .v (.bool y))])) ((if o1 = true then
  (f123 clauses (fun x0 => f124 x0 n0)).bind fun o6 =>
  some (decide (¬ (o6 = true)))
  else
  some false) : Option (Bool))).bind fun x_3 =>
  some x_3 : Option Bool)) rfl (by exact go)
instance : Io0 cx 95 := ⟨rfl⟩
instance i64 : Rn cx (f64 n0 clauses) 64 [(iT n0), (ssl (eL eI) clauses)] (fun (r : Bool) => (.bool r)) (fun r => []) := Rn.o (e := (
  (jn (QN (fun (y : Bool) => [(4, .v (.bool y))])) ((if (clauses.length : Int) <= 400 then
  (f95 n0 clauses).bind fun o4 =>
  some o4
  else
  some false) : Option (Bool))).bind fun x_1 =>
  some x_1 : Option Bool)) rfl (by exact go)
instance : Io0 cx 64 := ⟨rfl⟩
theorem r130 {n : Int} {r : Nat} (h : f130 n = some r) : VJx cx (.ca 130 [.nils, .int .i64 n] (.sl true true 1 r []) []) := by
 exact ca_grow (zs := [.nils]) (zt := [.nils]) rfl rfl rfl rfl (by decide) (by decide) h
instance i130 : Rn cx (f130 n) 130 [.nils, .int .i64 n] (fun r => .sl true true 1 r []) (fun _ => []) := ⟨fun _ h => r130 h⟩
instance i97_0 {slices : (List (List (List Int)))} : Lp cx (f97_0 slices) 36 L97_0 (fun (zs : Int × Int) => [(0, .v (ssl (eL (eL eI)) slices)), (3, .v (iT zs.1)), (9, .v (ssl (eL (eL eI)) slices)), (10, .v (iT (slices.length : Int))), (11, .v (iT zs.2))]) (QX 0 (fun (y : Int) => [(0, .v (ssl (eL (eL eI)) slices)), (3, .v (iT y))])) := Lp.of (f := (fun
 | (size_1, x_2) =>
  if x_2 < (slices.length : Int) then
  (ix slices x_2).bind fun v_4 =>
  (jn (QN (fun (y : Unit) => [(0, .v (ssl (eL (eL eI)) slices)), (3, .v (iT (w64 (size_1 + (v_4.length : Int))))), (9, .v (ssl (eL (eL eI)) slices)), (10, .v (iT (slices.length : Int))), (11, .v (iT x_2))])) ((if (w64 (size_1 + (v_4.length : Int))) < 0 then
  none
  else
  some ()) : Option Unit)).bind fun _ =>
  some (.inl (w64 (size_1 + (v_4.length : Int)), w64 (x_2 + 1)))
  else
  some (.inr size_1) : Int × Int -> Option ((Int × Int) ⊕ Int))) (by exact go)
instance i97_1 {slices : (List (List (List Int)))} : Lp cx (f97_1 slices) 36 L97_1 (fun (zs : Nat × (List (List Int)) × Int) => [(6, .v (.sl true true 1 zs.1 (arr (eL eI) false zs.2.1))), (25, .v (ssl (eL (eL eI)) slices)), (26, .v (iT (slices.length : Int))), (27, .v (iT zs.2.2))]) (QX 2 (fun (y : Nat × (List (List Int))) => [(6, .v (.sl true true 1 y.1 (arr (eL eI) false y.2)))])) := Lp.of (by unfold f97_1; exact go)
instance i97 {slices : (List (List (List Int)))} : Rn cx (f97 slices) 97 [(ssl (eL (eL eI)) slices)] (fun (r : (List (List Int))) => (osl (eL eI) false r)) (fun r => []) := Rn.o rfl (by unfold f97; exact go)
instance : Io0 cx 97 := ⟨rfl⟩
instance i127 : Rn cx (f127 x c) 127 [(iT x), (.ptr false [(.sl false false 1 0 (arr eI false c))])] (fun (r : Bool) => (.bool r)) (fun r => []) := Rn.o (e := (
  sn 3 4 (ssl eI c) <| 
  (f69 c x).bind fun o1 =>
  some o1 : Option Bool)) rfl (by exact go)
instance : Io0 cx 127 := ⟨rfl⟩
instance i129_0 : Lp cx (f129_0 literals) 20 L129_0 (fun (zs : (List Int) × Int) => [(3, .v (osl eI true zs.1)), (7, .v (ssl eI literals)), (8, .v (iT (literals.length : Int))), (9, .v (iT zs.2))]) (QX 0 (fun (y : (List Int)) => [(3, .v (osl eI true y))])) := Lp.of (by unfold f129_0; exact go)
instance i129 : Rn cx (f129 literals) 129 [(ssl eI literals)] (fun (r : (List Int)) => (osl eI true r)) (fun r => []) := Rn.o (e := (
  sn 3 3 (osl eI true ([])) <| 
  (iter (f129_0 literals) ([], 0)).bind fun out_10 =>
  some out_10 : Option (List Int))) rfl (by exact go)
instance : Io0 cx 129 := ⟨rfl⟩
instance i128_0 : Lp cx (f128_0 a b) 25 L128_0 (fun (zs : (List Int) × Int) => [(1, .v (ssl eI b)), (5, .v (osl eI true zs.1)), (9, .v (ssl eI a)), (10, .v (iT (a.length : Int))), (11, .v (iT zs.2))]) (QX 0 (fun (y : (List Int)) => [(5, .v (osl eI true y))])) := Lp.of (f := (fun
 | (out_1, x_2) =>
  if x_2 < (a.length : Int) then
  (ix a x_2).bind fun v_4 =>
  (f69 b v_4).bind fun o6 =>
  (jn (QN (fun (y : (List Int)) => [(1, .v (ssl eI b)), (5, .v (osl eI true y)), (9, .v (ssl eI a)), (10, .v (iT (a.length : Int))), (11, .v (iT x_2))])) ((if ¬ (o6 = true) then
  (app 8 out_1 ([v_4])).bind fun l_11 =>
  some l_11
  else
  some out_1) : Option (List Int))).bind fun out_13 =>
  some (.inl (out_13, w64 (x_2 + 1)))
  else
  some (.inr out_1) : (List Int) × Int -> Option (((List Int) × Int) ⊕ (List Int)))) (by exact go)
instance i128 : Rn cx (f128 a b) 128 [(ssl eI a), (ssl eI b)] (fun (r : (List Int)) => (osl eI true r)) (fun r => []) := Rn.o (e := (
  sn 3 5 (osl eI true ([])) <| 
  (iter (f128_0 a b) ([], 0)).bind fun out_16 =>
  some out_16 : Option (List Int))) rfl (by exact go)
instance : Io0 cx 128 := ⟨rfl⟩
theorem r96_1 {out_3 : (List Int)} : ∀ zs zo, iter (f96_1 clauses out_3) zs = some zo -> Wc cx 44 (.loop L96_1) [(0, .v (ssl (eL eI) clauses)), (6, .v (.ptr true [(.sl true false 1 0 (arr eI true out_3))])), (7, .v (.bool false)), (14, .v (ssl (eL eI) clauses)), (15, .v (iT (clauses.length : Int))), (16, .v (iT zs))] ((QO (QX 2 (fun (y : (List Int) × Bool) => [(0, .v (ssl (eL eI) clauses)), (6, .v (.ptr true [(.sl true false 1 0 (arr eI true y.1))])), (7, .v (.bool y.2))])) (QR (fun (y : (List Int) × Bool) => [(4, .v (.sl true false 1 0 (arr eI true y.1))), (5, .v (.bool y.2)), (6, .v (.ptr true [.und]))]))) zo) := by
 intro zs0 zo0 zh0
 refine iter_run (f := (f96_1 clauses out_3)) (P := fun zs zo => Wc cx 44 (.loop L96_1) [(0, .v (ssl (eL eI) clauses)), (6, .v (.ptr true [(.sl true false 1 0 (arr eI true out_3))])), (7, .v (.bool false)), (14, .v (ssl (eL eI) clauses)), (15, .v (iT (clauses.length : Int))), (16, .v (iT zs))] ((QO (QX 2 (fun (y : (List Int) × Bool) => [(0, .v (ssl (eL eI) clauses)), (6, .v (.ptr true [(.sl true false 1 0 (arr eI true y.1))])), (7, .v (.bool y.2))])) (QR (fun (y : (List Int) × Bool) => [(4, .v (.sl true false 1 0 (arr eI true y.1))), (5, .v (.bool y.2)), (6, .v (.ptr true [.und]))]))) zo)) ?_ zh0
 rintro x_4 zo zr h hk hx
 try dsimp only at hk ⊢
 rw [f96_1] at h
 refine Wc.loop ?_
 refine Wc.seq ?_
 refine Wc.evs (by conv => lhs; simp [-aI_app1, -aI_app0, -aB_app0, -aS_app0, -aL_app0, -aI_app10, -aB_app10, -aS_app10, -aLt_app10I, -aLf_app10I, -aLt_app1I, -aLf_app1I]) ?_
 refine Wo.nil ?_
 refine Wc.seq ?_
 by_cases kc5 : x_4 < (clauses.length : Int)
 ·rw [if_pos kc5] at h
  refine Wc.condT' (t := _) (by conv => lhs; simp) (by simpa using kc5) ?_
  refine Wc.seq ?_
  refine Wc.kil (by conv => lhs; simp) ?_
  refine Wc.skip ?_
  refine Wc.seq ?_
  obtain ⟨w6, h7, h⟩ := bind_some h
  refine Wc.mono (Q := (QO (QN (fun (y : Unit) => [(0, .v (ssl (eL eI) clauses)), (6, .v (.ptr true [(.sl true false 1 0 (arr eI true out_3))])), (7, .v (.bool false)), (14, .v (ssl (eL eI) clauses)), (15, .v (iT (clauses.length : Int))), (16, .v (iT x_4))])) (QO (QX 2 (fun (y : (List Int) × Bool) => [(0, .v (ssl (eL eI) clauses)), (6, .v (.ptr true [(.sl true false 1 0 (arr eI true y.1))])), (7, .v (.bool y.2))])) (QR (fun (y : (List Int) × Bool) => [(4, .v (.sl true false 1 0 (arr eI true y.1))), (5, .v (.bool y.2)), (6, .v (.ptr true [.und]))])))) w6) ?_ ?_
  ·skip
   refine Wc.block ?_
   refine Wc.seq ?_
   obtain ⟨v_8, h9, h7⟩ := bind_some h7
   obtain ⟨ga9, gb9, gc9⟩ := ix_some h9
   have gn9 := ix_ne h9
   have gd9 := arr_at (E := (eL eI)) (b := false) gc9
   simp at gd9
   refine Wc.evs (by conv => lhs; simp [-aI_app1, -aI_app0, -aB_app0, -aS_app0, -aL_app0, -aI_app10, -aB_app10, -aS_app10, -aLt_app10I, -aLf_app10I, -aLt_app1I, -aLf_app1I, ga9, gb9, gn9, gd9]) ?_
   refine Wo.nil ?_
   refine Wc.seq ?_
   refine Wc.seq ?_
   refine Wc.evs (by conv => lhs; simp [-aI_app1, -aI_app0, -aB_app0, -aS_app0, -aL_app0, -aI_app10, -aB_app10, -aS_app10, -aLt_app10I, -aLf_app10I, -aLt_app1I, -aLf_app1I]) ?_
   obtain ⟨o10, h11, h7⟩ := bind_some h7
   refine Wo.call rfl rfl (by (conv => lhs; simp [-aI_app1, -aI_app0, -aB_app0, -aS_app0, -aL_app0, -aI_app10, -aB_app10, -aS_app10, -aLt_app10I, -aLf_app10I, -aLt_app1I, -aLf_app1I, cx, ioTab]) <;> rfl) (run_ h11) (by simp) (by simp) (by (conv => lhs; simp [-aI_app1, -aI_app0, -aB_app0, -aS_app0, -aL_app0, -aI_app10, -aB_app10, -aS_app10, -aLt_app10I, -aLf_app10I, -aLt_app1I, -aLf_app1I, cx, ioTab]) <;> rfl) (by (conv => lhs; simp [-aI_app1, -aI_app0, -aB_app0, -aS_app0, -aL_app0, -aI_app10, -aB_app10, -aS_app10, -aLt_app10I, -aLf_app10I, -aLt_app1I, -aLf_app1I]) <;> rfl) ?_
   refine Wo.nil ?_
   by_cases kc12 : o10 = true
   ·rw [if_pos kc12] at h7
    refine Wc.condT' (t := _) (by conv => lhs; simp) (by simpa using kc12) ?_
    refine Wc.seq ?_
    refine Wc.kil (by conv => lhs; simp) ?_
    refine Wc.exit ?_
    cases h7
    exact ⟨rfl, by first | rfl | simp [-aI_app1, -aI_app0, -aB_app0, -aS_app0, -aL_app0, -aI_app10, -aB_app10, -aS_app10, -aLt_app10I, -aLf_app10I, -aLt_app1I, -aLf_app1I]⟩
   ·rw [if_neg kc12] at h7
    refine Wc.condF' (t := _) (by conv => lhs; simp) (by simpa using kc12) ?_
    refine Wc.seq ?_
    refine Wc.kil (by conv => lhs; simp) ?_
    refine Wc.skip ?_
    refine Wc.seq ?_
    refine Wc.evs (by conv => lhs; simp [-aI_app1, -aI_app0, -aB_app0, -aS_app0, -aL_app0, -aI_app10, -aB_app10, -aS_app10, -aLt_app10I, -aLf_app10I, -aLt_app1I, -aLf_app1I, ga9, gb9, gn9, gd9]) ?_
    obtain ⟨o13, h14, h7⟩ := bind_some h7
    refine Wo.call rfl rfl (by (conv => lhs; simp [-aI_app1, -aI_app0, -aB_app0, -aS_app0, -aL_app0, -aI_app10, -aB_app10, -aS_app10, -aLt_app10I, -aLf_app10I, -aLt_app1I, -aLf_app1I, ga9, gb9, gn9, gd9, cx, ioTab]) <;> rfl) (VJx.res (run_ h14) (by exact tles_go) (TLe.refl _) (TLes.refl _)) (by simp) (by simp) (by (conv => lhs; simp [-aI_app1, -aI_app0, -aB_app0, -aS_app0, -aL_app0, -aI_app10, -aB_app10, -aS_app10, -aLt_app10I, -aLf_app10I, -aLt_app1I, -aLf_app1I, ga9, gb9, gn9, gd9, cx, ioTab]) <;> rfl) (by (conv => lhs; simp [-aI_app1, -aI_app0, -aB_app0, -aS_app0, -aL_app0, -aI_app10, -aB_app10, -aS_app10, -aLt_app10I, -aLf_app10I, -aLt_app1I, -aLf_app1I, ga9, gb9, gn9, gd9]) <;> rfl) ?_
    obtain ⟨o15, h16, h7⟩ := bind_some h7
    refine Wo.call rfl rfl (by (conv => lhs; simp [-aI_app1, -aI_app0, -aB_app0, -aS_app0, -aL_app0, -aI_app10, -aB_app10, -aS_app10, -aLt_app10I, -aLf_app10I, -aLt_app1I, -aLf_app1I, ga9, gb9, gn9, gd9, cx, ioTab]) <;> rfl) (run_ h16) (by simp) (by simp) (by (conv => lhs; simp [-aI_app1, -aI_app0, -aB_app0, -aS_app0, -aL_app0, -aI_app10, -aB_app10, -aS_app10, -aLt_app10I, -aLf_app10I, -aLt_app1I, -aLf_app1I, ga9, gb9, gn9, gd9, cx, ioTab]) <;> rfl) (by (conv => lhs; simp [-aI_app1, -aI_app0, -aB_app0, -aS_app0, -aL_app0, -aI_app10, -aB_app10, -aS_app10, -aLt_app10I, -aLf_app10I, -aLt_app1I, -aLf_app1I, ga9, gb9, gn9, gd9]) <;> rfl) ?_
    refine Wo.evs (by conv => lhs; simp [-aI_app1, -aI_app0, -aB_app0, -aS_app0, -aL_app0, -aI_app10, -aB_app10, -aS_app10, -aLt_app10I, -aLf_app10I, -aLt_app1I, -aLf_app1I, ga9, gb9, gn9, gd9]) ?_
    refine Wo.nil ?_
    refine Wc.seq ?_
    refine Wc.seq ?_
    refine Wc.evs (by conv => lhs; simp [-aI_app1, -aI_app0, -aB_app0, -aS_app0, -aL_app0, -aI_app10, -aB_app10, -aS_app10, -aLt_app10I, -aLf_app10I, -aLt_app1I, -aLf_app1I]) ?_
    refine Wo.nil ?_
    by_cases kc17 : (o15.length : Int) = 0
    ·rw [if_pos kc17] at h7
     refine Wc.condT' (t := _) (by conv => lhs; simp) (by simpa using kc17) ?_
     refine Wc.seq ?_
     refine Wc.kil (by conv => lhs; simp) ?_
     refine Wc.seq ?_
     refine Wc.evs (by conv => lhs; simp [-aI_app1, -aI_app0, -aB_app0, -aS_app0, -aL_app0, -aI_app10, -aB_app10, -aS_app10, -aLt_app10I, -aLf_app10I, -aLt_app1I, -aLf_app1I, ga9, gb9, gn9, gd9]) ?_
     refine Wo.nil ?_
     refine Wc.gh (vle_take (s := 4) (by simp) (by conv => lhs; simp [-aI_app1, -aI_app0, -aB_app0, -aS_app0, -aL_app0, -aI_app10, -aB_app10, -aS_app10, -aLt_app10I, -aLf_app10I, -aLt_app1I, -aLf_app1I, ga9, gb9, gn9, gd9]) (by conv => lhs; simp)) ?_
     refine Wc.ret ?_
     cases h7
     exact ⟨rfl, by first | rfl | simp [-aI_app1, -aI_app0, -aB_app0, -aS_app0, -aL_app0, -aI_app10, -aB_app10, -aS_app10, -aLt_app10I, -aLf_app10I, -aLt_app1I, -aLf_app1I, ga9, gb9, gn9, gd9]⟩
    ·rw [if_neg kc17] at h7
     refine Wc.condF' (t := _) (by conv => lhs; simp) (by simpa using kc17) ?_
     refine Wc.seq ?_
     refine Wc.kil (by conv => lhs; simp) ?_
     refine Wc.skip ?_
     refine Wc.seq ?_
     refine Wc.evs (by conv => lhs; simp [-aI_app1, -aI_app0, -aB_app0, -aS_app0, -aL_app0, -aI_app10, -aB_app10, -aS_app10, -aLt_app10I, -aLf_app10I, -aLt_app1I, -aLf_app1I]) ?_
     refine Wo.nil ?_
     by_cases kc18 : (o15.length : Int) = 1
     ·rw [if_pos kc18] at h7
      refine Wc.condT' (t := _) (by conv => lhs; simp) (by simpa using kc18) ?_
      refine Wc.seq ?_
      refine Wc.kil (by conv => lhs; simp) ?_
      refine Wc.seq ?_
      obtain ⟨v_19, h20, h7⟩ := bind_some h7
      obtain ⟨ga20, gb20, gc20⟩ := ix_some h20
      have gn20 := ix_ne h20
      have gf20 := arr_fit (E := eI) (b := true) (i := (0 : Int).toNat) (l := o15) (by omega)
      have gg20_0 := arr_get (E := eI) (b := true) (o := 0) gc20 (by decide)
      simp at gf20 gg20_0
      have gl20 : (0 : Int).toNat < o15.length := by omega
      have gk20 : 0 < o15.length := by omega
      obtain ⟨l_21, h22, h7⟩ := bind_some h7
      have gx22 := appT_arr (E := eI) (b := true) (y := false) h22 (by decide)
      simp [-aI_app1, -aI_app0, -aB_app0, -aS_app0, -aL_app0, -aLt_app1I, -aLf_app1I, -aLt_app10I, -aLf_app10I] at gx22
      refine Wc.evs (by conv => lhs; simp [-aI_app1, -aI_app0, -aB_app0, -aS_app0, -aL_app0, -aI_app10, -aB_app10, -aS_app10, -aLt_app10I, -aLf_app10I, -aLt_app1I, -aLf_app1I, -getElem?_pos, List.getElem?_cons_zero, List.getElem?_cons_succ, gb20, gn20, gf20, gg20_0, gl20, gk20, gx22, ga9, gb9, gn9, gd9]) ?_
      refine Wo.nil ?_
      refine Wc.exit ?_
      cases h7
      exact ⟨rfl, by first | rfl | simp [-aI_app1, -aI_app0, -aB_app0, -aS_app0, -aL_app0, -aI_app10, -aB_app10, -aS_app10, -aLt_app10I, -aLf_app10I, -aLt_app1I, -aLf_app1I, -getElem?_pos, List.getElem?_cons_zero, List.getElem?_cons_succ, gb20, gn20, gf20, gg20_0, gl20, gk20, gx22, ga9, gb9, gn9, gd9]⟩
     ·rw [if_neg kc18] at h7
      refine Wc.condF' (t := _) (by conv => lhs; simp) (by simpa using kc18) ?_
      refine Wc.seq ?_
      refine Wc.kil (by conv => lhs; simp) ?_
      refine Wc.skip ?_
      cases h7
      exact ⟨rfl, by first | rfl | simp [-aI_app1, -aI_app0, -aB_app0, -aS_app0, -aL_app0, -aI_app10, -aB_app10, -aS_app10, -aLt_app10I, -aLf_app10I, -aLt_app1I, -aLf_app1I, ga9, gb9, gn9, gd9]⟩
  ·skip
   rcases w6 with ⟨⟩ | ⟨out_23, found_24⟩ | ⟨x_25, x_26⟩
   ·rintro ex V ⟨rfl, rfl⟩
    try dsimp only at h
    refine Wc.evs (by conv => lhs; simp [-aI_app1, -aI_app0, -aB_app0, -aS_app0, -aL_app0, -aI_app10, -aB_app10, -aS_app10, -aLt_app10I, -aLf_app10I, -aLt_app1I, -aLf_app1I]) ?_
    refine Wo.nil ?_
    refine Wc.start (V1 := [(0, .v (ssl (eL eI) clauses)), (6, .v (.ptr true [(.sl true false 1 0 (arr eI true out_3))])), (7, .v (.bool false)), (14, .v (ssl (eL eI) clauses)), (15, .v (iT (clauses.length : Int))), (16, .v (iT (w64 (x_4 + 1))))]) ?_ (hk _ (Option.some.inj h).symm)
    first | rfl | simp [-aI_app1, -aI_app0, -aB_app0, -aS_app0, -aL_app0, -aI_app10, -aB_app10, -aS_app10, -aLt_app10I, -aLf_app10I, -aLt_app1I, -aLf_app1I]
   ·rintro ex V ⟨rfl, rfl⟩
    dsimp only at h ⊢
    have e0 := hx _ (Option.some.inj h).symm
    subst e0
    exact ⟨rfl, by first | rfl | simp [-aI_app1, -aI_app0, -aB_app0, -aS_app0, -aL_app0, -aI_app10, -aB_app10, -aS_app10, -aLt_app10I, -aLf_app10I, -aLt_app1I, -aLf_app1I]⟩
   ·rintro ex V ⟨rfl, rfl⟩
    dsimp only at h ⊢
    have e0 := hx _ (Option.some.inj h).symm
    subst e0
    exact ⟨rfl, by first | rfl | simp [-aI_app1, -aI_app0, -aB_app0, -aS_app0, -aL_app0, -aI_app10, -aB_app10, -aS_app10, -aLt_app10I, -aLf_app10I, -aLt_app1I, -aLf_app1I]⟩
 ·rw [if_neg kc5] at h
  refine Wc.condF' (t := _) (by conv => lhs; simp) (by simpa using kc5) ?_
  refine Wc.seq ?_
  refine Wc.kil (by conv => lhs; simp) ?_
  refine Wc.exit ?_
  have e0 := hx _ (Option.some.inj h).symm
  subst e0
  exact ⟨rfl, by first | rfl | simp [-aI_app1, -aI_app0, -aB_app0, -aS_app0, -aL_app0, -aI_app10, -aB_app10, -aS_app10, -aLt_app10I, -aLf_app10I, -aLt_app1I, -aLf_app1I]⟩
theorem r96_0 : ∀ zs zo, iter (f96_0 clauses) zs = some zo -> Wc cx 44 (.loop L96_0) [(0, .v (ssl (eL eI) clauses)), (6, .v (.ptr true [(.sl true false 1 0 (arr eI true zs))]))] ((QR (fun (y : (List Int) × Bool) => [(4, .v (.sl true false 1 0 (arr eI true y.1))), (5, .v (.bool y.2)), (6, .v (.ptr true [.und]))])) zo) := by
 intro zs0 zo0 zh0
 refine iter_run (f := (f96_0 clauses)) (P := fun zs zo => Wc cx 44 (.loop L96_0) [(0, .v (ssl (eL eI) clauses)), (6, .v (.ptr true [(.sl true false 1 0 (arr eI true zs))]))] ((QR (fun (y : (List Int) × Bool) => [(4, .v (.sl true false 1 0 (arr eI true y.1))), (5, .v (.bool y.2)), (6, .v (.ptr true [.und]))])) zo)) ?_ zh0
 rintro out_3 zo zr h hk hx
 try dsimp only at hk ⊢
 rw [f96_0] at h
 refine Wc.loop ?_
 refine Wc.block ?_
 refine Wc.seq ?_
 refine Wc.evs (by conv => lhs; simp [-aI_app1, -aI_app0, -aB_app0, -aS_app0, -aL_app0, -aI_app10, -aB_app10, -aS_app10, -aLt_app10I, -aLf_app10I, -aLt_app1I, -aLf_app1I]) ?_
 refine Wo.nil ?_
 refine Wc.seq ?_
 refine Wc.seq ?_
 refine Wc.evs (by conv => lhs; simp [-aI_app1, -aI_app0, -aB_app0, -aS_app0, -aL_app0, -aI_app10, -aB_app10, -aS_app10, -aLt_app10I, -aLf_app10I, -aLt_app1I, -aLf_app1I]) ?_
 refine Wo.nil ?_
 refine Wc.block ?_
 obtain ⟨w27, h28, h⟩ := bind_some h
 refine Wc.start (V1 := [(0, .v (ssl (eL eI) clauses)), (6, .v (.ptr true [(.sl true false 1 0 (arr eI true out_3))])), (7, .v (.bool false)), (14, .v (ssl (eL eI) clauses)), (15, .v (iT (clauses.length : Int))), (16, .v (iT 0))]) (by first | rfl | simp [-aI_app1, -aI_app0, -aB_app0, -aS_app0, -aL_app0, -aI_app10, -aB_app10, -aS_app10, -aLt_app10I, -aLf_app10I, -aLt_app1I, -aLf_app1I]) ?_
 refine Wc.mono (r96_1 _ _ h28) ?_
 rcases w27 with ⟨out_29, found_30⟩ | ⟨x_31, x_32⟩
 ·rintro ex V ⟨rfl, rfl⟩
  dsimp only at h ⊢
  refine Wc.seq ?_
  refine Wc.evs (by conv => lhs; simp [-aI_app1, -aI_app0, -aB_app0, -aS_app0, -aL_app0, -aI_app10, -aB_app10, -aS_app10, -aLt_app10I, -aLf_app10I, -aLt_app1I, -aLf_app1I]) ?_
  refine Wo.nil ?_
  by_cases kc33 : ¬ (found_30 = true)
  ·rw [if_pos kc33] at h
   refine Wc.condT' (t := _) (by conv => lhs; simp) (by simpa using kc33) ?_
   refine Wc.seq ?_
   refine Wc.kil (by conv => lhs; simp) ?_
   refine Wc.seq ?_
   refine Wc.evs (by conv => lhs; simp [-aI_app1, -aI_app0, -aB_app0, -aS_app0, -aL_app0, -aI_app10, -aB_app10, -aS_app10, -aLt_app10I, -aLf_app10I, -aLt_app1I, -aLf_app1I]) ?_
   refine Wo.nil ?_
   refine Wc.gh (vle_take (s := 4) (by simp) (by conv => lhs; simp [-aI_app1, -aI_app0, -aB_app0, -aS_app0, -aL_app0, -aI_app10, -aB_app10, -aS_app10, -aLt_app10I, -aLf_app10I, -aLt_app1I, -aLf_app1I]) (by conv => lhs; simp)) ?_
   refine Wc.ret ?_
   have e0 := hx _ (Option.some.inj h).symm
   subst e0
   exact ⟨rfl, by first | rfl | simp [-aI_app1, -aI_app0, -aB_app0, -aS_app0, -aL_app0, -aI_app10, -aB_app10, -aS_app10, -aLt_app10I, -aLf_app10I, -aLt_app1I, -aLf_app1I]⟩
  ·rw [if_neg kc33] at h
   refine Wc.condF' (t := _) (by conv => lhs; simp) (by simpa using kc33) ?_
   refine Wc.seq ?_
   refine Wc.kil (by conv => lhs; simp) ?_
   refine Wc.skip ?_
   refine Wc.start (V1 := [(0, .v (ssl (eL eI) clauses)), (6, .v (.ptr true [(.sl true false 1 0 (arr eI true out_29))]))]) ?_ (hk _ (Option.some.inj h).symm)
   first | rfl | simp [-aI_app1, -aI_app0, -aB_app0, -aS_app0, -aL_app0, -aI_app10, -aB_app10, -aS_app10, -aLt_app10I, -aLf_app10I, -aLt_app1I, -aLf_app1I]
 ·rintro ex V ⟨rfl, rfl⟩
  dsimp only at h ⊢
  have e0 := hx _ (Option.some.inj h).symm
  subst e0
  exact ⟨rfl, by first | rfl | simp [-aI_app1, -aI_app0, -aB_app0, -aS_app0, -aL_app0, -aI_app10, -aB_app10, -aS_app10, -aLt_app10I, -aLf_app10I, -aLt_app1I, -aLf_app1I]⟩
theorem r96 {clauses : (List (List Int))} {start : (List Int)} {r : (List Int) × Bool} (h : f96 clauses start = some r) : VJx cx (.ca 96 [(ssl (eL eI) clauses), (ssl eI start)] (.tup [(.sl true false 1 0 (arr eI true r.1)), (.bool r.2)]) []) := by
 unfold f96 at h
 refine ca_of rfl rfl (by decide) rfl ?_
 refine Wc.start (V1 := [(0, .v (ssl (eL eI) clauses)), (1, .v (ssl eI start))]) (by simp) ?_
 refine Wc.seq ?_
 refine Wc.evs (by conv => lhs; simp [-aI_app1, -aI_app0, -aB_app0, -aS_app0, -aL_app0, -aI_app10, -aB_app10, -aS_app10, -aLt_app10I, -aLf_app10I, -aLt_app1I, -aLf_app1I]) ?_
 refine Wo.nil ?_
 refine Wc.seq ?_
 obtain ⟨l_1, h2, h⟩ := bind_some h
 have gx2 := appT_arr2 (E := eI) (b := true) (b' := false) (y := false) h2 (by decide) (arr_sc rfl _)
 simp [-aI_app1, -aI_app0, -aB_app0, -aS_app0, -aL_app0, -aLt_app1I, -aLf_app1I, -aLt_app10I, -aLf_app10I] at gx2
 refine Wc.evs (by conv => lhs; simp [-aI_app1, -aI_app0, -aB_app0, -aS_app0, -aL_app0, -aI_app10, -aB_app10, -aS_app10, -aLt_app10I, -aLf_app10I, -aLt_app1I, -aLf_app1I, gx2]) ?_
 refine Wo.nil ?_
 refine Wc.block ?_
 obtain ⟨w34, h35, h⟩ := bind_some h
 refine Wc.start (V1 := [(0, .v (ssl (eL eI) clauses)), (6, .v (.ptr true [(.sl true false 1 0 (arr eI true l_1))]))]) (by first | rfl | simp [-aI_app1, -aI_app0, -aB_app0, -aS_app0, -aL_app0, -aI_app10, -aB_app10, -aS_app10, -aLt_app10I, -aLf_app10I, -aLt_app1I, -aLf_app1I, gx2]) ?_
 refine Wc.mono (r96_0 _ _ h35) ?_
 obtain ⟨x_36, x_37⟩ := w34
 rintro ex V ⟨rfl, rfl⟩
 dsimp only at h ⊢
 refine res_of (.inr rfl) ?_
 cases h
 exact ⟨_, _, _, by conv => lhs; simp, by (conv => lhs; simp [cx, ioTab, List.range, List.range.loop]) <;> rfl, by first | rfl | simp [-aI_app1, -aI_app0, -aB_app0, -aS_app0, -aL_app0, -aI_app10, -aB_app10, -aS_app10, -aLt_app10I, -aLf_app10I, -aLt_app1I, -aLf_app1I, gx2]⟩
instance i96 {start : (List Int)} : Rn cx (f96 clauses start) 96 [(ssl (eL eI) clauses), (ssl eI start)] (fun (r : (List Int) × Bool) => (.tup [(.sl true false 1 0 (arr eI true r.1)), (.bool r.2)])) (fun r => []) := ⟨fun _ h => r96 h⟩
instance : Io0 cx 96 := ⟨rfl⟩
instance i98 {s0 : Solver} {assumed : (List Int)} : Rn cx (f98 s0 assumed) 98 [(.ptr true [(iT s0.n), (ssl (eL eI) s0.clauses), (osl (eL eI) true s0.learned)]), (ssl eI assumed)] (fun (r : Unit × Solver) => .nils) (fun r => [(.ptr true [(iT r.2.n), (ssl (eL eI) r.2.clauses), (osl (eL eI) true r.2.learned)])]) := Rn.o rfl (by unfold f98; exact go)
instance i65_1 {assumed : (List Int)} {two : (List Int)} {rec : Solver -> (List Int) -> Option (Option (List Int) × Solver)} [hrec : ∀ s0 assumed, Rn cx (rec s0 assumed) 65 [(.ptr true [(iT s0.n), (ssl (eL eI) s0.clauses), (osl (eL eI) true s0.learned)]), (ssl eI assumed)] (fun o => optT o.1) (fun o => [(.ptr true [(iT o.2.n), (ssl (eL eI) o.2.clauses), (osl (eL eI) true o.2.learned)])])] : Lp cx (f65_1 assumed rec two) 71 L65_1 (fun (zs : Solver × Int) => [(0, .v (.ptr true [(iT zs.1.n), (ssl (eL eI) zs.1.clauses), (osl (eL eI) true zs.1.learned)])), (1, .v (ssl eI assumed)), (50, .v (osl eI true two)), (51, .v (iT (two.length : Int))), (52, .v (iT zs.2))]) (QO (QX 2 (fun (y : Solver) => [(0, .v (.ptr true [(iT y.n), (ssl (eL eI) y.clauses), (osl (eL eI) true y.learned)])), (1, .v (ssl eI assumed))])) (QR (fun (y : (List Int) × Solver) => [(0, .v (.ptr true [(iT y.2.n), (ssl (eL eI) y.2.clauses), (osl (eL eI) true y.2.learned)])), (4, .v (.sl true false 1 0 (arr eI true y.1)))]))) := Lp.of (f := (fun
 | (s1, x) =>
  if x < (two.length : Int) then
  (ix two x).bind fun v_9 =>
  (f99 assumed).bind fun o58 =>
  (app 8 o58 ([v_9])).bind fun l_61 =>
  sn 3 61 (osl eI true l_61) <|
  sn 0 61 (ssl eI l_61) <|
  (rec s1 l_61).bind fun o62 =>
  om o62.1 fun m => match m with
  | none =>
  some (.inl (o62.2, w64 (x + 1)))
  | some r =>
  some (.inr (.inr (r, o62.2)))
  else
  some (.inr (.inl s1)) : Solver × Int -> Option ((Solver × Int) ⊕ (Solver ⊕ ((List Int) × Solver))))) (by exact go)
instance i65_0 {s0 : Solver} {assumed : (List Int)} {o23 : (List Int) × Bool} {rec : Solver -> (List Int) -> Option (Option (List Int) × Solver)} [hrec : ∀ s0 assumed, Rn cx (rec s0 assumed) 65 [(.ptr true [(iT s0.n), (ssl (eL eI) s0.clauses), (osl (eL eI) true s0.learned)]), (ssl eI assumed)] (fun o => optT o.1) (fun o => [(.ptr true [(iT o.2.n), (ssl (eL eI) o.2.clauses), (osl (eL eI) true o.2.learned)])])] : Lp cx (f65_0 s0 assumed rec o23) 71 L65_0 (fun (zs : Int) => [(0, .v (.ptr true [(iT s0.n), (ssl (eL eI) s0.clauses), (osl (eL eI) true s0.learned)])), (1, .v (ssl eI assumed)), (5, .v (.sl true false 1 0 (arr eI true o23.1))), (7, .v (iT zs))]) (QO (QX 0 (fun (y : Unit) => [(0, .v (.ptr true [(iT s0.n), (ssl (eL eI) s0.clauses), (osl (eL eI) true s0.learned)])), (5, .v (.sl true false 1 0 (arr eI true o23.1)))])) (QR (fun (y : Option (List Int) × Solver) => [(0, .v (.ptr true [(iT y.2.n), (ssl (eL eI) y.2.clauses), (osl (eL eI) true y.2.learned)])), (4, .v (optT y.1))]))) := Lp.of (f := (fun
 | v_7 =>
  if v_7 <= s0.n then
  (f69 o23.1 v_7).bind fun o40 =>
  (jn (QN (fun (y : Bool) => [(0, .v (.ptr true [(iT s0.n), (ssl (eL eI) s0.clauses), (osl (eL eI) true s0.learned)])), (1, .v (ssl eI assumed)), (5, .v (.sl true false 1 0 (arr eI true o23.1))), (7, .v (iT v_7)), (46, .v (.bool y))])) (((if o40 = true then
  some true
  else
  (f69 o23.1 (w64 (-v_7))).bind fun o45 =>
  some o45) : Option (Bool)))).bind fun x_46 =>
  if x_46 = true then
  some (.inl (w64 (v_7 + 1)))
  else
  (iter (f65_1 assumed rec ([v_7, w64 (-v_7)])) (s0, 0)).bind fun o => match o with
  | .inl s1 =>
  (f98 s1 assumed).bind fun o69 =>
  some (.inr (.inr (none, o69.2)))
  | .inr (r, s1) =>
  some (.inr (.inr (some r, s1)))
  else
  some (.inr (.inl ())) : Int -> Option (Int ⊕ (Unit ⊕ (Option (List Int) × Solver))))) (by exact go)
end
end Go.Proofs.YtbpdhmbdpjafeaaGreatH
