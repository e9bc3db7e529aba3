import Derived.Test.YtamibblcpccjlaaGreatTg1c
set_option maxHeartbeats 2000000
set_option linter.unusedVariables false
set_option linter.unusedSimpArgs false
set_option linter.defProp false
set_option linter.unusedSectionVars false
set_option maxRecDepth 100000
namespace Go.Proofs.YtamibblcpccjlaaGreatH
open Go
noncomputable section
variable {o1 o3 o5 : (Int × L1Cur)} {blocks known last_12 o32 o4 o6 out_11 slices : (List (List Int))} {o24 : (List (List UInt8))} {derivation steps : (List DerivationStep)} {a b block code from2 indices list s1 s2 set1 terms v_12 : (List Int)} {l relations : (List Relation)} {name s0 : (List UInt8)} {atom v_19 : Atom} {d db : Database} {v_1 : DerivationStep} {f : Fact} {high i i_1 i_17 i_7 k low n0 n1 n_13 sign t v val x y : Int} {c : L1Cur} {q query : Query}
instance i85 : Rn cx (f85 relations query) 85 [(ssl eRelation relations), (.agg [(iT query.VariableCount), (ssl eAtom query.Atoms), (ssl eI query.Free)])] (fun (r : Bool) => (.bool r)) (fun r => []) := Rn.o (e := (
  (f30 relations).bind fun o1 =>
  (jn (QN (fun (y : Bool) => [(0, .v (ssl eRelation relations)), (3, .v (.ptr true [(iT query.VariableCount), (ssl eAtom query.Atoms), (ssl eI query.Free)])), (33, .v (.bool y))])) ((if ¬ (o1 = true) then
  some true
  else
  (f31 query.VariableCount 0 4).bind fun o6 =>
  (jn (QN (fun (y : Bool) => [(0, .v (ssl eRelation relations)), (3, .v (.ptr true [(iT query.VariableCount), (ssl eAtom query.Atoms), (ssl eI query.Free)])), (33, .v (.bool y))])) ((if ¬ (o6 = true) then
  some true
  else
  (f31 (query.Atoms.length : Int) 1 3).bind fun o11 =>
  (jn (QN (fun (y : Bool) => [(0, .v (ssl eRelation relations)), (3, .v (.ptr true [(iT query.VariableCount), (ssl eAtom query.Atoms), (ssl eI query.Free)])), (33, .v (.bool y))])) ((if ¬ (o11 = true) then
  some true
  else
  (f129 query.Free query.VariableCount).bind fun o16 =>
  some (decide (¬ (o16 = true)))) : Option (Bool))).bind fun x_13 =>
  some x_13) : Option (Bool))).bind fun x_8 =>
  some x_8) : Option (Bool))).bind fun x_3 =>
  if x_3 = true then
  some false
  else
  sn 2 5 (osl eI true ([])) <| 
  sn 0 5 (ssl eI ([])) <| 
  (iter (f85_0 relations query) ([], 0)).bind fun o => match o with
  | .inl occurring_55 =>
  some (decide ((occurring_55.length : Int) = query.VariableCount))
  | .inr x_56 =>
  some x_56 : Option Bool)) rfl (by exact go)
instance : Io0 cx 85 := ⟨rfl⟩
instance i50 : Rn cx (f50 db query) 50 [(.agg [(ssl eRelation db.Relations), (ssl eFact db.Facts)]), (.agg [(iT query.VariableCount), (ssl eAtom query.Atoms), (ssl eI query.Free)])] (fun (r : Bool) => (.bool r)) (fun r => []) := Rn.o (e := (
  (f24 db).bind fun o1 =>
  (jn (QN (fun (y : Bool) => [(4, .v (.bool y))])) ((if o1 = true then
  (f85 db.Relations query).bind fun o6 =>
  some o6
  else
  some false) : Option (Bool))).bind fun x_3 =>
  some x_3 : Option Bool)) rfl (by exact go)
instance : Io0 cx 50 := ⟨rfl⟩
instance i157 : Rn cx (f157 x y) 157 [(.int .u64 x), (.int .u64 y)] (fun (r : Int × Int) => (.tup [(.int .u64 r.1), (.int .u64 r.2)])) (fun r => []) := Rn.o rfl (by unfold f157; exact go)
instance : Io0 cx 157 := ⟨rfl⟩
instance i115 : Rn cx (f115 x y) 115 [(.int .u64 x), (.int .u64 y)] (fun (r : Int × Int) => (.tup [(.int .u64 r.1), (.int .u64 r.2)])) (fun r => []) := Rn.o rfl (by unfold f115; exact go)
instance : Io0 cx 115 := ⟨rfl⟩
instance i70_0 : Lp cx f70_0 48 L70_0 (fun (zs : (List Int) × Int) => [(7, .v (.sl true false 1 0 (arr eI true zs.1))), (8, .v (iT zs.2))]) (QX 0 (fun (y : (List Int)) => [(7, .v (.sl true false 1 0 (arr eI true y)))])) := Lp.of (f := (fun
 | (newslice_14, n_15) =>
  if n_15 < (newslice_14.length : Int) then
  (cutL newslice_14 0 n_15).bind fun z_17 =>
  cs 3 <| 
  some (.inl ((csL newslice_14 n_15.toNat), w64 (n_15 + (min n_15 ((newslice_14.length : Int) - n_15)))))
  else
  some (.inr newslice_14) : (List Int) × Int -> Option (((List Int) × Int) ⊕ (List Int)))) (by exact go)
instance i70 {x : (List Int)} {count : Int} : Rn cx (f70 x count) 70 [(ssl eI x), (iT count)] (fun (r : (List Int)) => (osl eI true r)) (fun r => []) := Rn.o (e := (
  (jn (QN (fun (y : Unit) => [(0, .v (ssl eI x)), (1, .v (iT count))])) ((if count < 0 then
  none
  else
  some ()) : Option Unit)).bind fun _ =>
  (f115 (IntKind.u64.wrap (x.length : Int)) (IntKind.u64.wrap count)).bind fun o4 =>
  (jn (QN (fun (y : Bool) => [(0, .v (ssl eI x)), (6, .v (.int .u64 o4.2)), (26, .v (.bool y))])) ((if o4.1 > 0 then
  some true
  else
  some (decide (o4.2 > 9223372036854775807))) : Option (Bool))).bind fun x_6 =>
  (jn (QN (fun (y : Unit) => [(0, .v (ssl eI x)), (6, .v (.int .u64 o4.2))])) ((if x_6 = true then
  none
  else
  some ()) : Option Unit)).bind fun _ =>
  (mkl 8 (w64 o4.2) 0).bind fun l_12 =>
  cp 6 <| 
  (iter f70_0 ((cpL l_12 x), ((min x.length l_12.length : Nat) : Int))).bind fun newslice_21 =>
  sn 2 4 (osl eI true newslice_21) <| 
  some newslice_21 : Option (List Int))) rfl (by exact go)
instance : Io0 cx 70 := ⟨rfl⟩
instance i25 : Rn cx (f25 n0) 25 [(iT n0)] (fun (r : (List Int)) => (osl eI true r)) (fun r => []) := Rn.o (e := (
  sn 3 3 (osl eI true ([-1])) <| 
  (f70 ([-1]) n0).bind fun o1 =>
  some o1 : Option (List Int))) rfl (by exact go)
instance : Io0 cx 25 := ⟨rfl⟩
theorem r116 {s0 : (List Int)} {r : (List Int)} (h : f116 s0 = some r) : VJx cx (.ca 116 [(ssl eI s0)] (osl eI true r) []) := by
 unfold f116 at h
 refine ca_clone (X := noExt) (fun _ _ _ _ h => h) (fun _ _ _ _ h => h) rfl (by decide) rfl (cl_eq h) ?_
 refine Wc.start (V1 := [(0, .v (ssl eI s0))]) (by simp) ?_
 refine Wc.seq ?_
 obtain ⟨l_1, h2, h⟩ := bind_some h
 have gx2 := appT_arr2 (E := eI) (b := true) (b' := false) (y := false) h2 (by decide) (arr_sc rfl _)
 simp [-aI_app0, -aB_app0, -aS_app0, -aL_app0, -aLt_app1I, -aLf_app1I, -aLt_app10I, -aLf_app10I] at gx2
 refine Wc.evs (by conv => lhs; simp [-aI_app0, -aB_app0, -aS_app0, -aL_app0, -aI_app10, -aB_app10, -aS_app10, -aLt_app10I, -aLf_app10I, -aLt_app1I, -aLf_app1I, gx2]) ?_
 refine Wo.gh (vle_co (s := 2) (t1 := (osl eI true l_1)) rfl (by simp) (tle_own rfl) (by conv => lhs; simp)) ?_
 refine Wo.nil ?_
 refine Wc.ret (res_of (.inr rfl) ?_)
 cases h
 exact ⟨_, _, _, by conv => lhs; simp, by (conv => lhs; simp [cx, ioTab, List.range, List.range.loop]) <;> rfl, by first | rfl | simp [-aI_app0, -aB_app0, -aS_app0, -aL_app0, -aI_app10, -aB_app10, -aS_app10, -aLt_app10I, -aLf_app10I, -aLt_app1I, -aLf_app1I, gx2]⟩
instance i116 {s0 : (List Int)} : Rn cx (f116 s0) 116 [(ssl eI s0)] (fun (r : (List Int)) => (osl eI true r)) (fun r => []) := ⟨fun _ h => r116 h⟩
instance : Io0 cx 116 := ⟨rfl⟩
instance i117 : Rn cx (f117 t) 117 [(iT t)] (fun (r : Bool) => (.bool r)) (fun r => []) := Rn.o rfl (by unfold f117; exact go)
instance : Io0 cx 117 := ⟨rfl⟩
instance i118 : Rn cx (f118 v) 118 [(iT v)] (fun (r : Int) => (iT r)) (fun r => []) := Rn.o rfl (by unfold f118; exact go)
instance : Io0 cx 118 := ⟨rfl⟩
instance i71_0 : Lp cx (f71_0 terms from2) 56 L71_0 (fun (zs : (List Int) × Int) => [(2, .v (ssl eI from2)), (8, .v (osl eI true zs.1)), (13, .v (ssl eI terms)), (14, .v (iT (terms.length : Int))), (15, .v (iT zs.2))]) (QO (QX 0 (fun (y : (List Int)) => [(8, .v (osl eI true y))])) (QR (fun (y : (List Int) × Bool) => [(6, .v (osl eI true y.1)), (7, .v (.bool y.2))]))) := Lp.of (f := (fun
 | (out_3, x_4) =>
  if x_4 < (terms.length : Int) then
  (ix terms x_4).bind fun v_6 =>
  (f117 v_6).bind fun o8 =>
  (jn (QO (QN (fun (y : (List Int)) => [(2, .v (ssl eI from2)), (8, .v (osl eI true y)), (13, .v (ssl eI terms)), (14, .v (iT (terms.length : Int))), (15, .v (iT x_4))])) (QR (fun (y : (List Int) × Bool) => [(6, .v (osl eI true y.1)), (7, .v (.bool y.2))]))) ((if ¬ (o8 = true) then
  (ix from2 x_4).bind fun v_13 =>
  (f118 v_6).bind fun o15 =>
  if o15 ≠ v_13 then
  sn 2 6 (osl eI true ([])) <| 
  some (.inr ([], false))
  else
  some (.inl out_3)
  else
  (ix out_3 v_6).bind fun v_18 =>
  (jn (QO (QN (fun (y : (List Int)) => [(2, .v (ssl eI from2)), (8, .v (osl eI true y)), (13, .v (ssl eI terms)), (14, .v (iT (terms.length : Int))), (15, .v (iT x_4))])) (QR (fun (y : (List Int) × Bool) => [(6, .v (osl eI true y.1)), (7, .v (.bool y.2))]))) ((if v_18 < 0 then
  (ix from2 x_4).bind fun v_23 =>
  some (.inl (out_3.set v_6.toNat v_23))
  else
  (ix from2 x_4).bind fun v_26 =>
  if v_18 ≠ v_26 then
  sn 2 6 (osl eI true ([])) <| 
  some (.inr ([], false))
  else
  some (.inl out_3)) : Option ((List Int) ⊕ ((List Int) × Bool)))).bind fun o => match o with
  | .inl out_29 =>
  some (.inl out_29)
  | .inr (x_30, x_31) =>
  some (.inr (x_30, x_31))) : Option ((List Int) ⊕ ((List Int) × Bool)))).bind fun o => match o with
  | .inl out_32 =>
  some (.inl (out_32, w64 (x_4 + 1)))
  | .inr (x_33, x_34) =>
  some (.inr (.inr (x_33, x_34)))
  else
  some (.inr (.inl out_3)) : (List Int) × Int -> Option (((List Int) × Int) ⊕ ((List Int) ⊕ ((List Int) × Bool))))) (by exact go)
instance i71 {values : (List Int)} : Rn cx (f71 values terms from2) 71 [(ssl eI values), (ssl eI terms), (ssl eI from2)] (fun (r : (List Int) × Bool) => (.tup [(osl eI true r.1), (.bool r.2)])) (fun r => []) := Rn.o rfl (by unfold f71; exact go)
instance : Io0 cx 71 := ⟨rfl⟩
instance i132_0 {a2 : AV} {a3 : AV} {a4 : AV} {a5 : AV} {values : (List Int)} {facts : (List Int)} {c : Query} {c4 : Database} {v_8 : Atom} {rec : (List Int) -> (List Int) -> Query -> (List Embedding) -> Database -> Option (List Embedding)} [hrec : ∀ values facts c c3 c4, Rn cx (ag (a2, a3, a4, a5) <| rec values facts c c3 c4) 132 [(ssl eI values), (ssl eI facts), (.at a2 (.ptr false [(iT c.VariableCount), (ssl eAtom c.Atoms), (ssl eI c.Free)])), (.at a3 (.ptr true [(osl eEmbedding true c3)])), (.at a4 (.ptr false [(ssl eRelation c4.Relations), (ssl eFact c4.Facts)])), (.at a5 (.ptr false [(.at (.fn 132 [a2, a3, a4, a5]) .und)]))] (fun o => (.tup [])) (fun o => [(.at a3 (.ptr true [(osl eEmbedding true o)]))])] : Lp cx (lw (a2, a3, a4, a5) (f132_0 values facts c c4 rec v_8)) 65 L132_0 (fun (zs : (List Embedding) × Int) => [(0, .v (ssl eI values)), (1, .v (ssl eI facts)), (2, .v (.at a2 (.ptr false [(iT c.VariableCount), (ssl eAtom c.Atoms), (ssl eI c.Free)]))), (3, .v (.at a3 (.ptr true [(osl eEmbedding true zs.1)]))), (4, .v (.at a4 (.ptr false [(ssl eRelation c4.Relations), (ssl eFact c4.Facts)]))), (5, .v (.at a5 (.ptr false [(.at (.fn 132 [a2, a3, a4, a5]) .und)]))), (8, .v (.ptr true [(iT v_8.Relation), (ssl eI v_8.Terms)])), (34, .v (ssl eFact c4.Facts)), (35, .v (iT (c4.Facts.length : Int))), (36, .v (iT zs.2))]) (QX 0 (fun (y : (List Embedding)) => [(3, .v (.at a3 (.ptr true [(osl eEmbedding true y)])))])) := Lp.of (f := (fun
 | (x_10, x_11) =>
  if x_11 < (c4.Facts.length : Int) then
  (jb 1 (QN (fun (y : (List Embedding)) => [(0, .v (ssl eI values)), (1, .v (ssl eI facts)), (2, .v (.at a2 (.ptr false [(iT c.VariableCount), (ssl eAtom c.Atoms), (ssl eI c.Free)]))), (3, .v (.at a3 (.ptr true [(osl eEmbedding true y)]))), (4, .v (.at a4 (.ptr false [(ssl eRelation c4.Relations), (ssl eFact c4.Facts)]))), (5, .v (.at a5 (.ptr false [(.at (.fn 132 [a2, a3, a4, a5]) .und)]))), (8, .v (.ptr true [(iT v_8.Relation), (ssl eI v_8.Terms)])), (34, .v (ssl eFact c4.Facts)), (35, .v (iT (c4.Facts.length : Int))), (36, .v (iT x_11))])) (((ix c4.Facts x_11).bind fun v_15 =>
  if v_15.Relation ≠ v_8.Relation then
  some x_10
  else
  (f71 values v_8.Terms v_15.Values).bind fun o18 =>
  (jn (QN (fun (y : (List Embedding)) => [(0, .v (ssl eI values)), (1, .v (ssl eI facts)), (2, .v (.at a2 (.ptr false [(iT c.VariableCount), (ssl eAtom c.Atoms), (ssl eI c.Free)]))), (3, .v (.at a3 (.ptr true [(osl eEmbedding true y)]))), (4, .v (.at a4 (.ptr false [(ssl eRelation c4.Relations), (ssl eFact c4.Facts)]))), (5, .v (.at a5 (.ptr false [(.at (.fn 132 [a2, a3, a4, a5]) .und)]))), (8, .v (.ptr true [(iT v_8.Relation), (ssl eI v_8.Terms)])), (34, .v (ssl eFact c4.Facts)), (35, .v (iT (c4.Facts.length : Int))), (36, .v (iT x_11))])) ((if o18.2 = true then
  sn 5 61 (osl eI true ([x_11])) <| 
  (f116 facts).bind fun o23 =>
  (app 8 o23 ([x_11])).bind fun l_25 =>
  (ca [2, 3, 4, 5] <| ag (a2, a3, a4, a5) (rec o18.1 l_25 c x_10 c4)).bind fun o27 =>
  some o27
  else
  some x_10) : Option (List Embedding))).bind fun x_29 =>
  some x_29) : Option (List Embedding))).bind fun x_30 =>
  some (.inl (x_30, w64 (x_11 + 1)))
  else
  some (.inr x_10) : (List Embedding) × Int -> Option (((List Embedding) × Int) ⊕ (List Embedding)))) (by exact go)
instance i132 : ∀ (n : Nat) values facts c c3 c4 (a2 a3 a4 a5 : AV), Rn cx (ag (a2, a3, a4, a5) (f132 n values facts c c3 c4)) 132 [(ssl eI values), (ssl eI facts), (.at a2 (.ptr false [(iT c.VariableCount), (ssl eAtom c.Atoms), (ssl eI c.Free)])), (.at a3 (.ptr true [(osl eEmbedding true c3)])), (.at a4 (.ptr false [(ssl eRelation c4.Relations), (ssl eFact c4.Facts)])), (.at a5 (.ptr false [(.at (.fn 132 [a2, a3, a4, a5]) .und)]))] (fun (r : (List Embedding)) => (.tup [])) (fun r => [(.at a3 (.ptr true [(osl eEmbedding true r)]))]) := by
 intro n
 induction n with
 | zero => intro values facts c c3 c4 a2 a3 a4 a5; exact ⟨fun r h => by simp [ag, f132] at h⟩
 | succ n ih =>
  intro values facts c c3 c4 a2 a3 a4 a5
  refine Rn.of (e := (
   if (facts.length : Int) = (c.Atoms.length : Int) then
   (f116 values).bind fun o2 =>
   (f116 facts).bind fun o4 =>
   (app 48 c3 ([({ Values := o2, Facts := o4 } : Embedding)])).bind fun l_6 =>
   some l_6
   else
   (ix c.Atoms (facts.length : Int)).bind fun v_8 =>
   (iter (lw (a2, a3, a4, a5)  (f132_0 values facts c c4 (f132 n) v_8)) (c3, 0)).bind fun x_33 =>
   some x_33 : Option (List Embedding))) rfl rfl (by decide) rfl ?_
  exact go
instance i86 : Rn cx (f86 db query) 86 [(.agg [(ssl eRelation db.Relations), (ssl eFact db.Facts)]), (.agg [(iT query.VariableCount), (ssl eAtom query.Atoms), (ssl eI query.Free)])] (fun (r : (List Embedding)) => (osl eEmbedding true r)) (fun r => []) := Rn.o (e := (
  sn 5 7 (osl eEmbedding true ([])) <| 
  (f50 db query).bind fun o1 =>
  if ¬ (o1 = true) then
  some ([])
  else
  lc 1 6 fun (a5 : AV) => 
  lc 0 3 fun (a2 : AV) => 
  lc 0 5 fun (a3 : AV) => 
  lc 0 2 fun (a4 : AV) => 
  fa 0 [a2, a3, a4, a5] <| 
  (f25 query.VariableCount).bind fun o4 =>
  (ca [3, 5, 2, 6] <| ag (a2, a3, a4, a5) (f132 64 o4 ([] : (List Int)) query ([]) db)).bind fun o6 =>
  some o6 : Option (List Embedding))) rfl (by exact go)
instance : Io0 cx 86 := ⟨rfl⟩
instance i51_0 {o11 : (List Embedding)} : Lp cx (f51_0 o11) 27 L51_0 (fun (zs : (List (List Int)) × Nat × Int) => [(5, .v (osl (eL eI) true zs.1)), (11, .v (.sl true true 2 0 (arrM eEmbedding zs.2.1 o11))), (12, .v (iT (o11.length : Int))), (13, .v (iT zs.2.2))]) (QX 0 (fun (y : (List (List Int))) => [(5, .v (osl (eL eI) true y))])) := Lp.of (f := (fun
 | (out, k, x) =>
  if x < (o11.length : Int) then
  (ml o11 k x).bind fun v =>
  mv 1 <|
  (f87 v.Facts).bind fun s =>
  mf 2 <|
  (app 24 out ([s])).bind fun l =>
  some (.inl (l, k + 1, w64 (x + 1)))
  else
  some (.inr out) : (List (List Int)) × Nat × Int -> Option (((List (List Int)) × Nat × Int) ⊕ (List (List Int))))) (by exact go)
instance i51 : Rn cx (f51 db query) 51 [(.agg [(ssl eRelation db.Relations), (ssl eFact db.Facts)]), (.agg [(iT query.VariableCount), (ssl eAtom query.Atoms), (ssl eI query.Free)])] (fun (r : (List (List Int))) => (osl (eL eI) true r)) (fun r => []) := Rn.o (e := (
  sn 5 5 (osl (eL eI) true ([])) <|
  (f86 db query).bind fun o11 =>
  (iter (f51_0 o11) ([], 0, 0)).bind fun out =>
  some out : Option (List (List Int)))) rfl (by exact go)
instance : Io0 cx 51 := ⟨rfl⟩
instance i119_0 : Lp cx (f119_0 s1 s2) 26 L119_0 (fun (zs : Int) => [(0, .v (ssl eI s1)), (1, .v (ssl eI s2)), (12, .v (iT (s1.length : Int))), (13, .v (iT zs))]) (QO (QX 0 (fun (y : Unit) => [])) (QR (fun (y : Bool) => [(4, .v (.bool y))]))) := Lp.of (by unfold f119_0; exact go)
instance i119 : Rn cx (f119 s1 s2) 119 [(ssl eI s1), (ssl eI s2)] (fun (r : Bool) => (.bool r)) (fun r => []) := Rn.o rfl (by unfold f119; exact go)
instance : Io0 cx 119 := ⟨rfl⟩
instance i72 {a : Fact} {b : Fact} : Rn cx (f72 relations a b) 72 [(ssl eRelation relations), (.agg [(iT a.Relation), (ssl eI a.Values)]), (.agg [(iT b.Relation), (ssl eI b.Values)])] (fun (r : Bool) => (.bool r)) (fun r => []) := Rn.o rfl (by unfold f72; exact go)
instance : Io0 cx 72 := ⟨rfl⟩
instance i27_0 : Lp cx (f27_0 db) 54 L27_0 (fun (zs : (List (List Int)) × Int) => [(1, .v (.ptr true [(ssl eRelation db.Relations), (ssl eFact db.Facts)])), (3, .v (osl (eL eI) true zs.1)), (9, .v (ssl eFact db.Facts)), (10, .v (iT (db.Facts.length : Int))), (11, .v (iT zs.2))]) (QX 0 (fun (y : (List (List Int))) => [(3, .v (osl (eL eI) true y))])) := Lp.of (f := (fun
 | (out_1, x_2) =>
  if x_2 < (db.Facts.length : Int) then
  (ix db.Facts x_2).bind fun v_4 =>
  (jn (QN (fun (y : Bool) => [(1, .v (.ptr true [(ssl eRelation db.Relations), (ssl eFact db.Facts)])), (3, .v (osl (eL eI) true out_1)), (4, .v (iT x_2)), (6, .v (iT (w64 ((out_1.length : Int) - 1)))), (9, .v (ssl eFact db.Facts)), (10, .v (iT (db.Facts.length : Int))), (11, .v (iT x_2)), (36, .v (.bool y))])) ((if (w64 ((out_1.length : Int) - 1)) >= 0 then
  (ix out_1 (w64 ((out_1.length : Int) - 1))).bind fun v_9 =>
  (ix v_9 0).bind fun v_11 =>
  (ix db.Facts v_11).bind fun v_13 =>
  (f72 db.Relations v_13 v_4).bind fun o15 =>
  some o15
  else
  some false) : Option (Bool))).bind fun x_6 =>
  (jn (QN (fun (y : (List (List Int))) => [(1, .v (.ptr true [(ssl eRelation db.Relations), (ssl eFact db.Facts)])), (3, .v (osl (eL eI) true y)), (9, .v (ssl eFact db.Facts)), (10, .v (iT (db.Facts.length : Int))), (11, .v (iT x_2))])) ((if x_6 = true then
  (ix out_1 (w64 ((out_1.length : Int) - 1))).bind fun v_20 =>
  (app 8 v_20 ([x_2])).bind fun l_22 =>
  some (out_1.set (w64 ((out_1.length : Int) - 1)).toNat l_22)
  else
  sn 3 49 (osl eI true ([x_2])) <| 
  (app 24 out_1 ([[x_2]])).bind fun l_25 =>
  some l_25) : Option (List (List Int)))).bind fun out_27 =>
  some (.inl (out_27, w64 (x_2 + 1)))
  else
  some (.inr out_1) : (List (List Int)) × Int -> Option (((List (List Int)) × Int) ⊕ (List (List Int))))) (by exact go)
instance i27 : Rn cx (f27 db) 27 [(.agg [(ssl eRelation db.Relations), (ssl eFact db.Facts)])] (fun (r : (List (List Int))) => (osl (eL eI) true r)) (fun r => []) := Rn.o (e := (
  sn 4 3 (osl (eL eI) true ([])) <| 
  (iter (f27_0 db) ([], 0)).bind fun out_30 =>
  some out_30 : Option (List (List Int)))) rfl (by exact go)
instance : Io0 cx 27 := ⟨rfl⟩
instance i135_0 : Lp cx (f135_0 db) 33 L135_0 (fun (zs : (List Relation) × (List Fact) × Int) => [(1, .v (.ptr true [(ssl eRelation db.Relations), (ssl eFact db.Facts)])), (2, .v (.ptr true [(osl eRelation true ([])), (osl eFact true ([]))])), (3, .v (.ptr true [(osl eRelation true zs.1), (osl eFact true zs.2.1)])), (13, .v (ssl eFact db.Facts)), (14, .v (iT (db.Facts.length : Int))), (15, .v (iT zs.2.2))]) (QX 0 (fun (y : (List Relation) × (List Fact)) => [(2, .v (.ptr true [(osl eRelation true ([])), (osl eFact true ([]))])), (3, .v (.ptr true [(osl eRelation true y.1), (osl eFact true y.2)]))])) := Lp.of (f := (fun
 | (out_3, out_4, x_5) =>
  if x_5 < (db.Facts.length : Int) then
  (ix db.Facts x_5).bind fun v_7 =>
  (app 8 ([]) v_7.Values).bind fun l_9 =>
  sn 12 26 (osl eI true l_9) <| 
  (app 32 out_4 ([({ Relation := v_7.Relation, Values := l_9 } : Fact)])).bind fun l_11 =>
  some (.inl (out_3, l_11, w64 (x_5 + 1)))
  else
  some (.inr (out_3, out_4)) : (List Relation) × (List Fact) × Int -> Option (((List Relation) × (List Fact) × Int) ⊕ ((List Relation) × (List Fact))))) (by exact go)
instance i135 : Rn cx (f135 db) 135 [(.agg [(ssl eRelation db.Relations), (ssl eFact db.Facts)])] (fun (r : Database) => (.agg [(osl eRelation true r.Relations), (osl eFact true r.Facts)])) (fun r => []) := Rn.o (e := (
  sn 2 2 (.ptr true [(osl eRelation true ([])), (osl eFact true ([]))]) <| 
  (app 32 ([]) db.Relations).bind fun l_1 =>
  sn 5 9 (osl eRelation true l_1) <| 
  sn 0 10 (osl eFact true ([])) <| 
  (iter (f135_0 db) (l_1, [], 0)).bind fun (out_15, out_16) =>
  some ({ Relations := out_15, Facts := out_16 } : Database) : Option Database)) rfl (by exact go)
instance : Io0 cx 135 := ⟨rfl⟩
instance i88_0 : Lp cx (f88_0 indices) 45 L88_0 (fun (zs : (List Fact) × (List Relation) × (List Fact) × Int) => [(4, .v (.ptr true [(osl eRelation true ([])), (osl eFact true ([]))])), (6, .v (.ptr true [.und, (ssl eFact zs.1)])), (7, .v (.ptr true [(osl eRelation true zs.2.1), (osl eFact false zs.2.2.1)])), (27, .v (ssl eI indices)), (28, .v (iT (indices.length : Int))), (29, .v (iT zs.2.2.2))]) (QX 0 (fun (y : (List Relation) × (List Fact)) => [(4, .v (.ptr true [(osl eRelation true ([])), (osl eFact true ([]))])), (7, .v (.ptr true [(osl eRelation true y.1), (osl eFact false y.2)]))])) := Lp.of (by unfold f88_0; exact go)
instance i88 : Rn cx (f88 db indices) 88 [(.agg [(ssl eRelation db.Relations), (ssl eFact db.Facts)]), (ssl eI indices)] (fun (r : Database × Bool) => (.tup [(.agg [(osl eRelation true r.1.Relations), (osl eFact false r.1.Facts)]), (.bool r.2)])) (fun r => []) := Rn.o (e := (
  sn 3 4 (.ptr true [(osl eRelation true ([])), (osl eFact true ([]))]) <| 
  (f24 db).bind fun o1 =>
  (jn (QN (fun (y : Bool) => [(1, .v (ssl eI indices)), (2, .v (.ptr true [(ssl eRelation db.Relations), (ssl eFact db.Facts)])), (4, .v (.ptr true [(osl eRelation true ([])), (osl eFact true ([]))])), (20, .v (.bool y))])) ((if ¬ (o1 = true) then
  some true
  else
  (f129 indices (db.Facts.length : Int)).bind fun o6 =>
  some (decide (¬ (o6 = true)))) : Option (Bool))).bind fun x_3 =>
  if x_3 = true then
  sn 1 21 (.agg [(osl eRelation true ([])), (osl eFact true ([]))]) <| 
  some (({ Relations := [], Facts := [] } : Database), false)
  else
  (f135 db).bind fun o9 =>
  sn 6 26 (.agg [(osl eRelation true o9.Relations), (osl eFact true ([]))]) <| 
  (iter (f88_0 indices) (o9.Facts, o9.Relations, [], 0)).bind fun (out_24, out_25) =>
  some (({ Relations := out_24, Facts := out_25 } : Database), true) : Option (Database × Bool))) rfl (by exact go)
instance : Io0 cx 88 := ⟨rfl⟩
instance i89 : Rn cx (f89 db) 89 [(.agg [(ssl eRelation db.Relations), (ssl eFact db.Facts)])] (fun (r : Bool) => (.bool r)) (fun r => []) := Rn.o (e := (
  (f24 db).bind fun o1 =>
  (jn (QN (fun (y : Bool) => [(2, .v (.bool y))])) ((if o1 = true then
  (f27 db).bind fun o6 =>
  some (decide ((o6.length : Int) = (db.Facts.length : Int)))
  else
  some false) : Option (Bool))).bind fun x_3 =>
  some x_3 : Option Bool)) rfl (by exact go)
instance : Io0 cx 89 := ⟨rfl⟩
instance i52 : Rn cx (f52 db indices) 52 [(.agg [(ssl eRelation db.Relations), (ssl eFact db.Facts)]), (ssl eI indices)] (fun (r : Bool) => (.bool r)) (fun r => []) := Rn.o (e := (
  (f88 db indices).bind fun o1 =>
  (jn (QN (fun (y : Bool) => [(4, .v (.bool y))])) ((if o1.2 = true then
  (f89 o1.1).bind fun o6 =>
  some o6
  else
  some false) : Option (Bool))).bind fun x_3 =>
  some x_3 : Option Bool)) rfl (by exact go)
instance : Io0 cx 52 := ⟨rfl⟩
instance i136_0 {s0 : (List (List Int))} {g_f : Nat} {cp_f : List T} {f : (List Int) -> Option Bool} [hp_f : ∀ x0, Rn cx (f x0) g_f ((ssl eI x0) :: cp_f) (fun o => (.bool o)) (fun _ => [])] [Io0 cx g_f] : Lp cx (f136_0 s0 f) 19 L136_0 (fun (zs : Int) => [(0, .v (ssl (eL eI) s0)), (1, .v (.fn g_f cp_f)), (7, .v (iT (s0.length : Int))), (8, .v (iT zs))]) (QO (QX 0 (fun (y : Unit) => [])) (QR (fun (y : Int) => [(4, .v (iT y))]))) := Lp.of (by unfold f136_0; exact go)
instance i136 {s0 : (List (List Int))} {g_f : Nat} {cp_f : List T} {f : (List Int) -> Option Bool} [hp_f : ∀ x0, Rn cx (f x0) g_f ((ssl eI x0) :: cp_f) (fun o => (.bool o)) (fun _ => [])] [Io0 cx g_f] : Rn cx (f136 s0 f) 136 [(ssl (eL eI) s0), (.fn g_f cp_f)] (fun (r : Int) => (iT r)) (fun r => []) := Rn.o rfl (by unfold f136; exact go)
instance : Io0 cx 136 := ⟨rfl⟩
instance i90 {s0 : (List (List Int))} {g_f : Nat} {cp_f : List T} {f : (List Int) -> Option Bool} [hp_f : ∀ x0, Rn cx (f x0) g_f ((ssl eI x0) :: cp_f) (fun o => (.bool o)) (fun _ => [])] [Io0 cx g_f] : Rn cx (f90 s0 f) 90 [(ssl (eL eI) s0), (.fn g_f cp_f)] (fun (r : Bool) => (.bool r)) (fun r => []) := Rn.o rfl (by unfold f90; exact go)
instance : Io0 cx 90 := ⟨rfl⟩
instance i120_0 {s0 : (List Int)} : Lp cx (f120_0 s0 v) 19 L120_0 (fun (zs : Int) => [(0, .v (ssl eI s0)), (1, .v (iT v)), (7, .v (iT (s0.length : Int))), (8, .v (iT zs))]) (QO (QX 0 (fun (y : Unit) => [])) (QR (fun (y : Int) => [(4, .v (iT y))]))) := Lp.of (by unfold f120_0; exact go)
instance i120 {s0 : (List Int)} : Rn cx (f120 s0 v) 120 [(ssl eI s0), (iT v)] (fun (r : Int) => (iT r)) (fun r => []) := Rn.o rfl (by unfold f120; exact go)
instance : Io0 cx 120 := ⟨rfl⟩
instance i77 {s0 : (List Int)} : Rn cx (f77 s0 v) 77 [(ssl eI s0), (iT v)] (fun (r : Bool) => (.bool r)) (fun r => []) := Rn.o rfl (by unfold f77; exact go)
instance : Io0 cx 77 := ⟨rfl⟩
instance i76 {c : (List Int)} : Rn cx (f76 n0 c) 76 [(iT n0), (.ptr false [(ssl eI c)])] (fun (r : Bool) => (.bool r)) (fun r => []) := Rn.o rfl (by unfold f76; exact go)
instance : Io0 cx 76 := ⟨rfl⟩
instance i34 : Rn cx (f34 a b) 34 [(ssl eI a), (ssl eI b)] (fun (r : Bool) => (.bool r)) (fun r => []) := Rn.o rfl (by unfold f34; exact go)
instance : Io0 cx 34 := ⟨rfl⟩
instance i91 {own : (List Int)} {c : (List Int)} : Rn cx (f91 own c) 91 [(ssl eI own), (.ptr false [(ssl eI c)])] (fun (r : Bool) => (.bool r)) (fun r => []) := Rn.o rfl (by unfold f91; exact go)
instance : Io0 cx 91 := ⟨rfl⟩
instance i53 {sets : (List (List Int))} : Rn cx (f53 sets set1) 53 [(ssl (eL eI) sets), (ssl eI set1)] (fun (r : Bool) => (.bool r)) (fun r => []) := Rn.o rfl (by unfold f53; exact go)
instance : Io0 cx 53 := ⟨rfl⟩
instance i55_0 : Lp cx (f55_0 steps) 20 L55_0 (fun (zs : (List (List Int)) × Int) => [(3, .v (osl (eL eI) false zs.1)), (7, .v (ssl eDerivationStep steps)), (8, .v (iT (steps.length : Int))), (9, .v (iT zs.2))]) (QX 0 (fun (y : (List (List Int))) => [(3, .v (osl (eL eI) false y))])) := Lp.of (by unfold f55_0; exact go)
instance i55 : Rn cx (f55 steps) 55 [(ssl eDerivationStep steps)] (fun (r : (List (List Int))) => (osl (eL eI) false r)) (fun r => []) := Rn.o (e := (
  sn 3 3 (osl (eL eI) false ([])) <| 
  (iter (f55_0 steps) ([], 0)).bind fun out_10 =>
  some out_10 : Option (List (List Int)))) rfl (by exact go)
instance : Io0 cx 55 := ⟨rfl⟩
instance i92 {set0 : (List Int)} {fact : Int} : Rn cx (f92 set0 fact) 92 [(ssl eI set0), (iT fact)] (fun (r : (List Int)) => (ssl eI r)) (fun r => []) := Rn.o (e := (
  sn 4 7 (osl eI true ([fact])) <| 
  sn 0 7 (ssl eI ([fact])) <| 
  (f78 set0 ([fact])).bind fun o1 =>
  some o1 : Option (List Int))) rfl (by exact go)
instance : Io0 cx 92 := ⟨rfl⟩
instance i54_0 : Lp cx (f54_0 known set1 block) 27 L54_0 (fun (zs : Int) => [(0, .v (ssl (eL eI) known)), (1, .v (ssl eI set1)), (9, .v (ssl eI block)), (10, .v (iT (block.length : Int))), (11, .v (iT zs))]) (QO (QX 0 (fun (y : Unit) => [])) (QR (fun (y : Bool) => [(6, .v (.bool y))]))) := Lp.of (f := (fun
 | x_1 =>
  if x_1 < (block.length : Int) then
  (ix block x_1).bind fun v_3 =>
  (f77 set1 v_3).bind fun o5 =>
  (jn (QN (fun (y : Bool) => [(0, .v (ssl (eL eI) known)), (1, .v (ssl eI set1)), (9, .v (ssl eI block)), (10, .v (iT (block.length : Int))), (11, .v (iT x_1)), (25, .v (.bool y))])) ((if o5 = true then
  some true
  else
  (f92 set1 v_3).bind fun o10 =>
  (f53 known o10).bind fun o12 =>
  some (decide (¬ (o12 = true)))) : Option (Bool))).bind fun x_7 =>
  if x_7 = true then
  some (.inr (.inr false))
  else
  some (.inl (w64 (x_1 + 1)))
  else
  some (.inr (.inl ())) : Int -> Option (Int ⊕ (Unit ⊕ Bool)))) (by exact go)
instance i54 : Rn cx (f54 known set1 block) 54 [(ssl (eL eI) known), (ssl eI set1), (ssl eI block)] (fun (r : Bool) => (.bool r)) (fun r => []) := Rn.o rfl (by unfold f54; exact go)
instance : Io0 cx 54 := ⟨rfl⟩
instance i16_0 {o7 : (List (List Int))} {o9 : (List (List Int))} : Lp cx (f16_0 db derivation o7 o9) 79 L16_0 (fun (zs : Int) => [(2, .v (ssl eDerivationStep derivation)), (3, .v (.ptr true [(ssl eRelation db.Relations), (ssl eFact db.Facts)])), (7, .v (osl (eL eI) true o7)), (8, .v (osl (eL eI) true o9)), (25, .v (ssl eDerivationStep derivation)), (26, .v (iT (derivation.length : Int))), (27, .v (iT zs))]) (QO (QX 0 (fun (y : Unit) => [(2, .v (ssl eDerivationStep derivation))])) (QR (fun (y : Bool) => [(6, .v (.bool y))]))) := Lp.of (f := (fun
 | x_11 =>
  if x_11 < (derivation.length : Int) then
  (ix derivation x_11).bind fun v_13 =>
  (f52 db v_13.Facts).bind fun o15 =>
  if ¬ (o15 = true) then
  some (.inr (.inr false))
  else
  (jn (QO (QN (fun (y : Unit) => [(2, .v (ssl eDerivationStep derivation)), (3, .v (.ptr true [(ssl eRelation db.Relations), (ssl eFact db.Facts)])), (7, .v (osl (eL eI) true o7)), (8, .v (osl (eL eI) true o9)), (25, .v (ssl eDerivationStep derivation)), (26, .v (iT (derivation.length : Int))), (27, .v (iT x_11))])) (QR (fun (y : Bool) => [(6, .v (.bool y))]))) ((if v_13.Block = (-1) then
  (f53 o7 v_13.Facts).bind fun o21 =>
  if ¬ (o21 = true) then
  some (.inr false)
  else
  some (.inl ())
  else
  (f31 v_13.Block 0 (w64 ((o9.length : Int) - 1))).bind fun o24 =>
  (jn (QN (fun (y : Bool) => [(2, .v (ssl eDerivationStep derivation)), (3, .v (.ptr true [(ssl eRelation db.Relations), (ssl eFact db.Facts)])), (7, .v (osl (eL eI) true o7)), (8, .v (osl (eL eI) true o9)), (25, .v (ssl eDerivationStep derivation)), (26, .v (iT (derivation.length : Int))), (27, .v (iT x_11)), (46, .v (.bool y))])) ((if ¬ (o24 = true) then
  some true
  else
  (cutL derivation 0 x_11).bind fun l_29 =>
  (ix o9 v_13.Block).bind fun v_31 =>
  (f55 l_29).bind fun o33 =>
  (f54 o33 v_13.Facts v_31).bind fun o35 =>
  some (decide (¬ (o35 = true)))) : Option (Bool))).bind fun x_26 =>
  if x_26 = true then
  some (.inr false)
  else
  some (.inl ())) : Option (Unit ⊕ Bool))).bind fun o => match o with
  | .inl _ =>
  some (.inl (w64 (x_11 + 1)))
  | .inr x_38 =>
  some (.inr (.inr x_38))
  else
  some (.inr (.inl ())) : Int -> Option (Int ⊕ (Unit ⊕ Bool)))) (by exact go)
instance i16 : Rn cx (f16 db query derivation) 16 [(.agg [(ssl eRelation db.Relations), (ssl eFact db.Facts)]), (.agg [(iT query.VariableCount), (ssl eAtom query.Atoms), (ssl eI query.Free)]), (ssl eDerivationStep derivation)] (fun (r : Bool) => (.bool r)) (fun r => []) := Rn.o (e := (
  (f50 db query).bind fun o1 =>
  (jn (QN (fun (y : Bool) => [(2, .v (ssl eDerivationStep derivation)), (3, .v (.ptr true [(ssl eRelation db.Relations), (ssl eFact db.Facts)])), (4, .v (.ptr true [(iT query.VariableCount), (ssl eAtom query.Atoms), (ssl eI query.Free)])), (19, .v (.bool y))])) ((if ¬ (o1 = true) then
  some true
  else
  some (decide ((derivation.length : Int) = 0))) : Option (Bool))).bind fun x_3 =>
  if x_3 = true then
  some false
  else
  (f51 db query).bind fun o7 =>
  (f27 db).bind fun o9 =>
  (iter (f16_0 db derivation o7 o9) 0).bind fun o => match o with
  | .inl _ =>
  (ix derivation (w64 ((derivation.length : Int) - 1))).bind fun v_42 =>
  some (decide ((v_42.Facts.length : Int) = 0))
  | .inr x_41 =>
  some x_41 : Option Bool)) rfl (by exact go)
instance : Io0 cx 16 := ⟨rfl⟩
theorem r48 {s0 : (List DerivationStep)} {r : (List DerivationStep)} (h : f48 s0 = some r) : VJx cx (.ca 48 [(ssl eDerivationStep s0)] (osl eDerivationStep false r) []) := by
 unfold f48 at h
 refine ca_clone (X := noExt) (fun _ _ _ _ h => h) (fun _ _ _ _ h => h) rfl (by decide) rfl (cl_eq h) ?_
 refine Wc.start (V1 := [(0, .v (ssl eDerivationStep s0))]) (by simp) ?_
 refine Wc.seq ?_
 obtain ⟨l_1, h2, h⟩ := bind_some h
 have gx2 := appT_arr (E := eDerivationStep) (b := false) (y := false) h2 (by decide)
 simp [-aI_app0, -aB_app0, -aS_app0, -aL_app0, -aLt_app1I, -aLf_app1I, -aLt_app10I, -aLf_app10I] at gx2
 refine Wc.evs (by conv => lhs; simp [-aI_app0, -aB_app0, -aS_app0, -aL_app0, -aI_app10, -aB_app10, -aS_app10, -aLt_app10I, -aLf_app10I, -aLt_app1I, -aLf_app1I, gx2, h2]) ?_
 refine Wo.gh (vle_co (s := 2) (t1 := (osl eDerivationStep false l_1)) rfl (by simp) (tle_own rfl) (by conv => lhs; simp)) ?_
 refine Wo.nil ?_
 refine Wc.ret (res_of (.inr rfl) ?_)
 cases h
 exact ⟨_, _, _, by conv => lhs; simp, by (conv => lhs; simp [cx, ioTab, List.range, List.range.loop]) <;> rfl, by first | rfl | simp [-aI_app0, -aB_app0, -aS_app0, -aL_app0, -aI_app10, -aB_app10, -aS_app10, -aLt_app10I, -aLf_app10I, -aLt_app1I, -aLf_app1I, gx2, h2]⟩
instance i48 {s0 : (List DerivationStep)} : Rn cx (f48 s0) 48 [(ssl eDerivationStep s0)] (fun (r : (List DerivationStep)) => (osl eDerivationStep false r)) (fun r => []) := ⟨fun _ h => r48 h⟩
instance : Io0 cx 48 := ⟨rfl⟩
theorem r47 {a0 : (List DerivationStep)} {a1 a2 : Int} {r : (List DerivationStep)} (h : f47 a0 a1 a2 = some r) : VJx cx (.ca 47 [(osl eDerivationStep false a0), .int .i64 a1, .int .i64 a2] (ssl eDerivationStep r) [.und]) := by
 exact ca_del (E := eDerivationStep) (zs := [.nils, .int .i64 (0)]) (fun _ _ _ _ h => h) rfl rfl (by decide) rfl rfl h
instance i47 {a0 : (List DerivationStep)} {a1 a2 : Int} : Rn cx (f47 a0 a1 a2) 47 [(osl eDerivationStep false a0), .int .i64 a1, .int .i64 a2] (fun r => ssl eDerivationStep r) (fun r => [.und]) := ⟨fun _ h => r47 h⟩
instance i13_0 : Lp cx (f13_0 db query) 37 L13_0 (fun (zs : (List DerivationStep) × Int) => [(3, .v (.ptr true [(ssl eRelation db.Relations), (ssl eFact db.Facts)])), (4, .v (.ptr true [(iT query.VariableCount), (ssl eAtom query.Atoms), (ssl eI query.Free)])), (7, .v (ssl eDerivationStep zs.1)), (8, .v (iT zs.2))]) (QX 0 (fun (y : (List DerivationStep)) => [(7, .v (ssl eDerivationStep y))])) := Lp.of (f := (fun
 | (out_6, i_7) =>
  if i_7 >= 0 then
  (f48 out_6).bind fun o9 =>
  (f47 o9 i_7 (w64 (i_7 + 1))).bind fun o11 =>
  (f16 db query o11).bind fun o13 =>
  (jn (QN (fun (y : (List DerivationStep)) => [(3, .v (.ptr true [(ssl eRelation db.Relations), (ssl eFact db.Facts)])), (4, .v (.ptr true [(iT query.VariableCount), (ssl eAtom query.Atoms), (ssl eI query.Free)])), (7, .v (ssl eDerivationStep y)), (8, .v (iT i_7))])) ((if o13 = true then
  some o11
  else
  some out_6) : Option (List DerivationStep))).bind fun out_18 =>
  some (.inl (out_18, w64 (i_7 - 1)))
  else
  some (.inr out_6) : (List DerivationStep) × Int -> Option (((List DerivationStep) × Int) ⊕ (List DerivationStep)))) (by exact go)
instance i13 : Rn cx (f13 db query derivation) 13 [(.agg [(ssl eRelation db.Relations), (ssl eFact db.Facts)]), (.agg [(iT query.VariableCount), (ssl eAtom query.Atoms), (ssl eI query.Free)]), (ssl eDerivationStep derivation)] (fun (r : (List DerivationStep)) => (ssl eDerivationStep r)) (fun r => []) := Rn.o (e := (
  (f46 derivation).bind fun o1 =>
  sn 1 7 (ssl eDerivationStep o1) <| 
  (f16 db query derivation).bind fun o3 =>
  if ¬ (o3 = true) then
  some o1
  else
  (iter (f13_0 db query) (o1, w64 ((o1.length : Int) - 2))).bind fun out_21 =>
  some out_21 : Option (List DerivationStep))) rfl (by exact go)
instance : Io0 cx 13 := ⟨rfl⟩
instance i49_0 {l : (List DerivationStep)} : Lp cx (f49_0 l) 29 L49_0 (fun (zs : (List DerivationStep) × Int) => [(0, .v (ssl eDerivationStep l)), (3, .v (osl eDerivationStep true zs.1)), (4, .v (iT zs.2))]) (QX 0 (fun (y : (List DerivationStep)) => [(3, .v (osl eDerivationStep true y))])) := Lp.of (f := (fun
 | (out_1, i_2) =>
  if i_2 < (l.length : Int) then
  (ix l i_2).bind fun v_4 =>
  (app 8 ([]) v_4.Facts).bind fun l_6 =>
  sn 13 19 (osl eI true l_6) <| 
  (app 32 out_1 ([({ Facts := l_6, Block := v_4.Block } : DerivationStep)])).bind fun l_8 =>
  some (.inl (l_8, w64 (i_2 + 1)))
  else
  some (.inr out_1) : (List DerivationStep) × Int -> Option (((List DerivationStep) × Int) ⊕ (List DerivationStep)))) (by exact go)
instance i49 {l : (List DerivationStep)} : Rn cx (f49 l) 49 [(ssl eDerivationStep l)] (fun (r : (List DerivationStep)) => (osl eDerivationStep true r)) (fun r => []) := Rn.o (e := (
  sn 3 3 (osl eDerivationStep true ([])) <| 
  (iter (f49_0 l) ([], 0)).bind fun out_12 =>
  some out_12 : Option (List DerivationStep))) rfl (by exact go)
instance : Io0 cx 49 := ⟨rfl⟩
instance i59_0 {l : (List DerivationStep)} : Lp cx (lw (blocks, v_1, v_12) (f59_0 l i)) 92 L59_0 (fun (zs : (List (List Int)) × Int) => [(3, .v (ssl eDerivationStep l)), (4, .v (iT i)), (11, .v (ssl eI v_1.Facts)), (12, .v (ssl eI v_12)), (13, .v (osl (eL eI) false zs.1)), (14, .v (iT zs.2)), (16, .v (ssl eDerivationStep l)), (17, .v (iT i)), (44, .v (ssl (eL eI) blocks)), (49, .v (iT v_1.Block))]) (QX 0 (fun (y : (List (List Int))) => [(11, .v (ssl eI v_1.Facts)), (12, .v (ssl eI v_12)), (13, .v (osl (eL eI) false y)), (16, .v (ssl eDerivationStep l)), (17, .v (iT i)), (44, .v (ssl (eL eI) blocks)), (49, .v (iT v_1.Block))])) := Lp.of (by unfold lw f59_0; exact go)
instance i59_1 {l : (List DerivationStep)} {sets_23 : (List (List Int))} : Lp cx (lw (blocks, l, i) (f59_1 v_1 v_12 sets_23)) 92 L59_1 (fun (zs : Int) => [(11, .v (ssl eI v_1.Facts)), (12, .v (ssl eI v_12)), (13, .v (osl (eL eI) false sets_23)), (15, .v (iT zs)), (16, .v (ssl eDerivationStep l)), (17, .v (iT i)), (44, .v (ssl (eL eI) blocks)), (49, .v (iT v_1.Block))]) (QO (QX 2 (fun (y : Unit) => [])) (QR (fun (y : Bool) => [(10, .v (.bool y))]))) := Lp.of (f := (fun
 | k_24 =>
  if k_24 < (v_12.length : Int) then
  (ix v_12 k_24).bind fun v_26 =>
  (f80 v_1.Facts v_26).bind fun o28 =>
  (jn (QN (fun (y : Bool) => [(11, .v (ssl eI v_1.Facts)), (12, .v (ssl eI v_12)), (13, .v (osl (eL eI) false sets_23)), (15, .v (iT k_24)), (16, .v (ssl eDerivationStep l)), (17, .v (iT i)), (44, .v (ssl (eL eI) blocks)), (49, .v (iT v_1.Block)), (91, .v (.bool y))])) ((if o28 = true then
  some true
  else
  (app 8 ([]) v_1.Facts).bind fun l_33 =>
  (app 8 l_33 ([v_26])).bind fun l_35 =>
  sn 0 88 (osl eI true l_35) <| 
  (f98 sets_23 l_35).bind fun o37 =>
  some (decide (¬ (o37 = true)))) : Option (Bool))).bind fun x_30 =>
  if x_30 = true then
  some (.inr (.inr false))
  else
  some (.inl (w64 (k_24 + 1)))
  else
  some (.inr (.inl ())) : Int -> Option (Int ⊕ (Unit ⊕ Bool)))) (by exact go)
instance i59 {need : (List (List Int))} {l : (List DerivationStep)} : Rn cx (f59 d need blocks l i) 59 [(.agg [(ssl eRelation d.Relations), (ssl eFact d.Facts)]), (ssl (eL eI) need), (ssl (eL eI) blocks), (ssl eDerivationStep l), (iT i)] (fun (r : Bool) => (.bool r)) (fun r => []) := Rn.o (e := (
  (ix l i).bind fun v_1 =>
  (f96 d v_1.Facts).bind fun o3 =>
  if ¬ (o3 = true) then
  some false
  else
  if v_1.Block = (-1) then
  (f98 need v_1.Facts).bind fun o7 =>
  some o7
  else
  (f38 v_1.Block 0 (w64 ((blocks.length : Int) - 1))).bind fun o9 =>
  if ¬ (o9 = true) then
  some false
  else
  (ix blocks v_1.Block).bind fun v_12 =>
  sn 11 13 (osl (eL eI) false ([])) <| 
  (iter (lw (blocks, v_1, v_12)  (f59_0 l i)) ([], 0)).bind fun sets_23 =>
  (iter (lw (blocks, l, i)  (f59_1 v_1 v_12 sets_23)) 0).bind fun o => match o with
  | .inl _ =>
  some true
  | .inr x_42 =>
  some x_42 : Option Bool)) rfl (by exact go)
instance : Io0 cx 59 := ⟨rfl⟩
instance i17_0 {l : (List DerivationStep)} {o12 : (List (List Int))} {o14 : (List (List Int))} : Lp cx (f17_0 d l o12 o14) 48 L17_0 (fun (zs : Int) => [(2, .v (ssl eDerivationStep l)), (3, .v (.ptr true [(ssl eRelation d.Relations), (ssl eFact d.Facts)])), (7, .v (osl (eL eI) false o12)), (8, .v (osl (eL eI) true o14)), (9, .v (iT zs))]) (QO (QX 0 (fun (y : Unit) => [])) (QR (fun (y : Bool) => [(6, .v (.bool y))]))) := Lp.of (by unfold f17_0; exact go)
instance i17 {l : (List DerivationStep)} : Rn cx (f17 d q l) 17 [(.agg [(ssl eRelation d.Relations), (ssl eFact d.Facts)]), (.agg [(iT q.VariableCount), (ssl eAtom q.Atoms), (ssl eI q.Free)]), (ssl eDerivationStep l)] (fun (r : Bool) => (.bool r)) (fun r => []) := Rn.o (e := (
  (f56 d q).bind fun o1 =>
  (jn (QN (fun (y : Bool) => [(2, .v (ssl eDerivationStep l)), (3, .v (.ptr true [(ssl eRelation d.Relations), (ssl eFact d.Facts)])), (4, .v (.ptr true [(iT q.VariableCount), (ssl eAtom q.Atoms), (ssl eI q.Free)])), (29, .v (.bool y))])) ((if ¬ (o1 = true) then
  some true
  else
  (jn (QN (fun (y : Bool) => [(2, .v (ssl eDerivationStep l)), (3, .v (.ptr true [(ssl eRelation d.Relations), (ssl eFact d.Facts)])), (4, .v (.ptr true [(iT q.VariableCount), (ssl eAtom q.Atoms), (ssl eI q.Free)])), (29, .v (.bool y))])) ((if (l.length : Int) = 0 then
  some true
  else
  (ix l (w64 ((l.length : Int) - 1))).bind fun v_9 =>
  some (decide ((v_9.Facts.length : Int) > 0))) : Option (Bool))).bind fun x_6 =>
  some x_6) : Option (Bool))).bind fun x_3 =>
  if x_3 = true then
  some false
  else
  (f57 d q).bind fun o12 =>
  (f58 d).bind fun o14 =>
  (iter (f17_0 d l o12 o14) 0).bind fun o => match o with
  | .inl _ =>
  some true
  | .inr x_23 =>
  some x_23 : Option Bool)) rfl (by exact go)
instance : Io0 cx 17 := ⟨rfl⟩
instance i14_0 : Lp cx (f14_0 d q) 41 L14_0 (fun (zs : (List DerivationStep) × Int) => [(3, .v (.ptr true [(ssl eRelation d.Relations), (ssl eFact d.Facts)])), (4, .v (.ptr true [(iT q.VariableCount), (ssl eAtom q.Atoms), (ssl eI q.Free)])), (7, .v (ssl eDerivationStep zs.1)), (8, .v (iT zs.2))]) (QX 0 (fun (y : (List DerivationStep)) => [(7, .v (ssl eDerivationStep y))])) := Lp.of (f := (fun
 | (out_6, i_7) =>
  if i_7 >= 0 then
  (cutL out_6 0 i_7).bind fun l_9 =>
  (cutL out_6 (w64 (i_7 + 1)) out_6.length).bind fun l_11 =>
  (app 32 ([]) l_9).bind fun l_13 =>
  (app 32 l_13 l_11).bind fun l_15 =>
  sn 11 9 (osl eDerivationStep false l_15) <| 
  (f17 d q l_15).bind fun o17 =>
  (jn (QN (fun (y : (List DerivationStep)) => [(3, .v (.ptr true [(ssl eRelation d.Relations), (ssl eFact d.Facts)])), (4, .v (.ptr true [(iT q.VariableCount), (ssl eAtom q.Atoms), (ssl eI q.Free)])), (7, .v (ssl eDerivationStep y)), (8, .v (iT i_7))])) ((if o17 = true then
  some l_15
  else
  some out_6) : Option (List DerivationStep))).bind fun out_22 =>
  some (.inl (out_22, w64 (i_7 - 1)))
  else
  some (.inr out_6) : (List DerivationStep) × Int -> Option (((List DerivationStep) × Int) ⊕ (List DerivationStep)))) (by exact go)
instance i14 {l : (List DerivationStep)} : Rn cx (f14 d q l) 14 [(.agg [(ssl eRelation d.Relations), (ssl eFact d.Facts)]), (.agg [(iT q.VariableCount), (ssl eAtom q.Atoms), (ssl eI q.Free)]), (ssl eDerivationStep l)] (fun (r : (List DerivationStep)) => (ssl eDerivationStep r)) (fun r => []) := Rn.o (e := (
  (f49 l).bind fun o1 =>
  sn 1 7 (ssl eDerivationStep o1) <| 
  (f17 d q l).bind fun o3 =>
  if ¬ (o3 = true) then
  some o1
  else
  (iter (f14_0 d q) (o1, w64 ((o1.length : Int) - 2))).bind fun out_25 =>
  some out_25 : Option (List DerivationStep))) rfl (by exact go)
instance : Io0 cx 14 := ⟨rfl⟩
instance i15_0 : Lp cx (f15_0 a b) 26 L15_0 (fun (zs : Int) => [(0, .v (ssl eI a)), (1, .v (ssl eI b)), (5, .v (iT zs))]) (QO (QX 0 (fun (y : Unit) => [])) (QR (fun (y : Bool) => [(4, .v (.bool y))]))) := Lp.of (by unfold f15_0; exact go)
instance i15 : Rn cx (f15 a b) 15 [(ssl eI a), (ssl eI b)] (fun (r : Bool) => (.bool r)) (fun r => []) := Rn.o rfl (by unfold f15; exact go)
instance : Io0 cx 15 := ⟨rfl⟩
instance i4_0 {o4 : (Database × Query × (List DerivationStep))} {o6 : (List DerivationStep)} {o8 : (List DerivationStep)} : Lp cx (lw o4 (f4_0 o6 o8)) 77 L4_0 (fun (zs : Int) => [(3, .v (.ptr true [(ssl eRelation o4.1.Relations), (ssl eFact o4.1.Facts)])), (4, .v (.ptr true [(iT o4.2.1.VariableCount), (ssl eAtom o4.2.1.Atoms), (ssl eI o4.2.1.Free)])), (5, .v (ssl eDerivationStep o4.2.2)), (6, .v (ssl eDerivationStep o6)), (7, .v (ssl eDerivationStep o8)), (8, .v (iT zs))]) (QO (QX 0 (fun (y : Unit) => [(3, .v (.ptr true [(ssl eRelation o4.1.Relations), (ssl eFact o4.1.Facts)])), (4, .v (.ptr true [(iT o4.2.1.VariableCount), (ssl eAtom o4.2.1.Atoms), (ssl eI o4.2.1.Free)])), (5, .v (ssl eDerivationStep o4.2.2)), (6, .v (ssl eDerivationStep o6))])) (QR (fun (y : Bool) => [(2, .v (.bool y))]))) := Lp.of (f := (fun
 | i_14 =>
  if i_14 < (o6.length : Int) then
  (ix o6 i_14).bind fun v_16 =>
  (ix o8 i_14).bind fun v_18 =>
  (jn (QN (fun (y : Bool) => [(3, .v (.ptr true [(ssl eRelation o4.1.Relations), (ssl eFact o4.1.Facts)])), (4, .v (.ptr true [(iT o4.2.1.VariableCount), (ssl eAtom o4.2.1.Atoms), (ssl eI o4.2.1.Free)])), (5, .v (ssl eDerivationStep o4.2.2)), (6, .v (ssl eDerivationStep o6)), (7, .v (ssl eDerivationStep o8)), (8, .v (iT i_14)), (67, .v (.bool y))])) ((if v_16.Block ≠ v_18.Block then
  some true
  else
  (f15 v_16.Facts v_18.Facts).bind fun o23 =>
  some (decide (¬ (o23 = true)))) : Option (Bool))).bind fun x_20 =>
  if x_20 = true then
  some (.inr (.inr false))
  else
  some (.inl (w64 (i_14 + 1)))
  else
  some (.inr (.inl ())) : Int -> Option (Int ⊕ (Unit ⊕ Bool)))) (by exact go)
end
end Go.Proofs.YtamibblcpccjlaaGreatH
