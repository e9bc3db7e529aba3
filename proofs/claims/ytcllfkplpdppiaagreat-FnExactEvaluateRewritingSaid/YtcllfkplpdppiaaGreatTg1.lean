import Derived.Test.YtcllfkplpdppiaaGreatTg1b
set_option maxHeartbeats 2000000
set_option linter.unusedVariables false
set_option linter.unusedSimpArgs false
set_option linter.defProp false
set_option linter.unusedSectionVars false
set_option maxRecDepth 100000
namespace Go.Proofs.YtcllfkplpdppiaaGreatH
open Go
noncomputable section
instance i214_0 {s1 : (List Int)} {s2 : (List Int)} : Lp cx (f214_0 s1 s2) 26 L214_0 (fun (zs : Int) => [(0, .v (ssl eI s1)), (1, .v (ssl eI s2)), (12, .v (iT (s1.length : Int))), (13, .v (iT zs))]) (QO (QX 0 (fun (y : Unit) => [])) (QR (fun (y : Bool) => [(4, .v (.bool y))]))) := by
 refine Lp.of ?_; unfold f214_0; exact go
instance i214 {s1 : (List Int)} {s2 : (List Int)} : Rn cx (f214 s1 s2) 214 [(ssl eI s1), (ssl eI s2)] (fun (r : Bool) => (.bool r)) (fun r => []) := by
 refine Rn.of rfl rfl (by decide) rfl ?_; unfold f214; exact go
instance : Io0 cx 214 := ⟨rfl⟩
instance i162 {relations : (List Relation)} {a : Fact} {b : Fact} : Rn cx (f162 relations a b) 162 [(ssl eRelation relations), (.agg [(iT a.Relation), (ssl eI a.Values)]), (.agg [(iT b.Relation), (ssl eI b.Values)])] (fun (r : Bool) => (.bool r)) (fun r => []) := by
 refine Rn.of rfl rfl (by decide) rfl ?_; unfold f162; exact go
instance : Io0 cx 162 := ⟨rfl⟩
instance i83_0 {db : Database} : Lp cx (f83_0 db) 54 L83_0 (fun (zs : (List (List Int)) × Int) => [(1, .v (.ptr true [(ssl eRelation db.Relations), (ssl eFact db.Facts)])), (3, .v (osl (eL eI) true zs.1)), (9, .v (ssl eFact db.Facts)), (10, .v (iT (db.Facts.length : Int))), (11, .v (iT zs.2))]) (QX 0 (fun (y : (List (List Int))) => [(3, .v (osl (eL eI) true y))])) := by
 refine Lp.of (f := (fun
 | (out_1, x_2) =>
  if x_2 < (db.Facts.length : Int) then
  (ix db.Facts x_2).bind fun v_4 =>
  (jn (QN (fun (y : Bool) => [(1, .v (.ptr true [(ssl eRelation db.Relations), (ssl eFact db.Facts)])), (3, .v (osl (eL eI) true out_1)), (4, .v (iT x_2)), (6, .v (iT (w64 ((out_1.length : Int) - 1)))), (9, .v (ssl eFact db.Facts)), (10, .v (iT (db.Facts.length : Int))), (11, .v (iT x_2)), (36, .v (.bool y))])) ((if (w64 ((out_1.length : Int) - 1)) ≥ 0 then
  (ix out_1 (w64 ((out_1.length : Int) - 1))).bind fun v_9 =>
  (ix v_9 0).bind fun v_11 =>
  (ix db.Facts v_11).bind fun v_13 =>
  (f162 db.Relations v_13 v_4).bind fun o15 =>
  some o15
  else
  some false) : Option (Bool))).bind fun x_6 =>
  (jn (QN (fun (y : (List (List Int))) => [(1, .v (.ptr true [(ssl eRelation db.Relations), (ssl eFact db.Facts)])), (3, .v (osl (eL eI) true y)), (9, .v (ssl eFact db.Facts)), (10, .v (iT (db.Facts.length : Int))), (11, .v (iT x_2))])) ((if x_6 = true then
  (ix out_1 (w64 ((out_1.length : Int) - 1))).bind fun v_20 =>
  (app 8 v_20 ([x_2])).bind fun l_22 =>
  some (out_1.set (w64 ((out_1.length : Int) - 1)).toNat l_22)
  else
  sn 3 49 (osl eI true ([x_2])) <| 
  (app 24 out_1 ([[x_2]])).bind fun l_25 =>
  some l_25) : Option (List (List Int)))).bind fun out_27 =>
  some (.inl (out_27, w64 (x_2 + 1)))
  else
  some (.inr out_1) : (List (List Int)) × Int → Option (((List (List Int)) × Int) ⊕ (List (List Int))))) ?_
 exact go
instance i83 {db : Database} : Rn cx (f83 db) 83 [(.agg [(ssl eRelation db.Relations), (ssl eFact db.Facts)])] (fun (r : (List (List Int))) => (osl (eL eI) true r)) (fun r => []) := by
 refine Rn.of (e := (
  sn 4 3 (osl (eL eI) true ([])) <| 
  (iter (f83_0 db) ([], 0)).bind fun out_30 =>
  some out_30 : Option (List (List Int)))) rfl rfl (by decide) rfl ?_
 exact go
instance : Io0 cx 83 := ⟨rfl⟩
theorem r135 {s0 : (List Int)} {r : (List Int)} (h : f135 s0 = some r) : VJx cx (.ca 135 [(ssl eI s0)] (osl eI true r) []) := by
 unfold f135 at h
 refine ca_clone (X := noExt) (fun _ _ _ _ h => h) (fun _ _ _ _ h => h) rfl (by decide) rfl (cl_eq h) ?_
 refine Wc.start (V1 := [(0, .v (ssl eI s0))]) (by simp) ?_
 refine Wc.seq ?_
 obtain ⟨l_1, h2, h⟩ := bind_some h
 have gx2 := appT_arr2 (E := eI) (b := true) (b' := false) (y := false) h2 (by decide) (arr_sc rfl _)
 simp [-aI_app0, -aB_app0, -aS_app0, -aL_app0, -aLt_app1I, -aLf_app1I, -aLt_app10I, -aLf_app10I] at gx2
 refine Wc.evs (by conv => lhs; simp [-aI_app0, -aB_app0, -aS_app0, -aL_app0, -aI_app10, -aB_app10, -aS_app10, -aLt_app10I, -aLf_app10I, -aLt_app1I, -aLf_app1I, gx2]) ?_
 refine Wo.gh (vle_co (s := 2) (t1 := (osl eI true l_1)) rfl (by simp) (tle_own rfl) (by conv => lhs; simp)) ?_
 refine Wo.nil ?_
 refine Wc.ret (res_of (.inr rfl) ?_)
 cases h
 exact ⟨_, _, _, by conv => lhs; simp, by (conv => lhs; simp [cx, ioTab, List.range, List.range.loop]) <;> rfl, by first | rfl | simp [-aI_app0, -aB_app0, -aS_app0, -aL_app0, -aI_app10, -aB_app10, -aS_app10, -aLt_app10I, -aLf_app10I, -aLt_app1I, -aLf_app1I, gx2]⟩
instance i135 {s0 : (List Int)} : Rn cx (f135 s0) 135 [(ssl eI s0)] (fun (r : (List Int)) => (osl eI true r)) (fun r => []) := ⟨fun _ h => r135 h⟩
instance : Io0 cx 135 := ⟨rfl⟩
instance i192 {t : Int} : Rn cx (f192 t) 192 [(iT t)] (fun (r : Bool) => (.bool r)) (fun r => []) := by
 refine Rn.of rfl rfl (by decide) rfl ?_; unfold f192; exact go
instance : Io0 cx 192 := ⟨rfl⟩
instance i193 {v : Int} : Rn cx (f193 v) 193 [(iT v)] (fun (r : Int) => (iT r)) (fun r => []) := by
 refine Rn.of rfl rfl (by decide) rfl ?_; unfold f193; exact go
instance : Io0 cx 193 := ⟨rfl⟩
instance i136_0 {terms : (List Int)} {from2 : (List Int)} : Lp cx (f136_0 terms from2) 56 L136_0 (fun (zs : (List Int) × Int) => [(2, .v (ssl eI from2)), (8, .v (osl eI true zs.1)), (13, .v (ssl eI terms)), (14, .v (iT (terms.length : Int))), (15, .v (iT zs.2))]) (QO (QX 0 (fun (y : (List Int)) => [(8, .v (osl eI true y))])) (QR (fun (y : (List Int) × Bool) => [(6, .v (osl eI true y.1)), (7, .v (.bool y.2))]))) := by
 refine Lp.of (f := (fun
 | (out_3, x_4) =>
  if x_4 < (terms.length : Int) then
  (ix terms x_4).bind fun v_6 =>
  (f192 v_6).bind fun o8 =>
  (jn (QO (QN (fun (y : (List Int)) => [(2, .v (ssl eI from2)), (8, .v (osl eI true y)), (13, .v (ssl eI terms)), (14, .v (iT (terms.length : Int))), (15, .v (iT x_4))])) (QR (fun (y : (List Int) × Bool) => [(6, .v (osl eI true y.1)), (7, .v (.bool y.2))]))) ((if ¬ (o8 = true) then
  (ix from2 x_4).bind fun v_13 =>
  (f193 v_6).bind fun o15 =>
  if o15 ≠ v_13 then
  sn 2 6 (osl eI true ([])) <| 
  some (.inr ([], false))
  else
  some (.inl out_3)
  else
  (ix out_3 v_6).bind fun v_18 =>
  (jn (QO (QN (fun (y : (List Int)) => [(2, .v (ssl eI from2)), (8, .v (osl eI true y)), (13, .v (ssl eI terms)), (14, .v (iT (terms.length : Int))), (15, .v (iT x_4))])) (QR (fun (y : (List Int) × Bool) => [(6, .v (osl eI true y.1)), (7, .v (.bool y.2))]))) ((if v_18 < 0 then
  (ix from2 x_4).bind fun v_23 =>
  some (.inl (out_3.set v_6.toNat v_23))
  else
  (ix from2 x_4).bind fun v_26 =>
  if v_18 ≠ v_26 then
  sn 2 6 (osl eI true ([])) <| 
  some (.inr ([], false))
  else
  some (.inl out_3)) : Option ((List Int) ⊕ ((List Int) × Bool)))).bind fun o => match o with
  | .inl out_29 =>
  some (.inl out_29)
  | .inr (x_30, x_31) =>
  some (.inr (x_30, x_31))) : Option ((List Int) ⊕ ((List Int) × Bool)))).bind fun o => match o with
  | .inl out_32 =>
  some (.inl (out_32, w64 (x_4 + 1)))
  | .inr (x_33, x_34) =>
  some (.inr (.inr (x_33, x_34)))
  else
  some (.inr (.inl out_3)) : (List Int) × Int → Option (((List Int) × Int) ⊕ ((List Int) ⊕ ((List Int) × Bool))))) ?_
 exact go
instance i136 {values : (List Int)} {terms : (List Int)} {from2 : (List Int)} : Rn cx (f136 values terms from2) 136 [(ssl eI values), (ssl eI terms), (ssl eI from2)] (fun (r : (List Int) × Bool) => (.tup [(osl eI true r.1), (.bool r.2)])) (fun r => []) := by
 refine Rn.of rfl rfl (by decide) rfl ?_; unfold f136; exact go
instance : Io0 cx 136 := ⟨rfl⟩
instance i82_1 {db : Database} {list : (List (List Int))} {rewriting : (List RewritingStep)} {values : (List Int)} {v_2 : RewritingStep} {v_4 : Relation} {x_6 : Int} {v_10 : (List Int)} {o21 : ((List Int) × Bool)} {rec : Database → (List (List Int)) → (List RewritingStep) → (List Int) → Option Bool} [hrec : ∀ db list rewriting values, Rn cx (rec db list rewriting values) 82 [(.agg [(ssl eRelation db.Relations), (ssl eFact db.Facts)]), (ssl (eL eI) list), (ssl eRewritingStep rewriting), (ssl eI values)] (fun o => (.bool o)) (fun o => [])] : Lp cx (lw (values, v_4, x_6) (f82_1 db list rewriting rec v_2 v_10 o21)) 100 L82_1 (fun (zs : Bool × Int) => [(1, .v (ssl (eL eI) list)), (2, .v (ssl eRewritingStep rewriting)), (3, .v (ssl eI values)), (4, .v (.ptr true [(ssl eRelation db.Relations), (ssl eFact db.Facts)])), (9, .v (.ptr true [(iT v_2.Atom.Relation), (ssl eI v_2.Atom.Terms)])), (10, .v (iT v_4.KeyLength)), (12, .v (ssl eI v_10)), (14, .v (osl eI true o21.1)), (15, .v (.bool zs.1)), (16, .v (iT zs.2)), (33, .v (ssl (eL eI) list)), (34, .v (iT (list.length : Int))), (35, .v (iT x_6))]) (QX 2 (fun (y : Bool) => [(1, .v (ssl (eL eI) list)), (2, .v (ssl eRewritingStep rewriting)), (3, .v (ssl eI values)), (4, .v (.ptr true [(ssl eRelation db.Relations), (ssl eFact db.Facts)])), (9, .v (.ptr true [(iT v_2.Atom.Relation), (ssl eI v_2.Atom.Terms)])), (10, .v (iT v_4.KeyLength)), (15, .v (.bool y)), (33, .v (ssl (eL eI) list)), (34, .v (iT (list.length : Int))), (35, .v (iT x_6))])) := by
 refine Lp.of (f := (fun
 | (ok_23, i_24) =>
  (jn (QN (fun (y : Bool) => [(1, .v (ssl (eL eI) list)), (2, .v (ssl eRewritingStep rewriting)), (3, .v (ssl eI values)), (4, .v (.ptr true [(ssl eRelation db.Relations), (ssl eFact db.Facts)])), (9, .v (.ptr true [(iT v_2.Atom.Relation), (ssl eI v_2.Atom.Terms)])), (10, .v (iT v_4.KeyLength)), (12, .v (ssl eI v_10)), (14, .v (osl eI true o21.1)), (15, .v (.bool ok_23)), (16, .v (iT i_24)), (33, .v (ssl (eL eI) list)), (34, .v (iT (list.length : Int))), (35, .v (iT x_6)), (70, .v (.bool y))])) ((if i_24 < (v_10.length : Int) then
  some ok_23
  else
  some false) : Option (Bool))).bind fun x_25 =>
  if x_25 = true then
  (ix v_10 i_24).bind fun v_29 =>
  (ix db.Facts v_29).bind fun v_31 =>
  (f136 o21.1 v_2.Atom.Terms v_31.Values).bind fun o33 =>
  (jn (QN (fun (y : Bool) => [(1, .v (ssl (eL eI) list)), (2, .v (ssl eRewritingStep rewriting)), (3, .v (ssl eI values)), (4, .v (.ptr true [(ssl eRelation db.Relations), (ssl eFact db.Facts)])), (9, .v (.ptr true [(iT v_2.Atom.Relation), (ssl eI v_2.Atom.Terms)])), (10, .v (iT v_4.KeyLength)), (12, .v (ssl eI v_10)), (14, .v (osl eI true o21.1)), (15, .v (.bool y)), (16, .v (iT i_24)), (33, .v (ssl (eL eI) list)), (34, .v (iT (list.length : Int))), (35, .v (iT x_6))])) ((if o33.2 = true then
  (cutL rewriting 1 rewriting.length).bind fun l_38 =>
  (rec db list l_38 o33.1).bind fun o40 =>
  some o40
  else
  some false) : Option (Bool))).bind fun ok_35 =>
  some (.inl (ok_35, w64 (i_24 + 1)))
  else
  some (.inr ok_23) : Bool × Int → Option ((Bool × Int) ⊕ Bool))) ?_
 exact go
instance i82_0 {db : Database} {list : (List (List Int))} {rewriting : (List RewritingStep)} {values : (List Int)} {v_2 : RewritingStep} {v_4 : Relation} {rec : Database → (List (List Int)) → (List RewritingStep) → (List Int) → Option Bool} [hrec : ∀ db list rewriting values, Rn cx (rec db list rewriting values) 82 [(.agg [(ssl eRelation db.Relations), (ssl eFact db.Facts)]), (ssl (eL eI) list), (ssl eRewritingStep rewriting), (ssl eI values)] (fun o => (.bool o)) (fun o => [])] : Lp cx (f82_0 db list rewriting values rec v_2 v_4) 100 L82_0 (fun (zs : Int) => [(1, .v (ssl (eL eI) list)), (2, .v (ssl eRewritingStep rewriting)), (3, .v (ssl eI values)), (4, .v (.ptr true [(ssl eRelation db.Relations), (ssl eFact db.Facts)])), (9, .v (.ptr true [(iT v_2.Atom.Relation), (ssl eI v_2.Atom.Terms)])), (10, .v (iT v_4.KeyLength)), (33, .v (ssl (eL eI) list)), (34, .v (iT (list.length : Int))), (35, .v (iT zs))]) (QO (QX 0 (fun (y : Unit) => [])) (QR (fun (y : Bool) => [(8, .v (.bool y))]))) := by
 refine Lp.of (f := (fun
 | x_6 =>
  if x_6 < (list.length : Int) then
  (jb 1 (QO (QN (fun (y : Unit) => [(1, .v (ssl (eL eI) list)), (2, .v (ssl eRewritingStep rewriting)), (3, .v (ssl eI values)), (4, .v (.ptr true [(ssl eRelation db.Relations), (ssl eFact db.Facts)])), (9, .v (.ptr true [(iT v_2.Atom.Relation), (ssl eI v_2.Atom.Terms)])), (10, .v (iT v_4.KeyLength)), (33, .v (ssl (eL eI) list)), (34, .v (iT (list.length : Int))), (35, .v (iT x_6))])) (QR (fun (y : Bool) => [(8, .v (.bool y))]))) (((ix list x_6).bind fun v_10 =>
  (ix v_10 0).bind fun v_12 =>
  (ix db.Facts v_12).bind fun v_14 =>
  if v_14.Relation ≠ v_2.Atom.Relation then
  some (.inl ())
  else
  (cutL v_2.Atom.Terms 0 v_4.KeyLength).bind fun l_17 =>
  (cutL v_14.Values 0 v_4.KeyLength).bind fun l_19 =>
  (f136 values l_17 l_19).bind fun o21 =>
  (iter (lw (values, v_4, x_6)  (f82_1 db list rewriting rec v_2 v_10 o21)) (o21.2, 0)).bind fun ok_44 =>
  if ok_44 = true then
  some (.inr true)
  else
  some (.inl ())) : Option (Unit ⊕ Bool))).bind fun o => match o with
  | .inl _ =>
  some (.inl (w64 (x_6 + 1)))
  | .inr x_46 =>
  some (.inr (.inr x_46))
  else
  some (.inr (.inl ())) : Int → Option (Int ⊕ (Unit ⊕ Bool)))) ?_
 exact go
instance i82 : ∀ (n : Nat) db list rewriting values, Rn cx (f82 n db list rewriting values) 82 [(.agg [(ssl eRelation db.Relations), (ssl eFact db.Facts)]), (ssl (eL eI) list), (ssl eRewritingStep rewriting), (ssl eI values)] (fun (r : Bool) => (.bool r)) (fun r => []) := by
 intro n
 induction n with
 | zero => intro db list rewriting values; exact ⟨fun r h => by simp [f82] at h⟩
 | succ n ih =>
  intro db list rewriting values
  refine Rn.of rfl rfl (by decide) rfl ?_
  simp only [f82]
  exact go
instance : Io0 cx 82 := ⟨rfl⟩
instance i17 {db : Database} {rewriting : (List RewritingStep)} {values : (List Int)} : Rn cx (f17 db rewriting values) 17 [(.agg [(ssl eRelation db.Relations), (ssl eFact db.Facts)]), (ssl eRewritingStep rewriting), (ssl eI values)] (fun (r : Bool) => (.bool r)) (fun r => []) := by
 refine Rn.of (e := (
  (f79 db).bind fun o1 =>
  (jn (QN (fun (y : Bool) => [(1, .v (ssl eRewritingStep rewriting)), (2, .v (ssl eI values)), (3, .v (.ptr true [(ssl eRelation db.Relations), (ssl eFact db.Facts)])), (22, .v (.bool y))])) ((if ¬ (o1 = true) then
  some true
  else
  (f80 db.Relations rewriting).bind fun o6 =>
  (jn (QN (fun (y : Bool) => [(1, .v (ssl eRewritingStep rewriting)), (2, .v (ssl eI values)), (3, .v (.ptr true [(ssl eRelation db.Relations), (ssl eFact db.Facts)])), (22, .v (.bool y))])) ((if ¬ (o6 = true) then
  some true
  else
  some (decide ((values.length : Int) > 4))) : Option (Bool))).bind fun x_8 =>
  some x_8) : Option (Bool))).bind fun x_3 =>
  if x_3 = true then
  some false
  else
  (f81 4).bind fun o12 =>
  (nel o12).bind fun z_14 =>
  cp 3 <| 
  (f83 db).bind fun o16 =>
  (f82 64 db o16 rewriting (cpL o12 values)).bind fun o18 =>
  some o18 : Option Bool)) rfl rfl (by decide) rfl ?_
 exact go
instance : Io0 cx 17 := ⟨rfl⟩
instance i107 {a : Relation} {b : Relation} : Rn cx (f107 a b) 107 [(.agg [(.str a.Name), (iT a.Arity), (iT a.KeyLength)]), (.agg [(.str b.Name), (iT b.Arity), (iT b.KeyLength)])] (fun (r : Bool) => (.bool r)) (fun r => []) := by
 refine Rn.of rfl rfl (by decide) rfl ?_; unfold f107; exact go
instance : Io0 cx 107 := ⟨rfl⟩
instance i30_0 {a : (List Relation)} {b : (List Relation)} : Lp cx (f30_0 a b) 27 L30_0 (fun (zs : Int) => [(0, .v (ssl eRelation a)), (1, .v (ssl eRelation b)), (5, .v (iT zs))]) (QO (QX 0 (fun (y : Unit) => [])) (QR (fun (y : Bool) => [(4, .v (.bool y))]))) := by
 refine Lp.of ?_; unfold f30_0; exact go
instance i30 {a : (List Relation)} {b : (List Relation)} : Rn cx (f30 a b) 30 [(ssl eRelation a), (ssl eRelation b)] (fun (r : Bool) => (.bool r)) (fun r => []) := by
 refine Rn.of rfl rfl (by decide) rfl ?_; unfold f30; exact go
instance : Io0 cx 30 := ⟨rfl⟩
instance i20_0 {a : (List Int)} {b : (List Int)} : Lp cx (f20_0 a b) 26 L20_0 (fun (zs : Int) => [(0, .v (ssl eI a)), (1, .v (ssl eI b)), (5, .v (iT zs))]) (QO (QX 0 (fun (y : Unit) => [])) (QR (fun (y : Bool) => [(4, .v (.bool y))]))) := by
 refine Lp.of ?_; unfold f20_0; exact go
instance i20 {a : (List Int)} {b : (List Int)} : Rn cx (f20 a b) 20 [(ssl eI a), (ssl eI b)] (fun (r : Bool) => (.bool r)) (fun r => []) := by
 refine Rn.of rfl rfl (by decide) rfl ?_; unfold f20; exact go
instance : Io0 cx 20 := ⟨rfl⟩
instance i163 {a : Fact} {b : Fact} : Rn cx (f163 a b) 163 [(.agg [(iT a.Relation), (ssl eI a.Values)]), (.agg [(iT b.Relation), (ssl eI b.Values)])] (fun (r : Bool) => (.bool r)) (fun r => []) := by
 refine Rn.of rfl rfl (by decide) rfl ?_; unfold f163; exact go
instance : Io0 cx 163 := ⟨rfl⟩
instance i84_0 {a : (List Fact)} {b : (List Fact)} : Lp cx (f84_0 a b) 27 L84_0 (fun (zs : Int) => [(0, .v (ssl eFact a)), (1, .v (ssl eFact b)), (5, .v (iT zs))]) (QO (QX 0 (fun (y : Unit) => [])) (QR (fun (y : Bool) => [(4, .v (.bool y))]))) := by
 refine Lp.of ?_; unfold f84_0; exact go
instance i84 {a : (List Fact)} {b : (List Fact)} : Rn cx (f84 a b) 84 [(ssl eFact a), (ssl eFact b)] (fun (r : Bool) => (.bool r)) (fun r => []) := by
 refine Rn.of rfl rfl (by decide) rfl ?_; unfold f84; exact go
instance : Io0 cx 84 := ⟨rfl⟩
instance i18 {a : Database} {b : Database} : Rn cx (f18 a b) 18 [(.agg [(ssl eRelation a.Relations), (ssl eFact a.Facts)]), (.agg [(ssl eRelation b.Relations), (ssl eFact b.Facts)])] (fun (r : Bool) => (.bool r)) (fun r => []) := by
 refine Rn.of rfl rfl (by decide) rfl ?_; unfold f18; exact go
instance : Io0 cx 18 := ⟨rfl⟩
instance i164 {a : Atom} {b : Atom} : Rn cx (f164 a b) 164 [(.agg [(iT a.Relation), (ssl eI a.Terms)]), (.agg [(iT b.Relation), (ssl eI b.Terms)])] (fun (r : Bool) => (.bool r)) (fun r => []) := by
 refine Rn.of rfl rfl (by decide) rfl ?_; unfold f164; exact go
instance : Io0 cx 164 := ⟨rfl⟩
instance i85 {a : RewritingStep} {b : RewritingStep} : Rn cx (f85 a b) 85 [(.agg [(iT a.Atom.Relation), (ssl eI a.Atom.Terms), (ssl eI a.Existential), (ssl eI a.Universal)]), (.agg [(iT b.Atom.Relation), (ssl eI b.Atom.Terms), (ssl eI b.Existential), (ssl eI b.Universal)])] (fun (r : Bool) => (.bool r)) (fun r => []) := by
 refine Rn.of rfl rfl (by decide) rfl ?_; unfold f85; exact go
instance : Io0 cx 85 := ⟨rfl⟩
instance i19_0 {a : (List RewritingStep)} {b : (List RewritingStep)} : Lp cx (f19_0 a b) 27 L19_0 (fun (zs : Int) => [(0, .v (ssl eRewritingStep a)), (1, .v (ssl eRewritingStep b)), (5, .v (iT zs))]) (QO (QX 0 (fun (y : Unit) => [])) (QR (fun (y : Bool) => [(4, .v (.bool y))]))) := by
 refine Lp.of ?_; unfold f19_0; exact go
instance i19 {a : (List RewritingStep)} {b : (List RewritingStep)} : Rn cx (f19 a b) 19 [(ssl eRewritingStep a), (ssl eRewritingStep b)] (fun (r : Bool) => (.bool r)) (fun r => []) := by
 refine Rn.of rfl rfl (by decide) rfl ?_; unfold f19; exact go
instance : Io0 cx 19 := ⟨rfl⟩
instance i3 {aDb : Database} {aRewriting : (List RewritingStep)} {aValues : (List Int)} : Rn cx (f3 aDb aRewriting aValues) 3 [(.agg [(ssl eRelation aDb.Relations), (ssl eFact aDb.Facts)]), (ssl eRewritingStep aRewriting), (ssl eI aValues)] (fun (r : Bool) => (.bool r)) (fun r => []) := by
 refine Rn.of rfl rfl (by decide) rfl ?_; unfold f3; exact go
instance : Io0 cx 3 := ⟨rfl⟩
end
end Go.Proofs.YtcllfkplpdppiaaGreatH
