import Derived.Test.YtbhadkbchkjdiaaGreatTg1c
set_option maxHeartbeats 2000000
set_option linter.unusedVariables false
set_option linter.unusedSimpArgs false
set_option linter.defProp false
set_option linter.unusedSectionVars false
set_option maxRecDepth 100000
namespace Go.Proofs.YtbhadkbchkjdiaaGreatH
open Go
noncomputable section
theorem r21 {db : Database} {query : Query} {r : (List (List Int))} (h : f21 db query = some r) : VJx cx (.ca 21 [(.agg [(ssl eRelation db.Relations), (ssl eFact db.Facts)]), (.agg [(iT query.VariableCount), (ssl eAtom query.Atoms), (ssl eI query.Free)])] (osl (eL eI) false r) []) := by
 unfold f21 at h
 refine ca_of rfl rfl (by decide) rfl ?_
 refine Wc.postG ?_
 refine Wc.start (V1 := [(0, .v (.agg [(ssl eRelation db.Relations), (ssl eFact db.Facts)])), (1, .v (.agg [(iT query.VariableCount), (ssl eAtom query.Atoms), (ssl eI query.Free)]))]) (by simp) ?_
 refine Wc.seq ?_
 refine Wc.evs (by conv => lhs; simp [-aI_app0, -aB_app0, -aS_app0, -aL_app0, -aI_app10, -aB_app10, -aS_app10, -aLt_app10I, -aLf_app10I, -aLt_app1I, -aLf_app1I]) ?_
 refine Wo.nil ?_
 refine Wc.seq ?_
 refine Wc.seq ?_
 refine Wc.evs (by conv => lhs; simp [-aI_app0, -aB_app0, -aS_app0, -aL_app0, -aI_app10, -aB_app10, -aS_app10, -aLt_app10I, -aLf_app10I, -aLt_app1I, -aLf_app1I]) ?_
 obtain ⟨o1, h2, h⟩ := bind_some h
 refine Wo.call rfl rfl (by (conv => lhs; simp [-aI_app0, -aB_app0, -aS_app0, -aL_app0, -aI_app10, -aB_app10, -aS_app10, -aLt_app10I, -aLf_app10I, -aLt_app1I, -aLf_app1I, cx, ioTab]) <;> rfl) (run_ h2) (by simp) (by simp) (by (conv => lhs; simp [-aI_app0, -aB_app0, -aS_app0, -aL_app0, -aI_app10, -aB_app10, -aS_app10, -aLt_app10I, -aLf_app10I, -aLt_app1I, -aLf_app1I, cx, ioTab]) <;> rfl) (by (conv => lhs; simp [-aI_app0, -aB_app0, -aS_app0, -aL_app0, -aI_app10, -aB_app10, -aS_app10, -aLt_app10I, -aLf_app10I, -aLt_app1I, -aLf_app1I]) <;> rfl) ?_
 refine Wo.evs (by conv => lhs; simp [-aI_app0, -aB_app0, -aS_app0, -aL_app0, -aI_app10, -aB_app10, -aS_app10, -aLt_app10I, -aLf_app10I, -aLt_app1I, -aLf_app1I]) ?_
 refine Wo.nil ?_
 by_cases kc3 : ¬ (o1 = true)
 ·rw [if_pos kc3] at h
  refine Wc.condT' (t := _) (by conv => lhs; simp) (by simpa using kc3) ?_
  refine Wc.seq ?_
  refine Wc.kil (by conv => lhs; simp) ?_
  refine Wc.seq ?_
  refine Wc.evs (by conv => lhs; simp [-aI_app0, -aB_app0, -aS_app0, -aL_app0, -aI_app10, -aB_app10, -aS_app10, -aLt_app10I, -aLf_app10I, -aLt_app1I, -aLf_app1I]) ?_
  refine Wo.gh (vle_co (s := 4) (t1 := (osl (eL eI) true ([]))) rfl (by simp) (TLe.nil rfl (by decide)) (by conv => lhs; simp)) ?_
  refine Wo.nil ?_
  refine Wc.ret ⟨_, (vle_of (vle_pf (s := 4) (t1 := (osl (eL eI) false ([]))) rfl (by simp) (by first | exact PF.inner (E := (eL eI)) (y := true) _ | exact pf_go) (by conv => lhs; simp)) (VLe.refl _)), res_of (.inr rfl) ?_⟩
  cases h
  exact ⟨_, _, _, by conv => lhs; simp, by (conv => lhs; simp [cx, ioTab, List.range, List.range.loop]) <;> rfl, by first | rfl | simp [-aI_app0, -aB_app0, -aS_app0, -aL_app0, -aI_app10, -aB_app10, -aS_app10, -aLt_app10I, -aLf_app10I, -aLt_app1I, -aLf_app1I]⟩
 ·rw [if_neg kc3] at h
  refine Wc.condF' (t := _) (by conv => lhs; simp) (by simpa using kc3) ?_
  refine Wc.seq ?_
  refine Wc.kil (by conv => lhs; simp) ?_
  refine Wc.skip ?_
  refine Wc.seq ?_
  refine Wc.evs (by conv => lhs; simp [-aI_app0, -aB_app0, -aS_app0, -aL_app0, -aI_app10, -aB_app10, -aS_app10, -aLt_app10I, -aLf_app10I, -aLt_app1I, -aLf_app1I]) ?_
  refine Wo.gh (vle_co (s := 5) (t1 := (.ptr true [(osl (eL eI) true ([]))])) rfl (by simp) (TLe.ptr (TLes.cons (TLe.nil rfl (by decide)) (TLes.refl _))) (by conv => lhs; simp)) ?_
  refine Wo.gh (vle_co (s := 18) (t1 := (osl (eL eI) true ([]))) rfl (by simp) (TLe.own (show TLes _ [] from (TLes.refl _)) rfl) (by conv => lhs; simp)) ?_
  refine Wo.gh (vle_co (s := 19) (t1 := (osl (eL eI) true ([]))) rfl (by simp) (TLe.own (show TLes _ [] from (TLes.refl _)) rfl) (by conv => lhs; simp)) ?_
  obtain ⟨o4, h5, h⟩ := bind_some h
  refine Wo.call (by simp) rfl (by (conv => lhs; simp [-aI_app0, -aB_app0, -aS_app0, -aL_app0, -aI_app10, -aB_app10, -aS_app10, -aLt_app10I, -aLf_app10I, -aLt_app1I, -aLf_app1I, cx, ioTab]) <;> rfl) (run_ h5) (by simp) (by simp) (by (conv => lhs; simp [-aI_app0, -aB_app0, -aS_app0, -aL_app0, -aI_app10, -aB_app10, -aS_app10, -aLt_app10I, -aLf_app10I, -aLt_app1I, -aLf_app1I, cx, ioTab]) <;> rfl) (by (conv => lhs; simp [-aI_app0, -aB_app0, -aS_app0, -aL_app0, -aI_app10, -aB_app10, -aS_app10, -aLt_app10I, -aLf_app10I, -aLt_app1I, -aLf_app1I]) <;> rfl) ?_
  obtain ⟨o6, h7, h⟩ := bind_some h
  refine Wo.call rfl rfl (by (conv => lhs; simp [-aI_app0, -aB_app0, -aS_app0, -aL_app0, -aI_app10, -aB_app10, -aS_app10, -aLt_app10I, -aLf_app10I, -aLt_app1I, -aLf_app1I, cx, ioTab]) <;> rfl) (run_ h7) (by simp) (by simp) (by (conv => lhs; simp [-aI_app0, -aB_app0, -aS_app0, -aL_app0, -aI_app10, -aB_app10, -aS_app10, -aLt_app10I, -aLf_app10I, -aLt_app1I, -aLf_app1I, cx, ioTab]) <;> rfl) (by (conv => lhs; simp [-aI_app0, -aB_app0, -aS_app0, -aL_app0, -aI_app10, -aB_app10, -aS_app10, -aLt_app10I, -aLf_app10I, -aLt_app1I, -aLf_app1I]) <;> rfl) ?_
  refine Wo.evs (by conv => lhs; simp [-aI_app0, -aB_app0, -aS_app0, -aL_app0, -aI_app10, -aB_app10, -aS_app10, -aLt_app10I, -aLf_app10I, -aLt_app1I, -aLf_app1I]) ?_
  refine Wo.nil ?_
  refine Wc.seq ?_
  refine Wc.seq ?_
  refine Wc.evs (by conv => lhs; simp [-aI_app0, -aB_app0, -aS_app0, -aL_app0, -aI_app10, -aB_app10, -aS_app10, -aLt_app10I, -aLf_app10I, -aLt_app1I, -aLf_app1I]) ?_
  obtain ⟨o8, h9, h⟩ := bind_some h
  refine Wo.call rfl rfl (by (conv => lhs; simp [-aI_app0, -aB_app0, -aS_app0, -aL_app0, -aI_app10, -aB_app10, -aS_app10, -aLt_app10I, -aLf_app10I, -aLt_app1I, -aLf_app1I, cx, ioTab]) <;> rfl) (run_ h9) (by simp) (by simp) (by (conv => lhs; simp [-aI_app0, -aB_app0, -aS_app0, -aL_app0, -aI_app10, -aB_app10, -aS_app10, -aLt_app10I, -aLf_app10I, -aLt_app1I, -aLf_app1I, cx, ioTab]) <;> rfl) (by (conv => lhs; simp [-aI_app0, -aB_app0, -aS_app0, -aL_app0, -aI_app10, -aB_app10, -aS_app10, -aLt_app10I, -aLf_app10I, -aLt_app1I, -aLf_app1I]) <;> rfl) ?_
  refine Wo.gh (vle_fz (s := 29) rfl (by simp) (by conv => lhs; simp)) ?_
  refine Wo.evs (by conv => lhs; simp [-aI_app0, -aB_app0, -aS_app0, -aL_app0, -aI_app10, -aB_app10, -aS_app10, -aLt_app10I, -aLf_app10I, -aLt_app1I, -aLf_app1I]) ?_
  refine Wo.nil ?_
  refine Wc.block ?_
  refine Wc.gh (vle_pf (s := 5) (t1 := (.ptr true [(osl (eL eI) false ([]))])) rfl (by simp) (PF.ptr (PFs.cons (by first | exact PF.inner (E := (eL eI)) (y := true) _ | exact pf_go) PFs.nil)) (by conv => lhs; simp)) ?_
  refine Wc.gh (vle_pf (s := 6) (t1 := (osl (eL eI) false ([]))) rfl (by simp) (by first | exact PF.inner (E := (eL eI)) (y := true) _ | exact pf_go) (by conv => lhs; simp)) ?_
  obtain ⟨w27, h28, h⟩ := bind_some h
  refine Wc.start (V1 := [(5, .v (.ptr true [(osl (eL eI) false ([]))])), (6, .v (osl (eL eI) false ([]))), (7, .v (osl (eL eI) true o4)), (8, .v (osl (eL eI) true o6)), (29, .v (ssl (eL eI) o8)), (30, .v (iT (o8.length : Int))), (31, .v (iT 0))]) (by first | rfl | simp [-aI_app0, -aB_app0, -aS_app0, -aL_app0, -aI_app10, -aB_app10, -aS_app10, -aLt_app10I, -aLf_app10I, -aLt_app1I, -aLf_app1I]) ?_
  refine Wc.mono (r21_0 _ _ h28) ?_
  obtain ⟨known_29, others_30⟩ := w27
  rintro ex V ⟨rfl, rfl⟩
  dsimp only at h ⊢
  refine Wc.block ?_
  obtain ⟨w55, h56, h⟩ := bind_some h
  refine Wc.start (V1 := [(5, .v (.ptr true [(osl (eL eI) false known_29)])), (6, .v (osl (eL eI) false others_30)), (8, .v (osl (eL eI) true o6))]) (by first | rfl | simp [-aI_app0, -aB_app0, -aS_app0, -aL_app0, -aI_app10, -aB_app10, -aS_app10, -aLt_app10I, -aLf_app10I, -aLt_app1I, -aLf_app1I]) ?_
  refine Wc.mono (r21_1 _ _ h56) ?_
  generalize w55 = x_57 at *
  rintro ex V ⟨rfl, rfl⟩
  try dsimp only at h
  refine ⟨_, (VLe.refl _), res_of (.inr rfl) ?_⟩
  cases h
  exact ⟨_, _, _, by conv => lhs; simp, by (conv => lhs; simp [cx, ioTab, List.range, List.range.loop]) <;> rfl, by first | rfl | simp [-aI_app0, -aB_app0, -aS_app0, -aL_app0, -aI_app10, -aB_app10, -aS_app10, -aLt_app10I, -aLf_app10I, -aLt_app1I, -aLf_app1I]⟩
instance i21 {db : Database} {query : Query} : Rn cx (f21 db query) 21 [(.agg [(ssl eRelation db.Relations), (ssl eFact db.Facts)]), (.agg [(iT query.VariableCount), (ssl eAtom query.Atoms), (ssl eI query.Free)])] (fun (r : (List (List Int))) => (osl (eL eI) false r)) (fun r => []) := ⟨fun _ h => r21 h⟩
instance : Io0 cx 21 := ⟨rfl⟩
instance i11 {d : Database} {q : Query} : Rn cx (f11 d q) 11 [(.agg [(ssl eRelation d.Relations), (ssl eFact d.Facts)]), (.agg [(iT q.VariableCount), (ssl eAtom q.Atoms), (ssl eI q.Free)])] (fun (r : Bool) => (.bool r)) (fun r => []) := Rn.o (e := (
  (f36 d).bind fun o1 =>
  (jn (QN (fun (y : Bool) => [(4, .v (.bool y))])) ((if o1 = true then
  (f37 d.Relations q).bind fun o6 =>
  some o6
  else
  some false) : Option (Bool))).bind fun x_3 =>
  some x_3 : Option Bool)) rfl (by exact go)
instance : Io0 cx 11 := ⟨rfl⟩
instance i79_0 {d : Database} {l : (List Int)} : Lp cx (f79_0 d l) 38 L79_0 (fun (zs : Int) => [(1, .v (ssl eI l)), (2, .v (.ptr true [(ssl eRelation d.Relations), (ssl eFact d.Facts)])), (5, .v (iT zs))]) (QO (QX 0 (fun (y : Unit) => [])) (QR (fun (y : Bool) => [(4, .v (.bool y))]))) := Lp.of (f := (fun
 | i_1 =>
  if i_1 < (l.length : Int) then
  (ix l i_1).bind fun v_3 =>
  (f38 v_3 0 (w64 ((d.Facts.length : Int) - 1))).bind fun o5 =>
  (jn (QN (fun (y : Bool) => [(1, .v (ssl eI l)), (2, .v (.ptr true [(ssl eRelation d.Relations), (ssl eFact d.Facts)])), (5, .v (iT i_1)), (37, .v (.bool y))])) ((if ¬ (o5 = true) then
  some true
  else
  (jn (QN (fun (y : Bool) => [(1, .v (ssl eI l)), (2, .v (.ptr true [(ssl eRelation d.Relations), (ssl eFact d.Facts)])), (5, .v (iT i_1)), (37, .v (.bool y))])) ((if i_1 > 0 then
  (ix l (w64 (i_1 - 1))).bind fun v_13 =>
  some (decide (v_3 ≤ v_13))
  else
  some false) : Option (Bool))).bind fun x_10 =>
  some x_10) : Option (Bool))).bind fun x_7 =>
  if x_7 = true then
  some (.inr (.inr false))
  else
  some (.inl (w64 (i_1 + 1)))
  else
  some (.inr (.inl ())) : Int → Option (Int ⊕ (Unit ⊕ Bool)))) (by exact go)
instance i79 {d : Database} {l : (List Int)} : Rn cx (f79 d l) 79 [(.agg [(ssl eRelation d.Relations), (ssl eFact d.Facts)]), (ssl eI l)] (fun (r : Bool) => (.bool r)) (fun r => []) := Rn.o rfl (by unfold f79; exact go)
instance : Io0 cx 79 := ⟨rfl⟩
instance i47_0 {d : Database} {l : (List Int)} : Lp cx (f47_0 d l) 51 L47_0 (fun (zs : (List Relation) × (List Fact) × Int) => [(1, .v (ssl eI l)), (2, .v (.ptr true [(ssl eRelation d.Relations), (ssl eFact d.Facts)])), (4, .v (.ptr true [(osl eRelation true ([])), (osl eFact true ([]))])), (6, .v (.ptr true [(osl eRelation true zs.1), (osl eFact true zs.2.1)])), (7, .v (iT zs.2.2))]) (QX 0 (fun (y : (List Relation) × (List Fact)) => [(4, .v (.ptr true [(osl eRelation true ([])), (osl eFact true ([]))])), (6, .v (.ptr true [(osl eRelation true y.1), (osl eFact true y.2)]))])) := Lp.of (f := (fun
 | (x_11, x_12, i_13) =>
  if i_13 < (l.length : Int) then
  (ix l i_13).bind fun v_15 =>
  (ix d.Facts v_15).bind fun v_17 =>
  (app 8 ([]) v_17.Values).bind fun l_19 =>
  sn 18 45 (osl eI true l_19) <| 
  (app 32 x_12 ([({ Relation := v_17.Relation, Values := l_19 } : Fact)])).bind fun l_21 =>
  some (.inl (x_11, l_21, w64 (i_13 + 1)))
  else
  some (.inr (x_11, x_12)) : (List Relation) × (List Fact) × Int → Option (((List Relation) × (List Fact) × Int) ⊕ ((List Relation) × (List Fact))))) (by exact go)
instance i47 {d : Database} {l : (List Int)} : Rn cx (f47 d l) 47 [(.agg [(ssl eRelation d.Relations), (ssl eFact d.Facts)]), (ssl eI l)] (fun (r : Database × Bool) => (.tup [(.agg [(osl eRelation true r.1.Relations), (osl eFact true r.1.Facts)]), (.bool r.2)])) (fun r => []) := Rn.o (e := (
  sn 3 4 (.ptr true [(osl eRelation true ([])), (osl eFact true ([]))]) <| 
  (f36 d).bind fun o1 =>
  (jn (QN (fun (y : Bool) => [(1, .v (ssl eI l)), (2, .v (.ptr true [(ssl eRelation d.Relations), (ssl eFact d.Facts)])), (4, .v (.ptr true [(osl eRelation true ([])), (osl eFact true ([]))])), (17, .v (.bool y))])) ((if ¬ (o1 = true) then
  some true
  else
  (f79 d l).bind fun o6 =>
  some (decide (¬ (o6 = true)))) : Option (Bool))).bind fun x_3 =>
  if x_3 = true then
  sn 1 18 (.agg [(osl eRelation true ([])), (osl eFact true ([]))]) <| 
  some (({ Relations := [], Facts := [] } : Database), false)
  else
  (app 32 ([]) d.Relations).bind fun l_9 =>
  sn 4 22 (osl eRelation true l_9) <| 
  sn 2 23 (.agg [(osl eRelation true l_9), (osl eFact true ([]))]) <| 
  (iter (f47_0 d l) (l_9, [], 0)).bind fun (x_25, x_26) =>
  some (({ Relations := x_25, Facts := x_26 } : Database), true) : Option (Database × Bool))) rfl (by exact go)
instance : Io0 cx 47 := ⟨rfl⟩
instance i145 {l : (List Relation)} {f : Fact} : Rn cx (f145 l f) 145 [(ssl eRelation l), (.agg [(iT f.Relation), (ssl eI f.Values)])] (fun (r : (List Int)) => (osl eI true r)) (fun r => []) := Rn.o (e := (
  (f71 l f).bind fun o1 =>
  if ¬ (o1 = true) then
  sn 2 4 (osl eI true ([])) <| 
  some ([])
  else
  (ix l f.Relation).bind fun v_4 =>
  (cutL f.Values 0 v_4.KeyLength).bind fun l_6 =>
  (app 8 ([]) l_6).bind fun l_8 =>
  sn 12 4 (osl eI true l_8) <| 
  some l_8 : Option (List Int))) rfl (by exact go)
instance : Io0 cx 145 := ⟨rfl⟩
instance i109 {l : (List Relation)} {a : Fact} {b : Fact} : Rn cx (f109 l a b) 109 [(ssl eRelation l), (.agg [(iT a.Relation), (ssl eI a.Values)]), (.agg [(iT b.Relation), (ssl eI b.Values)])] (fun (r : Bool) => (.bool r)) (fun r => []) := Rn.o (e := (
  (f71 l a).bind fun o1 =>
  (jn (QN (fun (y : Bool) => [(0, .v (ssl eRelation l)), (6, .v (.bool y))])) ((if o1 = true then
  (f71 l b).bind fun o6 =>
  (jn (QN (fun (y : Bool) => [(0, .v (ssl eRelation l)), (6, .v (.bool y))])) ((if o6 = true then
  (jn (QN (fun (y : Bool) => [(0, .v (ssl eRelation l)), (6, .v (.bool y))])) ((if a.Relation = b.Relation then
  (f145 l a).bind fun o14 =>
  (f145 l b).bind fun o16 =>
  (f110 o14 o16).bind fun o18 =>
  some (decide (o18 = 0))
  else
  some false) : Option (Bool))).bind fun x_11 =>
  some x_11
  else
  some false) : Option (Bool))).bind fun x_8 =>
  some x_8
  else
  some false) : Option (Bool))).bind fun x_3 =>
  some x_3 : Option Bool)) rfl (by exact go)
instance : Io0 cx 109 := ⟨rfl⟩
instance i70_0 {d : Database} {i : Int} : Lp cx (f70_0 d i) 45 L70_0 (fun (zs : (List Int) × Int) => [(1, .v (iT i)), (2, .v (.ptr true [(ssl eRelation d.Relations), (ssl eFact d.Facts)])), (5, .v (osl eI true zs.1)), (6, .v (iT zs.2))]) (QX 0 (fun (y : (List Int)) => [(5, .v (osl eI true y))])) := Lp.of (f := (fun
 | (out_1, k_2) =>
  (jn (QN (fun (y : Bool) => [(1, .v (iT i)), (2, .v (.ptr true [(ssl eRelation d.Relations), (ssl eFact d.Facts)])), (5, .v (osl eI true out_1)), (6, .v (iT k_2)), (24, .v (.bool y))])) ((if k_2 < (d.Facts.length : Int) then
  (f36 d).bind fun o6 =>
  (jn (QN (fun (y : Bool) => [(1, .v (iT i)), (2, .v (.ptr true [(ssl eRelation d.Relations), (ssl eFact d.Facts)])), (5, .v (osl eI true out_1)), (6, .v (iT k_2)), (24, .v (.bool y))])) ((if o6 = true then
  (f38 i 0 (w64 ((d.Facts.length : Int) - 1))).bind fun o11 =>
  some o11
  else
  some false) : Option (Bool))).bind fun x_8 =>
  some x_8
  else
  some false) : Option (Bool))).bind fun x_3 =>
  if x_3 = true then
  (ix d.Facts i).bind fun v_14 =>
  (ix d.Facts k_2).bind fun v_16 =>
  (f109 d.Relations v_14 v_16).bind fun o18 =>
  (jn (QN (fun (y : (List Int)) => [(1, .v (iT i)), (2, .v (.ptr true [(ssl eRelation d.Relations), (ssl eFact d.Facts)])), (5, .v (osl eI true y)), (6, .v (iT k_2))])) ((if o18 = true then
  (app 8 out_1 ([k_2])).bind fun l_23 =>
  some l_23
  else
  some out_1) : Option (List Int))).bind fun out_25 =>
  some (.inl (out_25, w64 (k_2 + 1)))
  else
  some (.inr out_1) : (List Int) × Int → Option (((List Int) × Int) ⊕ (List Int)))) (by exact go)
instance i70 {d : Database} {i : Int} : Rn cx (f70 d i) 70 [(.agg [(ssl eRelation d.Relations), (ssl eFact d.Facts)]), (iT i)] (fun (r : (List Int)) => (osl eI true r)) (fun r => []) := Rn.o (e := (
  sn 4 5 (osl eI true ([])) <| 
  (iter (f70_0 d i) ([], 0)).bind fun out_28 =>
  some out_28 : Option (List Int))) rfl (by exact go)
instance : Io0 cx 70 := ⟨rfl⟩
instance i35_0 {d : Database} : Lp cx (f35_0 d) 31 L35_0 (fun (zs : (List (List Int)) × Int) => [(1, .v (.ptr true [(ssl eRelation d.Relations), (ssl eFact d.Facts)])), (3, .v (osl (eL eI) true zs.1)), (4, .v (iT zs.2))]) (QX 0 (fun (y : (List (List Int))) => [(3, .v (osl (eL eI) true y))])) := Lp.of (f := (fun
 | (out_1, i_2) =>
  (jn (QN (fun (y : Bool) => [(1, .v (.ptr true [(ssl eRelation d.Relations), (ssl eFact d.Facts)])), (3, .v (osl (eL eI) true out_1)), (4, .v (iT i_2)), (15, .v (.bool y))])) ((if i_2 < (d.Facts.length : Int) then
  (f36 d).bind fun o6 =>
  some o6
  else
  some false) : Option (Bool))).bind fun x_3 =>
  if x_3 = true then
  (f70 d i_2).bind fun o9 =>
  (ix o9 0).bind fun v_11 =>
  (jn (QN (fun (y : (List (List Int))) => [(1, .v (.ptr true [(ssl eRelation d.Relations), (ssl eFact d.Facts)])), (3, .v (osl (eL eI) true y)), (4, .v (iT i_2))])) ((if v_11 = i_2 then
  (app 24 out_1 ([o9])).bind fun l_16 =>
  some l_16
  else
  some out_1) : Option (List (List Int)))).bind fun out_18 =>
  some (.inl (out_18, w64 (i_2 + 1)))
  else
  some (.inr out_1) : (List (List Int)) × Int → Option (((List (List Int)) × Int) ⊕ (List (List Int))))) (by exact go)
instance i35 {d : Database} : Rn cx (f35 d) 35 [(.agg [(ssl eRelation d.Relations), (ssl eFact d.Facts)])] (fun (r : (List (List Int))) => (osl (eL eI) true r)) (fun r => []) := Rn.o (e := (
  sn 4 3 (osl (eL eI) true ([])) <| 
  (iter (f35_0 d) ([], 0)).bind fun out_21 =>
  some out_21 : Option (List (List Int)))) rfl (by exact go)
instance : Io0 cx 35 := ⟨rfl⟩
instance i87 {d : Database} : Rn cx (f87 d) 87 [(.agg [(ssl eRelation d.Relations), (ssl eFact d.Facts)])] (fun (r : Bool) => (.bool r)) (fun r => []) := Rn.o (e := (
  (f36 d).bind fun o1 =>
  (jn (QN (fun (y : Bool) => [(2, .v (.bool y))])) ((if o1 = true then
  (f35 d).bind fun o6 =>
  some (decide ((o6.length : Int) = (d.Facts.length : Int)))
  else
  some false) : Option (Bool))).bind fun x_3 =>
  some x_3 : Option Bool)) rfl (by exact go)
instance : Io0 cx 87 := ⟨rfl⟩
instance i56 {d : Database} {l : (List Int)} : Rn cx (f56 d l) 56 [(.agg [(ssl eRelation d.Relations), (ssl eFact d.Facts)]), (ssl eI l)] (fun (r : Bool) => (.bool r)) (fun r => []) := Rn.o (e := (
  (f47 d l).bind fun o1 =>
  (jn (QN (fun (y : Bool) => [(4, .v (.bool y))])) ((if o1.2 = true then
  (f87 o1.1).bind fun o6 =>
  some o6
  else
  some false) : Option (Bool))).bind fun x_3 =>
  some x_3 : Option Bool)) rfl (by exact go)
instance : Io0 cx 56 := ⟨rfl⟩
instance i52_2 {d : Database} {k : Int} {out_11 : (List (List Int))} {last_12 : (List (List Int))} {n_13 : Int} {i_16 : Int} : Lp cx (lw (k, out_11, n_13) (f52_2 d last_12 i_16)) 89 L52_2 (fun (zs : (List (List Int)) × Int) => [(1, .v (iT k)), (2, .v (.ptr true [(ssl eRelation d.Relations), (ssl eFact d.Facts)])), (5, .v (osl (eL eI) false out_11)), (6, .v (osl (eL eI) false last_12)), (7, .v (iT n_13)), (8, .v (osl (eL eI) false zs.1)), (9, .v (iT i_16)), (11, .v (iT zs.2))]) (QX 4 (fun (y : (List (List Int))) => [(1, .v (iT k)), (2, .v (.ptr true [(ssl eRelation d.Relations), (ssl eFact d.Facts)])), (5, .v (osl (eL eI) false out_11)), (6, .v (osl (eL eI) false last_12)), (7, .v (iT n_13)), (8, .v (osl (eL eI) false y)), (9, .v (iT i_16))])) := Lp.of (f := (fun
 | (more_26, x_27) =>
  if x_27 < (d.Facts.length : Int) then
  (ix last_12 i_16).bind fun v_29 =>
  (app 8 ([]) v_29).bind fun l_31 =>
  (app 8 l_31 ([x_27])).bind fun l_33 =>
  sn 10 12 (osl eI true l_33) <| 
  (f56 d l_33).bind fun o35 =>
  (jn (QN (fun (y : (List (List Int))) => [(1, .v (iT k)), (2, .v (.ptr true [(ssl eRelation d.Relations), (ssl eFact d.Facts)])), (5, .v (osl (eL eI) false out_11)), (6, .v (osl (eL eI) false last_12)), (7, .v (iT n_13)), (8, .v (osl (eL eI) false y)), (9, .v (iT i_16)), (11, .v (iT x_27))])) ((if o35 = true then
  sn 3 82 (osl (eL eI) true ([l_33])) <| 
  sn 0 82 (ssl (eL eI) ([l_33])) <| 
  (app 24 more_26 ([l_33])).bind fun l_40 =>
  some l_40
  else
  some more_26) : Option (List (List Int)))).bind fun more_42 =>
  some (.inl (more_42, w64 (x_27 + 1)))
  else
  some (.inr more_26) : (List (List Int)) × Int → Option (((List (List Int)) × Int) ⊕ (List (List Int))))) (by exact go)
instance i52_1 {d : Database} {k : Int} {out_11 : (List (List Int))} {last_12 : (List (List Int))} {n_13 : Int} : Lp cx (lw (k, out_11, n_13) (f52_1 d last_12)) 89 L52_1 (fun (zs : (List (List Int)) × Int) => [(1, .v (iT k)), (2, .v (.ptr true [(ssl eRelation d.Relations), (ssl eFact d.Facts)])), (5, .v (osl (eL eI) false out_11)), (6, .v (osl (eL eI) false last_12)), (7, .v (iT n_13)), (8, .v (osl (eL eI) false zs.1)), (9, .v (iT zs.2))]) (QX 2 (fun (y : (List (List Int))) => [(1, .v (iT k)), (2, .v (.ptr true [(ssl eRelation d.Relations), (ssl eFact d.Facts)])), (5, .v (osl (eL eI) false out_11)), (7, .v (iT n_13)), (8, .v (osl (eL eI) false y))])) := Lp.of (f := (fun
 | (more_15, i_16) =>
  if i_16 < (last_12.length : Int) then
  (ix last_12 i_16).bind fun v_18 =>
  (jn (QN (fun (y : Int) => [(1, .v (iT k)), (2, .v (.ptr true [(ssl eRelation d.Relations), (ssl eFact d.Facts)])), (5, .v (osl (eL eI) false out_11)), (6, .v (osl (eL eI) false last_12)), (7, .v (iT n_13)), (8, .v (osl (eL eI) false more_15)), (9, .v (iT i_16)), (10, .v (iT y))])) ((if (v_18.length : Int) > 0 then
  (ix v_18 (w64 ((v_18.length : Int) - 1))).bind fun v_23 =>
  some (w64 (v_23 + 1))
  else
  some 0) : Option Int)).bind fun from_25 =>
  (iter (lw (k, out_11, n_13)  (f52_2 d last_12 i_16)) (more_15, from_25)).bind fun more_45 =>
  some (.inl (more_45, w64 (i_16 + 1)))
  else
  some (.inr more_15) : (List (List Int)) × Int → Option (((List (List Int)) × Int) ⊕ (List (List Int))))) (by exact go)
instance i52_0 {d : Database} {k : Int} : Lp cx (f52_0 d k) 89 L52_0 (fun (zs : (List (List Int)) × (List (List Int)) × Int) => [(1, .v (iT k)), (2, .v (.ptr true [(ssl eRelation d.Relations), (ssl eFact d.Facts)])), (5, .v (osl (eL eI) false zs.1)), (6, .v (osl (eL eI) false zs.2.1)), (7, .v (iT zs.2.2))]) (QX 0 (fun (y : (List (List Int))) => [(5, .v (osl (eL eI) false y))])) := Lp.of (f := (fun
 | (out_11, last_12, n_13) =>
  if n_13 < k then
  sn 2 8 (osl (eL eI) false ([])) <| 
  (iter (lw (k, out_11, n_13)  (f52_1 d last_12)) ([], 0)).bind fun more_48 =>
  (app 24 out_11 more_48).bind fun l_49 =>
  some (.inl (l_49, more_48, w64 (n_13 + 1)))
  else
  some (.inr out_11) : (List (List Int)) × (List (List Int)) × Int → Option (((List (List Int)) × (List (List Int)) × Int) ⊕ (List (List Int))))) (by exact go)
instance i52 {d : Database} {k : Int} : Rn cx (f52 d k) 52 [(.agg [(ssl eRelation d.Relations), (ssl eFact d.Facts)]), (iT k)] (fun (r : (List (List Int))) => (osl (eL eI) false r)) (fun r => []) := Rn.o (e := (
  sn 4 5 (osl (eL eI) false ([])) <| 
  (f36 d).bind fun o1 =>
  (jn (QN (fun (y : Bool) => [(1, .v (iT k)), (2, .v (.ptr true [(ssl eRelation d.Relations), (ssl eFact d.Facts)])), (5, .v (osl (eL eI) false ([]))), (21, .v (.bool y))])) ((if ¬ (o1 = true) then
  some true
  else
  (f38 k 0 3).bind fun o6 =>
  some (decide (¬ (o6 = true)))) : Option (Bool))).bind fun x_3 =>
  if x_3 = true then
  some ([])
  else
  sn 1 23 (osl eI true ([])) <| 
  sn 0 23 (ssl eI ([])) <| 
  sn 2 6 (osl (eL eI) false ([[]])) <| 
  sn 2 26 (osl eI true ([])) <| 
  sn 1 27 (osl (eL eI) true ([[]])) <| 
  sn 0 27 (ssl (eL eI) ([[]])) <| 
  (app 24 ([]) ([[]])).bind fun l_9 =>
  (iter (f52_0 d k) (l_9, [[]], 0)).bind fun out_53 =>
  some out_53 : Option (List (List Int)))) rfl (by exact go)
instance : Io0 cx 52 := ⟨rfl⟩
instance i81_0 {n0 : Int} : Lp cx (f81_0 n0) 13 L81_0 (fun (zs : (List Int)) => [(0, .v (iT n0)), (3, .v (osl eI true zs))]) (QX 0 (fun (y : (List Int)) => [(3, .v (osl eI true y))])) := Lp.of (by unfold f81_0; exact go)
instance i81 {n0 : Int} : Rn cx (f81 n0) 81 [(iT n0)] (fun (r : (List Int)) => (osl eI true r)) (fun r => []) := Rn.o (e := (
  sn 3 3 (osl eI true ([])) <| 
  (iter (f81_0 n0) ([])).bind fun l_7 =>
  some l_7 : Option (List Int))) rfl (by exact go)
instance : Io0 cx 81 := ⟨rfl⟩
instance i112_0 {a : Atom} {f : Fact} : Lp cx (f112_0 a f) 79 L112_0 (fun (zs : (List Int) × Int) => [(3, .v (.ptr true [(iT a.Relation), (ssl eI a.Terms)])), (4, .v (.ptr true [(iT f.Relation), (ssl eI f.Values)])), (8, .v (osl eI true zs.1)), (9, .v (iT zs.2))]) (QO (QX 0 (fun (y : (List Int)) => [(8, .v (osl eI true y))])) (QR (fun (y : (List Int) × Bool) => [(6, .v (osl eI true y.1)), (7, .v (.bool y.2))]))) := Lp.of (f := (fun
 | (x_7, i_8) =>
  if i_8 < (a.Terms.length : Int) then
  (jb 1 (QO (QN (fun (y : (List Int)) => [(3, .v (.ptr true [(iT a.Relation), (ssl eI a.Terms)])), (4, .v (.ptr true [(iT f.Relation), (ssl eI f.Values)])), (8, .v (osl eI true y)), (9, .v (iT i_8))])) (QR (fun (y : (List Int) × Bool) => [(6, .v (osl eI true y.1)), (7, .v (.bool y.2))]))) (((ix a.Terms i_8).bind fun v_12 =>
  if v_12 < 0 then
  (ix f.Values i_8).bind fun v_15 =>
  if (w64 ((-1) - v_12)) ≠ v_15 then
  some (.inr (x_7, false))
  else
  some (.inl x_7)
  else
  (ix x_7 v_12).bind fun v_18 =>
  (jn (QN (fun (y : Bool) => [(3, .v (.ptr true [(iT a.Relation), (ssl eI a.Terms)])), (4, .v (.ptr true [(iT f.Relation), (ssl eI f.Values)])), (8, .v (osl eI true x_7)), (9, .v (iT i_8)), (10, .v (iT v_12)), (68, .v (.bool y))])) ((if v_18 ≥ 0 then
  (ix f.Values i_8).bind fun v_23 =>
  some (decide (v_18 ≠ v_23))
  else
  some false) : Option (Bool))).bind fun x_20 =>
  if x_20 = true then
  some (.inr (x_7, false))
  else
  (ix f.Values i_8).bind fun v_26 =>
  some (.inl (x_7.set v_12.toNat v_26))) : Option ((List Int) ⊕ ((List Int) × Bool)))).bind fun o => match o with
  | .inl x_29 =>
  some (.inl (x_29, w64 (i_8 + 1)))
  | .inr (x_30, x_31) =>
  some (.inr (.inr (x_30, x_31)))
  else
  some (.inr (.inl x_7)) : (List Int) × Int → Option (((List Int) × Int) ⊕ ((List Int) ⊕ ((List Int) × Bool))))) (by exact go)
instance i112 {a : Atom} {f : Fact} {vals : (List Int)} : Rn cx (f112 a f vals) 112 [(.agg [(iT a.Relation), (ssl eI a.Terms)]), (.agg [(iT f.Relation), (ssl eI f.Values)]), (ssl eI vals)] (fun (r : (List Int) × Bool) => (.tup [(osl eI true r.1), (.bool r.2)])) (fun r => []) := Rn.o (e := (
  (app 8 ([]) vals).bind fun l_1 =>
  sn 8 8 (osl eI true l_1) <| 
  (jn (QN (fun (y : Bool) => [(3, .v (.ptr true [(iT a.Relation), (ssl eI a.Terms)])), (4, .v (.ptr true [(iT f.Relation), (ssl eI f.Values)])), (8, .v (osl eI true l_1)), (27, .v (.bool y))])) ((if f.Relation ≠ a.Relation then
  some true
  else
  some (decide ((f.Values.length : Int) ≠ (a.Terms.length : Int)))) : Option (Bool))).bind fun x_3 =>
  if x_3 = true then
  some (l_1, false)
  else
  (iter (f112_0 a f) (l_1, 0)).bind fun o => match o with
  | .inl x_34 =>
  some (x_34, true)
  | .inr (x_35, x_36) =>
  some (x_35, x_36) : Option ((List Int) × Bool))) rfl (by exact go)
instance : Io0 cx 112 := ⟨rfl⟩
instance i80_0 {d : Database} {q : Query} {k : Int} {vals : (List Int)} {facts : (List Int)} {rec : Database → Query → Int → (List Int) → (List Int) → Option (List Embedding)} [hrec : ∀ d q k vals facts, Rn cx (rec d q k vals facts) 80 [(.agg [(ssl eRelation d.Relations), (ssl eFact d.Facts)]), (.agg [(iT q.VariableCount), (ssl eAtom q.Atoms), (ssl eI q.Free)]), (iT k), (ssl eI vals), (ssl eI facts)] (fun o => (osl eEmbedding true o)) (fun o => [])] : Lp cx (f80_0 d q k vals facts rec) 67 L80_0 (fun (zs : (List Embedding) × Int) => [(2, .v (iT k)), (3, .v (ssl eI vals)), (4, .v (ssl eI facts)), (5, .v (.ptr true [(ssl eRelation d.Relations), (ssl eFact d.Facts)])), (6, .v (.ptr true [(iT q.VariableCount), (ssl eAtom q.Atoms), (ssl eI q.Free)])), (11, .v (osl eEmbedding true zs.1)), (12, .v (iT zs.2))]) (QX 0 (fun (y : (List Embedding)) => [(11, .v (osl eEmbedding true y))])) := Lp.of (f := (fun
 | (out_6, i_7) =>
  if i_7 < (d.Facts.length : Int) then
  (ix q.Atoms k).bind fun v_9 =>
  (ix d.Facts i_7).bind fun v_11 =>
  (f112 v_9 v_11 vals).bind fun o13 =>
  (jn (QN (fun (y : (List Embedding)) => [(2, .v (iT k)), (3, .v (ssl eI vals)), (4, .v (ssl eI facts)), (5, .v (.ptr true [(ssl eRelation d.Relations), (ssl eFact d.Facts)])), (6, .v (.ptr true [(iT q.VariableCount), (ssl eAtom q.Atoms), (ssl eI q.Free)])), (11, .v (osl eEmbedding true y)), (12, .v (iT i_7))])) ((if o13.2 = true then
  (app 8 ([]) facts).bind fun l_18 =>
  (app 8 l_18 ([i_7])).bind fun l_20 =>
  sn 12 63 (osl eI true l_20) <| 
  (rec d q (w64 (k + 1)) o13.1 l_20).bind fun o22 =>
  pl (plains (arr eEmbedding true o22)) <| 
  (app 48 out_6 o22).bind fun l_24 =>
  some l_24
  else
  some out_6) : Option (List Embedding))).bind fun out_26 =>
  some (.inl (out_26, w64 (i_7 + 1)))
  else
  some (.inr out_6) : (List Embedding) × Int → Option (((List Embedding) × Int) ⊕ (List Embedding)))) (by exact go)
instance i80 : ∀ (n : Nat) d q k vals facts, Rn cx (f80 n d q k vals facts) 80 [(.agg [(ssl eRelation d.Relations), (ssl eFact d.Facts)]), (.agg [(iT q.VariableCount), (ssl eAtom q.Atoms), (ssl eI q.Free)]), (iT k), (ssl eI vals), (ssl eI facts)] (fun (r : (List Embedding)) => (osl eEmbedding true r)) (fun r => []) := by
 intro n
 induction n with
 | zero => intro d q k vals facts; exact ⟨fun r h => by simp [f80] at h⟩
 | succ n ih =>
  intro d q k vals facts
  refine Rn.of (e := (
   if k = (q.Atoms.length : Int) then
   (app 8 ([]) vals).bind fun l_2 =>
   (app 8 ([]) facts).bind fun l_4 =>
   sn 6 22 (osl eI true l_2) <| 
   sn 0 25 (osl eI true l_4) <| 
   sn 3 10 (osl eEmbedding true ([({ Values := l_2, Facts := l_4 } : Embedding)])) <| 
   some ([({ Values := l_2, Facts := l_4 } : Embedding)])
   else
   sn 2 11 (osl eEmbedding true ([])) <| 
   (iter (f80_0 d q k vals facts (f80 n)) ([], 0)).bind fun out_29 =>
   some out_29 : Option (List Embedding))) rfl rfl (by decide) rfl ?_
  exact go
instance : Io0 cx 80 := ⟨rfl⟩
instance i48 {d : Database} {q : Query} : Rn cx (f48 d q) 48 [(.agg [(ssl eRelation d.Relations), (ssl eFact d.Facts)]), (.agg [(iT q.VariableCount), (ssl eAtom q.Atoms), (ssl eI q.Free)])] (fun (r : (List Embedding)) => (osl eEmbedding true r)) (fun r => []) := Rn.o (e := (
  (f11 d q).bind fun o1 =>
  if ¬ (o1 = true) then
  sn 2 4 (osl eEmbedding true ([])) <| 
  some ([])
  else
  sn 5 15 (osl eI true ([])) <| 
  (f81 q.VariableCount).bind fun o4 =>
  (f80 64 d q 0 o4 ([])).bind fun o6 =>
  some o6 : Option (List Embedding))) rfl (by exact go)
instance : Io0 cx 48 := ⟨rfl⟩
instance i39_1 {l : (List Int)} {out_1 : (List Int)} {i_2 : Int} : Lp cx (f39_1 l out_1 i_2) 47 L39_1 (fun (zs : Int) => [(0, .v (ssl eI l)), (3, .v (ssl eI out_1)), (4, .v (iT i_2)), (5, .v (iT zs))]) (QX 2 (fun (y : Int) => [(0, .v (ssl eI l)), (3, .v (ssl eI out_1)), (4, .v (iT i_2)), (5, .v (iT y))])) := Lp.of (f := (fun
 | k_4 =>
  (jn (QN (fun (y : Bool) => [(0, .v (ssl eI l)), (3, .v (ssl eI out_1)), (4, .v (iT i_2)), (5, .v (iT k_4)), (28, .v (.bool y))])) ((if k_4 > 0 then
  (ix out_1 (w64 (k_4 - 1))).bind fun v_8 =>
  (ix l i_2).bind fun v_10 =>
  some (decide (v_8 > v_10))
  else
  some false) : Option (Bool))).bind fun x_5 =>
  if x_5 = true then
  some (.inl (w64 (k_4 - 1)))
  else
  some (.inr k_4) : Int → Option (Int ⊕ Int))) (by exact go)
instance i39_0 {l : (List Int)} : Lp cx (f39_0 l) 47 L39_0 (fun (zs : (List Int) × Int) => [(0, .v (ssl eI l)), (3, .v (ssl eI zs.1)), (4, .v (iT zs.2))]) (QX 0 (fun (y : (List Int)) => [(3, .v (ssl eI y))])) := Lp.of (f := (fun
 | (out_1, i_2) =>
  if i_2 < (l.length : Int) then
  (iter (f39_1 l out_1 i_2) (out_1.length : Int)).bind fun k_15 =>
  (cutL out_1 0 k_15).bind fun l_16 =>
  (ix l i_2).bind fun v_18 =>
  (cutL out_1 k_15 out_1.length).bind fun l_20 =>
  (app 8 ([]) l_16).bind fun l_22 =>
  (app 8 l_22 ([v_18])).bind fun l_24 =>
  (app 8 l_24 l_20).bind fun l_26 =>
  sn 16 3 (osl eI true l_26) <| 
  sn 0 3 (ssl eI l_26) <| 
  some (.inl (l_26, w64 (i_2 + 1)))
  else
  some (.inr out_1) : (List Int) × Int → Option (((List Int) × Int) ⊕ (List Int)))) (by exact go)
instance i39 {l : (List Int)} : Rn cx (f39 l) 39 [(ssl eI l)] (fun (r : (List Int)) => (ssl eI r)) (fun r => []) := Rn.o (e := (
  sn 3 3 (osl eI true ([])) <| 
  sn 0 3 (ssl eI ([])) <| 
  (iter (f39_0 l) ([], 0)).bind fun out_30 =>
  some out_30 : Option (List Int))) rfl (by exact go)
instance : Io0 cx 39 := ⟨rfl⟩
instance i24_0 {d : Database} {o1 : (List Embedding)} : Lp cx (f24_0 d o1) 33 L24_0 (fun (zs : (List (List Int)) × Int) => [(2, .v (.ptr true [(ssl eRelation d.Relations), (ssl eFact d.Facts)])), (5, .v (osl (eL eI) false zs.1)), (6, .v (ssl eEmbedding o1)), (7, .v (iT zs.2))]) (QX 0 (fun (y : (List (List Int))) => [(5, .v (osl (eL eI) false y))])) := Lp.of (f := (fun
 | (out_3, i_4) =>
  if i_4 < (o1.length : Int) then
  (ix o1 i_4).bind fun v_6 =>
  (f39 v_6.Facts).bind fun o8 =>
  (f56 d o8).bind fun o10 =>
  (jn (QN (fun (y : (List (List Int))) => [(2, .v (.ptr true [(ssl eRelation d.Relations), (ssl eFact d.Facts)])), (5, .v (osl (eL eI) false y)), (6, .v (ssl eEmbedding o1)), (7, .v (iT i_4))])) ((if o10 = true then
  (app 24 out_3 ([o8])).bind fun l_15 =>
  some l_15
  else
  some out_3) : Option (List (List Int)))).bind fun out_17 =>
  some (.inl (out_17, w64 (i_4 + 1)))
  else
  some (.inr out_3) : (List (List Int)) × Int → Option (((List (List Int)) × Int) ⊕ (List (List Int))))) (by exact go)
instance i24 {d : Database} {q : Query} : Rn cx (f24 d q) 24 [(.agg [(ssl eRelation d.Relations), (ssl eFact d.Facts)]), (.agg [(iT q.VariableCount), (ssl eAtom q.Atoms), (ssl eI q.Free)])] (fun (r : (List (List Int))) => (osl (eL eI) false r)) (fun r => []) := Rn.o (e := (
  sn 5 5 (osl (eL eI) false ([])) <| 
  (f48 d q).bind fun o1 =>
  sn 1 6 (ssl eEmbedding o1) <| 
  (iter (f24_0 d o1) ([], 0)).bind fun out_20 =>
  some out_20 : Option (List (List Int)))) rfl (by exact go)
instance : Io0 cx 24 := ⟨rfl⟩
instance i85_0 {l : (List Int)} {x : Int} : Lp cx (f85_0 l x) 18 L85_0 (fun (zs : Int) => [(0, .v (ssl eI l)), (1, .v (iT x)), (5, .v (iT zs))]) (QO (QX 0 (fun (y : Unit) => [])) (QR (fun (y : Bool) => [(4, .v (.bool y))]))) := Lp.of (by unfold f85_0; exact go)
instance i85 {l : (List Int)} {x : Int} : Rn cx (f85 l x) 85 [(ssl eI l), (iT x)] (fun (r : Bool) => (.bool r)) (fun r => []) := Rn.o rfl (by unfold f85; exact go)
instance : Io0 cx 85 := ⟨rfl⟩
instance i60_1 {l : (List (List Int))} {s1 : (List Int)} {i_1 : Int} : Lp cx (f60_1 l s1 i_1) 36 L60_1 (fun (zs : Bool × Int) => [(0, .v (ssl (eL eI) l)), (1, .v (ssl eI s1)), (5, .v (iT i_1)), (6, .v (.bool zs.1)), (7, .v (iT zs.2))]) (QX 2 (fun (y : Bool) => [(0, .v (ssl (eL eI) l)), (1, .v (ssl eI s1)), (5, .v (iT i_1)), (6, .v (.bool y))])) := Lp.of (f := (fun
 | (all_3, k_4) =>
  (ix l i_1).bind fun v_5 =>
  if k_4 < (v_5.length : Int) then
  (jn (QN (fun (y : Bool) => [(0, .v (ssl (eL eI) l)), (1, .v (ssl eI s1)), (5, .v (iT i_1)), (6, .v (.bool y)), (7, .v (iT k_4))])) ((if all_3 = true then
  (ix v_5 k_4).bind fun v_11 =>
  (f85 s1 v_11).bind fun o13 =>
  some o13
  else
  some false) : Option (Bool))).bind fun all_8 =>
  some (.inl (all_8, w64 (k_4 + 1)))
  else
  some (.inr all_3) : Bool × Int → Option ((Bool × Int) ⊕ Bool))) (by exact go)
instance i60_0 {l : (List (List Int))} {s1 : (List Int)} : Lp cx (f60_0 l s1) 36 L60_0 (fun (zs : Int) => [(0, .v (ssl (eL eI) l)), (1, .v (ssl eI s1)), (5, .v (iT zs))]) (QO (QX 0 (fun (y : Unit) => [])) (QR (fun (y : Bool) => [(4, .v (.bool y))]))) := Lp.of (by unfold f60_0; exact go)
instance i60 {l : (List (List Int))} {s1 : (List Int)} : Rn cx (f60 l s1) 60 [(ssl (eL eI) l), (ssl eI s1)] (fun (r : Bool) => (.bool r)) (fun r => []) := Rn.o rfl (by unfold f60; exact go)
instance : Io0 cx 60 := ⟨rfl⟩
instance i27 {l : (List (List Int))} {s1 : (List Int)} : Rn cx (f27 l s1) 27 [(ssl (eL eI) l), (ssl eI s1)] (fun (r : Bool) => (.bool r)) (fun r => []) := Rn.o rfl (by unfold f27; exact go)
instance : Io0 cx 27 := ⟨rfl⟩
instance i53_1 {l : (List (List Int))} {blocks : (List (List Int))} {s2 : (List Int)} {i_1 : Int} : Lp cx (lw l (f53_1 blocks s2 i_1)) 67 L53_1 (fun (zs : Bool × Int) => [(0, .v (ssl (eL eI) l)), (1, .v (ssl (eL eI) blocks)), (2, .v (ssl eI s2)), (7, .v (iT i_1)), (8, .v (.bool zs.1)), (9, .v (iT zs.2))]) (QX 2 (fun (y : Bool) => [(0, .v (ssl (eL eI) l)), (1, .v (ssl (eL eI) blocks)), (2, .v (ssl eI s2)), (7, .v (iT i_1)), (8, .v (.bool y))])) := Lp.of (f := (fun
 | (is_3, k_4) =>
  (ix blocks i_1).bind fun v_5 =>
  if k_4 < (v_5.length : Int) then
  (jn (QN (fun (y : Bool) => [(0, .v (ssl (eL eI) l)), (1, .v (ssl (eL eI) blocks)), (2, .v (ssl eI s2)), (7, .v (iT i_1)), (8, .v (.bool y)), (9, .v (iT k_4))])) ((if is_3 = true then
  (ix v_5 k_4).bind fun v_11 =>
  (f85 s2 v_11).bind fun o13 =>
  some (decide (¬ (o13 = true)))
  else
  some false) : Option (Bool))).bind fun is_8 =>
  some (.inl (is_8, w64 (k_4 + 1)))
  else
  some (.inr is_3) : Bool × Int → Option ((Bool × Int) ⊕ Bool))) (by exact go)
instance i53_2 {l : (List (List Int))} {blocks : (List (List Int))} {s2 : (List Int)} {i_1 : Int} : Lp cx (f53_2 l blocks s2 i_1) 67 L53_2 (fun (zs : Bool × Int) => [(0, .v (ssl (eL eI) l)), (1, .v (ssl (eL eI) blocks)), (2, .v (ssl eI s2)), (7, .v (iT i_1)), (8, .v (.bool zs.1)), (10, .v (iT zs.2))]) (QX 4 (fun (y : Bool) => [(0, .v (ssl (eL eI) l)), (1, .v (ssl (eL eI) blocks)), (2, .v (ssl eI s2)), (7, .v (iT i_1)), (8, .v (.bool y))])) := Lp.of (f := (fun
 | (is_18, k_19) =>
  (ix blocks i_1).bind fun v_20 =>
  (jn (QN (fun (y : Bool) => [(0, .v (ssl (eL eI) l)), (1, .v (ssl (eL eI) blocks)), (2, .v (ssl eI s2)), (7, .v (iT i_1)), (8, .v (.bool is_18)), (10, .v (iT k_19)), (48, .v (.bool y))])) ((if k_19 < (v_20.length : Int) then
  some is_18
  else
  some false) : Option (Bool))).bind fun x_22 =>
  if x_22 = true then
  (ix v_20 k_19).bind fun v_26 =>
  (app 8 ([]) s2).bind fun l_28 =>
  (app 8 l_28 ([v_26])).bind fun l_30 =>
  sn 13 63 (osl eI true l_30) <| 
  (f27 l l_30).bind fun o32 =>
  some (.inl (o32, w64 (k_19 + 1)))
  else
  some (.inr is_18) : Bool × Int → Option ((Bool × Int) ⊕ Bool))) (by exact go)
instance i53_0 {l : (List (List Int))} {blocks : (List (List Int))} {s2 : (List Int)} : Lp cx (f53_0 l blocks s2) 67 L53_0 (fun (zs : Int) => [(0, .v (ssl (eL eI) l)), (1, .v (ssl (eL eI) blocks)), (2, .v (ssl eI s2)), (7, .v (iT zs))]) (QO (QX 0 (fun (y : Unit) => [])) (QR (fun (y : Int) => [(6, .v (iT y))]))) := Lp.of (f := (fun
 | i_1 =>
  if i_1 < (blocks.length : Int) then
  (iter (lw l  (f53_1 blocks s2 i_1)) (true, 0)).bind fun is_17 =>
  (iter (f53_2 l blocks s2 i_1) (is_17, 0)).bind fun is_36 =>
  if is_36 = true then
  some (.inr (.inr i_1))
  else
  some (.inl (w64 (i_1 + 1)))
  else
  some (.inr (.inl ())) : Int → Option (Int ⊕ (Unit ⊕ Int)))) (by exact go)
instance i53 {l : (List (List Int))} {blocks : (List (List Int))} {s2 : (List Int)} : Rn cx (f53 l blocks s2) 53 [(ssl (eL eI) l), (ssl (eL eI) blocks), (ssl eI s2)] (fun (r : Int) => (iT r)) (fun r => []) := Rn.o rfl (by unfold f53; exact go)
instance : Io0 cx 53 := ⟨rfl⟩
instance i22_0 {d : Database} {o4 : (List (List Int))} {o6 : (List (List Int))} : Lp cx (lw d (f22_0 o4 o6)) 87 L22_0 (fun (zs : (List (List Int)) × (List Bool) × Int) => [(2, .v (.ptr true [(ssl eRelation d.Relations), (ssl eFact d.Facts)])), (5, .v (osl (eL eI) false zs.1)), (6, .v (osl (eL eI) false o4)), (7, .v (osl (eL eI) false o6)), (8, .v (osl eB true zs.2.1)), (9, .v (iT zs.2.2))]) (QX 0 (fun (y : (List (List Int)) × (List Bool)) => [(2, .v (.ptr true [(ssl eRelation d.Relations), (ssl eFact d.Facts)])), (5, .v (osl (eL eI) false y.1)), (6, .v (osl (eL eI) false o4)), (8, .v (osl eB true y.2))])) := Lp.of (f := (fun
 | (out_10, known_11, i_12) =>
  if i_12 < (o4.length : Int) then
  (ix o4 i_12).bind fun v_14 =>
  (f27 o6 v_14).bind fun o16 =>
  (jn (QN (fun (y : (List (List Int)) × (List Bool)) => [(2, .v (.ptr true [(ssl eRelation d.Relations), (ssl eFact d.Facts)])), (5, .v (osl (eL eI) false y.1)), (6, .v (osl (eL eI) false o4)), (7, .v (osl (eL eI) false o6)), (8, .v (osl eB true y.2)), (9, .v (iT i_12))])) ((if o16 = true then
  (ix known_11 i_12).bind fun v_21 =>
  (app 24 out_10 ([v_14])).bind fun l_24 =>
  some (l_24, (known_11.set i_12.toNat true))
  else
  some (out_10, known_11)) : Option ((List (List Int)) × (List Bool)))).bind fun (out_26, known_27) =>
  some (.inl (out_26, known_27, w64 (i_12 + 1)))
  else
  some (.inr (out_10, known_11)) : (List (List Int)) × (List Bool) × Int → Option (((List (List Int)) × (List Bool) × Int) ⊕ ((List (List Int)) × (List Bool))))) (by exact go)
instance i22_2 {o4 : (List (List Int))} {o32 : (List (List Int))} : Lp cx (f22_2 o4 o32) 87 L22_2 (fun (zs : (List (List Int)) × (List Bool) × Bool × Int) => [(5, .v (osl (eL eI) false zs.1)), (6, .v (osl (eL eI) false o4)), (8, .v (osl eB true zs.2.1)), (10, .v (osl (eL eI) true o32)), (11, .v (.bool zs.2.2.1)), (12, .v (iT zs.2.2.2))]) (QX 4 (fun (y : (List (List Int)) × (List Bool) × Bool) => [(5, .v (osl (eL eI) false y.1)), (6, .v (osl (eL eI) false o4)), (8, .v (osl eB true y.2.1)), (10, .v (osl (eL eI) true o32)), (11, .v (.bool y.2.2))])) := Lp.of (f := (fun
 | (out_38, known_39, more_40, i_41) =>
  if i_41 < (o4.length : Int) then
  (ix known_39 i_41).bind fun v_43 =>
  (jn (QN (fun (y : Bool) => [(5, .v (osl (eL eI) false out_38)), (6, .v (osl (eL eI) false o4)), (8, .v (osl eB true known_39)), (10, .v (osl (eL eI) true o32)), (11, .v (.bool more_40)), (12, .v (iT i_41)), (75, .v (.bool y))])) ((if ¬ (v_43 = true) then
  (ix o4 i_41).bind fun v_48 =>
  (f53 out_38 o32 v_48).bind fun o50 =>
  some (decide (o50 ≥ 0))
  else
  some false) : Option (Bool))).bind fun x_45 =>
  (jn (QN (fun (y : (List (List Int)) × (List Bool) × Bool) => [(5, .v (osl (eL eI) false y.1)), (6, .v (osl (eL eI) false o4)), (8, .v (osl eB true y.2.1)), (10, .v (osl (eL eI) true o32)), (11, .v (.bool y.2.2)), (12, .v (iT i_41))])) ((if x_45 = true then
  (ix o4 i_41).bind fun v_56 =>
  (app 24 out_38 ([v_56])).bind fun l_58 =>
  some (l_58, (known_39.set i_41.toNat true), true)
  else
  some (out_38, known_39, more_40)) : Option ((List (List Int)) × (List Bool) × Bool))).bind fun (out_60, known_61, more_62) =>
  some (.inl (out_60, known_61, more_62, w64 (i_41 + 1)))
  else
  some (.inr (out_38, known_39, more_40)) : (List (List Int)) × (List Bool) × Bool × Int → Option (((List (List Int)) × (List Bool) × Bool × Int) ⊕ ((List (List Int)) × (List Bool) × Bool)))) (by exact go)
instance i22_1 {o4 : (List (List Int))} {o32 : (List (List Int))} : Lp cx (f22_1 o4 o32) 87 L22_1 (fun (zs : (List (List Int)) × (List Bool) × Bool) => [(5, .v (osl (eL eI) false zs.1)), (6, .v (osl (eL eI) false o4)), (8, .v (osl eB true zs.2.1)), (10, .v (osl (eL eI) true o32)), (11, .v (.bool zs.2.2))]) (QX 2 (fun (y : (List (List Int))) => [(5, .v (osl (eL eI) false y))])) := Lp.of (by unfold f22_1; exact go)
instance i22 {d : Database} {q : Query} : Rn cx (f22 d q) 22 [(.agg [(ssl eRelation d.Relations), (ssl eFact d.Facts)]), (.agg [(iT q.VariableCount), (ssl eAtom q.Atoms), (ssl eI q.Free)])] (fun (r : (List (List Int))) => (osl (eL eI) false r)) (fun r => []) := Rn.o (e := (
  sn 5 5 (osl (eL eI) false ([])) <| 
  (f11 d q).bind fun o1 =>
  if ¬ (o1 = true) then
  some ([])
  else
  (f52 d (q.Atoms.length : Int)).bind fun o4 =>
  (f24 d q).bind fun o6 =>
  (mkl 1 (o4.length : Int) false).bind fun l_8 =>
  sn 5 8 (osl eB true l_8) <| 
  (iter (lw d  (f22_0 o4 o6)) ([], l_8, 0)).bind fun (out_30, known_31) =>
  (f35 d).bind fun o32 =>
  (iter (f22_1 o4 o32) (out_30, known_31, true)).bind fun out_70 =>
  some out_70 : Option (List (List Int)))) rfl (by exact go)
instance : Io0 cx 22 := ⟨rfl⟩
instance i18_0 {a : (List Int)} {b : (List Int)} : Lp cx (f18_0 a b) 26 L18_0 (fun (zs : Int) => [(0, .v (ssl eI a)), (1, .v (ssl eI b)), (5, .v (iT zs))]) (QO (QX 0 (fun (y : Unit) => [])) (QR (fun (y : Bool) => [(4, .v (.bool y))]))) := Lp.of (by unfold f18_0; exact go)
instance i18 {a : (List Int)} {b : (List Int)} : Rn cx (f18 a b) 18 [(ssl eI a), (ssl eI b)] (fun (r : Bool) => (.bool r)) (fun r => []) := Rn.o rfl (by unfold f18; exact go)
instance : Io0 cx 18 := ⟨rfl⟩
instance i9_0 {a : (List (List Int))} {b : (List (List Int))} : Lp cx (f9_0 a b) 27 L9_0 (fun (zs : Int) => [(0, .v (ssl (eL eI) a)), (1, .v (ssl (eL eI) b)), (5, .v (iT zs))]) (QO (QX 0 (fun (y : Unit) => [])) (QR (fun (y : Bool) => [(4, .v (.bool y))]))) := Lp.of (by unfold f9_0; exact go)
instance i9 {a : (List (List Int))} {b : (List (List Int))} : Rn cx (f9 a b) 9 [(ssl (eL eI) a), (ssl (eL eI) b)] (fun (r : Bool) => (.bool r)) (fun r => []) := Rn.o rfl (by unfold f9; exact go)
instance : Io0 cx 9 := ⟨rfl⟩
end
end Go.Proofs.YtbhadkbchkjdiaaGreatH
