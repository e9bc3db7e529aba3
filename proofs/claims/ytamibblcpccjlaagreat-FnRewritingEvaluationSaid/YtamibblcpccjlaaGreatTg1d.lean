import Derived.Test.YtamibblcpccjlaaGreatTg1c
set_option maxHeartbeats 2000000
set_option linter.unusedVariables false
set_option linter.unusedSimpArgs false
set_option linter.defProp false
set_option linter.unusedSectionVars false
set_option maxRecDepth 100000
namespace Go.Proofs.YtamibblcpccjlaaGreatH
open Go
noncomputable section
theorem r6 {code : (List Int)} {r : Database × (List RewritingStep) × (List Int)} (h : f6 code = some r) : VJx cx (.ca 6 [(ssl eU code)] (.tup [(.agg [(ssl eRelation r.1.Relations), (ssl eFact r.1.Facts)]), (osl eRewritingStep true r.2.1), (osl eI true r.2.2)]) []) := by
 unfold f6 at h
 refine ca_of rfl rfl (by decide) rfl ?_
 refine Wc.start (V1 := [(0, .v (ssl eU code))]) (by simp) ?_
 refine Wc.seq ?_
 refine Wc.evs (by conv => lhs; simp [-aI_app1, -aI_app0, -aB_app0, -aS_app0, -aL_app0, -aI_app10, -aB_app10, -aS_app10, -aLt_app10I, -aLf_app10I, -aLt_app1I, -aLf_app1I]) ?_
 refine Wo.gh (vle_co (s := 2) (t1 := (.ptr true [(osl eRelation true ([])), (osl eFact true ([]))])) rfl (by simp) (TLe.ptr (TLes.cons (TLe.nil rfl (by decide)) (TLes.cons (TLe.nil rfl (by decide)) (TLes.refl _)))) (by conv => lhs; simp)) ?_
 refine Wo.nil ?_
 refine Wc.seq ?_
 refine Wc.evs (by conv => lhs; simp [-aI_app1, -aI_app0, -aB_app0, -aS_app0, -aL_app0, -aI_app10, -aB_app10, -aS_app10, -aLt_app10I, -aLf_app10I, -aLt_app1I, -aLf_app1I]) ?_
 obtain ⟨o1, h2, h⟩ := bind_some h
 refine Wo.call rfl rfl (by (conv => lhs; simp [-aI_app1, -aI_app0, -aB_app0, -aS_app0, -aL_app0, -aI_app10, -aB_app10, -aS_app10, -aLt_app10I, -aLf_app10I, -aLt_app1I, -aLf_app1I, cx, ioTab]) <;> rfl) (run_ h2) (by simp) (by simp) (by (conv => lhs; simp [-aI_app1, -aI_app0, -aB_app0, -aS_app0, -aL_app0, -aI_app10, -aB_app10, -aS_app10, -aLt_app10I, -aLf_app10I, -aLt_app1I, -aLf_app1I, cx, ioTab]) <;> rfl) (by (conv => lhs; simp [-aI_app1, -aI_app0, -aB_app0, -aS_app0, -aL_app0, -aI_app10, -aB_app10, -aS_app10, -aLt_app10I, -aLf_app10I, -aLt_app1I, -aLf_app1I]) <;> rfl) ?_
 refine Wo.evs (by conv => lhs; simp [-aI_app1, -aI_app0, -aB_app0, -aS_app0, -aL_app0, -aI_app10, -aB_app10, -aS_app10, -aLt_app10I, -aLf_app10I, -aLt_app1I, -aLf_app1I]) ?_
 refine Wo.nil ?_
 refine Wc.seq ?_
 refine Wc.evs (by conv => lhs; simp [-aI_app1, -aI_app0, -aB_app0, -aS_app0, -aL_app0, -aI_app10, -aB_app10, -aS_app10, -aLt_app10I, -aLf_app10I, -aLt_app1I, -aLf_app1I]) ?_
 obtain ⟨o3, h4, h⟩ := bind_some h
 refine Wo.call rfl rfl (by (conv => lhs; simp [-aI_app1, -aI_app0, -aB_app0, -aS_app0, -aL_app0, -aI_app10, -aB_app10, -aS_app10, -aLt_app10I, -aLf_app10I, -aLt_app1I, -aLf_app1I, cx, ioTab]) <;> rfl) (run_ h4) (by simp) (by simp) (by (conv => lhs; simp [-aI_app1, -aI_app0, -aB_app0, -aS_app0, -aL_app0, -aI_app10, -aB_app10, -aS_app10, -aLt_app10I, -aLf_app10I, -aLt_app1I, -aLf_app1I, cx, ioTab]) <;> rfl) (by (conv => lhs; simp [-aI_app1, -aI_app0, -aB_app0, -aS_app0, -aL_app0, -aI_app10, -aB_app10, -aS_app10, -aLt_app10I, -aLf_app10I, -aLt_app1I, -aLf_app1I]) <;> rfl) ?_
 refine Wo.evs (by conv => lhs; simp [-aI_app1, -aI_app0, -aB_app0, -aS_app0, -aL_app0, -aI_app10, -aB_app10, -aS_app10, -aLt_app10I, -aLf_app10I, -aLt_app1I, -aLf_app1I]) ?_
 refine Wo.nil ?_
 refine Wc.seq ?_
 refine Wc.evs (by conv => lhs; simp [-aI_app1, -aI_app0, -aB_app0, -aS_app0, -aL_app0, -aI_app10, -aB_app10, -aS_app10, -aLt_app10I, -aLf_app10I, -aLt_app1I, -aLf_app1I]) ?_
 refine Wo.gh (vle_co (s := 7) (t1 := (osl eI true ([]))) rfl (by simp) (TLe.own (show TLes _ [] from (TLes.refl _)) rfl) (by conv => lhs; simp)) ?_
 refine Wo.nil ?_
 refine Wc.seq ?_
 refine Wc.seq ?_
 refine Wc.evs (by conv => lhs; simp [-aI_app1, -aI_app0, -aB_app0, -aS_app0, -aL_app0, -aI_app10, -aB_app10, -aS_app10, -aLt_app10I, -aLf_app10I, -aLt_app1I, -aLf_app1I]) ?_
 obtain ⟨o5, h6, h⟩ := bind_some h
 refine Wo.call rfl rfl (by (conv => lhs; simp [-aI_app1, -aI_app0, -aB_app0, -aS_app0, -aL_app0, -aI_app10, -aB_app10, -aS_app10, -aLt_app10I, -aLf_app10I, -aLt_app1I, -aLf_app1I, cx, ioTab]) <;> rfl) (run_ h6) (by simp) (by simp) (by (conv => lhs; simp [-aI_app1, -aI_app0, -aB_app0, -aS_app0, -aL_app0, -aI_app10, -aB_app10, -aS_app10, -aLt_app10I, -aLf_app10I, -aLt_app1I, -aLf_app1I, cx, ioTab]) <;> rfl) (by (conv => lhs; simp [-aI_app1, -aI_app0, -aB_app0, -aS_app0, -aL_app0, -aI_app10, -aB_app10, -aS_app10, -aLt_app10I, -aLf_app10I, -aLt_app1I, -aLf_app1I]) <;> rfl) ?_
 refine Wo.evs (by conv => lhs; simp [-aI_app1, -aI_app0, -aB_app0, -aS_app0, -aL_app0, -aI_app10, -aB_app10, -aS_app10, -aLt_app10I, -aLf_app10I, -aLt_app1I, -aLf_app1I]) ?_
 refine Wo.nil ?_
 refine Wc.block ?_
 obtain ⟨w17, h18, h⟩ := bind_some h
 refine Wc.start (V1 := [(2, .v (.ptr true [(osl eRelation true ([])), (osl eFact true ([]))])), (5, .v (.ptr true [(ssl eU o5.2.b), (iT o5.2.i), (iT o5.2.h)])), (6, .v (.ptr true [(ssl eRelation o3.1.Relations), (osl eFact false o3.1.Facts)])), (7, .v (osl eI true ([]))), (8, .v (iT o5.1))]) (by first | rfl | simp [-aI_app1, -aI_app0, -aB_app0, -aS_app0, -aL_app0, -aI_app10, -aB_app10, -aS_app10, -aLt_app10I, -aLf_app10I, -aLt_app1I, -aLf_app1I]) ?_
 refine Wc.mono (r6_0 _ _ h18) ?_
 obtain ⟨c_19, c_20, c_21, vals_22⟩ := w17
 rintro ex V ⟨rfl, rfl⟩
 dsimp only at h ⊢
 refine Wc.seq ?_
 refine Wc.seq ?_
 refine Wc.evs (by conv => lhs; simp [-aI_app1, -aI_app0, -aB_app0, -aS_app0, -aL_app0, -aI_app10, -aB_app10, -aS_app10, -aLt_app10I, -aLf_app10I, -aLt_app1I, -aLf_app1I]) ?_
 obtain ⟨o23, h24, h⟩ := bind_some h
 refine Wo.call rfl rfl (by (conv => lhs; simp [-aI_app1, -aI_app0, -aB_app0, -aS_app0, -aL_app0, -aI_app10, -aB_app10, -aS_app10, -aLt_app10I, -aLf_app10I, -aLt_app1I, -aLf_app1I, cx, ioTab]) <;> rfl) (run_ h24) (by simp) (by simp) (by (conv => lhs; simp [-aI_app1, -aI_app0, -aB_app0, -aS_app0, -aL_app0, -aI_app10, -aB_app10, -aS_app10, -aLt_app10I, -aLf_app10I, -aLt_app1I, -aLf_app1I, cx, ioTab]) <;> rfl) (by (conv => lhs; simp [-aI_app1, -aI_app0, -aB_app0, -aS_app0, -aL_app0, -aI_app10, -aB_app10, -aS_app10, -aLt_app10I, -aLf_app10I, -aLt_app1I, -aLf_app1I]) <;> rfl) ?_
 refine Wo.nil ?_
 obtain ⟨w25, h26, h⟩ := bind_some h
 refine Wc.mono (Q := (QN (fun (y : (List Int)) => [(2, .v (.ptr true [(osl eRelation true ([])), (osl eFact true ([]))])), (5, .v (.ptr true [(ssl eU o23.2.b), (iT o23.2.i), (iT o23.2.h)])), (6, .v (.ptr true [(ssl eRelation o3.1.Relations), (osl eFact false o3.1.Facts)])), (7, .v (osl eI true y))])) w25) ?_ ?_
 ·skip
  by_cases kc27 : o23.1 = true
  ·rw [if_pos kc27] at h26
   refine Wc.condT' (t := _) (by conv => lhs; simp) (by simpa using kc27) ?_
   refine Wc.seq ?_
   refine Wc.kil (by conv => lhs; simp) ?_
   refine Wc.evs (by conv => lhs; simp [-aI_app1, -aI_app0, -aB_app0, -aS_app0, -aL_app0, -aI_app10, -aB_app10, -aS_app10, -aLt_app10I, -aLf_app10I, -aLt_app1I, -aLf_app1I]) ?_
   refine Wo.gh (vle_co (s := 7) (t1 := (osl eI true ([]))) rfl (by simp) (TLe.own (show TLes _ [] from (TLes.refl _)) rfl) (by conv => lhs; simp)) ?_
   refine Wo.nil ?_
   cases h26
   exact ⟨rfl, by first | rfl | simp [-aI_app1, -aI_app0, -aB_app0, -aS_app0, -aL_app0, -aI_app10, -aB_app10, -aS_app10, -aLt_app10I, -aLf_app10I, -aLt_app1I, -aLf_app1I]⟩
  ·rw [if_neg kc27] at h26
   refine Wc.condF' (t := _) (by conv => lhs; simp) (by simpa using kc27) ?_
   refine Wc.seq ?_
   refine Wc.kil (by conv => lhs; simp) ?_
   refine Wc.skip ?_
   cases h26
   exact ⟨rfl, by first | rfl | simp [-aI_app1, -aI_app0, -aB_app0, -aS_app0, -aL_app0, -aI_app10, -aB_app10, -aS_app10, -aLt_app10I, -aLf_app10I, -aLt_app1I, -aLf_app1I]⟩
 ·skip
  generalize w25 = vals_28 at *
  rintro ex V ⟨rfl, rfl⟩
  try dsimp only at h
  refine Wc.seq ?_
  refine Wc.evs (by conv => lhs; simp [-aI_app1, -aI_app0, -aB_app0, -aS_app0, -aL_app0, -aI_app10, -aB_app10, -aS_app10, -aLt_app10I, -aLf_app10I, -aLt_app1I, -aLf_app1I]) ?_
  obtain ⟨o29, h30, h⟩ := bind_some h
  refine Wo.ra (q := 30) (r := 5) (by conv => lhs; simp) (by rfl) (by decide) ?_
  refine Wo.call (by simp) rfl (by (conv => lhs; simp [-aI_app1, -aI_app0, -aB_app0, -aS_app0, -aL_app0, -aI_app10, -aB_app10, -aS_app10, -aLt_app10I, -aLf_app10I, -aLt_app1I, -aLf_app1I, cx, ioTab]) <;> rfl) (run_ h30) (by simp) (by simp) (by (conv => lhs; simp [-aI_app1, -aI_app0, -aB_app0, -aS_app0, -aL_app0, -aI_app10, -aB_app10, -aS_app10, -aLt_app10I, -aLf_app10I, -aLt_app1I, -aLf_app1I, cx, ioTab]) <;> rfl) (by (conv => lhs; simp [-aI_app1, -aI_app0, -aB_app0, -aS_app0, -aL_app0, -aI_app10, -aB_app10, -aS_app10, -aLt_app10I, -aLf_app10I, -aLt_app1I, -aLf_app1I]) <;> rfl) ?_
  refine Wo.nil ⟨_, by conv => lhs; simp [-aI_app1, -aI_app0, -aB_app0, -aS_app0, -aL_app0, -aI_app10, -aB_app10, -aS_app10, -aLt_app10I, -aLf_app10I, -aLt_app1I, -aLf_app1I], ?_⟩
  refine Wo.st (by conv => lhs; simp [-aI_app1, -aI_app0, -aB_app0, -aS_app0, -aL_app0, -aI_app10, -aB_app10, -aS_app10, -aLt_app10I, -aLf_app10I, -aLt_app1I, -aLf_app1I]) ?_
  refine Wo.gh (vle_fz (s := 32) rfl (by simp) (by conv => lhs; simp)) ?_
  obtain ⟨o31, h32, h⟩ := bind_some h
  refine Wo.call (by simp) rfl (by (conv => lhs; simp [-aI_app1, -aI_app0, -aB_app0, -aS_app0, -aL_app0, -aI_app10, -aB_app10, -aS_app10, -aLt_app10I, -aLf_app10I, -aLt_app1I, -aLf_app1I, cx, ioTab]) <;> rfl) (run_ h32) (by simp) (by simp) (by (conv => lhs; simp [-aI_app1, -aI_app0, -aB_app0, -aS_app0, -aL_app0, -aI_app10, -aB_app10, -aS_app10, -aLt_app10I, -aLf_app10I, -aLt_app1I, -aLf_app1I, cx, ioTab]) <;> rfl) (by (conv => lhs; simp [-aI_app1, -aI_app0, -aB_app0, -aS_app0, -aL_app0, -aI_app10, -aB_app10, -aS_app10, -aLt_app10I, -aLf_app10I, -aLt_app1I, -aLf_app1I]) <;> rfl) ?_
  refine Wo.evs (by conv => lhs; simp [-aI_app1, -aI_app0, -aB_app0, -aS_app0, -aL_app0, -aI_app10, -aB_app10, -aS_app10, -aLt_app10I, -aLf_app10I, -aLt_app1I, -aLf_app1I]) ?_
  refine Wo.nil ?_
  refine Wc.gh (vle_fz (s := 2) rfl (by simp) (by conv => lhs; simp)) ?_
  refine Wc.ret (res_of (.inr rfl) ?_)
  cases h
  exact ⟨_, _, _, by conv => lhs; simp, by (conv => lhs; simp [cx, ioTab, List.range, List.range.loop]) <;> rfl, by first | rfl | simp [-aI_app1, -aI_app0, -aB_app0, -aS_app0, -aL_app0, -aI_app10, -aB_app10, -aS_app10, -aLt_app10I, -aLf_app10I, -aLt_app1I, -aLf_app1I]⟩
instance i6 {code : (List Int)} : Rn cx (f6 code) 6 [(ssl eU code)] (fun (r : Database × (List RewritingStep) × (List Int)) => (.tup [(.agg [(ssl eRelation r.1.Relations), (ssl eFact r.1.Facts)]), (osl eRewritingStep true r.2.1), (osl eI true r.2.2)])) (fun r => []) := ⟨fun _ h => r6 h⟩
instance : Io0 cx 6 := ⟨rfl⟩
instance i31 {n0 : Int} {low : Int} {high : Int} : Rn cx (f31 n0 low high) 31 [(iT n0), (iT low), (iT high)] (fun (r : Bool) => (.bool r)) (fun r => []) := Rn.o (e := (
  (jn (QN (fun (y : Bool) => [(6, .v (.bool y))])) ((if low ≤ n0 then
  some (decide (n0 ≤ high))
  else
  some false) : Option (Bool))).bind fun x_1 =>
  some x_1 : Option Bool)) rfl (by exact go)
instance : Io0 cx 31 := ⟨rfl⟩
instance i74 {relation : Relation} : Rn cx (f74 relation) 74 [(.agg [(.str relation.Name), (iT relation.Arity), (iT relation.KeyLength)])] (fun (r : Bool) => (.bool r)) (fun r => []) := Rn.o (e := (
  (jn (QN (fun (y : Bool) => [(2, .v (.bool y))])) ((if (relation.Name.length : Int) = 1 then
  (ix relation.Name 0).bind fun c_4 =>
  (jn (QN (fun (y : Bool) => [(2, .v (.bool y))])) ((if (c_4.toNat : Int) ≥ 97 then
  (jn (QN (fun (y : Bool) => [(2, .v (.bool y))])) ((if (c_4.toNat : Int) ≤ 122 then
  (f31 relation.Arity 1 3).bind fun o12 =>
  (jn (QN (fun (y : Bool) => [(2, .v (.bool y))])) ((if o12 = true then
  (f31 relation.KeyLength 0 relation.Arity).bind fun o17 =>
  some o17
  else
  some false) : Option (Bool))).bind fun x_14 =>
  some x_14
  else
  some false) : Option (Bool))).bind fun x_9 =>
  some x_9
  else
  some false) : Option (Bool))).bind fun x_6 =>
  some x_6
  else
  some false) : Option (Bool))).bind fun x_1 =>
  some x_1 : Option Bool)) rfl (by exact go)
instance : Io0 cx 74 := ⟨rfl⟩
instance i30_0 {relations : (List Relation)} : Lp cx (f30_0 relations) 34 L30_0 (fun (zs : Int) => [(0, .v (ssl eRelation relations)), (5, .v (ssl eRelation relations)), (6, .v (iT (relations.length : Int))), (7, .v (iT zs))]) (QO (QX 0 (fun (y : Unit) => [(0, .v (ssl eRelation relations))])) (QR (fun (y : Bool) => [(2, .v (.bool y))]))) := Lp.of (f := (fun
 | x_1 =>
  if x_1 < (relations.length : Int) then
  (ix relations x_1).bind fun v_3 =>
  (f74 v_3).bind fun o5 =>
  (jn (QN (fun (y : Bool) => [(0, .v (ssl eRelation relations)), (5, .v (ssl eRelation relations)), (6, .v (iT (relations.length : Int))), (7, .v (iT x_1)), (29, .v (.bool y))])) ((if ¬ (o5 = true) then
  some true
  else
  (jn (QN (fun (y : Bool) => [(0, .v (ssl eRelation relations)), (5, .v (ssl eRelation relations)), (6, .v (iT (relations.length : Int))), (7, .v (iT x_1)), (29, .v (.bool y))])) ((if x_1 > 0 then
  (ix relations (w64 (x_1 - 1))).bind fun v_13 =>
  some (!(Op.bytesLess v_13.Name v_3.Name))
  else
  some false) : Option (Bool))).bind fun x_10 =>
  some x_10) : Option (Bool))).bind fun x_7 =>
  if x_7 = true then
  some (.inr (.inr false))
  else
  some (.inl (w64 (x_1 + 1)))
  else
  some (.inr (.inl ())) : Int → Option (Int ⊕ (Unit ⊕ Bool)))) (by exact go)
instance i30 {relations : (List Relation)} : Rn cx (f30 relations) 30 [(ssl eRelation relations)] (fun (r : Bool) => (.bool r)) (fun r => []) := Rn.o rfl (by unfold f30; exact go)
instance : Io0 cx 30 := ⟨rfl⟩
instance i75_0 {s0 : (List Int)} {g_f : Nat} {cp_f : List T} {f : Int → Option Bool} [hp_f : ∀ x0, Rn cx (f x0) g_f ((iT x0) :: cp_f) (fun o => (.bool o)) (fun _ => [])] [Io0 cx g_f] : Lp cx (f75_0 s0 f) 19 L75_0 (fun (zs : Int) => [(0, .v (ssl eI s0)), (1, .v (.fn g_f cp_f)), (7, .v (iT (s0.length : Int))), (8, .v (iT zs))]) (QO (QX 0 (fun (y : Unit) => [])) (QR (fun (y : Int) => [(4, .v (iT y))]))) := Lp.of (by unfold f75_0; exact go)
instance i75 {s0 : (List Int)} {g_f : Nat} {cp_f : List T} {f : Int → Option Bool} [hp_f : ∀ x0, Rn cx (f x0) g_f ((iT x0) :: cp_f) (fun o => (.bool o)) (fun _ => [])] [Io0 cx g_f] : Rn cx (f75 s0 f) 75 [(ssl eI s0), (.fn g_f cp_f)] (fun (r : Int) => (iT r)) (fun r => []) := Rn.o rfl (by unfold f75; exact go)
instance : Io0 cx 75 := ⟨rfl⟩
instance i32 {s0 : (List Int)} {g_f : Nat} {cp_f : List T} {f : Int → Option Bool} [hp_f : ∀ x0, Rn cx (f x0) g_f ((iT x0) :: cp_f) (fun o => (.bool o)) (fun _ => [])] [Io0 cx g_f] : Rn cx (f32 s0 f) 32 [(ssl eI s0), (.fn g_f cp_f)] (fun (r : Bool) => (.bool r)) (fun r => []) := Rn.o rfl (by unfold f32; exact go)
instance : Io0 cx 32 := ⟨rfl⟩
instance i154 {v : Int} : Rn cx (f154 v) 154 [(iT v)] (fun (r : Bool) => (.bool r)) (fun r => []) := Rn.o rfl (by unfold f154; exact go)
instance : Io0 cx 154 := ⟨rfl⟩
instance i112 {list : (List Int)} : Rn cx (f112 list) 112 [(ssl eI list)] (fun (r : Bool) => (.bool r)) (fun r => []) := Rn.o rfl (by unfold f112; exact go)
instance : Io0 cx 112 := ⟨rfl⟩
instance i68 {relations : (List Relation)} {fact : Fact} : Rn cx (f68 relations fact) 68 [(ssl eRelation relations), (.agg [(iT fact.Relation), (ssl eI fact.Values)])] (fun (r : Bool) => (.bool r)) (fun r => []) := Rn.o (e := (
  (f31 fact.Relation 0 (w64 ((relations.length : Int) - 1))).bind fun o1 =>
  (jn (QN (fun (y : Bool) => [(4, .v (.bool y))])) ((if o1 = true then
  (ix relations fact.Relation).bind fun v_6 =>
  (jn (QN (fun (y : Bool) => [(4, .v (.bool y))])) ((if (fact.Values.length : Int) = v_6.Arity then
  (f112 fact.Values).bind fun o11 =>
  some o11
  else
  some false) : Option (Bool))).bind fun x_8 =>
  some x_8
  else
  some false) : Option (Bool))).bind fun x_3 =>
  some x_3 : Option Bool)) rfl (by exact go)
instance : Io0 cx 68 := ⟨rfl⟩
instance i113 {a : Int} {b : Int} : Rn cx (f113 a b) 113 [(iT a), (iT b)] (fun (r : Int) => (iT r)) (fun r => []) := Rn.o rfl (by unfold f113; exact go)
instance : Io0 cx 113 := ⟨rfl⟩
instance i181 {x : Int} : Rn cx (f181 x) 181 [(iT x)] (fun (r : Bool) => (.bool r)) (fun r => []) := Rn.o rfl (by unfold f181; exact go)
instance : Io0 cx 181 := ⟨rfl⟩
instance i155 {x : Int} {y : Int} : Rn cx (f155 x y) 155 [(iT x), (iT y)] (fun (r : Int) => (iT r)) (fun r => []) := Rn.o rfl (by unfold f155; exact go)
instance : Io0 cx 155 := ⟨rfl⟩
instance i114_0 {s1 : (List Int)} {s2 : (List Int)} : Lp cx (f114_0 s1 s2) 36 L114_0 (fun (zs : Int) => [(0, .v (ssl eI s1)), (1, .v (ssl eI s2)), (9, .v (ssl eI s1)), (10, .v (iT (s1.length : Int))), (11, .v (iT zs))]) (QO (QX 0 (fun (y : Unit) => [(0, .v (ssl eI s1)), (1, .v (ssl eI s2))])) (QR (fun (y : Int) => [(4, .v (iT y))]))) := Lp.of (by unfold f114_0; exact go)
instance i114 {s1 : (List Int)} {s2 : (List Int)} : Rn cx (f114 s1 s2) 114 [(ssl eI s1), (ssl eI s2)] (fun (r : Int) => (iT r)) (fun r => []) := Rn.o rfl (by unfold f114; exact go)
instance : Io0 cx 114 := ⟨rfl⟩
instance i69 {a : Fact} {b : Fact} : Rn cx (f69 a b) 69 [(.agg [(iT a.Relation), (ssl eI a.Values)]), (.agg [(iT b.Relation), (ssl eI b.Values)])] (fun (r : Int) => (iT r)) (fun r => []) := Rn.o rfl (by unfold f69; exact go)
instance : Io0 cx 69 := ⟨rfl⟩
instance i24_0 {db : Database} : Lp cx (f24_0 db) 44 L24_0 (fun (zs : Int) => [(1, .v (.ptr true [(ssl eRelation db.Relations), (ssl eFact db.Facts)])), (16, .v (ssl eFact db.Facts)), (17, .v (iT (db.Facts.length : Int))), (18, .v (iT zs))]) (QO (QX 0 (fun (y : Unit) => [])) (QR (fun (y : Bool) => [(2, .v (.bool y))]))) := Lp.of (f := (fun
 | x_7 =>
  if x_7 < (db.Facts.length : Int) then
  (ix db.Facts x_7).bind fun v_9 =>
  (f68 db.Relations v_9).bind fun o11 =>
  (jn (QN (fun (y : Bool) => [(1, .v (.ptr true [(ssl eRelation db.Relations), (ssl eFact db.Facts)])), (16, .v (ssl eFact db.Facts)), (17, .v (iT (db.Facts.length : Int))), (18, .v (iT x_7)), (42, .v (.bool y))])) ((if ¬ (o11 = true) then
  some true
  else
  (jn (QN (fun (y : Bool) => [(1, .v (.ptr true [(ssl eRelation db.Relations), (ssl eFact db.Facts)])), (16, .v (ssl eFact db.Facts)), (17, .v (iT (db.Facts.length : Int))), (18, .v (iT x_7)), (42, .v (.bool y))])) ((if x_7 > 0 then
  (ix db.Facts (w64 (x_7 - 1))).bind fun v_19 =>
  (f69 v_19 v_9).bind fun o21 =>
  some (decide (o21 ≥ 0))
  else
  some false) : Option (Bool))).bind fun x_16 =>
  some x_16) : Option (Bool))).bind fun x_13 =>
  if x_13 = true then
  some (.inr (.inr false))
  else
  some (.inl (w64 (x_7 + 1)))
  else
  some (.inr (.inl ())) : Int → Option (Int ⊕ (Unit ⊕ Bool)))) (by exact go)
instance i24 {db : Database} : Rn cx (f24 db) 24 [(.agg [(ssl eRelation db.Relations), (ssl eFact db.Facts)])] (fun (r : Bool) => (.bool r)) (fun r => []) := Rn.o (e := (
  (f30 db.Relations).bind fun o1 =>
  (jn (QN (fun (y : Bool) => [(1, .v (.ptr true [(ssl eRelation db.Relations), (ssl eFact db.Facts)])), (14, .v (.bool y))])) ((if ¬ (o1 = true) then
  some true
  else
  some (decide ((db.Facts.length : Int) > 14))) : Option (Bool))).bind fun x_3 =>
  if x_3 = true then
  some false
  else
  (iter (f24_0 db) 0).bind fun o => match o with
  | .inl _ =>
  some true
  | .inr x_26 =>
  some x_26 : Option Bool)) rfl (by exact go)
instance : Io0 cx 24 := ⟨rfl⟩
instance i33 {t : Int} : Rn cx (f33 t) 33 [(iT t)] (fun (r : Bool) => (.bool r)) (fun r => []) := Rn.o rfl (by unfold f33; exact go)
instance : Io0 cx 33 := ⟨rfl⟩
theorem r158 {n : Int} {r : Nat} (h : f158 n = some r) : VJx cx (.ca 158 [.nils, .int .i64 n] (.sl true true 1 r []) []) := by
 exact ca_grow (zs := [.int .i64 (0)]) (zt := [(iT 0)]) rfl rfl rfl rfl (by decide) (by decide) h
instance i158 {n : Int} : Rn cx (f158 n) 158 [.nils, .int .i64 n] (fun r => .sl true true 1 r []) (fun _ => []) := ⟨fun _ h => r158 h⟩
instance i121_0 {slices : (List (List Int))} : Lp cx (f121_0 slices) 36 L121_0 (fun (zs : Int × Int) => [(0, .v (ssl (eL eI) slices)), (3, .v (iT zs.1)), (9, .v (ssl (eL eI) slices)), (10, .v (iT (slices.length : Int))), (11, .v (iT zs.2))]) (QX 0 (fun (y : Int) => [(0, .v (ssl (eL eI) slices)), (3, .v (iT y))])) := Lp.of (f := (fun
 | (size_1, x_2) =>
  if x_2 < (slices.length : Int) then
  (ix slices x_2).bind fun v_4 =>
  (jn (QN (fun (y : Unit) => [(0, .v (ssl (eL eI) slices)), (3, .v (iT (w64 (size_1 + (v_4.length : Int))))), (9, .v (ssl (eL eI) slices)), (10, .v (iT (slices.length : Int))), (11, .v (iT x_2))])) ((if (w64 (size_1 + (v_4.length : Int))) < 0 then
  none
  else
  some ()) : Option Unit)).bind fun _ =>
  some (.inl (w64 (size_1 + (v_4.length : Int)), w64 (x_2 + 1)))
  else
  some (.inr size_1) : Int × Int → Option ((Int × Int) ⊕ Int))) (by exact go)
instance i121_1 {slices : (List (List Int))} : Lp cx (f121_1 slices) 36 L121_1 (fun (zs : Nat × (List Int) × Int) => [(6, .v (.sl true true 1 zs.1 (arr eI true zs.2.1))), (25, .v (ssl (eL eI) slices)), (26, .v (iT (slices.length : Int))), (27, .v (iT zs.2.2))]) (QX 2 (fun (y : Nat × (List Int)) => [(6, .v (.sl true true 1 y.1 (arr eI true y.2)))])) := Lp.of (by unfold f121_1; exact go)
instance i121 {slices : (List (List Int))} : Rn cx (f121 slices) 121 [(ssl (eL eI) slices)] (fun (r : (List Int)) => (osl eI true r)) (fun r => []) := Rn.o rfl (by unfold f121; exact go)
instance : Io0 cx 121 := ⟨rfl⟩
theorem r87 {l : List Int} {r : List Int} (h : f87 l = some r) : VJx cx (.ca 87 [osl eI true l] (.tup []) [osl eI true r]) := by
 exact ca_sort (X := X0) (fun _ _ _ _ _ h => .inl h) (fun _ _ _ _ h => h) rfl h
instance i87 {l : List Int} : Rn cx (f87 l) 87 [osl eI true l] (fun _ => .tup []) (fun r => [osl eI true r]) := ⟨fun _ h => r87 h⟩
theorem r122 {l : List Int} {r : List Int} (h : f122 l = some r) : VJx cx (.ca 122 [osl eI true l] (ssl eI r) [.und]) := by
 exact ca_comp (X := X0) (fun _ _ _ _ _ h => .inr (h)) (fun _ _ _ _ h => h) rfl h
instance i122 {l : List Int} : Rn cx (f122 l) 122 [osl eI true l] (fun r => ssl eI r) (fun _ => [.und]) := ⟨fun _ h => r122 h⟩
instance i78 {a : (List Int)} {b : (List Int)} : Rn cx (f78 a b) 78 [(ssl eI a), (ssl eI b)] (fun (r : (List Int)) => (ssl eI r)) (fun r => []) := Rn.o (e := (
  sn 4 8 (osl (eL eI) false ([a, b])) <| 
  (f121 ([a, b])).bind fun o1 =>
  (f87 o1).bind fun o3 =>
  (f122 o3).bind fun o5 =>
  some o5 : Option (List Int))) rfl (by exact go)
instance : Io0 cx 78 := ⟨rfl⟩
instance i36_0 {atom : Atom} : Lp cx (f36_0 atom) 23 L36_0 (fun (zs : (List Int) × Int) => [(1, .v (.ptr true [(iT atom.Relation), (ssl eI atom.Terms)])), (3, .v (osl eI true zs.1)), (8, .v (ssl eI atom.Terms)), (9, .v (iT (atom.Terms.length : Int))), (10, .v (iT zs.2))]) (QX 0 (fun (y : (List Int)) => [(3, .v (osl eI true y))])) := Lp.of (f := (fun
 | (out_1, x_2) =>
  if x_2 < (atom.Terms.length : Int) then
  (ix atom.Terms x_2).bind fun v_4 =>
  (f31 v_4 0 3).bind fun o6 =>
  (jn (QN (fun (y : (List Int)) => [(1, .v (.ptr true [(iT atom.Relation), (ssl eI atom.Terms)])), (3, .v (osl eI true y)), (8, .v (ssl eI atom.Terms)), (9, .v (iT (atom.Terms.length : Int))), (10, .v (iT x_2))])) ((if o6 = true then
  (app 8 out_1 ([v_4])).bind fun l_11 =>
  some l_11
  else
  some out_1) : Option (List Int))).bind fun out_13 =>
  some (.inl (out_13, w64 (x_2 + 1)))
  else
  some (.inr out_1) : (List Int) × Int → Option (((List Int) × Int) ⊕ (List Int)))) (by exact go)
instance i36 {atom : Atom} : Rn cx (f36 atom) 36 [(.agg [(iT atom.Relation), (ssl eI atom.Terms)])] (fun (r : (List Int)) => (ssl eI r)) (fun r => []) := Rn.o (e := (
  sn 4 3 (osl eI true ([])) <| 
  (iter (f36_0 atom) ([], 0)).bind fun out_16 =>
  sn 1 21 (ssl eI out_16) <| 
  (f78 out_16 ([] : (List Int))).bind fun o17 =>
  some o17 : Option (List Int))) rfl (by exact go)
instance : Io0 cx 36 := ⟨rfl⟩
instance i35 {relations : (List Relation)} {atom : Atom} : Rn cx (f35 relations atom) 35 [(ssl eRelation relations), (.agg [(iT atom.Relation), (ssl eI atom.Terms)])] (fun (r : (List Int)) => (ssl eI r)) (fun r => []) := Rn.o (e := (
  (f31 atom.Relation 0 (w64 ((relations.length : Int) - 1))).bind fun o1 =>
  (jn (QN (fun (y : Bool) => [(0, .v (ssl eRelation relations)), (3, .v (.ptr true [(iT atom.Relation), (ssl eI atom.Terms)])), (24, .v (.bool y))])) ((if ¬ (o1 = true) then
  some true
  else
  (ix relations atom.Relation).bind fun v_6 =>
  (f31 v_6.KeyLength 0 (atom.Terms.length : Int)).bind fun o8 =>
  some (decide (¬ (o8 = true)))) : Option (Bool))).bind fun x_3 =>
  if x_3 = true then
  sn 1 4 (osl eI true ([])) <| 
  some ([])
  else
  (ix relations atom.Relation).bind fun v_11 =>
  (cutL atom.Terms 0 v_11.KeyLength).bind fun l_13 =>
  (f36 ({ Relation := 0, Terms := l_13 } : Atom)).bind fun o15 =>
  some o15 : Option (List Int))) rfl (by exact go)
instance : Io0 cx 35 := ⟨rfl⟩
instance i120_0 {s0 : (List Int)} {v : Int} : Lp cx (f120_0 s0 v) 19 L120_0 (fun (zs : Int) => [(0, .v (ssl eI s0)), (1, .v (iT v)), (7, .v (iT (s0.length : Int))), (8, .v (iT zs))]) (QO (QX 0 (fun (y : Unit) => [])) (QR (fun (y : Int) => [(4, .v (iT y))]))) := Lp.of (by unfold f120_0; exact go)
instance i120 {s0 : (List Int)} {v : Int} : Rn cx (f120 s0 v) 120 [(ssl eI s0), (iT v)] (fun (r : Int) => (iT r)) (fun r => []) := Rn.o rfl (by unfold f120; exact go)
instance : Io0 cx 120 := ⟨rfl⟩
instance i77 {s0 : (List Int)} {v : Int} : Rn cx (f77 s0 v) 77 [(ssl eI s0), (iT v)] (fun (r : Bool) => (.bool r)) (fun r => []) := Rn.o rfl (by unfold f77; exact go)
instance : Io0 cx 77 := ⟨rfl⟩
instance i76 {n0 : Int} {c : (List Int)} : Rn cx (f76 n0 c) 76 [(iT n0), (.ptr false [(ssl eI c)])] (fun (r : Bool) => (.bool r)) (fun r => []) := Rn.o rfl (by unfold f76; exact go)
instance : Io0 cx 76 := ⟨rfl⟩
instance i34 {a : (List Int)} {b : (List Int)} : Rn cx (f34 a b) 34 [(ssl eI a), (ssl eI b)] (fun (r : Bool) => (.bool r)) (fun r => []) := Rn.o rfl (by unfold f34; exact go)
instance : Io0 cx 34 := ⟨rfl⟩
instance i9_0 {relations : (List Relation)} {rewriting : (List RewritingStep)} : Lp cx (f9_0 relations rewriting) 64 L9_0 (fun (zs : Int) => [(0, .v (ssl eRelation relations)), (8, .v (ssl eRewritingStep rewriting)), (9, .v (iT (rewriting.length : Int))), (10, .v (iT zs))]) (QO (QX 0 (fun (y : Unit) => [])) (QR (fun (y : Bool) => [(4, .v (.bool y))]))) := Lp.of (f := (fun
 | x_1 =>
  if x_1 < (rewriting.length : Int) then
  (ix rewriting x_1).bind fun v_3 =>
  (jn (QN (fun (y : Bool) => [(0, .v (ssl eRelation relations)), (6, .v (.ptr true [(iT v_3.Atom.Relation), (ssl eI v_3.Atom.Terms), (ssl eI v_3.Existential), (ssl eI v_3.Universal)])), (7, .v (.ptr true [(iT v_3.Atom.Relation), (ssl eI v_3.Atom.Terms)])), (8, .v (ssl eRewritingStep rewriting)), (9, .v (iT (rewriting.length : Int))), (10, .v (iT x_1)), (44, .v (.bool y))])) ((if x_1 ≥ 3 then
  some true
  else
  (f30 relations).bind fun o8 =>
  (jn (QN (fun (y : Bool) => [(0, .v (ssl eRelation relations)), (6, .v (.ptr true [(iT v_3.Atom.Relation), (ssl eI v_3.Atom.Terms), (ssl eI v_3.Existential), (ssl eI v_3.Universal)])), (7, .v (.ptr true [(iT v_3.Atom.Relation), (ssl eI v_3.Atom.Terms)])), (8, .v (ssl eRewritingStep rewriting)), (9, .v (iT (rewriting.length : Int))), (10, .v (iT x_1)), (44, .v (.bool y))])) ((if ¬ (o8 = true) then
  some true
  else
  (f31 v_3.Atom.Relation 0 (w64 ((relations.length : Int) - 1))).bind fun o13 =>
  (jn (QN (fun (y : Bool) => [(0, .v (ssl eRelation relations)), (6, .v (.ptr true [(iT v_3.Atom.Relation), (ssl eI v_3.Atom.Terms), (ssl eI v_3.Existential), (ssl eI v_3.Universal)])), (7, .v (.ptr true [(iT v_3.Atom.Relation), (ssl eI v_3.Atom.Terms)])), (8, .v (ssl eRewritingStep rewriting)), (9, .v (iT (rewriting.length : Int))), (10, .v (iT x_1)), (44, .v (.bool y))])) ((if ¬ (o13 = true) then
  some true
  else
  (ix relations v_3.Atom.Relation).bind fun v_18 =>
  some (decide ((v_3.Atom.Terms.length : Int) ≠ v_18.Arity))) : Option (Bool))).bind fun x_15 =>
  some x_15) : Option (Bool))).bind fun x_10 =>
  some x_10) : Option (Bool))).bind fun x_5 =>
  if x_5 = true then
  some (.inr (.inr false))
  else
  (f32 v_3.Atom.Terms (fun x0 => f33 x0)).bind fun o21 =>
  if o21 = true then
  some (.inr (.inr false))
  else
  (f35 relations v_3.Atom).bind fun o24 =>
  (f34 v_3.Existential o24).bind fun o26 =>
  (jn (QN (fun (y : Bool) => [(0, .v (ssl eRelation relations)), (8, .v (ssl eRewritingStep rewriting)), (9, .v (iT (rewriting.length : Int))), (10, .v (iT x_1)), (62, .v (.bool y))])) ((if ¬ (o26 = true) then
  some true
  else
  (f36 v_3.Atom).bind fun o31 =>
  (f34 v_3.Universal o31).bind fun o33 =>
  some (decide (¬ (o33 = true)))) : Option (Bool))).bind fun x_28 =>
  if x_28 = true then
  some (.inr (.inr false))
  else
  some (.inl (w64 (x_1 + 1)))
  else
  some (.inr (.inl ())) : Int → Option (Int ⊕ (Unit ⊕ Bool)))) (by exact go)
instance i9 {relations : (List Relation)} {rewriting : (List RewritingStep)} : Rn cx (f9 relations rewriting) 9 [(ssl eRelation relations), (ssl eRewritingStep rewriting)] (fun (r : Bool) => (.bool r)) (fun r => []) := Rn.o rfl (by unfold f9; exact go)
instance : Io0 cx 9 := ⟨rfl⟩
instance i157 {x : Int} {y : Int} : Rn cx (f157 x y) 157 [(.int .u64 x), (.int .u64 y)] (fun (r : Int × Int) => (.tup [(.int .u64 r.1), (.int .u64 r.2)])) (fun r => []) := Rn.o rfl (by unfold f157; exact go)
instance : Io0 cx 157 := ⟨rfl⟩
instance i115 {x : Int} {y : Int} : Rn cx (f115 x y) 115 [(.int .u64 x), (.int .u64 y)] (fun (r : Int × Int) => (.tup [(.int .u64 r.1), (.int .u64 r.2)])) (fun r => []) := Rn.o rfl (by unfold f115; exact go)
instance : Io0 cx 115 := ⟨rfl⟩
instance i70_0 : Lp cx f70_0 48 L70_0 (fun (zs : (List Int) × Int) => [(7, .v (.sl true false 1 0 (arr eI true zs.1))), (8, .v (iT zs.2))]) (QX 0 (fun (y : (List Int)) => [(7, .v (.sl true false 1 0 (arr eI true y)))])) := Lp.of (f := (fun
 | (newslice_14, n_15) =>
  if n_15 < (newslice_14.length : Int) then
  (cutL newslice_14 0 n_15).bind fun z_17 =>
  cs 3 <| 
  some (.inl ((csL newslice_14 n_15.toNat), w64 (n_15 + (min n_15 ((newslice_14.length : Int) - n_15)))))
  else
  some (.inr newslice_14) : (List Int) × Int → Option (((List Int) × Int) ⊕ (List Int)))) (by exact go)
instance i70 {x : (List Int)} {count : Int} : Rn cx (f70 x count) 70 [(ssl eI x), (iT count)] (fun (r : (List Int)) => (osl eI true r)) (fun r => []) := Rn.o (e := (
  (jn (QN (fun (y : Unit) => [(0, .v (ssl eI x)), (1, .v (iT count))])) ((if count < 0 then
  none
  else
  some ()) : Option Unit)).bind fun _ =>
  (f115 (IntKind.u64.wrap (x.length : Int)) (IntKind.u64.wrap count)).bind fun o4 =>
  (jn (QN (fun (y : Bool) => [(0, .v (ssl eI x)), (6, .v (.int .u64 o4.2)), (26, .v (.bool y))])) ((if o4.1 > 0 then
  some true
  else
  some (decide (o4.2 > 9223372036854775807))) : Option (Bool))).bind fun x_6 =>
  (jn (QN (fun (y : Unit) => [(0, .v (ssl eI x)), (6, .v (.int .u64 o4.2))])) ((if x_6 = true then
  none
  else
  some ()) : Option Unit)).bind fun _ =>
  (mkl 8 (w64 o4.2) 0).bind fun l_12 =>
  cp 6 <| 
  (iter f70_0 ((cpL l_12 x), ((min x.length l_12.length : Nat) : Int))).bind fun newslice_21 =>
  sn 2 4 (osl eI true newslice_21) <| 
  some newslice_21 : Option (List Int))) rfl (by exact go)
instance : Io0 cx 70 := ⟨rfl⟩
instance i25 {n0 : Int} : Rn cx (f25 n0) 25 [(iT n0)] (fun (r : (List Int)) => (osl eI true r)) (fun r => []) := Rn.o (e := (
  sn 3 3 (osl eI true ([-1])) <| 
  (f70 ([-1]) n0).bind fun o1 =>
  some o1 : Option (List Int))) rfl (by exact go)
instance : Io0 cx 25 := ⟨rfl⟩
instance i119_0 {s1 : (List Int)} {s2 : (List Int)} : Lp cx (f119_0 s1 s2) 26 L119_0 (fun (zs : Int) => [(0, .v (ssl eI s1)), (1, .v (ssl eI s2)), (12, .v (iT (s1.length : Int))), (13, .v (iT zs))]) (QO (QX 0 (fun (y : Unit) => [])) (QR (fun (y : Bool) => [(4, .v (.bool y))]))) := Lp.of (by unfold f119_0; exact go)
instance i119 {s1 : (List Int)} {s2 : (List Int)} : Rn cx (f119 s1 s2) 119 [(ssl eI s1), (ssl eI s2)] (fun (r : Bool) => (.bool r)) (fun r => []) := Rn.o rfl (by unfold f119; exact go)
instance : Io0 cx 119 := ⟨rfl⟩
instance i72 {relations : (List Relation)} {a : Fact} {b : Fact} : Rn cx (f72 relations a b) 72 [(ssl eRelation relations), (.agg [(iT a.Relation), (ssl eI a.Values)]), (.agg [(iT b.Relation), (ssl eI b.Values)])] (fun (r : Bool) => (.bool r)) (fun r => []) := Rn.o rfl (by unfold f72; exact go)
instance : Io0 cx 72 := ⟨rfl⟩
instance i27_0 {db : Database} : Lp cx (f27_0 db) 54 L27_0 (fun (zs : (List (List Int)) × Int) => [(1, .v (.ptr true [(ssl eRelation db.Relations), (ssl eFact db.Facts)])), (3, .v (osl (eL eI) true zs.1)), (9, .v (ssl eFact db.Facts)), (10, .v (iT (db.Facts.length : Int))), (11, .v (iT zs.2))]) (QX 0 (fun (y : (List (List Int))) => [(3, .v (osl (eL eI) true y))])) := Lp.of (f := (fun
 | (out_1, x_2) =>
  if x_2 < (db.Facts.length : Int) then
  (ix db.Facts x_2).bind fun v_4 =>
  (jn (QN (fun (y : Bool) => [(1, .v (.ptr true [(ssl eRelation db.Relations), (ssl eFact db.Facts)])), (3, .v (osl (eL eI) true out_1)), (4, .v (iT x_2)), (6, .v (iT (w64 ((out_1.length : Int) - 1)))), (9, .v (ssl eFact db.Facts)), (10, .v (iT (db.Facts.length : Int))), (11, .v (iT x_2)), (36, .v (.bool y))])) ((if (w64 ((out_1.length : Int) - 1)) ≥ 0 then
  (ix out_1 (w64 ((out_1.length : Int) - 1))).bind fun v_9 =>
  (ix v_9 0).bind fun v_11 =>
  (ix db.Facts v_11).bind fun v_13 =>
  (f72 db.Relations v_13 v_4).bind fun o15 =>
  some o15
  else
  some false) : Option (Bool))).bind fun x_6 =>
  (jn (QN (fun (y : (List (List Int))) => [(1, .v (.ptr true [(ssl eRelation db.Relations), (ssl eFact db.Facts)])), (3, .v (osl (eL eI) true y)), (9, .v (ssl eFact db.Facts)), (10, .v (iT (db.Facts.length : Int))), (11, .v (iT x_2))])) ((if x_6 = true then
  (ix out_1 (w64 ((out_1.length : Int) - 1))).bind fun v_20 =>
  (app 8 v_20 ([x_2])).bind fun l_22 =>
  some (out_1.set (w64 ((out_1.length : Int) - 1)).toNat l_22)
  else
  sn 3 49 (osl eI true ([x_2])) <| 
  (app 24 out_1 ([[x_2]])).bind fun l_25 =>
  some l_25) : Option (List (List Int)))).bind fun out_27 =>
  some (.inl (out_27, w64 (x_2 + 1)))
  else
  some (.inr out_1) : (List (List Int)) × Int → Option (((List (List Int)) × Int) ⊕ (List (List Int))))) (by exact go)
instance i27 {db : Database} : Rn cx (f27 db) 27 [(.agg [(ssl eRelation db.Relations), (ssl eFact db.Facts)])] (fun (r : (List (List Int))) => (osl (eL eI) true r)) (fun r => []) := Rn.o (e := (
  sn 4 3 (osl (eL eI) true ([])) <| 
  (iter (f27_0 db) ([], 0)).bind fun out_30 =>
  some out_30 : Option (List (List Int)))) rfl (by exact go)
instance : Io0 cx 27 := ⟨rfl⟩
theorem r116 {s0 : (List Int)} {r : (List Int)} (h : f116 s0 = some r) : VJx cx (.ca 116 [(ssl eI s0)] (osl eI true r) []) := by
 unfold f116 at h
 refine ca_clone (X := noExt) (fun _ _ _ _ h => h) (fun _ _ _ _ h => h) rfl (by decide) rfl (cl_eq h) ?_
 refine Wc.start (V1 := [(0, .v (ssl eI s0))]) (by simp) ?_
 refine Wc.seq ?_
 obtain ⟨l_1, h2, h⟩ := bind_some h
 have gx2 := appT_arr2 (E := eI) (b := true) (b' := false) (y := false) h2 (by decide) (arr_sc rfl _)
 simp [-aI_app1, -aI_app0, -aB_app0, -aS_app0, -aL_app0, -aLt_app1I, -aLf_app1I, -aLt_app10I, -aLf_app10I] at gx2
 refine Wc.evs (by conv => lhs; simp [-aI_app1, -aI_app0, -aB_app0, -aS_app0, -aL_app0, -aI_app10, -aB_app10, -aS_app10, -aLt_app10I, -aLf_app10I, -aLt_app1I, -aLf_app1I, gx2]) ?_
 refine Wo.gh (vle_co (s := 2) (t1 := (osl eI true l_1)) rfl (by simp) (tle_own rfl) (by conv => lhs; simp)) ?_
 refine Wo.nil ?_
 refine Wc.ret (res_of (.inr rfl) ?_)
 cases h
 exact ⟨_, _, _, by conv => lhs; simp, by (conv => lhs; simp [cx, ioTab, List.range, List.range.loop]) <;> rfl, by first | rfl | simp [-aI_app1, -aI_app0, -aB_app0, -aS_app0, -aL_app0, -aI_app10, -aB_app10, -aS_app10, -aLt_app10I, -aLf_app10I, -aLt_app1I, -aLf_app1I, gx2]⟩
instance i116 {s0 : (List Int)} : Rn cx (f116 s0) 116 [(ssl eI s0)] (fun (r : (List Int)) => (osl eI true r)) (fun r => []) := ⟨fun _ h => r116 h⟩
instance : Io0 cx 116 := ⟨rfl⟩
instance i117 {t : Int} : Rn cx (f117 t) 117 [(iT t)] (fun (r : Bool) => (.bool r)) (fun r => []) := Rn.o rfl (by unfold f117; exact go)
instance : Io0 cx 117 := ⟨rfl⟩
instance i118 {v : Int} : Rn cx (f118 v) 118 [(iT v)] (fun (r : Int) => (iT r)) (fun r => []) := Rn.o rfl (by unfold f118; exact go)
instance : Io0 cx 118 := ⟨rfl⟩
instance i71_0 {terms : (List Int)} {from2 : (List Int)} : Lp cx (f71_0 terms from2) 56 L71_0 (fun (zs : (List Int) × Int) => [(2, .v (ssl eI from2)), (8, .v (osl eI true zs.1)), (13, .v (ssl eI terms)), (14, .v (iT (terms.length : Int))), (15, .v (iT zs.2))]) (QO (QX 0 (fun (y : (List Int)) => [(8, .v (osl eI true y))])) (QR (fun (y : (List Int) × Bool) => [(6, .v (osl eI true y.1)), (7, .v (.bool y.2))]))) := Lp.of (f := (fun
 | (out_3, x_4) =>
  if x_4 < (terms.length : Int) then
  (ix terms x_4).bind fun v_6 =>
  (f117 v_6).bind fun o8 =>
  (jn (QO (QN (fun (y : (List Int)) => [(2, .v (ssl eI from2)), (8, .v (osl eI true y)), (13, .v (ssl eI terms)), (14, .v (iT (terms.length : Int))), (15, .v (iT x_4))])) (QR (fun (y : (List Int) × Bool) => [(6, .v (osl eI true y.1)), (7, .v (.bool y.2))]))) ((if ¬ (o8 = true) then
  (ix from2 x_4).bind fun v_13 =>
  (f118 v_6).bind fun o15 =>
  if o15 ≠ v_13 then
  sn 2 6 (osl eI true ([])) <| 
  some (.inr ([], false))
  else
  some (.inl out_3)
  else
  (ix out_3 v_6).bind fun v_18 =>
  (jn (QO (QN (fun (y : (List Int)) => [(2, .v (ssl eI from2)), (8, .v (osl eI true y)), (13, .v (ssl eI terms)), (14, .v (iT (terms.length : Int))), (15, .v (iT x_4))])) (QR (fun (y : (List Int) × Bool) => [(6, .v (osl eI true y.1)), (7, .v (.bool y.2))]))) ((if v_18 < 0 then
  (ix from2 x_4).bind fun v_23 =>
  some (.inl (out_3.set v_6.toNat v_23))
  else
  (ix from2 x_4).bind fun v_26 =>
  if v_18 ≠ v_26 then
  sn 2 6 (osl eI true ([])) <| 
  some (.inr ([], false))
  else
  some (.inl out_3)) : Option ((List Int) ⊕ ((List Int) × Bool)))).bind fun o => match o with
  | .inl out_29 =>
  some (.inl out_29)
  | .inr (x_30, x_31) =>
  some (.inr (x_30, x_31))) : Option ((List Int) ⊕ ((List Int) × Bool)))).bind fun o => match o with
  | .inl out_32 =>
  some (.inl (out_32, w64 (x_4 + 1)))
  | .inr (x_33, x_34) =>
  some (.inr (.inr (x_33, x_34)))
  else
  some (.inr (.inl out_3)) : (List Int) × Int → Option (((List Int) × Int) ⊕ ((List Int) ⊕ ((List Int) × Bool))))) (by exact go)
instance i71 {values : (List Int)} {terms : (List Int)} {from2 : (List Int)} : Rn cx (f71 values terms from2) 71 [(ssl eI values), (ssl eI terms), (ssl eI from2)] (fun (r : (List Int) × Bool) => (.tup [(osl eI true r.1), (.bool r.2)])) (fun r => []) := Rn.o rfl (by unfold f71; exact go)
instance : Io0 cx 71 := ⟨rfl⟩
instance i26_1 {db : Database} {list : (List (List Int))} {rewriting : (List RewritingStep)} {values : (List Int)} {v_2 : RewritingStep} {v_4 : Relation} {x_6 : Int} {v_10 : (List Int)} {o21 : ((List Int) × Bool)} {rec : Database → (List (List Int)) → (List RewritingStep) → (List Int) → Option Bool} [hrec : ∀ db list rewriting values, Rn cx (rec db list rewriting values) 26 [(.agg [(ssl eRelation db.Relations), (ssl eFact db.Facts)]), (ssl (eL eI) list), (ssl eRewritingStep rewriting), (ssl eI values)] (fun o => (.bool o)) (fun o => [])] : Lp cx (lw (values, v_4, x_6) (f26_1 db list rewriting rec v_2 v_10 o21)) 100 L26_1 (fun (zs : Bool × Int) => [(1, .v (ssl (eL eI) list)), (2, .v (ssl eRewritingStep rewriting)), (3, .v (ssl eI values)), (4, .v (.ptr true [(ssl eRelation db.Relations), (ssl eFact db.Facts)])), (9, .v (.ptr true [(iT v_2.Atom.Relation), (ssl eI v_2.Atom.Terms)])), (10, .v (iT v_4.KeyLength)), (12, .v (ssl eI v_10)), (14, .v (osl eI true o21.1)), (15, .v (.bool zs.1)), (16, .v (iT zs.2)), (33, .v (ssl (eL eI) list)), (34, .v (iT (list.length : Int))), (35, .v (iT x_6))]) (QX 2 (fun (y : Bool) => [(1, .v (ssl (eL eI) list)), (2, .v (ssl eRewritingStep rewriting)), (3, .v (ssl eI values)), (4, .v (.ptr true [(ssl eRelation db.Relations), (ssl eFact db.Facts)])), (9, .v (.ptr true [(iT v_2.Atom.Relation), (ssl eI v_2.Atom.Terms)])), (10, .v (iT v_4.KeyLength)), (15, .v (.bool y)), (33, .v (ssl (eL eI) list)), (34, .v (iT (list.length : Int))), (35, .v (iT x_6))])) := Lp.of (f := (fun
 | (ok_23, i_24) =>
  (jn (QN (fun (y : Bool) => [(1, .v (ssl (eL eI) list)), (2, .v (ssl eRewritingStep rewriting)), (3, .v (ssl eI values)), (4, .v (.ptr true [(ssl eRelation db.Relations), (ssl eFact db.Facts)])), (9, .v (.ptr true [(iT v_2.Atom.Relation), (ssl eI v_2.Atom.Terms)])), (10, .v (iT v_4.KeyLength)), (12, .v (ssl eI v_10)), (14, .v (osl eI true o21.1)), (15, .v (.bool ok_23)), (16, .v (iT i_24)), (33, .v (ssl (eL eI) list)), (34, .v (iT (list.length : Int))), (35, .v (iT x_6)), (70, .v (.bool y))])) ((if i_24 < (v_10.length : Int) then
  some ok_23
  else
  some false) : Option (Bool))).bind fun x_25 =>
  if x_25 = true then
  (ix v_10 i_24).bind fun v_29 =>
  (ix db.Facts v_29).bind fun v_31 =>
  (f71 o21.1 v_2.Atom.Terms v_31.Values).bind fun o33 =>
  (jn (QN (fun (y : Bool) => [(1, .v (ssl (eL eI) list)), (2, .v (ssl eRewritingStep rewriting)), (3, .v (ssl eI values)), (4, .v (.ptr true [(ssl eRelation db.Relations), (ssl eFact db.Facts)])), (9, .v (.ptr true [(iT v_2.Atom.Relation), (ssl eI v_2.Atom.Terms)])), (10, .v (iT v_4.KeyLength)), (12, .v (ssl eI v_10)), (14, .v (osl eI true o21.1)), (15, .v (.bool y)), (16, .v (iT i_24)), (33, .v (ssl (eL eI) list)), (34, .v (iT (list.length : Int))), (35, .v (iT x_6))])) ((if o33.2 = true then
  (cutL rewriting 1 rewriting.length).bind fun l_38 =>
  (rec db list l_38 o33.1).bind fun o40 =>
  some o40
  else
  some false) : Option (Bool))).bind fun ok_35 =>
  some (.inl (ok_35, w64 (i_24 + 1)))
  else
  some (.inr ok_23) : Bool × Int → Option ((Bool × Int) ⊕ Bool))) (by exact go)
instance i26_0 {db : Database} {list : (List (List Int))} {rewriting : (List RewritingStep)} {values : (List Int)} {v_2 : RewritingStep} {v_4 : Relation} {rec : Database → (List (List Int)) → (List RewritingStep) → (List Int) → Option Bool} [hrec : ∀ db list rewriting values, Rn cx (rec db list rewriting values) 26 [(.agg [(ssl eRelation db.Relations), (ssl eFact db.Facts)]), (ssl (eL eI) list), (ssl eRewritingStep rewriting), (ssl eI values)] (fun o => (.bool o)) (fun o => [])] : Lp cx (f26_0 db list rewriting values rec v_2 v_4) 100 L26_0 (fun (zs : Int) => [(1, .v (ssl (eL eI) list)), (2, .v (ssl eRewritingStep rewriting)), (3, .v (ssl eI values)), (4, .v (.ptr true [(ssl eRelation db.Relations), (ssl eFact db.Facts)])), (9, .v (.ptr true [(iT v_2.Atom.Relation), (ssl eI v_2.Atom.Terms)])), (10, .v (iT v_4.KeyLength)), (33, .v (ssl (eL eI) list)), (34, .v (iT (list.length : Int))), (35, .v (iT zs))]) (QO (QX 0 (fun (y : Unit) => [])) (QR (fun (y : Bool) => [(8, .v (.bool y))]))) := Lp.of (f := (fun
 | x_6 =>
  if x_6 < (list.length : Int) then
  (jb 1 (QO (QN (fun (y : Unit) => [(1, .v (ssl (eL eI) list)), (2, .v (ssl eRewritingStep rewriting)), (3, .v (ssl eI values)), (4, .v (.ptr true [(ssl eRelation db.Relations), (ssl eFact db.Facts)])), (9, .v (.ptr true [(iT v_2.Atom.Relation), (ssl eI v_2.Atom.Terms)])), (10, .v (iT v_4.KeyLength)), (33, .v (ssl (eL eI) list)), (34, .v (iT (list.length : Int))), (35, .v (iT x_6))])) (QR (fun (y : Bool) => [(8, .v (.bool y))]))) (((ix list x_6).bind fun v_10 =>
  (ix v_10 0).bind fun v_12 =>
  (ix db.Facts v_12).bind fun v_14 =>
  if v_14.Relation ≠ v_2.Atom.Relation then
  some (.inl ())
  else
  (cutL v_2.Atom.Terms 0 v_4.KeyLength).bind fun l_17 =>
  (cutL v_14.Values 0 v_4.KeyLength).bind fun l_19 =>
  (f71 values l_17 l_19).bind fun o21 =>
  (iter (lw (values, v_4, x_6)  (f26_1 db list rewriting rec v_2 v_10 o21)) (o21.2, 0)).bind fun ok_44 =>
  if ok_44 = true then
  some (.inr true)
  else
  some (.inl ())) : Option (Unit ⊕ Bool))).bind fun o => match o with
  | .inl _ =>
  some (.inl (w64 (x_6 + 1)))
  | .inr x_46 =>
  some (.inr (.inr x_46))
  else
  some (.inr (.inl ())) : Int → Option (Int ⊕ (Unit ⊕ Bool)))) (by exact go)
instance i26 : ∀ (n : Nat) db list rewriting values, Rn cx (f26 n db list rewriting values) 26 [(.agg [(ssl eRelation db.Relations), (ssl eFact db.Facts)]), (ssl (eL eI) list), (ssl eRewritingStep rewriting), (ssl eI values)] (fun (r : Bool) => (.bool r)) (fun r => []) := by
 intro n
 induction n with
 | zero => intro db list rewriting values; exact ⟨fun r h => by simp [f26] at h⟩
 | succ n ih =>
  intro db list rewriting values
  refine Rn.of rfl rfl (by decide) rfl ?_
  simp only [f26]
  exact go
instance : Io0 cx 26 := ⟨rfl⟩
end
end Go.Proofs.YtamibblcpccjlaaGreatH
