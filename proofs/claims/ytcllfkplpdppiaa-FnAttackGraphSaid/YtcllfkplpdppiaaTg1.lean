import Derived.Test.YtcllfkplpdppiaaTg1c
set_option maxHeartbeats 2000000
set_option linter.unusedVariables false
set_option linter.unusedSimpArgs false
set_option linter.defProp false
set_option linter.unusedSectionVars false
set_option maxRecDepth 100000
namespace Go.Proofs.YtcllfkplpdppiaaH
open Go
noncomputable section
instance i15_1 {q : Query} {k : Int} {o9 : (List Int)} {n_12 : Int} : Lp cx (lw n_12 (f15_1 q k o9)) 96 L15_1 (fun (zs : (List Int) × Int) => [(2, .v (iT k)), (4, .v (.ptr true [(iT q.VariableCount), (ssl eAtom q.Atoms), (ssl eI q.Free)])), (7, .v (osl eI true zs.1)), (8, .v (osl eI true o9)), (9, .v (iT n_12)), (10, .v (iT zs.2))]) (QX 2 (fun (y : (List Int)) => [(2, .v (iT k)), (4, .v (.ptr true [(iT q.VariableCount), (ssl eAtom q.Atoms), (ssl eI q.Free)])), (7, .v (osl eI true y)), (8, .v (osl eI true o9)), (9, .v (iT n_12))])) := by
 refine Lp.of (f := (fun
 | (out_14, i_15) =>
  if i_15 < (q.Atoms.length : Int) then
  (ix q.Atoms i_15).bind fun v_17 =>
  (f31 v_17).bind fun o19 =>
  (iter (lw (q, k, o9, n_12, i_15)  (f15_2 out_14 o19)) ((decide (i_15 = k)), 0)).bind fun met_33 =>
  (iter (lw (q, k, n_12, i_15)  (f15_3 o9 o19 met_33)) (out_14, 0)).bind fun out_52 =>
  some (.inl (out_52, w64 (i_15 + 1)))
  else
  some (.inr out_14) : (List Int) × Int → Option (((List Int) × Int) ⊕ (List Int)))) ?_
 exact go
instance i15_0 {q : Query} {k : Int} {o9 : (List Int)} : Lp cx (f15_0 q k o9) 96 L15_0 (fun (zs : (List Int) × Int) => [(2, .v (iT k)), (4, .v (.ptr true [(iT q.VariableCount), (ssl eAtom q.Atoms), (ssl eI q.Free)])), (7, .v (osl eI true zs.1)), (8, .v (osl eI true o9)), (9, .v (iT zs.2))]) (QX 0 (fun (y : (List Int)) => [(7, .v (osl eI true y))])) := by
 refine Lp.of (f := (fun
 | (out_11, n_12) =>
  if n_12 ≤ (q.Atoms.length : Int) then
  (iter (lw n_12  (f15_1 q k o9)) (out_11, 0)).bind fun out_55 =>
  some (.inl (out_55, w64 (n_12 + 1)))
  else
  some (.inr out_11) : (List Int) × Int → Option (((List Int) × Int) ⊕ (List Int)))) ?_
 exact go
instance i15 {l : (List Relation)} {q : Query} {k : Int} : Rn cx (f15 l q k) 15 [(ssl eRelation l), (.agg [(iT q.VariableCount), (ssl eAtom q.Atoms), (ssl eI q.Free)]), (iT k)] (fun (r : (List Int)) => (osl eI true r)) (fun r => []) := by
 refine Rn.of (e := (
  sn 4 7 (osl eI true ([])) <| 
  (f19 l q).bind fun o1 =>
  (jn (QN (fun (y : Bool) => [(0, .v (ssl eRelation l)), (2, .v (iT k)), (4, .v (.ptr true [(iT q.VariableCount), (ssl eAtom q.Atoms), (ssl eI q.Free)])), (7, .v (osl eI true ([]))), (28, .v (.bool y))])) ((if ¬ (o1 = true) then
  some true
  else
  (f30 k 0 (w64 ((q.Atoms.length : Int) - 1))).bind fun o6 =>
  some (decide (¬ (o6 = true)))) : Option (Bool))).bind fun x_3 =>
  if x_3 = true then
  some ([])
  else
  (f12 l q k).bind fun o9 =>
  (iter (f15_0 q k o9) ([], 0)).bind fun out_58 =>
  some out_58 : Option (List Int))) rfl rfl (by decide) rfl ?_
 exact go
instance : Io0 cx 15 := ⟨rfl⟩
instance i9_0 {o17 : (List Int)} {o21 : (List Int)} : Lp cx (f9_0 o17 o21) 61 L9_0 (fun (zs : Int) => [(9, .v (osl eI true o17)), (10, .v (osl eI true o21)), (11, .v (iT zs))]) (QO (QX 0 (fun (y : Unit) => [])) (QR (fun (y : Bool) => [(8, .v (.bool y))]))) := by
 refine Lp.of ?_; unfold f9_0; exact go
instance i9 {l : (List Relation)} {q : Query} {i : Int} {k : Int} : Rn cx (f9 l q i k) 9 [(ssl eRelation l), (.agg [(iT q.VariableCount), (ssl eAtom q.Atoms), (ssl eI q.Free)]), (iT i), (iT k)] (fun (r : Bool) => (.bool r)) (fun r => []) := by
 refine Rn.of (e := (
  (f19 l q).bind fun o1 =>
  (jn (QN (fun (y : Bool) => [(0, .v (ssl eRelation l)), (2, .v (iT i)), (3, .v (iT k)), (5, .v (.ptr true [(iT q.VariableCount), (ssl eAtom q.Atoms), (ssl eI q.Free)])), (38, .v (.bool y))])) ((if ¬ (o1 = true) then
  some true
  else
  (f30 i 0 (w64 ((q.Atoms.length : Int) - 1))).bind fun o6 =>
  (jn (QN (fun (y : Bool) => [(0, .v (ssl eRelation l)), (2, .v (iT i)), (3, .v (iT k)), (5, .v (.ptr true [(iT q.VariableCount), (ssl eAtom q.Atoms), (ssl eI q.Free)])), (38, .v (.bool y))])) ((if ¬ (o6 = true) then
  some true
  else
  (f30 k 0 (w64 ((q.Atoms.length : Int) - 1))).bind fun o11 =>
  (jn (QN (fun (y : Bool) => [(0, .v (ssl eRelation l)), (2, .v (iT i)), (3, .v (iT k)), (5, .v (.ptr true [(iT q.VariableCount), (ssl eAtom q.Atoms), (ssl eI q.Free)])), (38, .v (.bool y))])) ((if ¬ (o11 = true) then
  some true
  else
  some (decide (i = k))) : Option (Bool))).bind fun x_13 =>
  some x_13) : Option (Bool))).bind fun x_8 =>
  some x_8) : Option (Bool))).bind fun x_3 =>
  if x_3 = true then
  some false
  else
  (f15 l q i).bind fun o17 =>
  (ix q.Atoms k).bind fun v_19 =>
  (f31 v_19).bind fun o21 =>
  (iter (f9_0 o17 o21) 0).bind fun o => match o with
  | .inl _ =>
  some false
  | .inr x_32 =>
  some x_32 : Option Bool)) rfl rfl (by decide) rfl ?_
 exact go
instance : Io0 cx 9 := ⟨rfl⟩
instance i33 {l : (List Relation)} {q : Query} {from2 : (List Int)} {to : (List Int)} : Rn cx (f33 l q from2 to) 33 [(ssl eRelation l), (.agg [(iT q.VariableCount), (ssl eAtom q.Atoms), (ssl eI q.Free)]), (ssl eI from2), (ssl eI to)] (fun (r : Bool) => (.bool r)) (fun r => []) := by
 refine Rn.of (e := (
  (f19 l q).bind fun o1 =>
  (jn (QN (fun (y : Bool) => [(8, .v (.bool y))])) ((if o1 = true then
  (f36 l q (-1) from2).bind fun o6 =>
  (f55 o6 to).bind fun o8 =>
  some o8
  else
  some false) : Option (Bool))).bind fun x_3 =>
  some x_3 : Option Bool)) rfl rfl (by decide) rfl ?_
 exact go
instance : Io0 cx 33 := ⟨rfl⟩
instance i10 {l : (List Relation)} {q : Query} {i : Int} {k : Int} : Rn cx (f10 l q i k) 10 [(ssl eRelation l), (.agg [(iT q.VariableCount), (ssl eAtom q.Atoms), (ssl eI q.Free)]), (iT i), (iT k)] (fun (r : Bool) => (.bool r)) (fun r => []) := by
 refine Rn.of (e := (
  (f9 l q i k).bind fun o1 =>
  (jn (QN (fun (y : Bool) => [(0, .v (ssl eRelation l)), (8, .v (.bool y))])) ((if o1 = true then
  (ix q.Atoms i).bind fun v_6 =>
  (ix q.Atoms k).bind fun v_8 =>
  (f34 l v_6).bind fun o10 =>
  (f34 l v_8).bind fun o12 =>
  (f33 l q o10 o12).bind fun o14 =>
  some o14
  else
  some false) : Option (Bool))).bind fun x_3 =>
  some x_3 : Option Bool)) rfl rfl (by decide) rfl ?_
 exact go
instance : Io0 cx 10 := ⟨rfl⟩
instance i11 {relations : (List Relation)} {query : Query} {atom : Int} : Rn cx (f11 relations query atom) 11 [(ssl eRelation relations), (.agg [(iT query.VariableCount), (ssl eAtom query.Atoms), (ssl eI query.Free)]), (iT atom)] (fun (r : (List Int)) => (ssl eI r)) (fun r => []) := by
 refine Rn.of (e := (
  (f25 relations query).bind fun o1 =>
  (jn (QN (fun (y : Bool) => [(0, .v (ssl eRelation relations)), (2, .v (iT atom)), (4, .v (.ptr true [(iT query.VariableCount), (ssl eAtom query.Atoms), (ssl eI query.Free)])), (19, .v (.bool y))])) ((if ¬ (o1 = true) then
  some true
  else
  (f26 atom 0 (w64 ((query.Atoms.length : Int) - 1))).bind fun o6 =>
  some (decide (¬ (o6 = true)))) : Option (Bool))).bind fun x_3 =>
  if x_3 = true then
  sn 1 6 (osl eI true ([])) <| 
  some ([])
  else
  (f35 relations query.Atoms query.Free atom).bind fun o9 =>
  some o9 : Option (List Int))) rfl rfl (by decide) rfl ?_
 exact go
instance : Io0 cx 11 := ⟨rfl⟩
instance i13_0 {l : (List Int)} {x : Int} : Lp cx (f13_0 l x) 18 L13_0 (fun (zs : Int) => [(0, .v (ssl eI l)), (1, .v (iT x)), (5, .v (iT zs))]) (QO (QX 0 (fun (y : Unit) => [])) (QR (fun (y : Bool) => [(4, .v (.bool y))]))) := by
 refine Lp.of ?_; unfold f13_0; exact go
instance i13 {l : (List Int)} {x : Int} : Rn cx (f13 l x) 13 [(ssl eI l), (iT x)] (fun (r : Bool) => (.bool r)) (fun r => []) := by
 refine Rn.of rfl rfl (by decide) rfl ?_; unfold f13; exact go
instance : Io0 cx 13 := ⟨rfl⟩
instance i14_0 {a : (List Int)} {b : (List Int)} : Lp cx (f14_0 a b) 26 L14_0 (fun (zs : Int) => [(0, .v (ssl eI a)), (1, .v (ssl eI b)), (5, .v (iT zs))]) (QO (QX 0 (fun (y : Unit) => [])) (QR (fun (y : Bool) => [(4, .v (.bool y))]))) := by
 refine Lp.of ?_; unfold f14_0; exact go
instance i14 {a : (List Int)} {b : (List Int)} : Rn cx (f14 a b) 14 [(ssl eI a), (ssl eI b)] (fun (r : Bool) => (.bool r)) (fun r => []) := by
 refine Rn.of rfl rfl (by decide) rfl ?_; unfold f14; exact go
instance : Io0 cx 14 := ⟨rfl⟩
theorem r16_1 {relations : (List Relation)} {query : Query} {to : Int} {v_19 : Int} : ∀ zs zo, iter (f16_1 relations query v_19) zs = some zo → Wc cx 77 (.loop L16_1) [(0, .v (ssl eRelation relations)), (3, .v (iT to)), (5, .v (.ptr true [(iT query.VariableCount), (ssl eAtom query.Atoms), (ssl eI query.Free)])), (10, .v (osl eB true zs.1)), (11, .v (.slo 1 (arr eI true zs.2.1))), (12, .v (iT v_19)), (49, .v (iT (query.Atoms.length : Int))), (50, .v (iT zs.2.2))] ((QX 2 (fun (y : (List Bool) × (List Int)) => [(0, .v (ssl eRelation relations)), (3, .v (iT to)), (5, .v (.ptr true [(iT query.VariableCount), (ssl eAtom query.Atoms), (ssl eI query.Free)])), (10, .v (osl eB true y.1)), (11, .v (.slo 1 (arr eI true y.2)))])) zo) := by
 intro zs0 zo0 zh0
 refine Wc.postG ?_
 refine iter_run (f := (f16_1 relations query v_19)) (P := fun zs zo => Wc cx 77 (.loop L16_1) [(0, .v (ssl eRelation relations)), (3, .v (iT to)), (5, .v (.ptr true [(iT query.VariableCount), (ssl eAtom query.Atoms), (ssl eI query.Free)])), (10, .v (osl eB true zs.1)), (11, .v (.slo 1 (arr eI true zs.2.1))), (12, .v (iT v_19)), (49, .v (iT (query.Atoms.length : Int))), (50, .v (iT zs.2.2))] (fun ex V => ∃ V2, VLe V V2 ∧ (QX 2 (fun (y : (List Bool) × (List Int)) => [(0, .v (ssl eRelation relations)), (3, .v (iT to)), (5, .v (.ptr true [(iT query.VariableCount), (ssl eAtom query.Atoms), (ssl eI query.Free)])), (10, .v (osl eB true y.1)), (11, .v (.slo 1 (arr eI true y.2)))])) zo ex V2)) ?_ zh0
 rintro ⟨reached_23, todo_24, x_25⟩ zo zr h hk hx
 try dsimp only at hk ⊢
 rw [f16_1] at h
 refine Wc.loop ?_
 refine Wc.seq ?_
 refine Wc.evs (by conv => lhs; simp [-aI_app0, -aB_app0, -aS_app0, -aL_app0, -aI_app10, -aB_app10, -aS_app10, -aLt_app10I, -aLf_app10I, -aLt_app1I, -aLf_app1I]) ?_
 refine Wo.nil ?_
 refine Wc.seq ?_
 by_cases kc26 : x_25 < (query.Atoms.length : Int)
 ·rw [if_pos kc26] at h
  refine Wc.condT' (t := _) (by conv => lhs; simp) (by simpa using kc26) ?_
  refine Wc.seq ?_
  refine Wc.kil (by conv => lhs; simp) ?_
  refine Wc.skip ?_
  refine Wc.seq ?_
  refine Wc.block ?_
  refine Wc.seq ?_
  refine Wc.evs (by conv => lhs; simp [-aI_app0, -aB_app0, -aS_app0, -aL_app0, -aI_app10, -aB_app10, -aS_app10, -aLt_app10I, -aLf_app10I, -aLt_app1I, -aLf_app1I]) ?_
  refine Wo.nil ?_
  refine Wc.seq ?_
  obtain ⟨v_27, h28, h⟩ := bind_some h
  obtain ⟨ga28, gb28, gc28⟩ := ix_some h28
  have gn28 := ix_ne h28
  have gf28 := arr_fit (E := eB) (b := true) (i := x_25.toNat) (l := reached_23) (by omega)
  have gg28_0 := arr_get (E := eB) (b := true) (o := 0) gc28 (by decide)
  simp at gf28 gg28_0
  have gl28 : x_25.toNat < reached_23.length := by omega
  refine Wc.evk 6 (by conv => lhs; simp [-aI_app0, -aB_app0, -aS_app0, -aL_app0, -aI_app10, -aB_app10, -aS_app10, -aLt_app10I, -aLf_app10I, -aLt_app1I, -aLf_app1I, -getElem?_pos, List.getElem?_cons_zero, List.getElem?_cons_succ, ga28, gb28, gn28, gf28, gg28_0, gl28]) ?_
  obtain ⟨w30, h31, h⟩ := bind_some h
  refine Wo.monoG (Q := fun V => V = [(0, .v (ssl eRelation relations)), (3, .v (iT to)), (5, .v (.ptr true [(iT query.VariableCount), (ssl eAtom query.Atoms), (ssl eI query.Free)])), (10, .v (osl eB true reached_23)), (11, .v (.slo 1 (arr eI true todo_24))), (12, .v (iT v_19)), (13, .v (iT x_25)), (49, .v (iT (query.Atoms.length : Int))), (50, .v (iT x_25)), (64, .v (.bool w30))]) ?_ ?_
  ·by_cases knh31 : ¬ (v_27 = true)
   ·rw [if_pos knh31] at h31
    refine Wo.gh (vle_co (s := 58) (t1 := .bool true) rfl (by simp) (tle_bool (by simpa using knh31)) (by conv => lhs; simp)) ?_
    refine Wo.evs (by conv => lhs; simp [-aI_app0, -aB_app0, -aS_app0, -aL_app0, -aI_app10, -aB_app10, -aS_app10, -aLt_app10I, -aLf_app10I, -aLt_app1I, -aLf_app1I, -getElem?_pos, List.getElem?_cons_zero, List.getElem?_cons_succ, ga28, gb28, gn28, gf28, gg28_0, gl28]) ?_
    obtain ⟨o32, h33, h31⟩ := bind_some h31
    refine Wo.call (by simp [-aI_app0, -aB_app0, -aS_app0, -aL_app0, -aI_app10, -aB_app10, -aS_app10, -aLt_app10I, -aLf_app10I, -aLt_app1I, -aLf_app1I, -getElem?_pos, List.getElem?_cons_zero, List.getElem?_cons_succ, ga28, gb28, gn28, gf28, gg28_0, gl28]) rfl (by (conv => lhs; simp [-aI_app0, -aB_app0, -aS_app0, -aL_app0, -aI_app10, -aB_app10, -aS_app10, -aLt_app10I, -aLf_app10I, -aLt_app1I, -aLf_app1I, -getElem?_pos, List.getElem?_cons_zero, List.getElem?_cons_succ, ga28, gb28, gn28, gf28, gg28_0, gl28, cx, ioTab]) <;> rfl) (run_ h33) (by simp) (by simp) (by (conv => lhs; simp [-aI_app0, -aB_app0, -aS_app0, -aL_app0, -aI_app10, -aB_app10, -aS_app10, -aLt_app10I, -aLf_app10I, -aLt_app1I, -aLf_app1I, -getElem?_pos, List.getElem?_cons_zero, List.getElem?_cons_succ, ga28, gb28, gn28, gf28, gg28_0, gl28, cx, ioTab]) <;> rfl) (by (conv => lhs; simp [-aI_app0, -aB_app0, -aS_app0, -aL_app0, -aI_app10, -aB_app10, -aS_app10, -aLt_app10I, -aLf_app10I, -aLt_app1I, -aLf_app1I, -getElem?_pos, List.getElem?_cons_zero, List.getElem?_cons_succ, ga28, gb28, gn28, gf28, gg28_0, gl28]) <;> rfl) ?_
    refine Wo.evs (by conv => lhs; simp [-aI_app0, -aB_app0, -aS_app0, -aL_app0, -aI_app10, -aB_app10, -aS_app10, -aLt_app10I, -aLf_app10I, -aLt_app1I, -aLf_app1I, -getElem?_pos, List.getElem?_cons_zero, List.getElem?_cons_succ, ga28, gb28, gn28, gf28, gg28_0, gl28]) ?_
    refine Wo.nil ?_
    cases h31
    refine ⟨_, (VLe.refl _), ?_⟩
    first | rfl | simp [-aI_app0, -aB_app0, -aS_app0, -aL_app0, -aI_app10, -aB_app10, -aS_app10, -aLt_app10I, -aLf_app10I, -aLt_app1I, -aLf_app1I, -getElem?_pos, List.getElem?_cons_zero, List.getElem?_cons_succ, ga28, gb28, gn28, gf28, gg28_0, gl28]
   ·rw [if_neg knh31] at h31
    refine Wo.gh (vle_co (s := 58) (t1 := .bool false) rfl (by simp) (tle_bool (by simpa using knh31)) (by conv => lhs; simp)) ?_
    refine Wo.evs (by conv => lhs; simp [-aI_app0, -aB_app0, -aS_app0, -aL_app0, -aI_app10, -aB_app10, -aS_app10, -aLt_app10I, -aLf_app10I, -aLt_app1I, -aLf_app1I, -getElem?_pos, List.getElem?_cons_zero, List.getElem?_cons_succ, ga28, gb28, gn28, gf28, gg28_0, gl28]) ?_
    refine Wo.nil ?_
    cases h31
    refine ⟨_, (VLe.refl _), ?_⟩
    first | rfl | simp [-aI_app0, -aB_app0, -aS_app0, -aL_app0, -aI_app10, -aB_app10, -aS_app10, -aLt_app10I, -aLf_app10I, -aLt_app1I, -aLf_app1I, -getElem?_pos, List.getElem?_cons_zero, List.getElem?_cons_succ, ga28, gb28, gn28, gf28, gg28_0, gl28]
  ·rintro V rfl
   generalize w30 = x_29 at *
   try dsimp only at h
   obtain ⟨w34, h35, h⟩ := bind_some h
   refine Wc.monoG (Q := (QN (fun (y : (List Bool) × (List Int)) => [(0, .v (ssl eRelation relations)), (3, .v (iT to)), (5, .v (.ptr true [(iT query.VariableCount), (ssl eAtom query.Atoms), (ssl eI query.Free)])), (10, .v (osl eB true y.1)), (11, .v (.slo 1 (arr eI true y.2))), (12, .v (iT v_19)), (49, .v (iT (query.Atoms.length : Int))), (50, .v (iT x_25))])) w34) ?_ ?_
   ·skip
    by_cases kc36 : x_29 = true
    ·rw [if_pos kc36] at h35
     refine Wc.condT' (t := _) (by conv => lhs; simp) (by simpa using kc36) ?_
     refine Wc.seq ?_
     refine Wc.kil (by conv => lhs; simp) ?_
     refine Wc.seq ?_
     have gy37 := lay_set (E := eB) (b := true) (i := x_25.toNat) (l := reached_23) true (by omega)
     simp at gy37
     refine Wc.evs (by conv => lhs; simp [-aI_app0, -aB_app0, -aS_app0, -aL_app0, -aI_app10, -aB_app10, -aS_app10, -aLt_app10I, -aLf_app10I, -aLt_app1I, -aLf_app1I, -getElem?_pos, List.getElem?_cons_zero, List.getElem?_cons_succ, ga28, gb28, gn28, gf28, gg28_0, gl28, gy37]) ?_
     refine Wo.nil ?_
     obtain ⟨l_38, h39, h35⟩ := bind_some h35
     refine Wc.evk 3 (by conv => lhs; simp [-aI_app0, -aB_app0, -aS_app0, -aL_app0, -aI_app10, -aB_app10, -aS_app10, -aLt_app10I, -aLf_app10I, -aLt_app1I, -aLf_app1I]) ?_
     refine Wo.sem (by simp) (by simp) (by simp) (sem_sappL (E := eI) (b' := false) h39 (by simp) (by decide) rfl (by (conv => lhs; simp) <;> rfl) (by (conv => lhs; simp) <;> rfl)) (by conv => lhs; simp) ?_
     refine Wo.evs (by conv => lhs; simp [-aI_app0, -aB_app0, -aS_app0, -aL_app0, -aI_app10, -aB_app10, -aS_app10, -aLt_app10I, -aLf_app10I, -aLt_app1I, -aLf_app1I]) ?_
     refine Wo.gh (vle_co (s := 11) (t1 := (osl eI true l_38)) rfl (by simp) (tle_own rfl) (by conv => lhs; simp)) ?_
     refine Wo.nil ?_
     cases h35
     exact ⟨_, (vle_of (vle_pf (s := 11) (t1 := (.slo 1 (arr eI true l_38))) rfl (by simp) (PF.le (TLe.slo rfl)) (by conv => lhs; simp)) (VLe.refl _)), rfl, by first | rfl | simp [-aI_app0, -aB_app0, -aS_app0, -aL_app0, -aI_app10, -aB_app10, -aS_app10, -aLt_app10I, -aLf_app10I, -aLt_app1I, -aLf_app1I]⟩
    ·rw [if_neg kc36] at h35
     refine Wc.condF' (t := _) (by conv => lhs; simp) (by simpa using kc36) ?_
     refine Wc.seq ?_
     refine Wc.kil (by conv => lhs; simp) ?_
     refine Wc.skip ?_
     cases h35
     exact ⟨_, (VLe.refl _), rfl, by first | rfl | simp [-aI_app0, -aB_app0, -aS_app0, -aL_app0, -aI_app10, -aB_app10, -aS_app10, -aLt_app10I, -aLf_app10I, -aLt_app1I, -aLf_app1I, -getElem?_pos, List.getElem?_cons_zero, List.getElem?_cons_succ, ga28, gb28, gn28, gf28, gg28_0, gl28]⟩
   ·skip
    obtain ⟨reached_40, todo_41⟩ := w34
    rintro ex V ⟨rfl, rfl⟩
    dsimp only at h ⊢
    refine Wc.evs (by conv => lhs; simp [-aI_app0, -aB_app0, -aS_app0, -aL_app0, -aI_app10, -aB_app10, -aS_app10, -aLt_app10I, -aLf_app10I, -aLt_app1I, -aLf_app1I]) ?_
    refine Wo.nil ?_
    refine Wc.start (V1 := [(0, .v (ssl eRelation relations)), (3, .v (iT to)), (5, .v (.ptr true [(iT query.VariableCount), (ssl eAtom query.Atoms), (ssl eI query.Free)])), (10, .v (osl eB true reached_40)), (11, .v (.slo 1 (arr eI true todo_41))), (12, .v (iT v_19)), (49, .v (iT (query.Atoms.length : Int))), (50, .v (iT (w64 (x_25 + 1))))]) ?_ (hk _ (Option.some.inj h).symm)
    first | rfl | simp [-aI_app0, -aB_app0, -aS_app0, -aL_app0, -aI_app10, -aB_app10, -aS_app10, -aLt_app10I, -aLf_app10I, -aLt_app1I, -aLf_app1I]
 ·rw [if_neg kc26] at h
  refine Wc.condF' (t := _) (by conv => lhs; simp) (by simpa using kc26) ?_
  refine Wc.seq ?_
  refine Wc.kil (by conv => lhs; simp) ?_
  refine Wc.exit ?_
  have e0 := hx _ (Option.some.inj h).symm
  subst e0
  exact ⟨_, (VLe.refl _), rfl, by first | rfl | simp [-aI_app0, -aB_app0, -aS_app0, -aL_app0, -aI_app10, -aB_app10, -aS_app10, -aLt_app10I, -aLf_app10I, -aLt_app1I, -aLf_app1I]⟩
theorem r16_0 {relations : (List Relation)} {query : Query} {to : Int} : ∀ zs zo, iter (f16_0 relations query) zs = some zo → Wc cx 77 (.loop L16_0) [(0, .v (ssl eRelation relations)), (3, .v (iT to)), (5, .v (.ptr true [(iT query.VariableCount), (ssl eAtom query.Atoms), (ssl eI query.Free)])), (10, .v (osl eB true zs.1)), (11, .v (.slo 1 (arr eI true zs.2)))] ((QX 0 (fun (y : (List Bool)) => [(3, .v (iT to)), (10, .v (osl eB true y))])) zo) := by
 intro zs0 zo0 zh0
 refine Wc.postG ?_
 refine iter_run (f := (f16_0 relations query)) (P := fun zs zo => Wc cx 77 (.loop L16_0) [(0, .v (ssl eRelation relations)), (3, .v (iT to)), (5, .v (.ptr true [(iT query.VariableCount), (ssl eAtom query.Atoms), (ssl eI query.Free)])), (10, .v (osl eB true zs.1)), (11, .v (.slo 1 (arr eI true zs.2)))] (fun ex V => ∃ V2, VLe V V2 ∧ (QX 0 (fun (y : (List Bool)) => [(3, .v (iT to)), (10, .v (osl eB true y))])) zo ex V2)) ?_ zh0
 rintro ⟨reached_16, todo_17⟩ zo zr h hk hx
 try dsimp only at hk ⊢
 rw [f16_0] at h
 refine Wc.loop ?_
 refine Wc.seq ?_
 refine Wc.seq ?_
 refine Wc.evk 1 (by conv => lhs; simp [-aI_app0, -aB_app0, -aS_app0, -aL_app0, -aI_app10, -aB_app10, -aS_app10, -aLt_app10I, -aLf_app10I, -aLt_app1I, -aLf_app1I]) ?_
 refine Wo.sem (by simp) (by simp) (by simp) (sem_slenL (E := eI) (l := todo_17) (by (conv => lhs; simp) <;> rfl)) (by conv => lhs; simp) ?_
 refine Wo.evs (by conv => lhs; simp [-aI_app0, -aB_app0, -aS_app0, -aL_app0, -aI_app10, -aB_app10, -aS_app10, -aLt_app10I, -aLf_app10I, -aLt_app1I, -aLf_app1I]) ?_
 refine Wo.nil ?_
 by_cases kc18 : (todo_17.length : Int) > 0
 ·rw [if_pos kc18] at h
  refine Wc.condT' (t := _) (by conv => lhs; simp) (by simpa using kc18) ?_
  refine Wc.seq ?_
  refine Wc.kil (by conv => lhs; simp) ?_
  refine Wc.skip ?_
  refine Wc.block ?_
  refine Wc.seq ?_
  refine Wc.reg ?_
  obtain ⟨v_19, h20, h⟩ := bind_some h
  obtain ⟨ga20, gb20, gc20⟩ := ix_some h20
  have gn20 := ix_ne h20
  have gd20 := arr_at (E := eI) (b := false) gc20
  simp at gd20
  have gk20 : 0 < todo_17.length := by omega
  refine Wo.lend (k := 3) (s := 11) [5] [(0, .v (ssl eRelation relations)), (3, .v (iT to)), (5, .v (.ptr true [(iT query.VariableCount), (ssl eAtom query.Atoms), (ssl eI query.Free)])), (10, .v (osl eB true reached_16)), (11, .v (.slo 1 (arr eI true todo_17))), (44, .v (iT v_19))] rfl (by simp) (by simp) ?_ ?_
  ·skip
   refine Wo.evs (by conv => lhs; simp [-aI_app0, -aB_app0, -aS_app0, -aL_app0, -aI_app10, -aB_app10, -aS_app10, -aLt_app10I, -aLf_app10I, -aLt_app1I, -aLf_app1I, gb20, gn20, gd20, gk20]) ?_
   refine Wo.nil ?_
   simp
  refine Wo.evs (by conv => lhs; simp [-aI_app0, -aB_app0, -aS_app0, -aL_app0, -aI_app10, -aB_app10, -aS_app10, -aLt_app10I, -aLf_app10I, -aLt_app1I, -aLf_app1I, gb20, gn20, gd20, gk20]) ?_
  refine Wo.nil ?_
  refine Wc.seq ?_
  obtain ⟨l_21, h22, h⟩ := bind_some h
  refine Wc.evk 1 (by conv => lhs; simp [-aI_app0, -aB_app0, -aS_app0, -aL_app0, -aI_app10, -aB_app10, -aS_app10, -aLt_app10I, -aLf_app10I, -aLt_app1I, -aLf_app1I]) ?_
  refine Wo.sem (by simp) (by simp) (by simp) (sem_slideL (E := eI) h22 (by simp) (by (conv => lhs; simp) <;> rfl) (by simp)) (by conv => lhs; simp) ?_
  refine Wo.evs (by conv => lhs; simp [-aI_app0, -aB_app0, -aS_app0, -aL_app0, -aI_app10, -aB_app10, -aS_app10, -aLt_app10I, -aLf_app10I, -aLt_app1I, -aLf_app1I]) ?_
  refine Wo.nil ?_
  refine Wc.seq ?_
  refine Wc.evs (by conv => lhs; simp [-aI_app0, -aB_app0, -aS_app0, -aL_app0, -aI_app10, -aB_app10, -aS_app10, -aLt_app10I, -aLf_app10I, -aLt_app1I, -aLf_app1I]) ?_
  refine Wo.nil ?_
  refine Wc.block ?_
  obtain ⟨w42, h43, h⟩ := bind_some h
  refine Wc.start (V1 := [(0, .v (ssl eRelation relations)), (3, .v (iT to)), (5, .v (.ptr true [(iT query.VariableCount), (ssl eAtom query.Atoms), (ssl eI query.Free)])), (10, .v (osl eB true reached_16)), (11, .v (.slo 1 (arr eI true l_21))), (12, .v (iT v_19)), (49, .v (iT (query.Atoms.length : Int))), (50, .v (iT 0))]) (by first | rfl | simp [-aI_app0, -aB_app0, -aS_app0, -aL_app0, -aI_app10, -aB_app10, -aS_app10, -aLt_app10I, -aLf_app10I, -aLt_app1I, -aLf_app1I]) ?_
  refine Wc.mono (r16_1 _ _ h43) ?_
  obtain ⟨reached_44, todo_45⟩ := w42
  rintro ex V ⟨rfl, rfl⟩
  dsimp only at h ⊢
  refine Wc.start (V1 := [(0, .v (ssl eRelation relations)), (3, .v (iT to)), (5, .v (.ptr true [(iT query.VariableCount), (ssl eAtom query.Atoms), (ssl eI query.Free)])), (10, .v (osl eB true reached_44)), (11, .v (.slo 1 (arr eI true todo_45)))]) ?_ (hk _ (Option.some.inj h).symm)
  first | rfl | simp [-aI_app0, -aB_app0, -aS_app0, -aL_app0, -aI_app10, -aB_app10, -aS_app10, -aLt_app10I, -aLf_app10I, -aLt_app1I, -aLf_app1I]
 ·rw [if_neg kc18] at h
  refine Wc.condF' (t := _) (by conv => lhs; simp) (by simpa using kc18) ?_
  refine Wc.seq ?_
  refine Wc.kil (by conv => lhs; simp) ?_
  refine Wc.exit ?_
  have e0 := hx _ (Option.some.inj h).symm
  subst e0
  exact ⟨_, (VLe.refl _), rfl, by first | rfl | simp [-aI_app0, -aB_app0, -aS_app0, -aL_app0, -aI_app10, -aB_app10, -aS_app10, -aLt_app10I, -aLf_app10I, -aLt_app1I, -aLf_app1I]⟩
theorem r16 {relations : (List Relation)} {query : Query} {from2 : Int} {to : Int} {r : Bool} (h : f16 relations query from2 to = some r) : VJx cx (.ca 16 [(ssl eRelation relations), (.agg [(iT query.VariableCount), (ssl eAtom query.Atoms), (ssl eI query.Free)]), (iT from2), (iT to)] (.bool r) []) := by
 unfold f16 at h
 refine ca_of rfl rfl (by decide) rfl ?_
 refine Wc.postG ?_
 refine Wc.start (V1 := [(0, .v (ssl eRelation relations)), (1, .v (.agg [(iT query.VariableCount), (ssl eAtom query.Atoms), (ssl eI query.Free)])), (2, .v (iT from2)), (3, .v (iT to))]) (by simp) ?_
 refine Wc.seq ?_
 refine Wc.evs (by conv => lhs; simp [-aI_app0, -aB_app0, -aS_app0, -aL_app0, -aI_app10, -aB_app10, -aS_app10, -aLt_app10I, -aLf_app10I, -aLt_app1I, -aLf_app1I]) ?_
 refine Wo.nil ?_
 refine Wc.seq ?_
 refine Wc.evs (by conv => lhs; simp [-aI_app0, -aB_app0, -aS_app0, -aL_app0, -aI_app10, -aB_app10, -aS_app10, -aLt_app10I, -aLf_app10I, -aLt_app1I, -aLf_app1I]) ?_
 refine Wo.nil ?_
 refine Wc.seq ?_
 refine Wc.seq ?_
 refine Wc.evs (by conv => lhs; simp [-aI_app0, -aB_app0, -aS_app0, -aL_app0, -aI_app10, -aB_app10, -aS_app10, -aLt_app10I, -aLf_app10I, -aLt_app1I, -aLf_app1I]) ?_
 obtain ⟨o1, h2, h⟩ := bind_some h
 refine Wo.call rfl rfl (by (conv => lhs; simp [-aI_app0, -aB_app0, -aS_app0, -aL_app0, -aI_app10, -aB_app10, -aS_app10, -aLt_app10I, -aLf_app10I, -aLt_app1I, -aLf_app1I, cx, ioTab]) <;> rfl) (run_ h2) (by simp) (by simp) (by (conv => lhs; simp [-aI_app0, -aB_app0, -aS_app0, -aL_app0, -aI_app10, -aB_app10, -aS_app10, -aLt_app10I, -aLf_app10I, -aLt_app1I, -aLf_app1I, cx, ioTab]) <;> rfl) (by (conv => lhs; simp [-aI_app0, -aB_app0, -aS_app0, -aL_app0, -aI_app10, -aB_app10, -aS_app10, -aLt_app10I, -aLf_app10I, -aLt_app1I, -aLf_app1I]) <;> rfl) ?_
 refine Wo.evk 2 (by conv => lhs; simp [-aI_app0, -aB_app0, -aS_app0, -aL_app0, -aI_app10, -aB_app10, -aS_app10, -aLt_app10I, -aLf_app10I, -aLt_app1I, -aLf_app1I]) ?_
 obtain ⟨w4, h5, h⟩ := bind_some h
 refine Wo.monoG (Q := fun V => V = [(0, .v (ssl eRelation relations)), (2, .v (iT from2)), (3, .v (iT to)), (5, .v (.ptr true [(iT query.VariableCount), (ssl eAtom query.Atoms), (ssl eI query.Free)])), (9, .v (iT (w64 ((query.Atoms.length : Int) - 1)))), (33, .v (.bool w4))]) ?_ ?_
 ·by_cases knh5 : ¬ (o1 = true)
  ·rw [if_pos knh5] at h5
   refine Wo.gh (vle_co (s := 22) (t1 := .bool true) rfl (by simp) (tle_bool (by simpa using knh5)) (by conv => lhs; simp)) ?_
   refine Wo.evs (by conv => lhs; simp [-aI_app0, -aB_app0, -aS_app0, -aL_app0, -aI_app10, -aB_app10, -aS_app10, -aLt_app10I, -aLf_app10I, -aLt_app1I, -aLf_app1I]) ?_
   refine Wo.nil ?_
   cases h5
   refine ⟨_, (VLe.refl _), ?_⟩
   first | rfl | simp [-aI_app0, -aB_app0, -aS_app0, -aL_app0, -aI_app10, -aB_app10, -aS_app10, -aLt_app10I, -aLf_app10I, -aLt_app1I, -aLf_app1I]
  ·rw [if_neg knh5] at h5
   refine Wo.gh (vle_co (s := 22) (t1 := .bool false) rfl (by simp) (tle_bool (by simpa using knh5)) (by conv => lhs; simp)) ?_
   refine Wo.evs (by conv => lhs; simp [-aI_app0, -aB_app0, -aS_app0, -aL_app0, -aI_app10, -aB_app10, -aS_app10, -aLt_app10I, -aLf_app10I, -aLt_app1I, -aLf_app1I]) ?_
   obtain ⟨o6, h7, h5⟩ := bind_some h5
   refine Wo.call (by simp [-aI_app0, -aB_app0, -aS_app0, -aL_app0, -aI_app10, -aB_app10, -aS_app10, -aLt_app10I, -aLf_app10I, -aLt_app1I, -aLf_app1I]) rfl (by (conv => lhs; simp [-aI_app0, -aB_app0, -aS_app0, -aL_app0, -aI_app10, -aB_app10, -aS_app10, -aLt_app10I, -aLf_app10I, -aLt_app1I, -aLf_app1I, cx, ioTab]) <;> rfl) (run_ h7) (by simp) (by simp) (by (conv => lhs; simp [-aI_app0, -aB_app0, -aS_app0, -aL_app0, -aI_app10, -aB_app10, -aS_app10, -aLt_app10I, -aLf_app10I, -aLt_app1I, -aLf_app1I, cx, ioTab]) <;> rfl) (by (conv => lhs; simp [-aI_app0, -aB_app0, -aS_app0, -aL_app0, -aI_app10, -aB_app10, -aS_app10, -aLt_app10I, -aLf_app10I, -aLt_app1I, -aLf_app1I]) <;> rfl) ?_
   refine Wo.evk 3 (by conv => lhs; simp [-aI_app0, -aB_app0, -aS_app0, -aL_app0, -aI_app10, -aB_app10, -aS_app10, -aLt_app10I, -aLf_app10I, -aLt_app1I, -aLf_app1I]) ?_
   obtain ⟨w9, h10, h5⟩ := bind_some h5
   refine Wo.monoG (Q := fun V => V = [(0, .v (ssl eRelation relations)), (2, .v (iT from2)), (3, .v (iT to)), (5, .v (.ptr true [(iT query.VariableCount), (ssl eAtom query.Atoms), (ssl eI query.Free)])), (9, .v (iT (w64 ((query.Atoms.length : Int) - 1)))), (33, .v (.bool w9))]) ?_ ?_
   ·by_cases knh10 : ¬ (o6 = true)
    ·rw [if_pos knh10] at h10
     refine Wo.gh (vle_co (s := 28) (t1 := .bool true) rfl (by simp) (tle_bool (by simpa using knh10)) (by conv => lhs; simp)) ?_
     refine Wo.evs (by conv => lhs; simp [-aI_app0, -aB_app0, -aS_app0, -aL_app0, -aI_app10, -aB_app10, -aS_app10, -aLt_app10I, -aLf_app10I, -aLt_app1I, -aLf_app1I]) ?_
     refine Wo.nil ?_
     cases h10
     refine ⟨_, (VLe.refl _), ?_⟩
     first | rfl | simp [-aI_app0, -aB_app0, -aS_app0, -aL_app0, -aI_app10, -aB_app10, -aS_app10, -aLt_app10I, -aLf_app10I, -aLt_app1I, -aLf_app1I]
    ·rw [if_neg knh10] at h10
     refine Wo.gh (vle_co (s := 28) (t1 := .bool false) rfl (by simp) (tle_bool (by simpa using knh10)) (by conv => lhs; simp)) ?_
     refine Wo.evs (by conv => lhs; simp [-aI_app0, -aB_app0, -aS_app0, -aL_app0, -aI_app10, -aB_app10, -aS_app10, -aLt_app10I, -aLf_app10I, -aLt_app1I, -aLf_app1I]) ?_
     obtain ⟨o11, h12, h10⟩ := bind_some h10
     refine Wo.call (by simp [-aI_app0, -aB_app0, -aS_app0, -aL_app0, -aI_app10, -aB_app10, -aS_app10, -aLt_app10I, -aLf_app10I, -aLt_app1I, -aLf_app1I]) rfl (by (conv => lhs; simp [-aI_app0, -aB_app0, -aS_app0, -aL_app0, -aI_app10, -aB_app10, -aS_app10, -aLt_app10I, -aLf_app10I, -aLt_app1I, -aLf_app1I, cx, ioTab]) <;> rfl) (run_ h12) (by simp) (by simp) (by (conv => lhs; simp [-aI_app0, -aB_app0, -aS_app0, -aL_app0, -aI_app10, -aB_app10, -aS_app10, -aLt_app10I, -aLf_app10I, -aLt_app1I, -aLf_app1I, cx, ioTab]) <;> rfl) (by (conv => lhs; simp [-aI_app0, -aB_app0, -aS_app0, -aL_app0, -aI_app10, -aB_app10, -aS_app10, -aLt_app10I, -aLf_app10I, -aLt_app1I, -aLf_app1I]) <;> rfl) ?_
     refine Wo.evs (by conv => lhs; simp [-aI_app0, -aB_app0, -aS_app0, -aL_app0, -aI_app10, -aB_app10, -aS_app10, -aLt_app10I, -aLf_app10I, -aLt_app1I, -aLf_app1I]) ?_
     refine Wo.nil ?_
     cases h10
     refine ⟨_, (VLe.refl _), ?_⟩
     first | rfl | simp [-aI_app0, -aB_app0, -aS_app0, -aL_app0, -aI_app10, -aB_app10, -aS_app10, -aLt_app10I, -aLf_app10I, -aLt_app1I, -aLf_app1I]
   ·rintro V rfl
    generalize w9 = x_8 at *
    try dsimp only at h5
    cases h5
    refine ⟨_, (VLe.refl _), ?_⟩
    first | rfl | simp [-aI_app0, -aB_app0, -aS_app0, -aL_app0, -aI_app10, -aB_app10, -aS_app10, -aLt_app10I, -aLf_app10I, -aLt_app1I, -aLf_app1I]
 ·rintro V rfl
  generalize w4 = x_3 at *
  try dsimp only at h
  by_cases kc13 : x_3 = true
  ·rw [if_pos kc13] at h
   refine Wc.condT' (t := _) (by conv => lhs; simp) (by simpa using kc13) ?_
   refine Wc.seq ?_
   refine Wc.kil (by conv => lhs; simp) ?_
   refine Wc.seq ?_
   refine Wc.evs (by conv => lhs; simp [-aI_app0, -aB_app0, -aS_app0, -aL_app0, -aI_app10, -aB_app10, -aS_app10, -aLt_app10I, -aLf_app10I, -aLt_app1I, -aLf_app1I]) ?_
   refine Wo.nil ?_
   refine Wc.ret ⟨_, (VLe.refl _), res_of (.inr rfl) ?_⟩
   cases h
   exact ⟨_, _, _, by conv => lhs; simp, by (conv => lhs; simp [cx, ioTab, List.range, List.range.loop]) <;> rfl, by first | rfl | simp [-aI_app0, -aB_app0, -aS_app0, -aL_app0, -aI_app10, -aB_app10, -aS_app10, -aLt_app10I, -aLf_app10I, -aLt_app1I, -aLf_app1I]⟩
  ·rw [if_neg kc13] at h
   refine Wc.condF' (t := _) (by conv => lhs; simp) (by simpa using kc13) ?_
   refine Wc.seq ?_
   refine Wc.kil (by conv => lhs; simp) ?_
   refine Wc.skip ?_
   refine Wc.seq ?_
   obtain ⟨l_14, h15, h⟩ := bind_some h
   obtain ⟨gm15, gp15, gq15, gr15⟩ := mkl_some h15
   have gx15 := rep_arr (E := eB) (b := true) gr15
   simp [-aI_app0, -aB_app0, -aS_app0, -aL_app0, -aLt_app1I, -aLf_app1I, -aLt_app10I, -aLf_app10I] at gx15
   rw [Int.one_mul] at gp15
   refine Wc.evs (by conv => lhs; simp [-aI_app0, -aB_app0, -aS_app0, -aL_app0, -aI_app10, -aB_app10, -aS_app10, -aLt_app10I, -aLf_app10I, -aLt_app1I, -aLf_app1I, gm15, gp15, gq15, gx15]) ?_
   refine Wo.gh (vle_co (s := 10) (t1 := (osl eB true l_14)) rfl (by simp) (tle_own rfl) (by conv => lhs; simp)) ?_
   refine Wo.nil ?_
   refine Wc.seq ?_
   refine Wc.evs (by conv => lhs; simp [-aI_app0, -aB_app0, -aS_app0, -aL_app0, -aI_app10, -aB_app10, -aS_app10, -aLt_app10I, -aLf_app10I, -aLt_app1I, -aLf_app1I]) ?_
   refine Wo.gh (vle_co (s := 11) (t1 := (osl eI true ([from2]))) rfl (by simp) (TLe.own (show TLes _ [(iT from2)] from (TLes.cons (TLe.refl _) (TLes.refl _))) rfl) (by conv => lhs; simp)) ?_
   refine Wo.nil ?_
   refine Wc.seq ?_
   refine Wc.block ?_
   refine Wc.gh (vle_pf (s := 11) (t1 := (.slo 1 (arr eI true ([from2])))) rfl (by simp) (PF.le (TLe.slo rfl)) (by conv => lhs; simp)) ?_
   obtain ⟨w46, h47, h⟩ := bind_some h
   refine Wc.start (V1 := [(0, .v (ssl eRelation relations)), (3, .v (iT to)), (5, .v (.ptr true [(iT query.VariableCount), (ssl eAtom query.Atoms), (ssl eI query.Free)])), (10, .v (osl eB true l_14)), (11, .v (.slo 1 (arr eI true ([from2]))))]) (by first | rfl | simp [-aI_app0, -aB_app0, -aS_app0, -aL_app0, -aI_app10, -aB_app10, -aS_app10, -aLt_app10I, -aLf_app10I, -aLt_app1I, -aLf_app1I]) ?_
   refine Wc.mono (r16_0 _ _ h47) ?_
   generalize w46 = reached_48 at *
   rintro ex V ⟨rfl, rfl⟩
   try dsimp only at h
   refine Wc.seq ?_
   obtain ⟨v_49, h50, h⟩ := bind_some h
   obtain ⟨ga50, gb50, gc50⟩ := ix_some h50
   have gn50 := ix_ne h50
   have gf50 := arr_fit (E := eB) (b := true) (i := to.toNat) (l := reached_48) (by omega)
   have gg50_0 := arr_get (E := eB) (b := true) (o := 0) gc50 (by decide)
   simp at gf50 gg50_0
   have gl50 : to.toNat < reached_48.length := by omega
   refine Wc.evs (by conv => lhs; simp [-aI_app0, -aB_app0, -aS_app0, -aL_app0, -aI_app10, -aB_app10, -aS_app10, -aLt_app10I, -aLf_app10I, -aLt_app1I, -aLf_app1I, -getElem?_pos, List.getElem?_cons_zero, List.getElem?_cons_succ, ga50, gb50, gn50, gf50, gg50_0, gl50]) ?_
   refine Wo.nil ?_
   refine Wc.ret ⟨_, (VLe.refl _), res_of (.inr rfl) ?_⟩
   cases h
   exact ⟨_, _, _, by conv => lhs; simp, by (conv => lhs; simp [cx, ioTab, List.range, List.range.loop]) <;> rfl, by first | rfl | simp [-aI_app0, -aB_app0, -aS_app0, -aL_app0, -aI_app10, -aB_app10, -aS_app10, -aLt_app10I, -aLf_app10I, -aLt_app1I, -aLf_app1I, -getElem?_pos, List.getElem?_cons_zero, List.getElem?_cons_succ, ga50, gb50, gn50, gf50, gg50_0, gl50]⟩
instance i16 {relations : (List Relation)} {query : Query} {from2 : Int} {to : Int} : Rn cx (f16 relations query from2 to) 16 [(ssl eRelation relations), (.agg [(iT query.VariableCount), (ssl eAtom query.Atoms), (ssl eI query.Free)]), (iT from2), (iT to)] (fun (r : Bool) => (.bool r)) (fun r => []) := ⟨fun _ h => r16 h⟩
instance : Io0 cx 16 := ⟨rfl⟩
instance i17_0 {relations : (List Relation)} {query : Query} : Lp cx (f17_0 relations query) 18 L17_0 (fun (zs : Int) => [(0, .v (ssl eRelation relations)), (3, .v (.ptr true [(iT query.VariableCount), (ssl eAtom query.Atoms), (ssl eI query.Free)])), (8, .v (iT (query.Atoms.length : Int))), (9, .v (iT zs))]) (QO (QX 0 (fun (y : Unit) => [])) (QR (fun (y : Bool) => [(4, .v (.bool y))]))) := by
 refine Lp.of ?_; unfold f17_0; exact go
instance i17 {relations : (List Relation)} {query : Query} : Rn cx (f17 relations query) 17 [(ssl eRelation relations), (.agg [(iT query.VariableCount), (ssl eAtom query.Atoms), (ssl eI query.Free)])] (fun (r : Bool) => (.bool r)) (fun r => []) := by
 refine Rn.of rfl rfl (by decide) rfl ?_; unfold f17; exact go
instance : Io0 cx 17 := ⟨rfl⟩
instance i3_0 {o4 : ((List Relation) × Query × Int × Int)} {o6 : Bool} {o31 : (List Int)} {o33 : (List Int)} : Lp cx (lw (o4, o6) (f3_0 o31 o33)) 115 L3_0 (fun (zs : Int) => [(3, .v (ssl eRelation o4.1)), (4, .v (.ptr false [(iT o4.2.1.VariableCount), (ssl eAtom o4.2.1.Atoms), (ssl eI o4.2.1.Free)])), (5, .v (iT o4.2.2.1)), (6, .v (iT o4.2.2.2)), (7, .v (.bool o6)), (9, .v (ssl eI o31)), (10, .v (osl eI true o33)), (11, .v (iT zs))]) (QO (QX 0 (fun (y : Unit) => [(3, .v (ssl eRelation o4.1)), (4, .v (.ptr false [(iT o4.2.1.VariableCount), (ssl eAtom o4.2.1.Atoms), (ssl eI o4.2.1.Free)])), (5, .v (iT o4.2.2.1)), (6, .v (iT o4.2.2.2)), (7, .v (.bool o6)), (9, .v (ssl eI o31))])) (QR (fun (y : Bool) => [(2, .v (.bool y))]))) := by
 refine Lp.of ?_; unfold lw f3_0; exact go
instance i3 {code : (List Int)} : Rn cx (f3 code) 3 [(ssl eU code)] (fun (r : Bool) => (.bool r)) (fun r => []) := by
 refine Rn.of (e := (
  (f5 code).bind fun o1 =>
  if o1 = true then
  some true
  else
  (f6 code).bind fun o4 =>
  sn 10 4 (.ptr false [(iT o4.2.1.VariableCount), (ssl eAtom o4.2.1.Atoms), (ssl eI o4.2.1.Free)]) <| 
  (f7 o4.1 o4.2.1 o4.2.2.1 o4.2.2.2).bind fun o6 =>
  (f8 o4.1 o4.2.1 o4.2.2.1 o4.2.2.2).bind fun o8 =>
  (f9 o4.1 o4.2.1 o4.2.2.1 o4.2.2.2).bind fun o10 =>
  (jn (QN (fun (y : Bool) => [(3, .v (ssl eRelation o4.1)), (4, .v (.ptr false [(iT o4.2.1.VariableCount), (ssl eAtom o4.2.1.Atoms), (ssl eI o4.2.1.Free)])), (5, .v (iT o4.2.2.1)), (6, .v (iT o4.2.2.2)), (7, .v (.bool o6)), (60, .v (.bool y))])) ((if (o6 != o10) = true then
  some true
  else
  (f10 o4.1 o4.2.1 o4.2.2.1 o4.2.2.2).bind fun o15 =>
  (jn (QN (fun (y : Bool) => [(3, .v (ssl eRelation o4.1)), (4, .v (.ptr false [(iT o4.2.1.VariableCount), (ssl eAtom o4.2.1.Atoms), (ssl eI o4.2.1.Free)])), (5, .v (iT o4.2.2.1)), (6, .v (iT o4.2.2.2)), (7, .v (.bool o6)), (60, .v (.bool y))])) ((if (o8 != o15) = true then
  some true
  else
  (jn (QN (fun (y : Bool) => [(3, .v (ssl eRelation o4.1)), (4, .v (.ptr false [(iT o4.2.1.VariableCount), (ssl eAtom o4.2.1.Atoms), (ssl eI o4.2.1.Free)])), (5, .v (iT o4.2.2.1)), (6, .v (iT o4.2.2.2)), (7, .v (.bool o6)), (60, .v (.bool y))])) ((if o8 = true then
  (jn (QN (fun (y : Bool) => [(3, .v (ssl eRelation o4.1)), (4, .v (.ptr false [(iT o4.2.1.VariableCount), (ssl eAtom o4.2.1.Atoms), (ssl eI o4.2.1.Free)])), (5, .v (iT o4.2.2.1)), (6, .v (iT o4.2.2.2)), (7, .v (.bool o6)), (60, .v (.bool y))])) ((if ¬ (o6 = true) then
  some true
  else
  (f7 o4.1 o4.2.1 o4.2.2.1 o4.2.2.1).bind fun o26 =>
  some o26) : Option (Bool))).bind fun x_23 =>
  some x_23
  else
  (f7 o4.1 o4.2.1 o4.2.2.1 o4.2.2.1).bind fun o28 =>
  some o28) : Option (Bool))).bind fun x_20 =>
  some x_20) : Option (Bool))).bind fun x_17 =>
  some x_17) : Option (Bool))).bind fun x_12 =>
  if x_12 = true then
  some false
  else
  (f11 o4.1 o4.2.1 o4.2.2.1).bind fun o31 =>
  (f12 o4.1 o4.2.1 o4.2.2.1).bind fun o33 =>
  (iter (lw (o4, o6)  (f3_0 o31 o33)) 0).bind fun o => match o with
  | .inl _ =>
  (f15 o4.1 o4.2.1 o4.2.2.1).bind fun o45 =>
  (f14 o31 o45).bind fun o47 =>
  (jn (QN (fun (y : Bool) => [(2, .v (.bool y))])) ((if o47 = true then
  (jn (QN (fun (y : Bool) => [(2, .v (.bool y))])) ((if ¬ (o6 = true) then
  some true
  else
  (f16 o4.1 o4.2.1 o4.2.2.1 o4.2.2.2).bind fun o55 =>
  (jn (QN (fun (y : Bool) => [(2, .v (.bool y))])) ((if o55 = true then
  (f7 o4.1 o4.2.1 o4.2.2.2 o4.2.2.1).bind fun o60 =>
  (jn (QN (fun (y : Bool) => [(2, .v (.bool y))])) ((if ¬ (o60 = true) then
  some true
  else
  (f17 o4.1 o4.2.1).bind fun o65 =>
  some o65) : Option (Bool))).bind fun x_62 =>
  some x_62
  else
  some false) : Option (Bool))).bind fun x_57 =>
  some x_57) : Option (Bool))).bind fun x_52 =>
  some x_52
  else
  some false) : Option (Bool))).bind fun x_49 =>
  some x_49
  | .inr x_44 =>
  some x_44 : Option Bool)) rfl rfl (by decide) rfl ?_
 exact go
instance : Io0 cx 3 := ⟨rfl⟩
end
end Go.Proofs.YtcllfkplpdppiaaH
