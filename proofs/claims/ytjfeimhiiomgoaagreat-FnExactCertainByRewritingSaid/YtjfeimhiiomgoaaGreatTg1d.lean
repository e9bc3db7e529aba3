import Derived.Test.YtjfeimhiiomgoaaGreatTg1c
set_option maxHeartbeats 2000000
set_option linter.unusedVariables false
set_option linter.unusedSimpArgs false
set_option linter.defProp false
set_option linter.unusedSectionVars false
set_option maxRecDepth 100000
namespace Go.Proofs.YtjfeimhiiomgoaaGreatH
open Go
noncomputable section
variable {slices : (List (List Int))} {atoms : (List Atom)} {a b free from2 indices not o19 o7 o9 plus_38 s0 s1 s2 terms vals values variables want : (List Int)} {l relations : (List Relation)} {rewriting : (List RewritingStep)} {atom v_19 : Atom} {d db : Database} {f : Fact} {high i i_15 i_17 k left low n0 n1 n_12 n_17 n_40 skip t to v x y : Int} {q query : Query}
theorem r118 {relations : (List Relation)} {query : Query} {from2 : Int} {to : Int} {r : Bool} (h : f118 relations query from2 to = some r) : VJx cx (.ca 118 [(ssl eRelation relations), (.agg [(iT query.VariableCount), (ssl eAtom query.Atoms), (ssl eI query.Free)]), (iT from2), (iT to)] (.bool r) []) := by
 unfold f118 at h
 refine ca_of rfl rfl (by decide) rfl ?_
 refine Wc.postG ?_
 refine Wc.start (V1 := [(0, .v (ssl eRelation relations)), (1, .v (.agg [(iT query.VariableCount), (ssl eAtom query.Atoms), (ssl eI query.Free)])), (2, .v (iT from2)), (3, .v (iT to))]) (by simp) ?_
 refine Wc.seq ?_
 refine Wc.evs (by conv => lhs; simp [-aI_app0, -aB_app0, -aS_app0, -aL_app0, -aI_app10, -aB_app10, -aS_app10, -aLt_app10I, -aLf_app10I, -aLt_app1I, -aLf_app1I]) ?_
 refine Wo.nil ?_
 refine Wc.seq ?_
 refine Wc.evs (by conv => lhs; simp [-aI_app0, -aB_app0, -aS_app0, -aL_app0, -aI_app10, -aB_app10, -aS_app10, -aLt_app10I, -aLf_app10I, -aLt_app1I, -aLf_app1I]) ?_
 refine Wo.nil ?_
 refine Wc.seq ?_
 refine Wc.seq ?_
 refine Wc.evs (by conv => lhs; simp [-aI_app0, -aB_app0, -aS_app0, -aL_app0, -aI_app10, -aB_app10, -aS_app10, -aLt_app10I, -aLf_app10I, -aLt_app1I, -aLf_app1I]) ?_
 obtain ⟨o1, h2, h⟩ := bind_some h
 refine Wo.call rfl rfl (by (conv => lhs; simp [-aI_app0, -aB_app0, -aS_app0, -aL_app0, -aI_app10, -aB_app10, -aS_app10, -aLt_app10I, -aLf_app10I, -aLt_app1I, -aLf_app1I, cx, ioTab]) <;> rfl) (run_ h2) (by simp) (by simp) (by (conv => lhs; simp [-aI_app0, -aB_app0, -aS_app0, -aL_app0, -aI_app10, -aB_app10, -aS_app10, -aLt_app10I, -aLf_app10I, -aLt_app1I, -aLf_app1I, cx, ioTab]) <;> rfl) (by (conv => lhs; simp [-aI_app0, -aB_app0, -aS_app0, -aL_app0, -aI_app10, -aB_app10, -aS_app10, -aLt_app10I, -aLf_app10I, -aLt_app1I, -aLf_app1I]) <;> rfl) ?_
 refine Wo.evk 2 (by conv => lhs; simp [-aI_app0, -aB_app0, -aS_app0, -aL_app0, -aI_app10, -aB_app10, -aS_app10, -aLt_app10I, -aLf_app10I, -aLt_app1I, -aLf_app1I]) ?_
 obtain ⟨w4, h5, h⟩ := bind_some h
 refine Wo.monoG (Q := fun V => V = [(0, .v (ssl eRelation relations)), (2, .v (iT from2)), (3, .v (iT to)), (5, .v (.ptr true [(iT query.VariableCount), (ssl eAtom query.Atoms), (ssl eI query.Free)])), (9, .v (iT (w64 ((query.Atoms.length : Int) - 1)))), (33, .v (.bool w4))]) ?_ ?_
 ·by_cases knh5 : ¬ (o1 = true)
  ·rw [if_pos knh5] at h5
   refine Wo.gh (vle_co (s := 22) (t1 := .bool true) rfl (by simp) (tle_bool (by simpa using knh5)) (by conv => lhs; simp)) ?_
   refine Wo.evs (by conv => lhs; simp [-aI_app0, -aB_app0, -aS_app0, -aL_app0, -aI_app10, -aB_app10, -aS_app10, -aLt_app10I, -aLf_app10I, -aLt_app1I, -aLf_app1I]) ?_
   refine Wo.nil ?_
   cases h5
   refine ⟨_, (VLe.refl _), ?_⟩
   first | rfl | simp [-aI_app0, -aB_app0, -aS_app0, -aL_app0, -aI_app10, -aB_app10, -aS_app10, -aLt_app10I, -aLf_app10I, -aLt_app1I, -aLf_app1I]
  ·rw [if_neg knh5] at h5
   refine Wo.gh (vle_co (s := 22) (t1 := .bool false) rfl (by simp) (tle_bool (by simpa using knh5)) (by conv => lhs; simp)) ?_
   refine Wo.evs (by conv => lhs; simp [-aI_app0, -aB_app0, -aS_app0, -aL_app0, -aI_app10, -aB_app10, -aS_app10, -aLt_app10I, -aLf_app10I, -aLt_app1I, -aLf_app1I]) ?_
   obtain ⟨o6, h7, h5⟩ := bind_some h5
   refine Wo.call (by simp [-aI_app0, -aB_app0, -aS_app0, -aL_app0, -aI_app10, -aB_app10, -aS_app10, -aLt_app10I, -aLf_app10I, -aLt_app1I, -aLf_app1I]) rfl (by (conv => lhs; simp [-aI_app0, -aB_app0, -aS_app0, -aL_app0, -aI_app10, -aB_app10, -aS_app10, -aLt_app10I, -aLf_app10I, -aLt_app1I, -aLf_app1I, cx, ioTab]) <;> rfl) (run_ h7) (by simp) (by simp) (by (conv => lhs; simp [-aI_app0, -aB_app0, -aS_app0, -aL_app0, -aI_app10, -aB_app10, -aS_app10, -aLt_app10I, -aLf_app10I, -aLt_app1I, -aLf_app1I, cx, ioTab]) <;> rfl) (by (conv => lhs; simp [-aI_app0, -aB_app0, -aS_app0, -aL_app0, -aI_app10, -aB_app10, -aS_app10, -aLt_app10I, -aLf_app10I, -aLt_app1I, -aLf_app1I]) <;> rfl) ?_
   refine Wo.evk 3 (by conv => lhs; simp [-aI_app0, -aB_app0, -aS_app0, -aL_app0, -aI_app10, -aB_app10, -aS_app10, -aLt_app10I, -aLf_app10I, -aLt_app1I, -aLf_app1I]) ?_
   obtain ⟨w9, h10, h5⟩ := bind_some h5
   refine Wo.monoG (Q := fun V => V = [(0, .v (ssl eRelation relations)), (2, .v (iT from2)), (3, .v (iT to)), (5, .v (.ptr true [(iT query.VariableCount), (ssl eAtom query.Atoms), (ssl eI query.Free)])), (9, .v (iT (w64 ((query.Atoms.length : Int) - 1)))), (33, .v (.bool w9))]) ?_ ?_
   ·by_cases knh10 : ¬ (o6 = true)
    ·rw [if_pos knh10] at h10
     refine Wo.gh (vle_co (s := 28) (t1 := .bool true) rfl (by simp) (tle_bool (by simpa using knh10)) (by conv => lhs; simp)) ?_
     refine Wo.evs (by conv => lhs; simp [-aI_app0, -aB_app0, -aS_app0, -aL_app0, -aI_app10, -aB_app10, -aS_app10, -aLt_app10I, -aLf_app10I, -aLt_app1I, -aLf_app1I]) ?_
     refine Wo.nil ?_
     cases h10
     refine ⟨_, (VLe.refl _), ?_⟩
     first | rfl | simp [-aI_app0, -aB_app0, -aS_app0, -aL_app0, -aI_app10, -aB_app10, -aS_app10, -aLt_app10I, -aLf_app10I, -aLt_app1I, -aLf_app1I]
    ·rw [if_neg knh10] at h10
     refine Wo.gh (vle_co (s := 28) (t1 := .bool false) rfl (by simp) (tle_bool (by simpa using knh10)) (by conv => lhs; simp)) ?_
     refine Wo.evs (by conv => lhs; simp [-aI_app0, -aB_app0, -aS_app0, -aL_app0, -aI_app10, -aB_app10, -aS_app10, -aLt_app10I, -aLf_app10I, -aLt_app1I, -aLf_app1I]) ?_
     obtain ⟨o11, h12, h10⟩ := bind_some h10
     refine Wo.call (by simp [-aI_app0, -aB_app0, -aS_app0, -aL_app0, -aI_app10, -aB_app10, -aS_app10, -aLt_app10I, -aLf_app10I, -aLt_app1I, -aLf_app1I]) rfl (by (conv => lhs; simp [-aI_app0, -aB_app0, -aS_app0, -aL_app0, -aI_app10, -aB_app10, -aS_app10, -aLt_app10I, -aLf_app10I, -aLt_app1I, -aLf_app1I, cx, ioTab]) <;> rfl) (run_ h12) (by simp) (by simp) (by (conv => lhs; simp [-aI_app0, -aB_app0, -aS_app0, -aL_app0, -aI_app10, -aB_app10, -aS_app10, -aLt_app10I, -aLf_app10I, -aLt_app1I, -aLf_app1I, cx, ioTab]) <;> rfl) (by (conv => lhs; simp [-aI_app0, -aB_app0, -aS_app0, -aL_app0, -aI_app10, -aB_app10, -aS_app10, -aLt_app10I, -aLf_app10I, -aLt_app1I, -aLf_app1I]) <;> rfl) ?_
     refine Wo.evs (by conv => lhs; simp [-aI_app0, -aB_app0, -aS_app0, -aL_app0, -aI_app10, -aB_app10, -aS_app10, -aLt_app10I, -aLf_app10I, -aLt_app1I, -aLf_app1I]) ?_
     refine Wo.nil ?_
     cases h10
     refine ⟨_, (VLe.refl _), ?_⟩
     first | rfl | simp [-aI_app0, -aB_app0, -aS_app0, -aL_app0, -aI_app10, -aB_app10, -aS_app10, -aLt_app10I, -aLf_app10I, -aLt_app1I, -aLf_app1I]
   ·rintro V rfl
    generalize w9 = x_8 at *
    try dsimp only at h5
    cases h5
    refine ⟨_, (VLe.refl _), ?_⟩
    first | rfl | simp [-aI_app0, -aB_app0, -aS_app0, -aL_app0, -aI_app10, -aB_app10, -aS_app10, -aLt_app10I, -aLf_app10I, -aLt_app1I, -aLf_app1I]
 ·rintro V rfl
  generalize w4 = x_3 at *
  try dsimp only at h
  by_cases kc13 : x_3 = true
  ·rw [if_pos kc13] at h
   refine Wc.condT' (t := _) (by conv => lhs; simp) (by simpa using kc13) ?_
   refine Wc.seq ?_
   refine Wc.kil (by conv => lhs; simp) ?_
   refine Wc.seq ?_
   refine Wc.evs (by conv => lhs; simp [-aI_app0, -aB_app0, -aS_app0, -aL_app0, -aI_app10, -aB_app10, -aS_app10, -aLt_app10I, -aLf_app10I, -aLt_app1I, -aLf_app1I]) ?_
   refine Wo.nil ?_
   refine Wc.ret ⟨_, (VLe.refl _), res_of (.inr rfl) ?_⟩
   cases h
   exact ⟨_, _, _, by conv => lhs; simp, by (conv => lhs; simp [cx, ioTab, List.range, List.range.loop]) <;> rfl, by first | rfl | simp [-aI_app0, -aB_app0, -aS_app0, -aL_app0, -aI_app10, -aB_app10, -aS_app10, -aLt_app10I, -aLf_app10I, -aLt_app1I, -aLf_app1I]⟩
  ·rw [if_neg kc13] at h
   refine Wc.condF' (t := _) (by conv => lhs; simp) (by simpa using kc13) ?_
   refine Wc.seq ?_
   refine Wc.kil (by conv => lhs; simp) ?_
   refine Wc.skip ?_
   refine Wc.seq ?_
   obtain ⟨l_14, h15, h⟩ := bind_some h
   obtain ⟨gm15, gp15, gq15, gr15⟩ := mkl_some h15
   have gx15 := rep_arr (E := eB) (b := true) gr15
   simp [-aI_app0, -aB_app0, -aS_app0, -aL_app0, -aLt_app1I, -aLf_app1I, -aLt_app10I, -aLf_app10I] at gx15
   rw [Int.one_mul] at gp15
   refine Wc.evs (by conv => lhs; simp [-aI_app0, -aB_app0, -aS_app0, -aL_app0, -aI_app10, -aB_app10, -aS_app10, -aLt_app10I, -aLf_app10I, -aLt_app1I, -aLf_app1I, gm15, gp15, gq15, gx15]) ?_
   refine Wo.gh (vle_co (s := 10) (t1 := (osl eB true l_14)) rfl (by simp) (tle_own rfl) (by conv => lhs; simp)) ?_
   refine Wo.nil ?_
   refine Wc.seq ?_
   refine Wc.evs (by conv => lhs; simp [-aI_app0, -aB_app0, -aS_app0, -aL_app0, -aI_app10, -aB_app10, -aS_app10, -aLt_app10I, -aLf_app10I, -aLt_app1I, -aLf_app1I]) ?_
   refine Wo.gh (vle_co (s := 11) (t1 := (osl eI true ([from2]))) rfl (by simp) (TLe.own (show TLes _ [(iT from2)] from (TLes.cons (TLe.refl _) (TLes.refl _))) rfl) (by conv => lhs; simp)) ?_
   refine Wo.nil ?_
   refine Wc.seq ?_
   refine Wc.block ?_
   refine Wc.gh (vle_pf (s := 11) (t1 := (.slo 1 (arr eI true ([from2])))) rfl (by simp) (PF.le (TLe.slo rfl)) (by conv => lhs; simp)) ?_
   obtain ⟨w46, h47, h⟩ := bind_some h
   refine Wc.start (V1 := [(0, .v (ssl eRelation relations)), (3, .v (iT to)), (5, .v (.ptr true [(iT query.VariableCount), (ssl eAtom query.Atoms), (ssl eI query.Free)])), (10, .v (osl eB true l_14)), (11, .v (.slo 1 (arr eI true ([from2]))))]) (by first | rfl | simp [-aI_app0, -aB_app0, -aS_app0, -aL_app0, -aI_app10, -aB_app10, -aS_app10, -aLt_app10I, -aLf_app10I, -aLt_app1I, -aLf_app1I]) ?_
   refine Wc.mono (r118_0 _ _ h47) ?_
   generalize w46 = reached_48 at *
   rintro ex V ⟨rfl, rfl⟩
   try dsimp only at h
   refine Wc.seq ?_
   obtain ⟨v_49, h50, h⟩ := bind_some h
   obtain ⟨ga50, gb50, gc50⟩ := ix_some h50
   have gn50 := ix_ne h50
   have gf50 := arr_fit (E := eB) (b := true) (i := to.toNat) (l := reached_48) (by omega)
   have gg50_0 := arr_get (E := eB) (b := true) (o := 0) gc50 (by decide)
   simp at gf50 gg50_0
   have gl50 : to.toNat < reached_48.length := by omega
   refine Wc.evs (by conv => lhs; simp [-aI_app0, -aB_app0, -aS_app0, -aL_app0, -aI_app10, -aB_app10, -aS_app10, -aLt_app10I, -aLf_app10I, -aLt_app1I, -aLf_app1I, -getElem?_pos, List.getElem?_cons_zero, List.getElem?_cons_succ, ga50, gb50, gn50, gf50, gg50_0, gl50]) ?_
   refine Wo.nil ?_
   refine Wc.ret ⟨_, (VLe.refl _), res_of (.inr rfl) ?_⟩
   cases h
   exact ⟨_, _, _, by conv => lhs; simp, by (conv => lhs; simp [cx, ioTab, List.range, List.range.loop]) <;> rfl, by first | rfl | simp [-aI_app0, -aB_app0, -aS_app0, -aL_app0, -aI_app10, -aB_app10, -aS_app10, -aLt_app10I, -aLf_app10I, -aLt_app1I, -aLf_app1I, -getElem?_pos, List.getElem?_cons_zero, List.getElem?_cons_succ, ga50, gb50, gn50, gf50, gg50_0, gl50]⟩
instance i118 {from2 : Int} : Rn cx (f118 relations query from2 to) 118 [(ssl eRelation relations), (.agg [(iT query.VariableCount), (ssl eAtom query.Atoms), (ssl eI query.Free)]), (iT from2), (iT to)] (fun (r : Bool) => (.bool r)) (fun r => []) := ⟨fun _ h => r118 h⟩
instance : Io0 cx 118 := ⟨rfl⟩
instance i119_0 : Lp cx (f119_0 relations query) 18 L119_0 (fun (zs : Int) => [(0, .v (ssl eRelation relations)), (3, .v (.ptr true [(iT query.VariableCount), (ssl eAtom query.Atoms), (ssl eI query.Free)])), (8, .v (iT (query.Atoms.length : Int))), (9, .v (iT zs))]) (QO (QX 0 (fun (y : Unit) => [])) (QR (fun (y : Bool) => [(4, .v (.bool y))]))) := Lp.of (by unfold f119_0; exact go)
instance i119 : Rn cx (f119 relations query) 119 [(ssl eRelation relations), (.agg [(iT query.VariableCount), (ssl eAtom query.Atoms), (ssl eI query.Free)])] (fun (r : Bool) => (.bool r)) (fun r => []) := Rn.o rfl (by unfold f119; exact go)
instance : Io0 cx 119 := ⟨rfl⟩
instance i51_1 {x_4 : Int} : Lp cx (f51_1 relations query x_4) 48 L51_1 (fun (zs : Int) => [(0, .v (ssl eRelation relations)), (3, .v (.ptr true [(iT query.VariableCount), (ssl eAtom query.Atoms), (ssl eI query.Free)])), (5, .v (iT x_4)), (13, .v (iT (query.Atoms.length : Int))), (14, .v (iT x_4)), (19, .v (iT (query.Atoms.length : Int))), (20, .v (iT zs))]) (QO (QX 2 (fun (y : Unit) => [(0, .v (ssl eRelation relations)), (3, .v (.ptr true [(iT query.VariableCount), (ssl eAtom query.Atoms), (ssl eI query.Free)])), (13, .v (iT (query.Atoms.length : Int))), (14, .v (iT x_4))])) (QR (fun (y : Int) => [(4, .v (iT y))]))) := Lp.of (f := (fun
 | x_6 =>
  if x_6 < (query.Atoms.length : Int) then
  (f116 relations query x_4 x_6).bind fun o8 =>
  (jn (QN (fun (y : Bool) => [(0, .v (ssl eRelation relations)), (3, .v (.ptr true [(iT query.VariableCount), (ssl eAtom query.Atoms), (ssl eI query.Free)])), (5, .v (iT x_4)), (13, .v (iT (query.Atoms.length : Int))), (14, .v (iT x_4)), (19, .v (iT (query.Atoms.length : Int))), (20, .v (iT x_6)), (42, .v (.bool y))])) ((if o8 = true then
  (f117 relations query x_4 x_6).bind fun o13 =>
  (jn (QN (fun (y : Bool) => [(0, .v (ssl eRelation relations)), (3, .v (.ptr true [(iT query.VariableCount), (ssl eAtom query.Atoms), (ssl eI query.Free)])), (5, .v (iT x_4)), (13, .v (iT (query.Atoms.length : Int))), (14, .v (iT x_4)), (19, .v (iT (query.Atoms.length : Int))), (20, .v (iT x_6)), (42, .v (.bool y))])) ((if ¬ (o13 = true) then
  (f118 relations query x_6 x_4).bind fun o18 =>
  some o18
  else
  some false) : Option (Bool))).bind fun x_15 =>
  some x_15
  else
  some false) : Option (Bool))).bind fun x_10 =>
  if x_10 = true then
  some (.inr (.inr 3))
  else
  some (.inl (w64 (x_6 + 1)))
  else
  some (.inr (.inl ())) : Int -> Option (Int ⊕ (Unit ⊕ Int)))) (by exact go)
instance i51_0 : Lp cx (f51_0 relations query) 48 L51_0 (fun (zs : Int) => [(0, .v (ssl eRelation relations)), (3, .v (.ptr true [(iT query.VariableCount), (ssl eAtom query.Atoms), (ssl eI query.Free)])), (13, .v (iT (query.Atoms.length : Int))), (14, .v (iT zs))]) (QO (QX 0 (fun (y : Unit) => [(0, .v (ssl eRelation relations)), (3, .v (.ptr true [(iT query.VariableCount), (ssl eAtom query.Atoms), (ssl eI query.Free)]))])) (QR (fun (y : Int) => [(4, .v (iT y))]))) := Lp.of (by unfold f51_0; exact go)
instance i51 : Rn cx (f51 relations query) 51 [(ssl eRelation relations), (.agg [(iT query.VariableCount), (ssl eAtom query.Atoms), (ssl eI query.Free)])] (fun (r : Int) => (iT r)) (fun r => []) := Rn.o rfl (by unfold f51; exact go)
instance : Io0 cx 51 := ⟨rfl⟩
instance i52_1 {out_1 : (List Int)} {x_2 : Int} : Lp cx (lw out_1 (f52_1 relations atoms free x_2)) 40 L52_1 (fun (zs : Bool × Int) => [(0, .v (ssl eRelation relations)), (1, .v (ssl eAtom atoms)), (2, .v (ssl eI free)), (7, .v (osl eI true out_1)), (8, .v (iT x_2)), (9, .v (.bool zs.1)), (13, .v (iT (atoms.length : Int))), (14, .v (iT x_2)), (18, .v (iT (atoms.length : Int))), (19, .v (iT zs.2))]) (QX 2 (fun (y : Bool) => [(0, .v (ssl eRelation relations)), (1, .v (ssl eAtom atoms)), (2, .v (ssl eI free)), (7, .v (osl eI true out_1)), (8, .v (iT x_2)), (9, .v (.bool y)), (13, .v (iT (atoms.length : Int))), (14, .v (iT x_2))])) := Lp.of (f := (fun
 | (is_4, x_5) =>
  if x_5 < (atoms.length : Int) then
  (jn (QN (fun (y : Bool) => [(0, .v (ssl eRelation relations)), (1, .v (ssl eAtom atoms)), (2, .v (ssl eI free)), (7, .v (osl eI true out_1)), (8, .v (iT x_2)), (9, .v (.bool y)), (13, .v (iT (atoms.length : Int))), (14, .v (iT x_2)), (18, .v (iT (atoms.length : Int))), (19, .v (iT x_5))])) ((if is_4 = true then
  (f120 relations atoms free x_5 x_2).bind fun o10 =>
  some (decide (¬ (o10 = true)))
  else
  some false) : Option (Bool))).bind fun is_7 =>
  some (.inl (is_7, w64 (x_5 + 1)))
  else
  some (.inr is_4) : Bool × Int -> Option ((Bool × Int) ⊕ Bool))) (by exact go)
instance i52_0 : Lp cx (f52_0 relations atoms free) 40 L52_0 (fun (zs : (List Int) × Int) => [(0, .v (ssl eRelation relations)), (1, .v (ssl eAtom atoms)), (2, .v (ssl eI free)), (7, .v (osl eI true zs.1)), (13, .v (iT (atoms.length : Int))), (14, .v (iT zs.2))]) (QX 0 (fun (y : (List Int)) => [(7, .v (osl eI true y))])) := Lp.of (f := (fun
 | (out_1, x_2) =>
  if x_2 < (atoms.length : Int) then
  (iter (lw out_1  (f52_1 relations atoms free x_2)) (true, 0)).bind fun is_14 =>
  (jn (QN (fun (y : (List Int)) => [(0, .v (ssl eRelation relations)), (1, .v (ssl eAtom atoms)), (2, .v (ssl eI free)), (7, .v (osl eI true y)), (13, .v (iT (atoms.length : Int))), (14, .v (iT x_2))])) ((if is_14 = true then
  (app 8 out_1 ([x_2])).bind fun l_18 =>
  some l_18
  else
  some out_1) : Option (List Int))).bind fun out_20 =>
  some (.inl (out_20, w64 (x_2 + 1)))
  else
  some (.inr out_1) : (List Int) × Int -> Option (((List Int) × Int) ⊕ (List Int)))) (by exact go)
instance i52 : Rn cx (f52 relations atoms free) 52 [(ssl eRelation relations), (ssl eAtom atoms), (ssl eI free)] (fun (r : (List Int)) => (osl eI true r)) (fun r => []) := Rn.o (e := (
  sn 3 7 (osl eI true ([])) <| 
  (iter (f52_0 relations atoms free) ([], 0)).bind fun out_23 =>
  some out_23 : Option (List Int))) rfl (by exact go)
instance : Io0 cx 52 := ⟨rfl⟩
instance i53 : Rn cx (f53 atom) 53 [(.agg [(iT atom.Relation), (ssl eI atom.Terms)])] (fun (r : Atom) => (.agg [(iT r.Relation), (osl eI true r.Terms)])) (fun r => []) := Rn.o (e := (
  sn 2 2 (.ptr true [(iT 0), (osl eI true ([]))]) <| 
  (app 8 ([]) atom.Terms).bind fun l_1 =>
  sn 6 8 (osl eI true l_1) <| 
  some ({ Relation := atom.Relation, Terms := l_1 } : Atom) : Option Atom)) rfl (by exact go)
instance : Io0 cx 53 := ⟨rfl⟩
theorem r59 {s0 : (List Atom)} {r : (List Atom)} (h : f59 s0 = some r) : VJx cx (.ca 59 [(ssl eAtom s0)] (osl eAtom false r) []) := by
 unfold f59 at h
 refine ca_clone (X := noExt) (fun _ _ _ _ h => h) (fun _ _ _ _ h => h) rfl (by decide) rfl (cl_eq h) ?_
 refine Wc.start (V1 := [(0, .v (ssl eAtom s0))]) (by simp) ?_
 refine Wc.seq ?_
 obtain ⟨l_1, h2, h⟩ := bind_some h
 have gx2 := appT_arr (E := eAtom) (b := false) (y := false) h2 (by decide)
 simp [-aI_app0, -aB_app0, -aS_app0, -aL_app0, -aLt_app1I, -aLf_app1I, -aLt_app10I, -aLf_app10I] at gx2
 refine Wc.evs (by conv => lhs; simp [-aI_app0, -aB_app0, -aS_app0, -aL_app0, -aI_app10, -aB_app10, -aS_app10, -aLt_app10I, -aLf_app10I, -aLt_app1I, -aLf_app1I, gx2, h2]) ?_
 refine Wo.gh (vle_co (s := 2) (t1 := (osl eAtom false l_1)) rfl (by simp) (tle_own rfl) (by conv => lhs; simp)) ?_
 refine Wo.nil ?_
 refine Wc.ret (res_of (.inr rfl) ?_)
 cases h
 exact ⟨_, _, _, by conv => lhs; simp, by (conv => lhs; simp [cx, ioTab, List.range, List.range.loop]) <;> rfl, by first | rfl | simp [-aI_app0, -aB_app0, -aS_app0, -aL_app0, -aI_app10, -aB_app10, -aS_app10, -aLt_app10I, -aLf_app10I, -aLt_app1I, -aLf_app1I, gx2, h2]⟩
instance i59 {s0 : (List Atom)} : Rn cx (f59 s0) 59 [(ssl eAtom s0)] (fun (r : (List Atom)) => (osl eAtom false r)) (fun r => []) := ⟨fun _ h => r59 h⟩
instance : Io0 cx 59 := ⟨rfl⟩
theorem r58 {a0 : (List Atom)} {a1 a2 : Int} {r : (List Atom)} (h : f58 a0 a1 a2 = some r) : VJx cx (.ca 58 [(osl eAtom false a0), .int .i64 a1, .int .i64 a2] (ssl eAtom r) [.und]) := by
 exact ca_del (E := eAtom) (zs := [.int .i64 (0), .nils]) (fun _ _ _ _ h => h) rfl rfl (by decide) rfl rfl h
instance i58 {a0 : (List Atom)} {a1 a2 : Int} : Rn cx (f58 a0 a1 a2) 58 [(osl eAtom false a0), .int .i64 a1, .int .i64 a2] (fun r => ssl eAtom r) (fun r => [.und]) := ⟨fun _ h => r58 h⟩
instance i11_0 : Lp cx (lw query (f11_0 relations)) 71 L11_0 (fun (zs : (List RewritingStep) × (List Int) × (List Atom)) => [(0, .v (ssl eRelation relations)), (3, .v (.ptr true [(iT query.VariableCount), (ssl eAtom query.Atoms), (ssl eI query.Free)])), (6, .v (osl eRewritingStep true zs.1)), (7, .v (ssl eI zs.2.1)), (8, .v (ssl eAtom zs.2.2))]) (QO (QX 0 (fun (y : (List RewritingStep)) => [(6, .v (osl eRewritingStep true y))])) (QR (fun (y : (List RewritingStep) × Bool) => [(4, .v (osl eRewritingStep true y.1)), (5, .v (.bool y.2))]))) := Lp.of (f := (fun
 | (out_4, free_5, atoms_6) =>
  if (atoms_6.length : Int) > 0 then
  (f52 relations atoms_6 free_5).bind fun o8 =>
  if (o8.length : Int) = 0 then
  sn 2 4 (osl eRewritingStep true ([])) <| 
  some (.inr (.inr ([], false)))
  else
  (ix o8 0).bind fun v_11 =>
  (ix atoms_6 v_11).bind fun v_13 =>
  (f53 v_13).bind fun o15 =>
  (f54 relations o15).bind fun o17 =>
  (f55 o15).bind fun o19 =>
  (f56 o17 free_5).bind fun o21 =>
  (f56 o19 o17).bind fun o23 =>
  (f56 o23 free_5).bind fun o25 =>
  (app 80 out_4 ([({ Atom := o15, Existential := o21, Universal := o25 } : RewritingStep)])).bind fun l_27 =>
  (f57 free_5 o19).bind fun o29 =>
  sn 1 7 (ssl eI o29) <| 
  (f59 atoms_6).bind fun o31 =>
  (f58 o31 v_11 (w64 (v_11 + 1))).bind fun o33 =>
  some (.inl (l_27, o29, o33))
  else
  some (.inr (.inl out_4)) : (List RewritingStep) × (List Int) × (List Atom) -> Option (((List RewritingStep) × (List Int) × (List Atom)) ⊕ ((List RewritingStep) ⊕ ((List RewritingStep) × Bool))))) (by exact go)
instance i11 : Rn cx (f11 relations query) 11 [(ssl eRelation relations), (.agg [(iT query.VariableCount), (ssl eAtom query.Atoms), (ssl eI query.Free)])] (fun (r : (List RewritingStep) × Bool) => (.tup [(osl eRewritingStep true r.1), (.bool r.2)])) (fun r => []) := Rn.o (e := (
  (f51 relations query).bind fun o1 =>
  if o1 ≠ 1 then
  sn 2 4 (osl eRewritingStep true ([])) <| 
  some ([], false)
  else
  sn 8 6 (osl eRewritingStep true ([])) <| 
  (iter (lw query  (f11_0 relations)) ([], query.Free, query.Atoms)).bind fun o => match o with
  | .inl out_37 =>
  some (out_37, true)
  | .inr (x_38, x_39) =>
  some (x_38, x_39) : Option ((List RewritingStep) × Bool))) rfl (by exact go)
instance : Io0 cx 11 := ⟨rfl⟩
instance i220 : Rn cx (f220 v) 220 [(iT v)] (fun (r : Bool) => (.bool r)) (fun r => []) := Rn.o rfl (by unfold f220; exact go)
instance : Io0 cx 220 := ⟨rfl⟩
instance i176 {list : (List Int)} : Rn cx (f176 list) 176 [(ssl eI list)] (fun (r : Bool) => (.bool r)) (fun r => []) := Rn.o rfl (by unfold f176; exact go)
instance : Io0 cx 176 := ⟨rfl⟩
instance i135 {fact : Fact} : Rn cx (f135 relations fact) 135 [(ssl eRelation relations), (.agg [(iT fact.Relation), (ssl eI fact.Values)])] (fun (r : Bool) => (.bool r)) (fun r => []) := Rn.o (e := (
  (f121 fact.Relation 0 (w64 ((relations.length : Int) - 1))).bind fun o1 =>
  (jn (QN (fun (y : Bool) => [(4, .v (.bool y))])) ((if o1 = true then
  (ix relations fact.Relation).bind fun v_6 =>
  (jn (QN (fun (y : Bool) => [(4, .v (.bool y))])) ((if (fact.Values.length : Int) = v_6.Arity then
  (f176 fact.Values).bind fun o11 =>
  some o11
  else
  some false) : Option (Bool))).bind fun x_8 =>
  some x_8
  else
  some false) : Option (Bool))).bind fun x_3 =>
  some x_3 : Option Bool)) rfl (by exact go)
instance : Io0 cx 135 := ⟨rfl⟩
instance i177 {a : Int} {b : Int} : Rn cx (f177 a b) 177 [(iT a), (iT b)] (fun (r : Int) => (iT r)) (fun r => []) := Rn.o rfl (by unfold f177; exact go)
instance : Io0 cx 177 := ⟨rfl⟩
instance i244 : Rn cx (f244 x) 244 [(iT x)] (fun (r : Bool) => (.bool r)) (fun r => []) := Rn.o rfl (by unfold f244; exact go)
instance : Io0 cx 244 := ⟨rfl⟩
instance i221 : Rn cx (f221 x y) 221 [(iT x), (iT y)] (fun (r : Int) => (iT r)) (fun r => []) := Rn.o rfl (by unfold f221; exact go)
instance : Io0 cx 221 := ⟨rfl⟩
instance i178_0 : Lp cx (f178_0 s1 s2) 36 L178_0 (fun (zs : Int) => [(0, .v (ssl eI s1)), (1, .v (ssl eI s2)), (9, .v (ssl eI s1)), (10, .v (iT (s1.length : Int))), (11, .v (iT zs))]) (QO (QX 0 (fun (y : Unit) => [(0, .v (ssl eI s1)), (1, .v (ssl eI s2))])) (QR (fun (y : Int) => [(4, .v (iT y))]))) := Lp.of (by unfold f178_0; exact go)
instance i178 : Rn cx (f178 s1 s2) 178 [(ssl eI s1), (ssl eI s2)] (fun (r : Int) => (iT r)) (fun r => []) := Rn.o rfl (by unfold f178; exact go)
instance : Io0 cx 178 := ⟨rfl⟩
instance i136 {a : Fact} {b : Fact} : Rn cx (f136 a b) 136 [(.agg [(iT a.Relation), (ssl eI a.Values)]), (.agg [(iT b.Relation), (ssl eI b.Values)])] (fun (r : Int) => (iT r)) (fun r => []) := Rn.o rfl (by unfold f136; exact go)
instance : Io0 cx 136 := ⟨rfl⟩
instance i72_0 : Lp cx (f72_0 db) 44 L72_0 (fun (zs : Int) => [(1, .v (.ptr true [(ssl eRelation db.Relations), (ssl eFact db.Facts)])), (16, .v (ssl eFact db.Facts)), (17, .v (iT (db.Facts.length : Int))), (18, .v (iT zs))]) (QO (QX 0 (fun (y : Unit) => [])) (QR (fun (y : Bool) => [(2, .v (.bool y))]))) := Lp.of (f := (fun
 | x_7 =>
  if x_7 < (db.Facts.length : Int) then
  (ix db.Facts x_7).bind fun v_9 =>
  (f135 db.Relations v_9).bind fun o11 =>
  (jn (QN (fun (y : Bool) => [(1, .v (.ptr true [(ssl eRelation db.Relations), (ssl eFact db.Facts)])), (16, .v (ssl eFact db.Facts)), (17, .v (iT (db.Facts.length : Int))), (18, .v (iT x_7)), (42, .v (.bool y))])) ((if ¬ (o11 = true) then
  some true
  else
  (jn (QN (fun (y : Bool) => [(1, .v (.ptr true [(ssl eRelation db.Relations), (ssl eFact db.Facts)])), (16, .v (ssl eFact db.Facts)), (17, .v (iT (db.Facts.length : Int))), (18, .v (iT x_7)), (42, .v (.bool y))])) ((if x_7 > 0 then
  (ix db.Facts (w64 (x_7 - 1))).bind fun v_19 =>
  (f136 v_19 v_9).bind fun o21 =>
  some (decide (o21 >= 0))
  else
  some false) : Option (Bool))).bind fun x_16 =>
  some x_16) : Option (Bool))).bind fun x_13 =>
  if x_13 = true then
  some (.inr (.inr false))
  else
  some (.inl (w64 (x_7 + 1)))
  else
  some (.inr (.inl ())) : Int -> Option (Int ⊕ (Unit ⊕ Bool)))) (by exact go)
instance i72 : Rn cx (f72 db) 72 [(.agg [(ssl eRelation db.Relations), (ssl eFact db.Facts)])] (fun (r : Bool) => (.bool r)) (fun r => []) := Rn.o (e := (
  (f134 db.Relations).bind fun o1 =>
  (jn (QN (fun (y : Bool) => [(1, .v (.ptr true [(ssl eRelation db.Relations), (ssl eFact db.Facts)])), (14, .v (.bool y))])) ((if ¬ (o1 = true) then
  some true
  else
  some (decide ((db.Facts.length : Int) > 14))) : Option (Bool))).bind fun x_3 =>
  if x_3 = true then
  some false
  else
  (iter (f72_0 db) 0).bind fun o => match o with
  | .inl _ =>
  some true
  | .inr x_26 =>
  some x_26 : Option Bool)) rfl (by exact go)
instance : Io0 cx 72 := ⟨rfl⟩
instance i180 : Rn cx (f180 t) 180 [(iT t)] (fun (r : Bool) => (.bool r)) (fun r => []) := Rn.o rfl (by unfold f180; exact go)
instance : Io0 cx 180 := ⟨rfl⟩
instance i137_0 : Lp cx (f137_0 relations rewriting) 64 L137_0 (fun (zs : Int) => [(0, .v (ssl eRelation relations)), (8, .v (ssl eRewritingStep rewriting)), (9, .v (iT (rewriting.length : Int))), (10, .v (iT zs))]) (QO (QX 0 (fun (y : Unit) => [])) (QR (fun (y : Bool) => [(4, .v (.bool y))]))) := Lp.of (f := (fun
 | x_1 =>
  if x_1 < (rewriting.length : Int) then
  (ix rewriting x_1).bind fun v_3 =>
  (jn (QN (fun (y : Bool) => [(0, .v (ssl eRelation relations)), (6, .v (.ptr true [(iT v_3.Atom.Relation), (ssl eI v_3.Atom.Terms), (ssl eI v_3.Existential), (ssl eI v_3.Universal)])), (7, .v (.ptr true [(iT v_3.Atom.Relation), (ssl eI v_3.Atom.Terms)])), (8, .v (ssl eRewritingStep rewriting)), (9, .v (iT (rewriting.length : Int))), (10, .v (iT x_1)), (44, .v (.bool y))])) ((if x_1 >= 3 then
  some true
  else
  (f134 relations).bind fun o8 =>
  (jn (QN (fun (y : Bool) => [(0, .v (ssl eRelation relations)), (6, .v (.ptr true [(iT v_3.Atom.Relation), (ssl eI v_3.Atom.Terms), (ssl eI v_3.Existential), (ssl eI v_3.Universal)])), (7, .v (.ptr true [(iT v_3.Atom.Relation), (ssl eI v_3.Atom.Terms)])), (8, .v (ssl eRewritingStep rewriting)), (9, .v (iT (rewriting.length : Int))), (10, .v (iT x_1)), (44, .v (.bool y))])) ((if ¬ (o8 = true) then
  some true
  else
  (f121 v_3.Atom.Relation 0 (w64 ((relations.length : Int) - 1))).bind fun o13 =>
  (jn (QN (fun (y : Bool) => [(0, .v (ssl eRelation relations)), (6, .v (.ptr true [(iT v_3.Atom.Relation), (ssl eI v_3.Atom.Terms), (ssl eI v_3.Existential), (ssl eI v_3.Universal)])), (7, .v (.ptr true [(iT v_3.Atom.Relation), (ssl eI v_3.Atom.Terms)])), (8, .v (ssl eRewritingStep rewriting)), (9, .v (iT (rewriting.length : Int))), (10, .v (iT x_1)), (44, .v (.bool y))])) ((if ¬ (o13 = true) then
  some true
  else
  (ix relations v_3.Atom.Relation).bind fun v_18 =>
  some (decide ((v_3.Atom.Terms.length : Int) ≠ v_18.Arity))) : Option (Bool))).bind fun x_15 =>
  some x_15) : Option (Bool))).bind fun x_10 =>
  some x_10) : Option (Bool))).bind fun x_5 =>
  if x_5 = true then
  some (.inr (.inr false))
  else
  (f179 v_3.Atom.Terms (fun x0 => f180 x0)).bind fun o21 =>
  if o21 = true then
  some (.inr (.inr false))
  else
  (f54 relations v_3.Atom).bind fun o24 =>
  (f181 v_3.Existential o24).bind fun o26 =>
  (jn (QN (fun (y : Bool) => [(0, .v (ssl eRelation relations)), (8, .v (ssl eRewritingStep rewriting)), (9, .v (iT (rewriting.length : Int))), (10, .v (iT x_1)), (62, .v (.bool y))])) ((if ¬ (o26 = true) then
  some true
  else
  (f55 v_3.Atom).bind fun o31 =>
  (f181 v_3.Universal o31).bind fun o33 =>
  some (decide (¬ (o33 = true)))) : Option (Bool))).bind fun x_28 =>
  if x_28 = true then
  some (.inr (.inr false))
  else
  some (.inl (w64 (x_1 + 1)))
  else
  some (.inr (.inl ())) : Int -> Option (Int ⊕ (Unit ⊕ Bool)))) (by exact go)
instance i137 : Rn cx (f137 relations rewriting) 137 [(ssl eRelation relations), (ssl eRewritingStep rewriting)] (fun (r : Bool) => (.bool r)) (fun r => []) := Rn.o rfl (by unfold f137; exact go)
instance : Io0 cx 137 := ⟨rfl⟩
instance i246 : Rn cx (f246 x y) 246 [(.int .u64 x), (.int .u64 y)] (fun (r : Int × Int) => (.tup [(.int .u64 r.1), (.int .u64 r.2)])) (fun r => []) := Rn.o rfl (by unfold f246; exact go)
instance : Io0 cx 246 := ⟨rfl⟩
instance i223 : Rn cx (f223 x y) 223 [(.int .u64 x), (.int .u64 y)] (fun (r : Int × Int) => (.tup [(.int .u64 r.1), (.int .u64 r.2)])) (fun r => []) := Rn.o rfl (by unfold f223; exact go)
instance : Io0 cx 223 := ⟨rfl⟩
instance i182_0 : Lp cx f182_0 48 L182_0 (fun (zs : (List Int) × Int) => [(7, .v (.sl true false 1 0 (arr eI true zs.1))), (8, .v (iT zs.2))]) (QX 0 (fun (y : (List Int)) => [(7, .v (.sl true false 1 0 (arr eI true y)))])) := Lp.of (f := (fun
 | (newslice_14, n_15) =>
  if n_15 < (newslice_14.length : Int) then
  (cutL newslice_14 0 n_15).bind fun z_17 =>
  cs 3 <| 
  some (.inl ((csL newslice_14 n_15.toNat), w64 (n_15 + (min n_15 ((newslice_14.length : Int) - n_15)))))
  else
  some (.inr newslice_14) : (List Int) × Int -> Option (((List Int) × Int) ⊕ (List Int)))) (by exact go)
instance i182 {x : (List Int)} {count : Int} : Rn cx (f182 x count) 182 [(ssl eI x), (iT count)] (fun (r : (List Int)) => (osl eI true r)) (fun r => []) := Rn.o (e := (
  (jn (QN (fun (y : Unit) => [(0, .v (ssl eI x)), (1, .v (iT count))])) ((if count < 0 then
  none
  else
  some ()) : Option Unit)).bind fun _ =>
  (f223 (IntKind.u64.wrap (x.length : Int)) (IntKind.u64.wrap count)).bind fun o4 =>
  (jn (QN (fun (y : Bool) => [(0, .v (ssl eI x)), (6, .v (.int .u64 o4.2)), (26, .v (.bool y))])) ((if o4.1 > 0 then
  some true
  else
  some (decide (o4.2 > 9223372036854775807))) : Option (Bool))).bind fun x_6 =>
  (jn (QN (fun (y : Unit) => [(0, .v (ssl eI x)), (6, .v (.int .u64 o4.2))])) ((if x_6 = true then
  none
  else
  some ()) : Option Unit)).bind fun _ =>
  (mkl 8 (w64 o4.2) 0).bind fun l_12 =>
  cp 6 <| 
  (iter f182_0 ((cpL l_12 x), ((min x.length l_12.length : Nat) : Int))).bind fun newslice_21 =>
  sn 2 4 (osl eI true newslice_21) <| 
  some newslice_21 : Option (List Int))) rfl (by exact go)
instance : Io0 cx 182 := ⟨rfl⟩
instance i138 : Rn cx (f138 n0) 138 [(iT n0)] (fun (r : (List Int)) => (osl eI true r)) (fun r => []) := Rn.o (e := (
  sn 3 3 (osl eI true ([-1])) <| 
  (f182 ([-1]) n0).bind fun o1 =>
  some o1 : Option (List Int))) rfl (by exact go)
instance : Io0 cx 138 := ⟨rfl⟩
instance i202_0 : Lp cx (f202_0 s1 s2) 26 L202_0 (fun (zs : Int) => [(0, .v (ssl eI s1)), (1, .v (ssl eI s2)), (12, .v (iT (s1.length : Int))), (13, .v (iT zs))]) (QO (QX 0 (fun (y : Unit) => [])) (QR (fun (y : Bool) => [(4, .v (.bool y))]))) := Lp.of (by unfold f202_0; exact go)
instance i202 : Rn cx (f202 s1 s2) 202 [(ssl eI s1), (ssl eI s2)] (fun (r : Bool) => (.bool r)) (fun r => []) := Rn.o rfl (by unfold f202; exact go)
instance : Io0 cx 202 := ⟨rfl⟩
instance i155 {a : Fact} {b : Fact} : Rn cx (f155 relations a b) 155 [(ssl eRelation relations), (.agg [(iT a.Relation), (ssl eI a.Values)]), (.agg [(iT b.Relation), (ssl eI b.Values)])] (fun (r : Bool) => (.bool r)) (fun r => []) := Rn.o rfl (by unfold f155; exact go)
instance : Io0 cx 155 := ⟨rfl⟩
instance i94_0 : Lp cx (f94_0 db) 54 L94_0 (fun (zs : (List (List Int)) × Int) => [(1, .v (.ptr true [(ssl eRelation db.Relations), (ssl eFact db.Facts)])), (3, .v (osl (eL eI) true zs.1)), (9, .v (ssl eFact db.Facts)), (10, .v (iT (db.Facts.length : Int))), (11, .v (iT zs.2))]) (QX 0 (fun (y : (List (List Int))) => [(3, .v (osl (eL eI) true y))])) := Lp.of (f := (fun
 | (out_1, x_2) =>
  if x_2 < (db.Facts.length : Int) then
  (ix db.Facts x_2).bind fun v_4 =>
  (jn (QN (fun (y : Bool) => [(1, .v (.ptr true [(ssl eRelation db.Relations), (ssl eFact db.Facts)])), (3, .v (osl (eL eI) true out_1)), (4, .v (iT x_2)), (6, .v (iT (w64 ((out_1.length : Int) - 1)))), (9, .v (ssl eFact db.Facts)), (10, .v (iT (db.Facts.length : Int))), (11, .v (iT x_2)), (36, .v (.bool y))])) ((if (w64 ((out_1.length : Int) - 1)) >= 0 then
  (ix out_1 (w64 ((out_1.length : Int) - 1))).bind fun v_9 =>
  (ix v_9 0).bind fun v_11 =>
  (ix db.Facts v_11).bind fun v_13 =>
  (f155 db.Relations v_13 v_4).bind fun o15 =>
  some o15
  else
  some false) : Option (Bool))).bind fun x_6 =>
  (jn (QN (fun (y : (List (List Int))) => [(1, .v (.ptr true [(ssl eRelation db.Relations), (ssl eFact db.Facts)])), (3, .v (osl (eL eI) true y)), (9, .v (ssl eFact db.Facts)), (10, .v (iT (db.Facts.length : Int))), (11, .v (iT x_2))])) ((if x_6 = true then
  (ix out_1 (w64 ((out_1.length : Int) - 1))).bind fun v_20 =>
  (app 8 v_20 ([x_2])).bind fun l_22 =>
  some (out_1.set (w64 ((out_1.length : Int) - 1)).toNat l_22)
  else
  sn 3 49 (osl eI true ([x_2])) <| 
  (app 24 out_1 ([[x_2]])).bind fun l_25 =>
  some l_25) : Option (List (List Int)))).bind fun out_27 =>
  some (.inl (out_27, w64 (x_2 + 1)))
  else
  some (.inr out_1) : (List (List Int)) × Int -> Option (((List (List Int)) × Int) ⊕ (List (List Int))))) (by exact go)
instance i94 : Rn cx (f94 db) 94 [(.agg [(ssl eRelation db.Relations), (ssl eFact db.Facts)])] (fun (r : (List (List Int))) => (osl (eL eI) true r)) (fun r => []) := Rn.o (e := (
  sn 4 3 (osl (eL eI) true ([])) <| 
  (iter (f94_0 db) ([], 0)).bind fun out_30 =>
  some out_30 : Option (List (List Int)))) rfl (by exact go)
instance : Io0 cx 94 := ⟨rfl⟩
instance i224 : Rn cx (f224 t) 224 [(iT t)] (fun (r : Bool) => (.bool r)) (fun r => []) := Rn.o rfl (by unfold f224; exact go)
instance : Io0 cx 224 := ⟨rfl⟩
instance i225 : Rn cx (f225 v) 225 [(iT v)] (fun (r : Int) => (iT r)) (fun r => []) := Rn.o rfl (by unfold f225; exact go)
instance : Io0 cx 225 := ⟨rfl⟩
instance i183_0 : Lp cx (f183_0 terms from2) 56 L183_0 (fun (zs : (List Int) × Int) => [(2, .v (ssl eI from2)), (8, .v (osl eI true zs.1)), (13, .v (ssl eI terms)), (14, .v (iT (terms.length : Int))), (15, .v (iT zs.2))]) (QO (QX 0 (fun (y : (List Int)) => [(8, .v (osl eI true y))])) (QR (fun (y : (List Int) × Bool) => [(6, .v (osl eI true y.1)), (7, .v (.bool y.2))]))) := Lp.of (f := (fun
 | (out_3, x_4) =>
  if x_4 < (terms.length : Int) then
  (ix terms x_4).bind fun v_6 =>
  (f224 v_6).bind fun o8 =>
  (jn (QO (QN (fun (y : (List Int)) => [(2, .v (ssl eI from2)), (8, .v (osl eI true y)), (13, .v (ssl eI terms)), (14, .v (iT (terms.length : Int))), (15, .v (iT x_4))])) (QR (fun (y : (List Int) × Bool) => [(6, .v (osl eI true y.1)), (7, .v (.bool y.2))]))) ((if ¬ (o8 = true) then
  (ix from2 x_4).bind fun v_13 =>
  (f225 v_6).bind fun o15 =>
  if o15 ≠ v_13 then
  sn 2 6 (osl eI true ([])) <| 
  some (.inr ([], false))
  else
  some (.inl out_3)
  else
  (ix out_3 v_6).bind fun v_18 =>
  (jn (QO (QN (fun (y : (List Int)) => [(2, .v (ssl eI from2)), (8, .v (osl eI true y)), (13, .v (ssl eI terms)), (14, .v (iT (terms.length : Int))), (15, .v (iT x_4))])) (QR (fun (y : (List Int) × Bool) => [(6, .v (osl eI true y.1)), (7, .v (.bool y.2))]))) ((if v_18 < 0 then
  (ix from2 x_4).bind fun v_23 =>
  some (.inl (out_3.set v_6.toNat v_23))
  else
  (ix from2 x_4).bind fun v_26 =>
  if v_18 ≠ v_26 then
  sn 2 6 (osl eI true ([])) <| 
  some (.inr ([], false))
  else
  some (.inl out_3)) : Option ((List Int) ⊕ ((List Int) × Bool)))).bind fun o => match o with
  | .inl out_29 =>
  some (.inl out_29)
  | .inr (x_30, x_31) =>
  some (.inr (x_30, x_31))) : Option ((List Int) ⊕ ((List Int) × Bool)))).bind fun o => match o with
  | .inl out_32 =>
  some (.inl (out_32, w64 (x_4 + 1)))
  | .inr (x_33, x_34) =>
  some (.inr (.inr (x_33, x_34)))
  else
  some (.inr (.inl out_3)) : (List Int) × Int -> Option (((List Int) × Int) ⊕ ((List Int) ⊕ ((List Int) × Bool))))) (by exact go)
instance i183 : Rn cx (f183 values terms from2) 183 [(ssl eI values), (ssl eI terms), (ssl eI from2)] (fun (r : (List Int) × Bool) => (.tup [(osl eI true r.1), (.bool r.2)])) (fun r => []) := Rn.o rfl (by unfold f183; exact go)
instance : Io0 cx 183 := ⟨rfl⟩
instance i139_1 {db : Database} {list : (List (List Int))} {rewriting : (List RewritingStep)} {values : (List Int)} {v_2 : RewritingStep} {v_4 : Relation} {x_6 : Int} {v_10 : (List Int)} {o21 : ((List Int) × Bool)} {rec : Database -> (List (List Int)) -> (List RewritingStep) -> (List Int) -> Option Bool} [hrec : ∀ db list rewriting values, Rn cx (rec db list rewriting values) 139 [(.agg [(ssl eRelation db.Relations), (ssl eFact db.Facts)]), (ssl (eL eI) list), (ssl eRewritingStep rewriting), (ssl eI values)] (fun o => (.bool o)) (fun o => [])] : Lp cx (lw (values, v_4, x_6) (f139_1 db list rewriting rec v_2 v_10 o21)) 100 L139_1 (fun (zs : Bool × Int) => [(1, .v (ssl (eL eI) list)), (2, .v (ssl eRewritingStep rewriting)), (3, .v (ssl eI values)), (4, .v (.ptr true [(ssl eRelation db.Relations), (ssl eFact db.Facts)])), (9, .v (.ptr true [(iT v_2.Atom.Relation), (ssl eI v_2.Atom.Terms)])), (10, .v (iT v_4.KeyLength)), (12, .v (ssl eI v_10)), (14, .v (osl eI true o21.1)), (15, .v (.bool zs.1)), (16, .v (iT zs.2)), (33, .v (ssl (eL eI) list)), (34, .v (iT (list.length : Int))), (35, .v (iT x_6))]) (QX 2 (fun (y : Bool) => [(1, .v (ssl (eL eI) list)), (2, .v (ssl eRewritingStep rewriting)), (3, .v (ssl eI values)), (4, .v (.ptr true [(ssl eRelation db.Relations), (ssl eFact db.Facts)])), (9, .v (.ptr true [(iT v_2.Atom.Relation), (ssl eI v_2.Atom.Terms)])), (10, .v (iT v_4.KeyLength)), (15, .v (.bool y)), (33, .v (ssl (eL eI) list)), (34, .v (iT (list.length : Int))), (35, .v (iT x_6))])) := Lp.of (f := (fun
 | (ok_23, i_24) =>
  (jn (QN (fun (y : Bool) => [(1, .v (ssl (eL eI) list)), (2, .v (ssl eRewritingStep rewriting)), (3, .v (ssl eI values)), (4, .v (.ptr true [(ssl eRelation db.Relations), (ssl eFact db.Facts)])), (9, .v (.ptr true [(iT v_2.Atom.Relation), (ssl eI v_2.Atom.Terms)])), (10, .v (iT v_4.KeyLength)), (12, .v (ssl eI v_10)), (14, .v (osl eI true o21.1)), (15, .v (.bool ok_23)), (16, .v (iT i_24)), (33, .v (ssl (eL eI) list)), (34, .v (iT (list.length : Int))), (35, .v (iT x_6)), (70, .v (.bool y))])) ((if i_24 < (v_10.length : Int) then
  some ok_23
  else
  some false) : Option (Bool))).bind fun x_25 =>
  if x_25 = true then
  (ix v_10 i_24).bind fun v_29 =>
  (ix db.Facts v_29).bind fun v_31 =>
  (f183 o21.1 v_2.Atom.Terms v_31.Values).bind fun o33 =>
  (jn (QN (fun (y : Bool) => [(1, .v (ssl (eL eI) list)), (2, .v (ssl eRewritingStep rewriting)), (3, .v (ssl eI values)), (4, .v (.ptr true [(ssl eRelation db.Relations), (ssl eFact db.Facts)])), (9, .v (.ptr true [(iT v_2.Atom.Relation), (ssl eI v_2.Atom.Terms)])), (10, .v (iT v_4.KeyLength)), (12, .v (ssl eI v_10)), (14, .v (osl eI true o21.1)), (15, .v (.bool y)), (16, .v (iT i_24)), (33, .v (ssl (eL eI) list)), (34, .v (iT (list.length : Int))), (35, .v (iT x_6))])) ((if o33.2 = true then
  (cutL rewriting 1 rewriting.length).bind fun l_38 =>
  (rec db list l_38 o33.1).bind fun o40 =>
  some o40
  else
  some false) : Option (Bool))).bind fun ok_35 =>
  some (.inl (ok_35, w64 (i_24 + 1)))
  else
  some (.inr ok_23) : Bool × Int -> Option ((Bool × Int) ⊕ Bool))) (by exact go)
instance i139_0 {db : Database} {list : (List (List Int))} {rewriting : (List RewritingStep)} {values : (List Int)} {v_2 : RewritingStep} {v_4 : Relation} {rec : Database -> (List (List Int)) -> (List RewritingStep) -> (List Int) -> Option Bool} [hrec : ∀ db list rewriting values, Rn cx (rec db list rewriting values) 139 [(.agg [(ssl eRelation db.Relations), (ssl eFact db.Facts)]), (ssl (eL eI) list), (ssl eRewritingStep rewriting), (ssl eI values)] (fun o => (.bool o)) (fun o => [])] : Lp cx (f139_0 db list rewriting values rec v_2 v_4) 100 L139_0 (fun (zs : Int) => [(1, .v (ssl (eL eI) list)), (2, .v (ssl eRewritingStep rewriting)), (3, .v (ssl eI values)), (4, .v (.ptr true [(ssl eRelation db.Relations), (ssl eFact db.Facts)])), (9, .v (.ptr true [(iT v_2.Atom.Relation), (ssl eI v_2.Atom.Terms)])), (10, .v (iT v_4.KeyLength)), (33, .v (ssl (eL eI) list)), (34, .v (iT (list.length : Int))), (35, .v (iT zs))]) (QO (QX 0 (fun (y : Unit) => [])) (QR (fun (y : Bool) => [(8, .v (.bool y))]))) := Lp.of (f := (fun
 | x_6 =>
  if x_6 < (list.length : Int) then
  (jb 1 (QO (QN (fun (y : Unit) => [(1, .v (ssl (eL eI) list)), (2, .v (ssl eRewritingStep rewriting)), (3, .v (ssl eI values)), (4, .v (.ptr true [(ssl eRelation db.Relations), (ssl eFact db.Facts)])), (9, .v (.ptr true [(iT v_2.Atom.Relation), (ssl eI v_2.Atom.Terms)])), (10, .v (iT v_4.KeyLength)), (33, .v (ssl (eL eI) list)), (34, .v (iT (list.length : Int))), (35, .v (iT x_6))])) (QR (fun (y : Bool) => [(8, .v (.bool y))]))) (((ix list x_6).bind fun v_10 =>
  (ix v_10 0).bind fun v_12 =>
  (ix db.Facts v_12).bind fun v_14 =>
  if v_14.Relation ≠ v_2.Atom.Relation then
  some (.inl ())
  else
  (cutL v_2.Atom.Terms 0 v_4.KeyLength).bind fun l_17 =>
  (cutL v_14.Values 0 v_4.KeyLength).bind fun l_19 =>
  (f183 values l_17 l_19).bind fun o21 =>
  (iter (lw (values, v_4, x_6)  (f139_1 db list rewriting rec v_2 v_10 o21)) (o21.2, 0)).bind fun ok_44 =>
  if ok_44 = true then
  some (.inr true)
  else
  some (.inl ())) : Option (Unit ⊕ Bool))).bind fun o => match o with
  | .inl _ =>
  some (.inl (w64 (x_6 + 1)))
  | .inr x_46 =>
  some (.inr (.inr x_46))
  else
  some (.inr (.inl ())) : Int -> Option (Int ⊕ (Unit ⊕ Bool)))) (by exact go)
instance i139 : ∀ (n : Nat) db list rewriting values, Rn cx (f139 n db list rewriting values) 139 [(.agg [(ssl eRelation db.Relations), (ssl eFact db.Facts)]), (ssl (eL eI) list), (ssl eRewritingStep rewriting), (ssl eI values)] (fun (r : Bool) => (.bool r)) (fun r => []) := by
 intro n
 induction n with
 | zero => intro db list rewriting values; exact ⟨fun r h => by simp [f139] at h⟩
 | succ n ih =>
  intro db list rewriting values
  refine Rn.of rfl rfl (by decide) rfl ?_
  simp only [f139]
  exact go
instance : Io0 cx 139 := ⟨rfl⟩
instance i73 : Rn cx (f73 db rewriting values) 73 [(.agg [(ssl eRelation db.Relations), (ssl eFact db.Facts)]), (ssl eRewritingStep rewriting), (ssl eI values)] (fun (r : Bool) => (.bool r)) (fun r => []) := Rn.o (e := (
  (f72 db).bind fun o1 =>
  (jn (QN (fun (y : Bool) => [(1, .v (ssl eRewritingStep rewriting)), (2, .v (ssl eI values)), (3, .v (.ptr true [(ssl eRelation db.Relations), (ssl eFact db.Facts)])), (22, .v (.bool y))])) ((if ¬ (o1 = true) then
  some true
  else
  (f137 db.Relations rewriting).bind fun o6 =>
  (jn (QN (fun (y : Bool) => [(1, .v (ssl eRewritingStep rewriting)), (2, .v (ssl eI values)), (3, .v (.ptr true [(ssl eRelation db.Relations), (ssl eFact db.Facts)])), (22, .v (.bool y))])) ((if ¬ (o6 = true) then
  some true
  else
  some (decide ((values.length : Int) > 4))) : Option (Bool))).bind fun x_8 =>
  some x_8) : Option (Bool))).bind fun x_3 =>
  if x_3 = true then
  some false
  else
  (f138 4).bind fun o12 =>
  (nel o12).bind fun z_14 =>
  cp 3 <| 
  (f94 db).bind fun o16 =>
  (f139 64 db o16 rewriting (cpL o12 values)).bind fun o18 =>
  some o18 : Option Bool)) rfl (by exact go)
instance : Io0 cx 73 := ⟨rfl⟩
end
end Go.Proofs.YtjfeimhiiomgoaaGreatH
