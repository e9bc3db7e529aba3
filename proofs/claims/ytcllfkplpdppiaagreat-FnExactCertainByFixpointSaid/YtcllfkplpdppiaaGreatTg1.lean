import Derived.Test.YtcllfkplpdppiaaGreatTg1c
set_option maxHeartbeats 2000000
set_option linter.unusedVariables false
set_option linter.unusedSimpArgs false
set_option linter.defProp false
set_option linter.unusedSectionVars false
set_option maxRecDepth 100000
namespace Go.Proofs.YtcllfkplpdppiaaGreatH
open Go
noncomputable section
instance i194_0 {s0 : (List (List Int))} {g_f : Nat} {cp_f : List T} {f : (List Int) → Option Bool} [hp_f : ∀ x0, Rn cx (f x0) g_f ((ssl eI x0) :: cp_f) (fun o => (.bool o)) (fun _ => [])] [Io0 cx g_f] : Lp cx (f194_0 s0 f) 19 L194_0 (fun (zs : Int) => [(0, .v (ssl (eL eI) s0)), (1, .v (.fn g_f cp_f)), (7, .v (iT (s0.length : Int))), (8, .v (iT zs))]) (QO (QX 0 (fun (y : Unit) => [])) (QR (fun (y : Int) => [(4, .v (iT y))]))) := by
 refine Lp.of ?_; unfold f194_0; exact go
instance i194 {s0 : (List (List Int))} {g_f : Nat} {cp_f : List T} {f : (List Int) → Option Bool} [hp_f : ∀ x0, Rn cx (f x0) g_f ((ssl eI x0) :: cp_f) (fun o => (.bool o)) (fun _ => [])] [Io0 cx g_f] : Rn cx (f194 s0 f) 194 [(ssl (eL eI) s0), (.fn g_f cp_f)] (fun (r : Int) => (iT r)) (fun r => []) := by
 refine Rn.of rfl rfl (by decide) rfl ?_; unfold f194; exact go
instance : Io0 cx 194 := ⟨rfl⟩
instance i137 {s0 : (List (List Int))} {g_f : Nat} {cp_f : List T} {f : (List Int) → Option Bool} [hp_f : ∀ x0, Rn cx (f x0) g_f ((ssl eI x0) :: cp_f) (fun o => (.bool o)) (fun _ => [])] [Io0 cx g_f] : Rn cx (f137 s0 f) 137 [(ssl (eL eI) s0), (.fn g_f cp_f)] (fun (r : Bool) => (.bool r)) (fun r => []) := by
 refine Rn.of rfl rfl (by decide) rfl ?_; unfold f137; exact go
instance : Io0 cx 137 := ⟨rfl⟩
instance i182_0 {s0 : (List Int)} {v : Int} : Lp cx (f182_0 s0 v) 19 L182_0 (fun (zs : Int) => [(0, .v (ssl eI s0)), (1, .v (iT v)), (7, .v (iT (s0.length : Int))), (8, .v (iT zs))]) (QO (QX 0 (fun (y : Unit) => [])) (QR (fun (y : Int) => [(4, .v (iT y))]))) := by
 refine Lp.of ?_; unfold f182_0; exact go
instance i182 {s0 : (List Int)} {v : Int} : Rn cx (f182 s0 v) 182 [(ssl eI s0), (iT v)] (fun (r : Int) => (iT r)) (fun r => []) := by
 refine Rn.of rfl rfl (by decide) rfl ?_; unfold f182; exact go
instance : Io0 cx 182 := ⟨rfl⟩
instance i125 {s0 : (List Int)} {v : Int} : Rn cx (f125 s0 v) 125 [(ssl eI s0), (iT v)] (fun (r : Bool) => (.bool r)) (fun r => []) := by
 refine Rn.of rfl rfl (by decide) rfl ?_; unfold f125; exact go
instance : Io0 cx 125 := ⟨rfl⟩
instance i195 {n0 : Int} {c : (List Int)} : Rn cx (f195 n0 c) 195 [(iT n0), (.ptr false [(ssl eI c)])] (fun (r : Bool) => (.bool r)) (fun r => []) := by
 refine Rn.of rfl rfl (by decide) rfl ?_; unfold f195; exact go
instance : Io0 cx 195 := ⟨rfl⟩
instance i139 {a : (List Int)} {b : (List Int)} : Rn cx (f139 a b) 139 [(ssl eI a), (ssl eI b)] (fun (r : Bool) => (.bool r)) (fun r => []) := by
 refine Rn.of rfl rfl (by decide) rfl ?_; unfold f139; exact go
instance : Io0 cx 139 := ⟨rfl⟩
instance i138 {own : (List Int)} {c : (List Int)} : Rn cx (f138 own c) 138 [(ssl eI own), (.ptr false [(ssl eI c)])] (fun (r : Bool) => (.bool r)) (fun r => []) := by
 refine Rn.of rfl rfl (by decide) rfl ?_; unfold f138; exact go
instance : Io0 cx 138 := ⟨rfl⟩
instance i62 {sets : (List (List Int))} {set1 : (List Int)} : Rn cx (f62 sets set1) 62 [(ssl (eL eI) sets), (ssl eI set1)] (fun (r : Bool) => (.bool r)) (fun r => []) := by
 refine Rn.of rfl rfl (by decide) rfl ?_; unfold f62; exact go
instance : Io0 cx 62 := ⟨rfl⟩
instance i244 {set0 : (List Int)} {fact : Int} : Rn cx (f244 set0 fact) 244 [(ssl eI set0), (iT fact)] (fun (r : (List Int)) => (ssl eI r)) (fun r => []) := by
 refine Rn.of (e := (
  sn 4 7 (osl eI true ([fact])) <| 
  sn 0 7 (ssl eI ([fact])) <| 
  (f104 set0 ([fact])).bind fun o1 =>
  some o1 : Option (List Int))) rfl rfl (by decide) rfl ?_
 exact go
instance : Io0 cx 244 := ⟨rfl⟩
instance i206_0 {known : (List (List Int))} {set1 : (List Int)} {block : (List Int)} : Lp cx (f206_0 known set1 block) 27 L206_0 (fun (zs : Int) => [(0, .v (ssl (eL eI) known)), (1, .v (ssl eI set1)), (9, .v (ssl eI block)), (10, .v (iT (block.length : Int))), (11, .v (iT zs))]) (QO (QX 0 (fun (y : Unit) => [])) (QR (fun (y : Bool) => [(6, .v (.bool y))]))) := by
 refine Lp.of (f := (fun
 | x_1 =>
  if x_1 < (block.length : Int) then
  (ix block x_1).bind fun v_3 =>
  (f125 set1 v_3).bind fun o5 =>
  (jn (QN (fun (y : Bool) => [(0, .v (ssl (eL eI) known)), (1, .v (ssl eI set1)), (9, .v (ssl eI block)), (10, .v (iT (block.length : Int))), (11, .v (iT x_1)), (25, .v (.bool y))])) ((if o5 = true then
  some true
  else
  (f244 set1 v_3).bind fun o10 =>
  (f62 known o10).bind fun o12 =>
  some (decide (¬ (o12 = true)))) : Option (Bool))).bind fun x_7 =>
  if x_7 = true then
  some (.inr (.inr false))
  else
  some (.inl (w64 (x_1 + 1)))
  else
  some (.inr (.inl ())) : Int → Option (Int ⊕ (Unit ⊕ Bool)))) ?_
 exact go
instance i206 {known : (List (List Int))} {set1 : (List Int)} {block : (List Int)} : Rn cx (f206 known set1 block) 206 [(ssl (eL eI) known), (ssl eI set1), (ssl eI block)] (fun (r : Bool) => (.bool r)) (fun r => []) := by
 refine Rn.of rfl rfl (by decide) rfl ?_; unfold f206; exact go
instance : Io0 cx 206 := ⟨rfl⟩
instance i205 {block : (List Int)} {c : (List (List Int))} {c2 : (List Int)} : Rn cx (f205 block c c2) 205 [(ssl eI block), (.ptr false [(ssl (eL eI) c)]), (.ptr false [(ssl eI c2)])] (fun (r : Bool) => (.bool r)) (fun r => []) := by
 refine Rn.of rfl rfl (by decide) rfl ?_; unfold f205; exact go
instance : Io0 cx 205 := ⟨rfl⟩
theorem r146_0 {o4 : (List (List Int))} {o6 : (List (List Int))} {o8 : (List (List Int))} : ∀ zs zo, iter (f146_0 o4 o8) zs = some zo → Wc cx 73 (.loop L146_0) [(5, .v (.ptr true [(osl (eL eI) false zs.1)])), (6, .v (osl (eL eI) false zs.2.1)), (7, .v (osl (eL eI) true o4)), (8, .v (osl (eL eI) true o6)), (29, .v (ssl (eL eI) o8)), (30, .v (iT (o8.length : Int))), (31, .v (iT zs.2.2))] ((QX 0 (fun (y : (List (List Int)) × (List (List Int))) => [(5, .v (.ptr true [(osl (eL eI) false y.1)])), (6, .v (osl (eL eI) false y.2)), (8, .v (osl (eL eI) true o6))])) zo) := by
 intro zs0 zo0 zh0
 refine Wc.postG ?_
 refine iter_run (f := (f146_0 o4 o8)) (P := fun zs zo => Wc cx 73 (.loop L146_0) [(5, .v (.ptr true [(osl (eL eI) false zs.1)])), (6, .v (osl (eL eI) false zs.2.1)), (7, .v (osl (eL eI) true o4)), (8, .v (osl (eL eI) true o6)), (29, .v (ssl (eL eI) o8)), (30, .v (iT (o8.length : Int))), (31, .v (iT zs.2.2))] (fun ex V => ∃ V2, VLe V V2 ∧ (QX 0 (fun (y : (List (List Int)) × (List (List Int))) => [(5, .v (.ptr true [(osl (eL eI) false y.1)])), (6, .v (osl (eL eI) false y.2)), (8, .v (osl (eL eI) true o6))])) zo ex V2)) ?_ zh0
 rintro ⟨known_10, others_11, x_12⟩ zo zr h hk hx
 try dsimp only at hk ⊢
 rw [f146_0] at h
 refine Wc.loop ?_
 refine Wc.seq ?_
 refine Wc.evs (by conv => lhs; simp [-aI_app0, -aB_app0, -aS_app0, -aL_app0, -aI_app10, -aB_app10, -aS_app10, -aLt_app10I, -aLf_app10I, -aLt_app1I, -aLf_app1I]) ?_
 refine Wo.nil ?_
 refine Wc.seq ?_
 by_cases kc13 : x_12 < (o8.length : Int)
 ·rw [if_pos kc13] at h
  refine Wc.condT' (t := _) (by conv => lhs; simp) (by simpa using kc13) ?_
  refine Wc.seq ?_
  refine Wc.kil (by conv => lhs; simp) ?_
  refine Wc.skip ?_
  refine Wc.seq ?_
  refine Wc.block ?_
  refine Wc.seq ?_
  obtain ⟨v_14, h15, h⟩ := bind_some h
  obtain ⟨ga15, gb15, gc15⟩ := ix_some h15
  have gn15 := ix_ne h15
  have gd15 := arr_at (E := (eL eI)) (b := false) gc15
  simp at gd15
  refine Wc.evs (by conv => lhs; simp [-aI_app0, -aB_app0, -aS_app0, -aL_app0, -aI_app10, -aB_app10, -aS_app10, -aLt_app10I, -aLf_app10I, -aLt_app1I, -aLf_app1I, ga15, gb15, gn15, gd15]) ?_
  refine Wo.nil ?_
  refine Wc.seq ?_
  refine Wc.evs (by conv => lhs; simp [-aI_app0, -aB_app0, -aS_app0, -aL_app0, -aI_app10, -aB_app10, -aS_app10, -aLt_app10I, -aLf_app10I, -aLt_app1I, -aLf_app1I]) ?_
  obtain ⟨o16, h17, h⟩ := bind_some h
  refine Wo.call rfl rfl (by (conv => lhs; simp [-aI_app0, -aB_app0, -aS_app0, -aL_app0, -aI_app10, -aB_app10, -aS_app10, -aLt_app10I, -aLf_app10I, -aLt_app1I, -aLf_app1I, cx, ioTab]) <;> rfl) (run_ h17) (by simp) (by simp) (by (conv => lhs; simp [-aI_app0, -aB_app0, -aS_app0, -aL_app0, -aI_app10, -aB_app10, -aS_app10, -aLt_app10I, -aLf_app10I, -aLt_app1I, -aLf_app1I, cx, ioTab]) <;> rfl) (by (conv => lhs; simp [-aI_app0, -aB_app0, -aS_app0, -aL_app0, -aI_app10, -aB_app10, -aS_app10, -aLt_app10I, -aLf_app10I, -aLt_app1I, -aLf_app1I]) <;> rfl) ?_
  refine Wo.nil ?_
  obtain ⟨w18, h19, h⟩ := bind_some h
  refine Wc.monoG (Q := (QN (fun (y : (List (List Int)) × (List (List Int))) => [(5, .v (.ptr true [(osl (eL eI) false y.1)])), (6, .v (osl (eL eI) false y.2)), (7, .v (osl (eL eI) true o4)), (8, .v (osl (eL eI) true o6)), (29, .v (ssl (eL eI) o8)), (30, .v (iT (o8.length : Int))), (31, .v (iT x_12))])) w18) ?_ ?_
  ·skip
   by_cases kc20 : o16 = true
   ·rw [if_pos kc20] at h19
    refine Wc.condT' (t := _) (by conv => lhs; simp) (by simpa using kc20) ?_
    refine Wc.seq ?_
    refine Wc.kil (by conv => lhs; simp) ?_
    obtain ⟨l_21, h22, h19⟩ := bind_some h19
    have gx22 := appT_arr (E := (eL eI)) (b := false) (y := true) h22 (by decide)
    simp [-aI_app0, -aB_app0, -aS_app0, -aL_app0, -aLt_app1I, -aLf_app1I, -aLt_app10I, -aLf_app10I] at gx22
    refine Wc.evs (by conv => lhs; simp [-aI_app0, -aB_app0, -aS_app0, -aL_app0, -aI_app10, -aB_app10, -aS_app10, -aLt_app10I, -aLf_app10I, -aLt_app1I, -aLf_app1I, gx22, ga15, gb15, gn15, gd15]) ?_
    refine Wo.nil ?_
    cases h19
    exact ⟨_, (VLe.refl _), rfl, by first | rfl | simp [-aI_app0, -aB_app0, -aS_app0, -aL_app0, -aI_app10, -aB_app10, -aS_app10, -aLt_app10I, -aLf_app10I, -aLt_app1I, -aLf_app1I, gx22, ga15, gb15, gn15, gd15]⟩
   ·rw [if_neg kc20] at h19
    refine Wc.condF' (t := _) (by conv => lhs; simp) (by simpa using kc20) ?_
    refine Wc.seq ?_
    refine Wc.kil (by conv => lhs; simp) ?_
    obtain ⟨l_23, h24, h19⟩ := bind_some h19
    have gx24 := appT_arr (E := (eL eI)) (b := false) (y := true) h24 (by decide)
    simp [-aI_app0, -aB_app0, -aS_app0, -aL_app0, -aLt_app1I, -aLf_app1I, -aLt_app10I, -aLf_app10I] at gx24
    refine Wc.evs (by conv => lhs; simp [-aI_app0, -aB_app0, -aS_app0, -aL_app0, -aI_app10, -aB_app10, -aS_app10, -aLt_app10I, -aLf_app10I, -aLt_app1I, -aLf_app1I, gx24]) ?_
    refine Wo.nil ?_
    cases h19
    exact ⟨_, (VLe.refl _), rfl, by first | rfl | simp [-aI_app0, -aB_app0, -aS_app0, -aL_app0, -aI_app10, -aB_app10, -aS_app10, -aLt_app10I, -aLf_app10I, -aLt_app1I, -aLf_app1I, gx24]⟩
  ·skip
   obtain ⟨known_25, others_26⟩ := w18
   rintro ex V ⟨rfl, rfl⟩
   dsimp only at h ⊢
   refine Wc.evs (by conv => lhs; simp [-aI_app0, -aB_app0, -aS_app0, -aL_app0, -aI_app10, -aB_app10, -aS_app10, -aLt_app10I, -aLf_app10I, -aLt_app1I, -aLf_app1I]) ?_
   refine Wo.nil ?_
   refine Wc.start (V1 := [(5, .v (.ptr true [(osl (eL eI) false known_25)])), (6, .v (osl (eL eI) false others_26)), (7, .v (osl (eL eI) true o4)), (8, .v (osl (eL eI) true o6)), (29, .v (ssl (eL eI) o8)), (30, .v (iT (o8.length : Int))), (31, .v (iT (w64 (x_12 + 1))))]) ?_ (hk _ (Option.some.inj h).symm)
   first | rfl | simp [-aI_app0, -aB_app0, -aS_app0, -aL_app0, -aI_app10, -aB_app10, -aS_app10, -aLt_app10I, -aLf_app10I, -aLt_app1I, -aLf_app1I]
 ·rw [if_neg kc13] at h
  refine Wc.condF' (t := _) (by conv => lhs; simp) (by simpa using kc13) ?_
  refine Wc.seq ?_
  refine Wc.kil (by conv => lhs; simp) ?_
  refine Wc.exit ?_
  have e0 := hx _ (Option.some.inj h).symm
  subst e0
  exact ⟨_, (VLe.refl _), rfl, by first | rfl | simp [-aI_app0, -aB_app0, -aS_app0, -aL_app0, -aI_app10, -aB_app10, -aS_app10, -aLt_app10I, -aLf_app10I, -aLt_app1I, -aLf_app1I]⟩
theorem r146_2 {o6 : (List (List Int))} {others_32 : (List (List Int))} : ∀ zs zo, iter (f146_2 o6 others_32) zs = some zo → Wc cx 73 (.loop L146_2) [(5, .v (.ptr true [(osl (eL eI) false zs.1)])), (6, .v (osl (eL eI) false others_32)), (8, .v (osl (eL eI) true o6)), (11, .v (osl (eL eI) false zs.2.1)), (48, .al 6), (49, .v (iT (others_32.length : Int))), (50, .v (iT zs.2.2))] ((QX 4 (fun (y : (List (List Int)) × (List (List Int))) => [(5, .v (.ptr true [(osl (eL eI) false y.1)])), (6, .v (osl (eL eI) false others_32)), (8, .v (osl (eL eI) true o6)), (11, .v (osl (eL eI) false y.2))])) zo) := by
 intro zs0 zo0 zh0
 refine Wc.postG ?_
 refine iter_run (f := (f146_2 o6 others_32)) (P := fun zs zo => Wc cx 73 (.loop L146_2) [(5, .v (.ptr true [(osl (eL eI) false zs.1)])), (6, .v (osl (eL eI) false others_32)), (8, .v (osl (eL eI) true o6)), (11, .v (osl (eL eI) false zs.2.1)), (48, .al 6), (49, .v (iT (others_32.length : Int))), (50, .v (iT zs.2.2))] (fun ex V => ∃ V2, VLe V V2 ∧ (QX 4 (fun (y : (List (List Int)) × (List (List Int))) => [(5, .v (.ptr true [(osl (eL eI) false y.1)])), (6, .v (osl (eL eI) false others_32)), (8, .v (osl (eL eI) true o6)), (11, .v (osl (eL eI) false y.2))])) zo ex V2)) ?_ zh0
 rintro ⟨known_33, rest_34, x_35⟩ zo zr h hk hx
 try dsimp only at hk ⊢
 rw [f146_2] at h
 refine Wc.loop ?_
 refine Wc.seq ?_
 refine Wc.evs (by conv => lhs; simp [-aI_app0, -aB_app0, -aS_app0, -aL_app0, -aI_app10, -aB_app10, -aS_app10, -aLt_app10I, -aLf_app10I, -aLt_app1I, -aLf_app1I]) ?_
 refine Wo.nil ?_
 refine Wc.seq ?_
 by_cases kc36 : x_35 < (others_32.length : Int)
 ·rw [if_pos kc36] at h
  refine Wc.condT' (t := _) (by conv => lhs; simp) (by simpa using kc36) ?_
  refine Wc.seq ?_
  refine Wc.kil (by conv => lhs; simp) ?_
  refine Wc.skip ?_
  refine Wc.seq ?_
  refine Wc.block ?_
  refine Wc.seq ?_
  obtain ⟨v_37, h38, h⟩ := bind_some h
  obtain ⟨ga38, gb38, gc38⟩ := ix_some h38
  have gn38 := ix_ne h38
  have gf38 := arr_fit (E := (eL eI)) (b := false) (i := x_35.toNat) (l := others_32) (by omega)
  have gg38_0 := arr_get (E := (eL eI)) (b := false) (o := 0) gc38 (by decide)
  simp at gf38 gg38_0
  have gl38 : x_35.toNat < others_32.length := by omega
  refine Wc.evs (by conv => lhs; simp [-aI_app0, -aB_app0, -aS_app0, -aL_app0, -aI_app10, -aB_app10, -aS_app10, -aLt_app10I, -aLf_app10I, -aLt_app1I, -aLf_app1I, -getElem?_pos, List.getElem?_cons_zero, List.getElem?_cons_succ, ga38, gb38, gn38, gf38, gg38_0, gc38, gl38]) ?_
  refine Wo.nil ?_
  refine Wc.seq ?_
  refine Wc.evs (by conv => lhs; simp [-aI_app0, -aB_app0, -aS_app0, -aL_app0, -aI_app10, -aB_app10, -aS_app10, -aLt_app10I, -aLf_app10I, -aLt_app1I, -aLf_app1I]) ?_
  obtain ⟨o39, h40, h⟩ := bind_some h
  refine Wo.call rfl rfl (by (conv => lhs; simp [-aI_app0, -aB_app0, -aS_app0, -aL_app0, -aI_app10, -aB_app10, -aS_app10, -aLt_app10I, -aLf_app10I, -aLt_app1I, -aLf_app1I, cx, ioTab]) <;> rfl) (run_ h40) (by simp) (by simp) (by (conv => lhs; simp [-aI_app0, -aB_app0, -aS_app0, -aL_app0, -aI_app10, -aB_app10, -aS_app10, -aLt_app10I, -aLf_app10I, -aLt_app1I, -aLf_app1I, cx, ioTab]) <;> rfl) (by (conv => lhs; simp [-aI_app0, -aB_app0, -aS_app0, -aL_app0, -aI_app10, -aB_app10, -aS_app10, -aLt_app10I, -aLf_app10I, -aLt_app1I, -aLf_app1I]) <;> rfl) ?_
  refine Wo.nil ?_
  obtain ⟨w41, h42, h⟩ := bind_some h
  refine Wc.monoG (Q := (QN (fun (y : (List (List Int)) × (List (List Int))) => [(5, .v (.ptr true [(osl (eL eI) false y.1)])), (6, .v (osl (eL eI) false others_32)), (8, .v (osl (eL eI) true o6)), (11, .v (osl (eL eI) false y.2)), (48, .al 6), (49, .v (iT (others_32.length : Int))), (50, .v (iT x_35))])) w41) ?_ ?_
  ·skip
   by_cases kc43 : o39 = true
   ·rw [if_pos kc43] at h42
    refine Wc.condT' (t := _) (by conv => lhs; simp) (by simpa using kc43) ?_
    refine Wc.seq ?_
    refine Wc.kil (by conv => lhs; simp) ?_
    obtain ⟨l_44, h45, h42⟩ := bind_some h42
    have gx45 := appT_arr (E := (eL eI)) (b := false) (y := true) h45 (by decide)
    simp [-aI_app0, -aB_app0, -aS_app0, -aL_app0, -aLt_app1I, -aLf_app1I, -aLt_app10I, -aLf_app10I] at gx45
    refine Wc.evs (by conv => lhs; simp [-aI_app0, -aB_app0, -aS_app0, -aL_app0, -aI_app10, -aB_app10, -aS_app10, -aLt_app10I, -aLf_app10I, -aLt_app1I, -aLf_app1I, gx45, -getElem?_pos, List.getElem?_cons_zero, List.getElem?_cons_succ, ga38, gb38, gn38, gf38, gg38_0, gc38, gl38]) ?_
    refine Wo.nil ?_
    cases h42
    exact ⟨_, (VLe.refl _), rfl, by first | rfl | simp [-aI_app0, -aB_app0, -aS_app0, -aL_app0, -aI_app10, -aB_app10, -aS_app10, -aLt_app10I, -aLf_app10I, -aLt_app1I, -aLf_app1I, gx45, -getElem?_pos, List.getElem?_cons_zero, List.getElem?_cons_succ, ga38, gb38, gn38, gf38, gg38_0, gc38, gl38]⟩
   ·rw [if_neg kc43] at h42
    refine Wc.condF' (t := _) (by conv => lhs; simp) (by simpa using kc43) ?_
    refine Wc.seq ?_
    refine Wc.kil (by conv => lhs; simp) ?_
    obtain ⟨l_46, h47, h42⟩ := bind_some h42
    have gx47 := appT_arr (E := (eL eI)) (b := false) (y := true) h47 (by decide)
    simp [-aI_app0, -aB_app0, -aS_app0, -aL_app0, -aLt_app1I, -aLf_app1I, -aLt_app10I, -aLf_app10I] at gx47
    refine Wc.evs (by conv => lhs; simp [-aI_app0, -aB_app0, -aS_app0, -aL_app0, -aI_app10, -aB_app10, -aS_app10, -aLt_app10I, -aLf_app10I, -aLt_app1I, -aLf_app1I, gx47]) ?_
    refine Wo.nil ?_
    cases h42
    exact ⟨_, (VLe.refl _), rfl, by first | rfl | simp [-aI_app0, -aB_app0, -aS_app0, -aL_app0, -aI_app10, -aB_app10, -aS_app10, -aLt_app10I, -aLf_app10I, -aLt_app1I, -aLf_app1I, gx47]⟩
  ·skip
   obtain ⟨known_48, rest_49⟩ := w41
   rintro ex V ⟨rfl, rfl⟩
   dsimp only at h ⊢
   refine Wc.evs (by conv => lhs; simp [-aI_app0, -aB_app0, -aS_app0, -aL_app0, -aI_app10, -aB_app10, -aS_app10, -aLt_app10I, -aLf_app10I, -aLt_app1I, -aLf_app1I]) ?_
   refine Wo.nil ?_
   refine Wc.start (V1 := [(5, .v (.ptr true [(osl (eL eI) false known_48)])), (6, .v (osl (eL eI) false others_32)), (8, .v (osl (eL eI) true o6)), (11, .v (osl (eL eI) false rest_49)), (48, .al 6), (49, .v (iT (others_32.length : Int))), (50, .v (iT (w64 (x_35 + 1))))]) ?_ (hk _ (Option.some.inj h).symm)
   first | rfl | simp [-aI_app0, -aB_app0, -aS_app0, -aL_app0, -aI_app10, -aB_app10, -aS_app10, -aLt_app10I, -aLf_app10I, -aLt_app1I, -aLf_app1I]
 ·rw [if_neg kc36] at h
  refine Wc.condF' (t := _) (by conv => lhs; simp) (by simpa using kc36) ?_
  refine Wc.seq ?_
  refine Wc.kil (by conv => lhs; simp) ?_
  refine Wc.exit ?_
  have e0 := hx _ (Option.some.inj h).symm
  subst e0
  exact ⟨_, (VLe.refl _), rfl, by first | rfl | simp [-aI_app0, -aB_app0, -aS_app0, -aL_app0, -aI_app10, -aB_app10, -aS_app10, -aLt_app10I, -aLf_app10I, -aLt_app1I, -aLf_app1I]⟩
theorem r146_1 {o6 : (List (List Int))} : ∀ zs zo, iter (f146_1 o6) zs = some zo → Wc cx 73 (.loop L146_1) [(5, .v (.ptr true [(osl (eL eI) false zs.1)])), (6, .v (osl (eL eI) false zs.2)), (8, .v (osl (eL eI) true o6))] ((QR (fun (y : (List (List Int))) => [(4, .v (osl (eL eI) false y)), (5, .v (.ptr true [.und]))])) zo) := by
 intro zs0 zo0 zh0
 refine Wc.postG ?_
 refine iter_run (f := (f146_1 o6)) (P := fun zs zo => Wc cx 73 (.loop L146_1) [(5, .v (.ptr true [(osl (eL eI) false zs.1)])), (6, .v (osl (eL eI) false zs.2)), (8, .v (osl (eL eI) true o6))] (fun ex V => ∃ V2, VLe V V2 ∧ (QR (fun (y : (List (List Int))) => [(4, .v (osl (eL eI) false y)), (5, .v (.ptr true [.und]))])) zo ex V2)) ?_ zh0
 rintro ⟨known_31, others_32⟩ zo zr h hk hx
 try dsimp only at hk ⊢
 rw [f146_1] at h
 refine Wc.loop ?_
 refine Wc.block ?_
 refine Wc.seq ?_
 refine Wc.evs (by conv => lhs; simp [-aI_app0, -aB_app0, -aS_app0, -aL_app0, -aI_app10, -aB_app10, -aS_app10, -aLt_app10I, -aLf_app10I, -aLt_app1I, -aLf_app1I]) ?_
 refine Wo.gh (vle_co (s := 11) (t1 := (osl (eL eI) true ([]))) rfl (by simp) (TLe.own (show TLes _ [] from (TLes.refl _)) rfl) (by conv => lhs; simp)) ?_
 refine Wo.nil ?_
 refine Wc.seq ?_
 refine Wc.seq ?_
 refine Wc.evs (by conv => lhs; simp [-aI_app0, -aB_app0, -aS_app0, -aL_app0, -aI_app10, -aB_app10, -aS_app10, -aLt_app10I, -aLf_app10I, -aLt_app1I, -aLf_app1I]) ?_
 refine Wo.nil ?_
 refine Wc.block ?_
 refine Wc.gh (vle_pf (s := 11) (t1 := (osl (eL eI) false ([]))) rfl (by simp) (by first | exact PF.inner (E := (eL eI)) (y := true) _ | exact pf_go) (by conv => lhs; simp)) ?_
 obtain ⟨w50, h51, h⟩ := bind_some h
 refine Wc.start (V1 := [(5, .v (.ptr true [(osl (eL eI) false known_31)])), (6, .v (osl (eL eI) false others_32)), (8, .v (osl (eL eI) true o6)), (11, .v (osl (eL eI) false ([]))), (48, .al 6), (49, .v (iT (others_32.length : Int))), (50, .v (iT 0))]) (by first | rfl | simp [-aI_app0, -aB_app0, -aS_app0, -aL_app0, -aI_app10, -aB_app10, -aS_app10, -aLt_app10I, -aLf_app10I, -aLt_app1I, -aLf_app1I]) ?_
 refine Wc.mono (r146_2 _ _ h51) ?_
 obtain ⟨known_52, rest_53⟩ := w50
 rintro ex V ⟨rfl, rfl⟩
 dsimp only at h ⊢
 refine Wc.seq ?_
 refine Wc.seq ?_
 refine Wc.evs (by conv => lhs; simp [-aI_app0, -aB_app0, -aS_app0, -aL_app0, -aI_app10, -aB_app10, -aS_app10, -aLt_app10I, -aLf_app10I, -aLt_app1I, -aLf_app1I]) ?_
 refine Wo.nil ?_
 by_cases kc54 : (rest_53.length : Int) = (others_32.length : Int)
 ·rw [if_pos kc54] at h
  refine Wc.condT' (t := _) (by conv => lhs; simp) (by simpa using kc54) ?_
  refine Wc.seq ?_
  refine Wc.kil (by conv => lhs; simp) ?_
  refine Wc.seq ?_
  refine Wc.evs (by conv => lhs; simp [-aI_app0, -aB_app0, -aS_app0, -aL_app0, -aI_app10, -aB_app10, -aS_app10, -aLt_app10I, -aLf_app10I, -aLt_app1I, -aLf_app1I]) ?_
  refine Wo.nil ?_
  refine Wc.gh (vle_take (s := 4) (by simp) (by conv => lhs; simp [-aI_app0, -aB_app0, -aS_app0, -aL_app0, -aI_app10, -aB_app10, -aS_app10, -aLt_app10I, -aLf_app10I, -aLt_app1I, -aLf_app1I]) (by conv => lhs; simp)) ?_
  refine Wc.ret ?_
  have e0 := hx _ (Option.some.inj h).symm
  subst e0
  exact ⟨_, (VLe.refl _), rfl, by first | rfl | simp [-aI_app0, -aB_app0, -aS_app0, -aL_app0, -aI_app10, -aB_app10, -aS_app10, -aLt_app10I, -aLf_app10I, -aLt_app1I, -aLf_app1I]⟩
 ·rw [if_neg kc54] at h
  refine Wc.condF' (t := _) (by conv => lhs; simp) (by simpa using kc54) ?_
  refine Wc.seq ?_
  refine Wc.kil (by conv => lhs; simp) ?_
  refine Wc.skip ?_
  refine Wc.evs (by conv => lhs; simp [-aI_app0, -aB_app0, -aS_app0, -aL_app0, -aI_app10, -aB_app10, -aS_app10, -aLt_app10I, -aLf_app10I, -aLt_app1I, -aLf_app1I]) ?_
  refine Wo.nil ?_
  refine Wc.start (V1 := [(5, .v (.ptr true [(osl (eL eI) false known_52)])), (6, .v (osl (eL eI) false rest_53)), (8, .v (osl (eL eI) true o6))]) ?_ (hk _ (Option.some.inj h).symm)
  first | rfl | simp [-aI_app0, -aB_app0, -aS_app0, -aL_app0, -aI_app10, -aB_app10, -aS_app10, -aLt_app10I, -aLf_app10I, -aLt_app1I, -aLf_app1I]
theorem r146 {db : Database} {query : Query} {r : (List (List Int))} (h : f146 db query = some r) : VJx cx (.ca 146 [(.agg [(ssl eRelation db.Relations), (ssl eFact db.Facts)]), (.agg [(iT query.VariableCount), (ssl eAtom query.Atoms), (ssl eI query.Free)])] (osl (eL eI) false r) []) := by
 unfold f146 at h
 refine ca_of rfl rfl (by decide) rfl ?_
 refine Wc.postG ?_
 refine Wc.start (V1 := [(0, .v (.agg [(ssl eRelation db.Relations), (ssl eFact db.Facts)])), (1, .v (.agg [(iT query.VariableCount), (ssl eAtom query.Atoms), (ssl eI query.Free)]))]) (by simp) ?_
 refine Wc.seq ?_
 refine Wc.evs (by conv => lhs; simp [-aI_app0, -aB_app0, -aS_app0, -aL_app0, -aI_app10, -aB_app10, -aS_app10, -aLt_app10I, -aLf_app10I, -aLt_app1I, -aLf_app1I]) ?_
 refine Wo.nil ?_
 refine Wc.seq ?_
 refine Wc.seq ?_
 refine Wc.evs (by conv => lhs; simp [-aI_app0, -aB_app0, -aS_app0, -aL_app0, -aI_app10, -aB_app10, -aS_app10, -aLt_app10I, -aLf_app10I, -aLt_app1I, -aLf_app1I]) ?_
 obtain ⟨o1, h2, h⟩ := bind_some h
 refine Wo.call rfl rfl (by (conv => lhs; simp [-aI_app0, -aB_app0, -aS_app0, -aL_app0, -aI_app10, -aB_app10, -aS_app10, -aLt_app10I, -aLf_app10I, -aLt_app1I, -aLf_app1I, cx, ioTab]) <;> rfl) (run_ h2) (by simp) (by simp) (by (conv => lhs; simp [-aI_app0, -aB_app0, -aS_app0, -aL_app0, -aI_app10, -aB_app10, -aS_app10, -aLt_app10I, -aLf_app10I, -aLt_app1I, -aLf_app1I, cx, ioTab]) <;> rfl) (by (conv => lhs; simp [-aI_app0, -aB_app0, -aS_app0, -aL_app0, -aI_app10, -aB_app10, -aS_app10, -aLt_app10I, -aLf_app10I, -aLt_app1I, -aLf_app1I]) <;> rfl) ?_
 refine Wo.evs (by conv => lhs; simp [-aI_app0, -aB_app0, -aS_app0, -aL_app0, -aI_app10, -aB_app10, -aS_app10, -aLt_app10I, -aLf_app10I, -aLt_app1I, -aLf_app1I]) ?_
 refine Wo.nil ?_
 by_cases kc3 : ¬ (o1 = true)
 ·rw [if_pos kc3] at h
  refine Wc.condT' (t := _) (by conv => lhs; simp) (by simpa using kc3) ?_
  refine Wc.seq ?_
  refine Wc.kil (by conv => lhs; simp) ?_
  refine Wc.seq ?_
  refine Wc.evs (by conv => lhs; simp [-aI_app0, -aB_app0, -aS_app0, -aL_app0, -aI_app10, -aB_app10, -aS_app10, -aLt_app10I, -aLf_app10I, -aLt_app1I, -aLf_app1I]) ?_
  refine Wo.gh (vle_co (s := 4) (t1 := (osl (eL eI) true ([]))) rfl (by simp) (TLe.nil rfl (by decide)) (by conv => lhs; simp)) ?_
  refine Wo.nil ?_
  refine Wc.ret ⟨_, (vle_of (vle_pf (s := 4) (t1 := (osl (eL eI) false ([]))) rfl (by simp) (by first | exact PF.inner (E := (eL eI)) (y := true) _ | exact pf_go) (by conv => lhs; simp)) (VLe.refl _)), res_of (.inr rfl) ?_⟩
  cases h
  exact ⟨_, _, _, by conv => lhs; simp, by (conv => lhs; simp [cx, ioTab, List.range, List.range.loop]) <;> rfl, by first | rfl | simp [-aI_app0, -aB_app0, -aS_app0, -aL_app0, -aI_app10, -aB_app10, -aS_app10, -aLt_app10I, -aLf_app10I, -aLt_app1I, -aLf_app1I]⟩
 ·rw [if_neg kc3] at h
  refine Wc.condF' (t := _) (by conv => lhs; simp) (by simpa using kc3) ?_
  refine Wc.seq ?_
  refine Wc.kil (by conv => lhs; simp) ?_
  refine Wc.skip ?_
  refine Wc.seq ?_
  refine Wc.evs (by conv => lhs; simp [-aI_app0, -aB_app0, -aS_app0, -aL_app0, -aI_app10, -aB_app10, -aS_app10, -aLt_app10I, -aLf_app10I, -aLt_app1I, -aLf_app1I]) ?_
  refine Wo.gh (vle_co (s := 5) (t1 := (.ptr true [(osl (eL eI) true ([]))])) rfl (by simp) (TLe.ptr (TLes.cons (TLe.nil rfl (by decide)) (TLes.refl _))) (by conv => lhs; simp)) ?_
  refine Wo.gh (vle_co (s := 18) (t1 := (osl (eL eI) true ([]))) rfl (by simp) (TLe.own (show TLes _ [] from (TLes.refl _)) rfl) (by conv => lhs; simp)) ?_
  refine Wo.gh (vle_co (s := 19) (t1 := (osl (eL eI) true ([]))) rfl (by simp) (TLe.own (show TLes _ [] from (TLes.refl _)) rfl) (by conv => lhs; simp)) ?_
  obtain ⟨o4, h5, h⟩ := bind_some h
  refine Wo.call (by simp) rfl (by (conv => lhs; simp [-aI_app0, -aB_app0, -aS_app0, -aL_app0, -aI_app10, -aB_app10, -aS_app10, -aLt_app10I, -aLf_app10I, -aLt_app1I, -aLf_app1I, cx, ioTab]) <;> rfl) (run_ h5) (by simp) (by simp) (by (conv => lhs; simp [-aI_app0, -aB_app0, -aS_app0, -aL_app0, -aI_app10, -aB_app10, -aS_app10, -aLt_app10I, -aLf_app10I, -aLt_app1I, -aLf_app1I, cx, ioTab]) <;> rfl) (by (conv => lhs; simp [-aI_app0, -aB_app0, -aS_app0, -aL_app0, -aI_app10, -aB_app10, -aS_app10, -aLt_app10I, -aLf_app10I, -aLt_app1I, -aLf_app1I]) <;> rfl) ?_
  obtain ⟨o6, h7, h⟩ := bind_some h
  refine Wo.call rfl rfl (by (conv => lhs; simp [-aI_app0, -aB_app0, -aS_app0, -aL_app0, -aI_app10, -aB_app10, -aS_app10, -aLt_app10I, -aLf_app10I, -aLt_app1I, -aLf_app1I, cx, ioTab]) <;> rfl) (run_ h7) (by simp) (by simp) (by (conv => lhs; simp [-aI_app0, -aB_app0, -aS_app0, -aL_app0, -aI_app10, -aB_app10, -aS_app10, -aLt_app10I, -aLf_app10I, -aLt_app1I, -aLf_app1I, cx, ioTab]) <;> rfl) (by (conv => lhs; simp [-aI_app0, -aB_app0, -aS_app0, -aL_app0, -aI_app10, -aB_app10, -aS_app10, -aLt_app10I, -aLf_app10I, -aLt_app1I, -aLf_app1I]) <;> rfl) ?_
  refine Wo.evs (by conv => lhs; simp [-aI_app0, -aB_app0, -aS_app0, -aL_app0, -aI_app10, -aB_app10, -aS_app10, -aLt_app10I, -aLf_app10I, -aLt_app1I, -aLf_app1I]) ?_
  refine Wo.nil ?_
  refine Wc.seq ?_
  refine Wc.seq ?_
  refine Wc.evs (by conv => lhs; simp [-aI_app0, -aB_app0, -aS_app0, -aL_app0, -aI_app10, -aB_app10, -aS_app10, -aLt_app10I, -aLf_app10I, -aLt_app1I, -aLf_app1I]) ?_
  obtain ⟨o8, h9, h⟩ := bind_some h
  refine Wo.call rfl rfl (by (conv => lhs; simp [-aI_app0, -aB_app0, -aS_app0, -aL_app0, -aI_app10, -aB_app10, -aS_app10, -aLt_app10I, -aLf_app10I, -aLt_app1I, -aLf_app1I, cx, ioTab]) <;> rfl) (run_ h9) (by simp) (by simp) (by (conv => lhs; simp [-aI_app0, -aB_app0, -aS_app0, -aL_app0, -aI_app10, -aB_app10, -aS_app10, -aLt_app10I, -aLf_app10I, -aLt_app1I, -aLf_app1I, cx, ioTab]) <;> rfl) (by (conv => lhs; simp [-aI_app0, -aB_app0, -aS_app0, -aL_app0, -aI_app10, -aB_app10, -aS_app10, -aLt_app10I, -aLf_app10I, -aLt_app1I, -aLf_app1I]) <;> rfl) ?_
  refine Wo.gh (vle_fz (s := 29) rfl (by simp) (by conv => lhs; simp)) ?_
  refine Wo.evs (by conv => lhs; simp [-aI_app0, -aB_app0, -aS_app0, -aL_app0, -aI_app10, -aB_app10, -aS_app10, -aLt_app10I, -aLf_app10I, -aLt_app1I, -aLf_app1I]) ?_
  refine Wo.nil ?_
  refine Wc.block ?_
  refine Wc.gh (vle_pf (s := 5) (t1 := (.ptr true [(osl (eL eI) false ([]))])) rfl (by simp) (PF.ptr (PFs.cons (by first | exact PF.inner (E := (eL eI)) (y := true) _ | exact pf_go) PFs.nil)) (by conv => lhs; simp)) ?_
  refine Wc.gh (vle_pf (s := 6) (t1 := (osl (eL eI) false ([]))) rfl (by simp) (by first | exact PF.inner (E := (eL eI)) (y := true) _ | exact pf_go) (by conv => lhs; simp)) ?_
  obtain ⟨w27, h28, h⟩ := bind_some h
  refine Wc.start (V1 := [(5, .v (.ptr true [(osl (eL eI) false ([]))])), (6, .v (osl (eL eI) false ([]))), (7, .v (osl (eL eI) true o4)), (8, .v (osl (eL eI) true o6)), (29, .v (ssl (eL eI) o8)), (30, .v (iT (o8.length : Int))), (31, .v (iT 0))]) (by first | rfl | simp [-aI_app0, -aB_app0, -aS_app0, -aL_app0, -aI_app10, -aB_app10, -aS_app10, -aLt_app10I, -aLf_app10I, -aLt_app1I, -aLf_app1I]) ?_
  refine Wc.mono (r146_0 _ _ h28) ?_
  obtain ⟨known_29, others_30⟩ := w27
  rintro ex V ⟨rfl, rfl⟩
  dsimp only at h ⊢
  refine Wc.block ?_
  obtain ⟨w55, h56, h⟩ := bind_some h
  refine Wc.start (V1 := [(5, .v (.ptr true [(osl (eL eI) false known_29)])), (6, .v (osl (eL eI) false others_30)), (8, .v (osl (eL eI) true o6))]) (by first | rfl | simp [-aI_app0, -aB_app0, -aS_app0, -aL_app0, -aI_app10, -aB_app10, -aS_app10, -aLt_app10I, -aLf_app10I, -aLt_app1I, -aLf_app1I]) ?_
  refine Wc.mono (r146_1 _ _ h56) ?_
  generalize w55 = x_57 at *
  rintro ex V ⟨rfl, rfl⟩
  try dsimp only at h
  refine ⟨_, (VLe.refl _), res_of (.inr rfl) ?_⟩
  cases h
  exact ⟨_, _, _, by conv => lhs; simp, by (conv => lhs; simp [cx, ioTab, List.range, List.range.loop]) <;> rfl, by first | rfl | simp [-aI_app0, -aB_app0, -aS_app0, -aL_app0, -aI_app10, -aB_app10, -aS_app10, -aLt_app10I, -aLf_app10I, -aLt_app1I, -aLf_app1I]⟩
instance i146 {db : Database} {query : Query} : Rn cx (f146 db query) 146 [(.agg [(ssl eRelation db.Relations), (ssl eFact db.Facts)]), (.agg [(iT query.VariableCount), (ssl eAtom query.Atoms), (ssl eI query.Free)])] (fun (r : (List (List Int))) => (osl (eL eI) false r)) (fun r => []) := ⟨fun _ h => r146 h⟩
instance : Io0 cx 146 := ⟨rfl⟩
instance i147 {set0 : (List Int)} : Rn cx (f147 set0) 147 [(ssl eI set0)] (fun (r : Bool) => (.bool r)) (fun r => []) := by
 refine Rn.of rfl rfl (by decide) rfl ?_; unfold f147; exact go
instance : Io0 cx 147 := ⟨rfl⟩
instance i70 {db : Database} {query : Query} : Rn cx (f70 db query) 70 [(.agg [(ssl eRelation db.Relations), (ssl eFact db.Facts)]), (.agg [(iT query.VariableCount), (ssl eAtom query.Atoms), (ssl eI query.Free)])] (fun (r : Bool) => (.bool r)) (fun r => []) := by
 refine Rn.of rfl rfl (by decide) rfl ?_; unfold f70; exact go
instance : Io0 cx 70 := ⟨rfl⟩
instance i107 {a : Relation} {b : Relation} : Rn cx (f107 a b) 107 [(.agg [(.str a.Name), (iT a.Arity), (iT a.KeyLength)]), (.agg [(.str b.Name), (iT b.Arity), (iT b.KeyLength)])] (fun (r : Bool) => (.bool r)) (fun r => []) := by
 refine Rn.of rfl rfl (by decide) rfl ?_; unfold f107; exact go
instance : Io0 cx 107 := ⟨rfl⟩
instance i30_0 {a : (List Relation)} {b : (List Relation)} : Lp cx (f30_0 a b) 27 L30_0 (fun (zs : Int) => [(0, .v (ssl eRelation a)), (1, .v (ssl eRelation b)), (5, .v (iT zs))]) (QO (QX 0 (fun (y : Unit) => [])) (QR (fun (y : Bool) => [(4, .v (.bool y))]))) := by
 refine Lp.of ?_; unfold f30_0; exact go
instance i30 {a : (List Relation)} {b : (List Relation)} : Rn cx (f30 a b) 30 [(ssl eRelation a), (ssl eRelation b)] (fun (r : Bool) => (.bool r)) (fun r => []) := by
 refine Rn.of rfl rfl (by decide) rfl ?_; unfold f30; exact go
instance : Io0 cx 30 := ⟨rfl⟩
instance i20_0 {a : (List Int)} {b : (List Int)} : Lp cx (f20_0 a b) 26 L20_0 (fun (zs : Int) => [(0, .v (ssl eI a)), (1, .v (ssl eI b)), (5, .v (iT zs))]) (QO (QX 0 (fun (y : Unit) => [])) (QR (fun (y : Bool) => [(4, .v (.bool y))]))) := by
 refine Lp.of ?_; unfold f20_0; exact go
instance i20 {a : (List Int)} {b : (List Int)} : Rn cx (f20 a b) 20 [(ssl eI a), (ssl eI b)] (fun (r : Bool) => (.bool r)) (fun r => []) := by
 refine Rn.of rfl rfl (by decide) rfl ?_; unfold f20; exact go
instance : Io0 cx 20 := ⟨rfl⟩
instance i163 {a : Fact} {b : Fact} : Rn cx (f163 a b) 163 [(.agg [(iT a.Relation), (ssl eI a.Values)]), (.agg [(iT b.Relation), (ssl eI b.Values)])] (fun (r : Bool) => (.bool r)) (fun r => []) := by
 refine Rn.of rfl rfl (by decide) rfl ?_; unfold f163; exact go
instance : Io0 cx 163 := ⟨rfl⟩
instance i84_0 {a : (List Fact)} {b : (List Fact)} : Lp cx (f84_0 a b) 27 L84_0 (fun (zs : Int) => [(0, .v (ssl eFact a)), (1, .v (ssl eFact b)), (5, .v (iT zs))]) (QO (QX 0 (fun (y : Unit) => [])) (QR (fun (y : Bool) => [(4, .v (.bool y))]))) := by
 refine Lp.of ?_; unfold f84_0; exact go
instance i84 {a : (List Fact)} {b : (List Fact)} : Rn cx (f84 a b) 84 [(ssl eFact a), (ssl eFact b)] (fun (r : Bool) => (.bool r)) (fun r => []) := by
 refine Rn.of rfl rfl (by decide) rfl ?_; unfold f84; exact go
instance : Io0 cx 84 := ⟨rfl⟩
instance i18 {a : Database} {b : Database} : Rn cx (f18 a b) 18 [(.agg [(ssl eRelation a.Relations), (ssl eFact a.Facts)]), (.agg [(ssl eRelation b.Relations), (ssl eFact b.Facts)])] (fun (r : Bool) => (.bool r)) (fun r => []) := by
 refine Rn.of rfl rfl (by decide) rfl ?_; unfold f18; exact go
instance : Io0 cx 18 := ⟨rfl⟩
instance i164 {a : Atom} {b : Atom} : Rn cx (f164 a b) 164 [(.agg [(iT a.Relation), (ssl eI a.Terms)]), (.agg [(iT b.Relation), (ssl eI b.Terms)])] (fun (r : Bool) => (.bool r)) (fun r => []) := by
 refine Rn.of rfl rfl (by decide) rfl ?_; unfold f164; exact go
instance : Io0 cx 164 := ⟨rfl⟩
instance i91_0 {a : (List Atom)} {b : (List Atom)} : Lp cx (f91_0 a b) 27 L91_0 (fun (zs : Int) => [(0, .v (ssl eAtom a)), (1, .v (ssl eAtom b)), (5, .v (iT zs))]) (QO (QX 0 (fun (y : Unit) => [])) (QR (fun (y : Bool) => [(4, .v (.bool y))]))) := by
 refine Lp.of ?_; unfold f91_0; exact go
instance i91 {a : (List Atom)} {b : (List Atom)} : Rn cx (f91 a b) 91 [(ssl eAtom a), (ssl eAtom b)] (fun (r : Bool) => (.bool r)) (fun r => []) := by
 refine Rn.of rfl rfl (by decide) rfl ?_; unfold f91; exact go
instance : Io0 cx 91 := ⟨rfl⟩
instance i25 {a : Query} {b : Query} : Rn cx (f25 a b) 25 [(.agg [(iT a.VariableCount), (ssl eAtom a.Atoms), (ssl eI a.Free)]), (.agg [(iT b.VariableCount), (ssl eAtom b.Atoms), (ssl eI b.Free)])] (fun (r : Bool) => (.bool r)) (fun r => []) := by
 refine Rn.of rfl rfl (by decide) rfl ?_; unfold f25; exact go
instance : Io0 cx 25 := ⟨rfl⟩
instance i10 {aDb : Database} {aQuery : Query} : Rn cx (f10 aDb aQuery) 10 [(.agg [(ssl eRelation aDb.Relations), (ssl eFact aDb.Facts)]), (.agg [(iT aQuery.VariableCount), (ssl eAtom aQuery.Atoms), (ssl eI aQuery.Free)])] (fun (r : Bool) => (.bool r)) (fun r => []) := by
 refine Rn.of rfl rfl (by decide) rfl ?_; unfold f10; exact go
instance : Io0 cx 10 := ⟨rfl⟩
end
end Go.Proofs.YtcllfkplpdppiaaGreatH
