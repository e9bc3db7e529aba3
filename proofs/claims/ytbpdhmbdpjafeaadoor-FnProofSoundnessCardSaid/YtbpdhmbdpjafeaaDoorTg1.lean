import Derived.Test.YtbpdhmbdpjafeaaDoorTg1a
set_option maxHeartbeats 2000000
set_option linter.unusedVariables false
set_option linter.unusedSimpArgs false
set_option linter.defProp false
set_option linter.unusedSectionVars false
set_option maxRecDepth 100000
namespace Go.Proofs.YtbpdhmbdpjafeaaDoorH
open Go
noncomputable section
variable {o1 : (Int × L1Cur)} {clauses l proof : (List (List Int))} {model : (List Bool)} {a b c clause code literals s0 set1 : (List Int)} {high low n0 n1 v x : Int}
theorem r24_1 {out_3 : (List Int)} : ∀ zs zo, iter (f24_1 clauses out_3) zs = some zo -> Wc cx 44 (.loop L24_1) [(0, .v (ssl (eL eI) clauses)), (6, .v (.ptr true [(.sl true false 1 0 (arr eI true out_3))])), (7, .v (.bool false)), (14, .v (ssl (eL eI) clauses)), (15, .v (iT (clauses.length : Int))), (16, .v (iT zs))] ((QO (QX 2 (fun (y : (List Int) × Bool) => [(0, .v (ssl (eL eI) clauses)), (6, .v (.ptr true [(.sl true false 1 0 (arr eI true y.1))])), (7, .v (.bool y.2))])) (QR (fun (y : (List Int) × Bool) => [(4, .v (.sl true false 1 0 (arr eI true y.1))), (5, .v (.bool y.2)), (6, .v (.ptr true [.und]))]))) zo) := by
 intro zs0 zo0 zh0
 refine iter_run (f := (f24_1 clauses out_3)) (P := fun zs zo => Wc cx 44 (.loop L24_1) [(0, .v (ssl (eL eI) clauses)), (6, .v (.ptr true [(.sl true false 1 0 (arr eI true out_3))])), (7, .v (.bool false)), (14, .v (ssl (eL eI) clauses)), (15, .v (iT (clauses.length : Int))), (16, .v (iT zs))] ((QO (QX 2 (fun (y : (List Int) × Bool) => [(0, .v (ssl (eL eI) clauses)), (6, .v (.ptr true [(.sl true false 1 0 (arr eI true y.1))])), (7, .v (.bool y.2))])) (QR (fun (y : (List Int) × Bool) => [(4, .v (.sl true false 1 0 (arr eI true y.1))), (5, .v (.bool y.2)), (6, .v (.ptr true [.und]))]))) zo)) ?_ zh0
 rintro x_4 zo zr h hk hx
 try dsimp only at hk ⊢
 rw [f24_1] at h
 refine Wc.loop ?_
 refine Wc.seq ?_
 refine Wc.evs (by conv => lhs; simp [-aI_app1, -aI_app0, -aB_app0, -aS_app0, -aL_app0, -aI_app10, -aB_app10, -aS_app10, -aLt_app10I, -aLf_app10I, -aLt_app1I, -aLf_app1I]) ?_
 refine Wo.nil ?_
 refine Wc.seq ?_
 by_cases kc5 : x_4 < (clauses.length : Int)
 ·rw [if_pos kc5] at h
  refine Wc.condT' (t := _) (by conv => lhs; simp) (by simpa using kc5) ?_
  refine Wc.seq ?_
  refine Wc.kil (by conv => lhs; simp) ?_
  refine Wc.skip ?_
  refine Wc.seq ?_
  obtain ⟨w6, h7, h⟩ := bind_some h
  refine Wc.mono (Q := (QO (QN (fun (y : Unit) => [(0, .v (ssl (eL eI) clauses)), (6, .v (.ptr true [(.sl true false 1 0 (arr eI true out_3))])), (7, .v (.bool false)), (14, .v (ssl (eL eI) clauses)), (15, .v (iT (clauses.length : Int))), (16, .v (iT x_4))])) (QO (QX 2 (fun (y : (List Int) × Bool) => [(0, .v (ssl (eL eI) clauses)), (6, .v (.ptr true [(.sl true false 1 0 (arr eI true y.1))])), (7, .v (.bool y.2))])) (QR (fun (y : (List Int) × Bool) => [(4, .v (.sl true false 1 0 (arr eI true y.1))), (5, .v (.bool y.2)), (6, .v (.ptr true [.und]))])))) w6) ?_ ?_
  ·skip
   refine Wc.block ?_
   refine Wc.seq ?_
   obtain ⟨v_8, h9, h7⟩ := bind_some h7
   obtain ⟨ga9, gb9, gc9⟩ := ix_some h9
   have gn9 := ix_ne h9
   have gd9 := arr_at (E := (eL eI)) (b := false) gc9
   simp at gd9
   refine Wc.evs (by conv => lhs; simp [-aI_app1, -aI_app0, -aB_app0, -aS_app0, -aL_app0, -aI_app10, -aB_app10, -aS_app10, -aLt_app10I, -aLf_app10I, -aLt_app1I, -aLf_app1I, ga9, gb9, gn9, gd9]) ?_
   refine Wo.nil ?_
   refine Wc.seq ?_
   refine Wc.seq ?_
   refine Wc.evs (by conv => lhs; simp [-aI_app1, -aI_app0, -aB_app0, -aS_app0, -aL_app0, -aI_app10, -aB_app10, -aS_app10, -aLt_app10I, -aLf_app10I, -aLt_app1I, -aLf_app1I]) ?_
   obtain ⟨o10, h11, h7⟩ := bind_some h7
   refine Wo.call rfl rfl (by (conv => lhs; simp [-aI_app1, -aI_app0, -aB_app0, -aS_app0, -aL_app0, -aI_app10, -aB_app10, -aS_app10, -aLt_app10I, -aLf_app10I, -aLt_app1I, -aLf_app1I, cx, ioTab]) <;> rfl) (run_ h11) (by simp) (by simp) (by (conv => lhs; simp [-aI_app1, -aI_app0, -aB_app0, -aS_app0, -aL_app0, -aI_app10, -aB_app10, -aS_app10, -aLt_app10I, -aLf_app10I, -aLt_app1I, -aLf_app1I, cx, ioTab]) <;> rfl) (by (conv => lhs; simp [-aI_app1, -aI_app0, -aB_app0, -aS_app0, -aL_app0, -aI_app10, -aB_app10, -aS_app10, -aLt_app10I, -aLf_app10I, -aLt_app1I, -aLf_app1I]) <;> rfl) ?_
   refine Wo.nil ?_
   by_cases kc12 : o10 = true
   ·rw [if_pos kc12] at h7
    refine Wc.condT' (t := _) (by conv => lhs; simp) (by simpa using kc12) ?_
    refine Wc.seq ?_
    refine Wc.kil (by conv => lhs; simp) ?_
    refine Wc.exit ?_
    cases h7
    exact ⟨rfl, by first | rfl | simp [-aI_app1, -aI_app0, -aB_app0, -aS_app0, -aL_app0, -aI_app10, -aB_app10, -aS_app10, -aLt_app10I, -aLf_app10I, -aLt_app1I, -aLf_app1I]⟩
   ·rw [if_neg kc12] at h7
    refine Wc.condF' (t := _) (by conv => lhs; simp) (by simpa using kc12) ?_
    refine Wc.seq ?_
    refine Wc.kil (by conv => lhs; simp) ?_
    refine Wc.skip ?_
    refine Wc.seq ?_
    refine Wc.evs (by conv => lhs; simp [-aI_app1, -aI_app0, -aB_app0, -aS_app0, -aL_app0, -aI_app10, -aB_app10, -aS_app10, -aLt_app10I, -aLf_app10I, -aLt_app1I, -aLf_app1I, ga9, gb9, gn9, gd9]) ?_
    obtain ⟨o13, h14, h7⟩ := bind_some h7
    refine Wo.call rfl rfl (by (conv => lhs; simp [-aI_app1, -aI_app0, -aB_app0, -aS_app0, -aL_app0, -aI_app10, -aB_app10, -aS_app10, -aLt_app10I, -aLf_app10I, -aLt_app1I, -aLf_app1I, ga9, gb9, gn9, gd9, cx, ioTab]) <;> rfl) (VJx.res (run_ h14) (by exact tles_go) (TLe.refl _) (TLes.refl _)) (by simp) (by simp) (by (conv => lhs; simp [-aI_app1, -aI_app0, -aB_app0, -aS_app0, -aL_app0, -aI_app10, -aB_app10, -aS_app10, -aLt_app10I, -aLf_app10I, -aLt_app1I, -aLf_app1I, ga9, gb9, gn9, gd9, cx, ioTab]) <;> rfl) (by (conv => lhs; simp [-aI_app1, -aI_app0, -aB_app0, -aS_app0, -aL_app0, -aI_app10, -aB_app10, -aS_app10, -aLt_app10I, -aLf_app10I, -aLt_app1I, -aLf_app1I, ga9, gb9, gn9, gd9]) <;> rfl) ?_
    obtain ⟨o15, h16, h7⟩ := bind_some h7
    refine Wo.call rfl rfl (by (conv => lhs; simp [-aI_app1, -aI_app0, -aB_app0, -aS_app0, -aL_app0, -aI_app10, -aB_app10, -aS_app10, -aLt_app10I, -aLf_app10I, -aLt_app1I, -aLf_app1I, ga9, gb9, gn9, gd9, cx, ioTab]) <;> rfl) (run_ h16) (by simp) (by simp) (by (conv => lhs; simp [-aI_app1, -aI_app0, -aB_app0, -aS_app0, -aL_app0, -aI_app10, -aB_app10, -aS_app10, -aLt_app10I, -aLf_app10I, -aLt_app1I, -aLf_app1I, ga9, gb9, gn9, gd9, cx, ioTab]) <;> rfl) (by (conv => lhs; simp [-aI_app1, -aI_app0, -aB_app0, -aS_app0, -aL_app0, -aI_app10, -aB_app10, -aS_app10, -aLt_app10I, -aLf_app10I, -aLt_app1I, -aLf_app1I, ga9, gb9, gn9, gd9]) <;> rfl) ?_
    refine Wo.evs (by conv => lhs; simp [-aI_app1, -aI_app0, -aB_app0, -aS_app0, -aL_app0, -aI_app10, -aB_app10, -aS_app10, -aLt_app10I, -aLf_app10I, -aLt_app1I, -aLf_app1I, ga9, gb9, gn9, gd9]) ?_
    refine Wo.nil ?_
    refine Wc.seq ?_
    refine Wc.seq ?_
    refine Wc.evs (by conv => lhs; simp [-aI_app1, -aI_app0, -aB_app0, -aS_app0, -aL_app0, -aI_app10, -aB_app10, -aS_app10, -aLt_app10I, -aLf_app10I, -aLt_app1I, -aLf_app1I]) ?_
    refine Wo.nil ?_
    by_cases kc17 : (o15.length : Int) = 0
    ·rw [if_pos kc17] at h7
     refine Wc.condT' (t := _) (by conv => lhs; simp) (by simpa using kc17) ?_
     refine Wc.seq ?_
     refine Wc.kil (by conv => lhs; simp) ?_
     refine Wc.seq ?_
     refine Wc.evs (by conv => lhs; simp [-aI_app1, -aI_app0, -aB_app0, -aS_app0, -aL_app0, -aI_app10, -aB_app10, -aS_app10, -aLt_app10I, -aLf_app10I, -aLt_app1I, -aLf_app1I, ga9, gb9, gn9, gd9]) ?_
     refine Wo.nil ?_
     refine Wc.gh (vle_take (s := 4) (by simp) (by conv => lhs; simp [-aI_app1, -aI_app0, -aB_app0, -aS_app0, -aL_app0, -aI_app10, -aB_app10, -aS_app10, -aLt_app10I, -aLf_app10I, -aLt_app1I, -aLf_app1I, ga9, gb9, gn9, gd9]) (by conv => lhs; simp)) ?_
     refine Wc.ret ?_
     cases h7
     exact ⟨rfl, by first | rfl | simp [-aI_app1, -aI_app0, -aB_app0, -aS_app0, -aL_app0, -aI_app10, -aB_app10, -aS_app10, -aLt_app10I, -aLf_app10I, -aLt_app1I, -aLf_app1I, ga9, gb9, gn9, gd9]⟩
    ·rw [if_neg kc17] at h7
     refine Wc.condF' (t := _) (by conv => lhs; simp) (by simpa using kc17) ?_
     refine Wc.seq ?_
     refine Wc.kil (by conv => lhs; simp) ?_
     refine Wc.skip ?_
     refine Wc.seq ?_
     refine Wc.evs (by conv => lhs; simp [-aI_app1, -aI_app0, -aB_app0, -aS_app0, -aL_app0, -aI_app10, -aB_app10, -aS_app10, -aLt_app10I, -aLf_app10I, -aLt_app1I, -aLf_app1I]) ?_
     refine Wo.nil ?_
     by_cases kc18 : (o15.length : Int) = 1
     ·rw [if_pos kc18] at h7
      refine Wc.condT' (t := _) (by conv => lhs; simp) (by simpa using kc18) ?_
      refine Wc.seq ?_
      refine Wc.kil (by conv => lhs; simp) ?_
      refine Wc.seq ?_
      obtain ⟨v_19, h20, h7⟩ := bind_some h7
      obtain ⟨ga20, gb20, gc20⟩ := ix_some h20
      have gn20 := ix_ne h20
      have gf20 := arr_fit (E := eI) (b := true) (i := (0 : Int).toNat) (l := o15) (by omega)
      have gg20_0 := arr_get (E := eI) (b := true) (o := 0) gc20 (by decide)
      simp at gf20 gg20_0
      have gl20 : (0 : Int).toNat < o15.length := by omega
      have gk20 : 0 < o15.length := by omega
      obtain ⟨l_21, h22, h7⟩ := bind_some h7
      have gx22 := appT_arr (E := eI) (b := true) (y := false) h22 (by decide)
      simp [-aI_app1, -aI_app0, -aB_app0, -aS_app0, -aL_app0, -aLt_app1I, -aLf_app1I, -aLt_app10I, -aLf_app10I] at gx22
      refine Wc.evs (by conv => lhs; simp [-aI_app1, -aI_app0, -aB_app0, -aS_app0, -aL_app0, -aI_app10, -aB_app10, -aS_app10, -aLt_app10I, -aLf_app10I, -aLt_app1I, -aLf_app1I, -getElem?_pos, List.getElem?_cons_zero, List.getElem?_cons_succ, gb20, gn20, gf20, gg20_0, gl20, gk20, gx22, ga9, gb9, gn9, gd9]) ?_
      refine Wo.nil ?_
      refine Wc.exit ?_
      cases h7
      exact ⟨rfl, by first | rfl | simp [-aI_app1, -aI_app0, -aB_app0, -aS_app0, -aL_app0, -aI_app10, -aB_app10, -aS_app10, -aLt_app10I, -aLf_app10I, -aLt_app1I, -aLf_app1I, -getElem?_pos, List.getElem?_cons_zero, List.getElem?_cons_succ, gb20, gn20, gf20, gg20_0, gl20, gk20, gx22, ga9, gb9, gn9, gd9]⟩
     ·rw [if_neg kc18] at h7
      refine Wc.condF' (t := _) (by conv => lhs; simp) (by simpa using kc18) ?_
      refine Wc.seq ?_
      refine Wc.kil (by conv => lhs; simp) ?_
      refine Wc.skip ?_
      cases h7
      exact ⟨rfl, by first | rfl | simp [-aI_app1, -aI_app0, -aB_app0, -aS_app0, -aL_app0, -aI_app10, -aB_app10, -aS_app10, -aLt_app10I, -aLf_app10I, -aLt_app1I, -aLf_app1I, ga9, gb9, gn9, gd9]⟩
  ·skip
   rcases w6 with ⟨⟩ | ⟨out_23, found_24⟩ | ⟨x_25, x_26⟩
   ·rintro ex V ⟨rfl, rfl⟩
    try dsimp only at h
    refine Wc.evs (by conv => lhs; simp [-aI_app1, -aI_app0, -aB_app0, -aS_app0, -aL_app0, -aI_app10, -aB_app10, -aS_app10, -aLt_app10I, -aLf_app10I, -aLt_app1I, -aLf_app1I]) ?_
    refine Wo.nil ?_
    refine Wc.start (V1 := [(0, .v (ssl (eL eI) clauses)), (6, .v (.ptr true [(.sl true false 1 0 (arr eI true out_3))])), (7, .v (.bool false)), (14, .v (ssl (eL eI) clauses)), (15, .v (iT (clauses.length : Int))), (16, .v (iT (w64 (x_4 + 1))))]) ?_ (hk _ (Option.some.inj h).symm)
    first | rfl | simp [-aI_app1, -aI_app0, -aB_app0, -aS_app0, -aL_app0, -aI_app10, -aB_app10, -aS_app10, -aLt_app10I, -aLf_app10I, -aLt_app1I, -aLf_app1I]
   ·rintro ex V ⟨rfl, rfl⟩
    dsimp only at h ⊢
    have e0 := hx _ (Option.some.inj h).symm
    subst e0
    exact ⟨rfl, by first | rfl | simp [-aI_app1, -aI_app0, -aB_app0, -aS_app0, -aL_app0, -aI_app10, -aB_app10, -aS_app10, -aLt_app10I, -aLf_app10I, -aLt_app1I, -aLf_app1I]⟩
   ·rintro ex V ⟨rfl, rfl⟩
    dsimp only at h ⊢
    have e0 := hx _ (Option.some.inj h).symm
    subst e0
    exact ⟨rfl, by first | rfl | simp [-aI_app1, -aI_app0, -aB_app0, -aS_app0, -aL_app0, -aI_app10, -aB_app10, -aS_app10, -aLt_app10I, -aLf_app10I, -aLt_app1I, -aLf_app1I]⟩
 ·rw [if_neg kc5] at h
  refine Wc.condF' (t := _) (by conv => lhs; simp) (by simpa using kc5) ?_
  refine Wc.seq ?_
  refine Wc.kil (by conv => lhs; simp) ?_
  refine Wc.exit ?_
  have e0 := hx _ (Option.some.inj h).symm
  subst e0
  exact ⟨rfl, by first | rfl | simp [-aI_app1, -aI_app0, -aB_app0, -aS_app0, -aL_app0, -aI_app10, -aB_app10, -aS_app10, -aLt_app10I, -aLf_app10I, -aLt_app1I, -aLf_app1I]⟩
theorem r24_0 : ∀ zs zo, iter (f24_0 clauses) zs = some zo -> Wc cx 44 (.loop L24_0) [(0, .v (ssl (eL eI) clauses)), (6, .v (.ptr true [(.sl true false 1 0 (arr eI true zs))]))] ((QR (fun (y : (List Int) × Bool) => [(4, .v (.sl true false 1 0 (arr eI true y.1))), (5, .v (.bool y.2)), (6, .v (.ptr true [.und]))])) zo) := by
 intro zs0 zo0 zh0
 refine iter_run (f := (f24_0 clauses)) (P := fun zs zo => Wc cx 44 (.loop L24_0) [(0, .v (ssl (eL eI) clauses)), (6, .v (.ptr true [(.sl true false 1 0 (arr eI true zs))]))] ((QR (fun (y : (List Int) × Bool) => [(4, .v (.sl true false 1 0 (arr eI true y.1))), (5, .v (.bool y.2)), (6, .v (.ptr true [.und]))])) zo)) ?_ zh0
 rintro out_3 zo zr h hk hx
 try dsimp only at hk ⊢
 rw [f24_0] at h
 refine Wc.loop ?_
 refine Wc.block ?_
 refine Wc.seq ?_
 refine Wc.evs (by conv => lhs; simp [-aI_app1, -aI_app0, -aB_app0, -aS_app0, -aL_app0, -aI_app10, -aB_app10, -aS_app10, -aLt_app10I, -aLf_app10I, -aLt_app1I, -aLf_app1I]) ?_
 refine Wo.nil ?_
 refine Wc.seq ?_
 refine Wc.seq ?_
 refine Wc.evs (by conv => lhs; simp [-aI_app1, -aI_app0, -aB_app0, -aS_app0, -aL_app0, -aI_app10, -aB_app10, -aS_app10, -aLt_app10I, -aLf_app10I, -aLt_app1I, -aLf_app1I]) ?_
 refine Wo.nil ?_
 refine Wc.block ?_
 obtain ⟨w27, h28, h⟩ := bind_some h
 refine Wc.start (V1 := [(0, .v (ssl (eL eI) clauses)), (6, .v (.ptr true [(.sl true false 1 0 (arr eI true out_3))])), (7, .v (.bool false)), (14, .v (ssl (eL eI) clauses)), (15, .v (iT (clauses.length : Int))), (16, .v (iT 0))]) (by first | rfl | simp [-aI_app1, -aI_app0, -aB_app0, -aS_app0, -aL_app0, -aI_app10, -aB_app10, -aS_app10, -aLt_app10I, -aLf_app10I, -aLt_app1I, -aLf_app1I]) ?_
 refine Wc.mono (r24_1 _ _ h28) ?_
 rcases w27 with ⟨out_29, found_30⟩ | ⟨x_31, x_32⟩
 ·rintro ex V ⟨rfl, rfl⟩
  dsimp only at h ⊢
  refine Wc.seq ?_
  refine Wc.evs (by conv => lhs; simp [-aI_app1, -aI_app0, -aB_app0, -aS_app0, -aL_app0, -aI_app10, -aB_app10, -aS_app10, -aLt_app10I, -aLf_app10I, -aLt_app1I, -aLf_app1I]) ?_
  refine Wo.nil ?_
  by_cases kc33 : ¬ (found_30 = true)
  ·rw [if_pos kc33] at h
   refine Wc.condT' (t := _) (by conv => lhs; simp) (by simpa using kc33) ?_
   refine Wc.seq ?_
   refine Wc.kil (by conv => lhs; simp) ?_
   refine Wc.seq ?_
   refine Wc.evs (by conv => lhs; simp [-aI_app1, -aI_app0, -aB_app0, -aS_app0, -aL_app0, -aI_app10, -aB_app10, -aS_app10, -aLt_app10I, -aLf_app10I, -aLt_app1I, -aLf_app1I]) ?_
   refine Wo.nil ?_
   refine Wc.gh (vle_take (s := 4) (by simp) (by conv => lhs; simp [-aI_app1, -aI_app0, -aB_app0, -aS_app0, -aL_app0, -aI_app10, -aB_app10, -aS_app10, -aLt_app10I, -aLf_app10I, -aLt_app1I, -aLf_app1I]) (by conv => lhs; simp)) ?_
   refine Wc.ret ?_
   have e0 := hx _ (Option.some.inj h).symm
   subst e0
   exact ⟨rfl, by first | rfl | simp [-aI_app1, -aI_app0, -aB_app0, -aS_app0, -aL_app0, -aI_app10, -aB_app10, -aS_app10, -aLt_app10I, -aLf_app10I, -aLt_app1I, -aLf_app1I]⟩
  ·rw [if_neg kc33] at h
   refine Wc.condF' (t := _) (by conv => lhs; simp) (by simpa using kc33) ?_
   refine Wc.seq ?_
   refine Wc.kil (by conv => lhs; simp) ?_
   refine Wc.skip ?_
   refine Wc.start (V1 := [(0, .v (ssl (eL eI) clauses)), (6, .v (.ptr true [(.sl true false 1 0 (arr eI true out_29))]))]) ?_ (hk _ (Option.some.inj h).symm)
   first | rfl | simp [-aI_app1, -aI_app0, -aB_app0, -aS_app0, -aL_app0, -aI_app10, -aB_app10, -aS_app10, -aLt_app10I, -aLf_app10I, -aLt_app1I, -aLf_app1I]
 ·rintro ex V ⟨rfl, rfl⟩
  dsimp only at h ⊢
  have e0 := hx _ (Option.some.inj h).symm
  subst e0
  exact ⟨rfl, by first | rfl | simp [-aI_app1, -aI_app0, -aB_app0, -aS_app0, -aL_app0, -aI_app10, -aB_app10, -aS_app10, -aLt_app10I, -aLf_app10I, -aLt_app1I, -aLf_app1I]⟩
theorem r24 {clauses : (List (List Int))} {start : (List Int)} {r : (List Int) × Bool} (h : f24 clauses start = some r) : VJx cx (.ca 24 [(ssl (eL eI) clauses), (ssl eI start)] (.tup [(.sl true false 1 0 (arr eI true r.1)), (.bool r.2)]) []) := by
 unfold f24 at h
 refine ca_of rfl rfl (by decide) rfl ?_
 refine Wc.start (V1 := [(0, .v (ssl (eL eI) clauses)), (1, .v (ssl eI start))]) (by simp) ?_
 refine Wc.seq ?_
 refine Wc.evs (by conv => lhs; simp [-aI_app1, -aI_app0, -aB_app0, -aS_app0, -aL_app0, -aI_app10, -aB_app10, -aS_app10, -aLt_app10I, -aLf_app10I, -aLt_app1I, -aLf_app1I]) ?_
 refine Wo.nil ?_
 refine Wc.seq ?_
 obtain ⟨l_1, h2, h⟩ := bind_some h
 have gx2 := appT_arr2 (E := eI) (b := true) (b' := false) (y := false) h2 (by decide) (arr_sc rfl _)
 simp [-aI_app1, -aI_app0, -aB_app0, -aS_app0, -aL_app0, -aLt_app1I, -aLf_app1I, -aLt_app10I, -aLf_app10I] at gx2
 refine Wc.evs (by conv => lhs; simp [-aI_app1, -aI_app0, -aB_app0, -aS_app0, -aL_app0, -aI_app10, -aB_app10, -aS_app10, -aLt_app10I, -aLf_app10I, -aLt_app1I, -aLf_app1I, gx2]) ?_
 refine Wo.nil ?_
 refine Wc.block ?_
 obtain ⟨w34, h35, h⟩ := bind_some h
 refine Wc.start (V1 := [(0, .v (ssl (eL eI) clauses)), (6, .v (.ptr true [(.sl true false 1 0 (arr eI true l_1))]))]) (by first | rfl | simp [-aI_app1, -aI_app0, -aB_app0, -aS_app0, -aL_app0, -aI_app10, -aB_app10, -aS_app10, -aLt_app10I, -aLf_app10I, -aLt_app1I, -aLf_app1I, gx2]) ?_
 refine Wc.mono (r24_0 _ _ h35) ?_
 obtain ⟨x_36, x_37⟩ := w34
 rintro ex V ⟨rfl, rfl⟩
 dsimp only at h ⊢
 refine res_of (.inr rfl) ?_
 cases h
 exact ⟨_, _, _, by conv => lhs; simp, by (conv => lhs; simp [cx, ioTab, List.range, List.range.loop]) <;> rfl, by first | rfl | simp [-aI_app1, -aI_app0, -aB_app0, -aS_app0, -aL_app0, -aI_app10, -aB_app10, -aS_app10, -aLt_app10I, -aLf_app10I, -aLt_app1I, -aLf_app1I, gx2]⟩
instance i24 {start : (List Int)} : Rn cx (f24 clauses start) 24 [(ssl (eL eI) clauses), (ssl eI start)] (fun (r : (List Int) × Bool) => (.tup [(.sl true false 1 0 (arr eI true r.1)), (.bool r.2)])) (fun r => []) := ⟨fun _ h => r24 h⟩
instance : Io0 cx 24 := ⟨rfl⟩
instance i6_0 : Lp cx (f6_0 proof) 57 L6_0 (fun (zs : (List (List Int)) × Int) => [(2, .v (ssl (eL eI) proof)), (7, .v (osl (eL eI) false zs.1)), (29, .v (ssl (eL eI) proof)), (30, .v (iT (proof.length : Int))), (31, .v (iT zs.2))]) (QO (QX 0 (fun (y : Unit) => [(2, .v (ssl (eL eI) proof))])) (QR (fun (y : Bool) => [(6, .v (.bool y))]))) := Lp.of (f := (fun
 | (known_14, x_15) =>
  if x_15 < (proof.length : Int) then
  (ix proof x_15).bind fun v_17 =>
  (f25 v_17).bind fun o19 =>
  (f24 known_14 o19).bind fun o21 =>
  sn 0 39 (.tup [(osl eI true o21.1), (.bool o21.2)]) <| 
  if ¬ (o21.2 = true) then
  some (.inr (.inr false))
  else
  (app 24 known_14 ([v_17])).bind fun l_24 =>
  some (.inl (l_24, w64 (x_15 + 1)))
  else
  some (.inr (.inl ())) : (List (List Int)) × Int -> Option (((List (List Int)) × Int) ⊕ (Unit ⊕ Bool)))) (by exact go)
instance i6 : Rn cx (f6 n0 clauses proof) 6 [(iT n0), (ssl (eL eI) clauses), (ssl (eL eI) proof)] (fun (r : Bool) => (.bool r)) (fun r => []) := Rn.o (e := (
  (f21 n0 clauses).bind fun o1 =>
  (jn (QN (fun (y : Bool) => [(1, .v (ssl (eL eI) clauses)), (2, .v (ssl (eL eI) proof)), (26, .v (.bool y))])) ((if ¬ (o1 = true) then
  some true
  else
  (jn (QN (fun (y : Bool) => [(1, .v (ssl (eL eI) clauses)), (2, .v (ssl (eL eI) proof)), (26, .v (.bool y))])) ((if (proof.length : Int) = 0 then
  some true
  else
  (f22 n0 proof).bind fun o9 =>
  some (decide (¬ (o9 = true)))) : Option (Bool))).bind fun x_6 =>
  some x_6) : Option (Bool))).bind fun x_3 =>
  if x_3 = true then
  some false
  else
  (f23 clauses).bind fun o12 =>
  (iter (f6_0 proof) (o12, 0)).bind fun o => match o with
  | .inl _ =>
  (ix proof (w64 ((proof.length : Int) - 1))).bind fun v_29 =>
  some (decide ((v_29.length : Int) = 0))
  | .inr x_28 =>
  some x_28 : Option Bool)) rfl (by exact go)
instance : Io0 cx 6 := ⟨rfl⟩
instance i26 : Rn cx (f26 code) 26 [(ssl eU code)] (fun (r : Int × (List (List Int))) => (.tup [(iT r.1), (osl (eL eI) true r.2)])) (fun r => []) := Rn.o rfl (by unfold f26; exact go)
instance : Io0 cx 26 := ⟨rfl⟩
instance i7 : Rn cx (f7 code) 7 [(ssl eU code)] (fun (r : Int × (List (List Int))) => (.tup [(iT r.1), (osl (eL eI) true r.2)])) (fun r => []) := Rn.o rfl (by unfold f7; exact go)
instance : Io0 cx 7 := ⟨rfl⟩
instance i8_0 : Lp cx (f8_0 n0 proof) 65 L8_0 (fun (zs : (List (List Int)) × Int) => [(0, .v (iT n0)), (2, .v (ssl (eL eI) proof)), (7, .v (osl (eL eI) false zs.1)), (8, .v (iT zs.2))]) (QO (QX 0 (fun (y : Unit) => [])) (QR (fun (y : Bool) => [(6, .v (.bool y))]))) := Lp.of (by unfold f8_0; exact go)
instance i8 : Rn cx (f8 n0 l proof) 8 [(iT n0), (ssl (eL eI) l), (ssl (eL eI) proof)] (fun (r : Bool) => (.bool r)) (fun r => []) := Rn.o (e := (
  (f27 n0 l).bind fun o1 =>
  (jn (QN (fun (y : Bool) => [(0, .v (iT n0)), (1, .v (ssl (eL eI) l)), (2, .v (ssl (eL eI) proof)), (29, .v (.bool y))])) ((if ¬ (o1 = true) then
  some true
  else
  (jn (QN (fun (y : Bool) => [(0, .v (iT n0)), (1, .v (ssl (eL eI) l)), (2, .v (ssl (eL eI) proof)), (29, .v (.bool y))])) ((if (proof.length : Int) = 0 then
  some true
  else
  (ix proof (w64 ((proof.length : Int) - 1))).bind fun v_9 =>
  some (decide ((v_9.length : Int) > 0))) : Option (Bool))).bind fun x_6 =>
  some x_6) : Option (Bool))).bind fun x_3 =>
  if x_3 = true then
  some false
  else
  (app 24 ([]) l).bind fun l_12 =>
  sn 4 7 (osl (eL eI) false l_12) <| 
  (iter (f8_0 n0 proof) (l_12, 0)).bind fun o => match o with
  | .inl _ =>
  some true
  | .inr x_31 =>
  some x_31 : Option Bool)) rfl (by exact go)
instance : Io0 cx 8 := ⟨rfl⟩
theorem r51 {n : Int} {r : List UInt8} (h : f51 n = some r) : VJx cx (.ca 51 [.int .i64 n] (.str r) []) := by
 exact ca_itoa (X := X0) (fun _ _ _ _ _ h => .inl h) (fun _ _ _ _ h => h) rfl h
instance i51 {n : Int} : Rn cx (f51 n) 51 [.int .i64 n] (fun r => .str r) (fun _ => []) := ⟨fun _ h => r51 h⟩
instance : Io0 cx 51 := ⟨rfl⟩
instance i32 : Rn cx (f32 n0) 32 [(iT n0)] (fun (r : (List UInt8)) => (.str r)) (fun r => []) := Rn.o rfl (by unfold f32; exact go)
instance : Io0 cx 32 := ⟨rfl⟩
theorem r34 {xs : List (List UInt8)} {sep : List UInt8} {r : List UInt8} (h : f34 xs sep = some r) : VJx cx (.ca 34 [ssl eS xs, .str sep] (.str r) []) := by
 exact ca_join (X := X0) (fun _ _ _ _ _ h => .inr (h)) (fun _ _ _ _ h => h) rfl h
instance i34 {xs : List (List UInt8)} {sep : List UInt8} : Rn cx (f34 xs sep) 34 [ssl eS xs, .str sep] (fun r => .str r) (fun _ => []) := ⟨fun _ h => r34 h⟩
instance : Io0 cx 34 := ⟨rfl⟩
instance i12_0 : Lp cx (f12_0 clause) 23 L12_0 (fun (zs : (List (List UInt8)) × Int) => [(3, .v (osl eS true zs.1)), (7, .v (ssl eI clause)), (8, .v (iT (clause.length : Int))), (9, .v (iT zs.2))]) (QX 0 (fun (y : (List (List UInt8))) => [(3, .v (osl eS true y))])) := Lp.of (by unfold f12_0; exact go)
instance i12 : Rn cx (f12 clause) 12 [(ssl eI clause)] (fun (r : (List UInt8)) => (.str r)) (fun r => []) := Rn.o (e := (
  sn 3 3 (osl eS true ([])) <| 
  (iter (f12_0 clause) ([], 0)).bind fun out_12 =>
  (f34 out_12 ([32])).bind fun o13 =>
  (cat ([40]) o13).bind fun s_15 =>
  (cat s_15 ([41])).bind fun s_17 =>
  some s_17 : Option (List UInt8))) rfl (by exact go)
instance : Io0 cx 12 := ⟨rfl⟩
instance i10_0 : Lp cx (f10_0 clauses) 27 L10_0 (fun (zs : (List UInt8) × Int) => [(5, .v (.str zs.1)), (15, .v (ssl (eL eI) clauses)), (16, .v (iT (clauses.length : Int))), (17, .v (iT zs.2))]) (QX 0 (fun (y : (List UInt8)) => [(5, .v (.str y))])) := Lp.of (by unfold f10_0; exact go)
instance i10 : Rn cx (f10 n0 clauses) 10 [(iT n0), (ssl (eL eI) clauses)] (fun (r : (List UInt8)) => (.str r)) (fun r => []) := Rn.o rfl (by unfold f10; exact go)
instance : Io0 cx 10 := ⟨rfl⟩
instance i33_0 : Lp cx (lw n0 f33_0) 31 L33_0 (fun (zs : Int × (List UInt8)) => [(0, .v (iT zs.1)), (3, .v (.str zs.2)), (4, .v (.bool (decide (n0 < 0))))]) (QX 0 (fun (y : (List UInt8)) => [(3, .v (.str y)), (4, .v (.bool (decide (n0 < 0))))])) := Lp.of (f := (fun
 | (n_2, out_3) =>
  if n_2 ≠ 0 then
  (jn (QN (fun (y : Int) => [(0, .v (iT n_2)), (3, .v (.str out_3)), (4, .v (.bool (decide (n0 < 0)))), (5, .v (iT y))])) ((if (n_2.tmod 10) < 0 then
  some (w64 (-(n_2.tmod 10)))
  else
  some (n_2.tmod 10)) : Option Int)).bind fun d_8 =>
  (cat ([UInt8.ofNat (w8 (w64 (48 + d_8))).toNat]) out_3).bind fun s_9 =>
  some (.inl (w64 (n_2.tdiv 10), s_9))
  else
  some (.inr out_3) : Int × (List UInt8) -> Option ((Int × (List UInt8)) ⊕ (List UInt8)))) (by exact go)
instance i33 : Rn cx (f33 n0) 33 [(iT n0)] (fun (r : (List UInt8)) => (.str r)) (fun r => []) := Rn.o (e := (
  if n0 = 0 then
  some ([48])
  else
  (iter (lw n0  f33_0) (n0, [])).bind fun out_13 =>
  if n0 < 0 then
  (cat ([45]) out_13).bind fun s_15 =>
  some s_15
  else
  some out_13 : Option (List UInt8))) rfl (by exact go)
instance : Io0 cx 33 := ⟨rfl⟩
instance i14_0 : Lp cx (f14_0 c) 24 L14_0 (fun (zs : (List UInt8) × Int) => [(0, .v (ssl eI c)), (3, .v (.str zs.1)), (4, .v (iT zs.2))]) (QX 0 (fun (y : (List UInt8)) => [(3, .v (.str y))])) := Lp.of (f := (fun
 | (s_1, i_2) =>
  if i_2 < (c.length : Int) then
  (jn (QN (fun (y : (List UInt8)) => [(0, .v (ssl eI c)), (3, .v (.str y)), (4, .v (iT i_2))])) ((if i_2 > 0 then
  (cat s_1 ([32])).bind fun s_7 =>
  some s_7
  else
  some s_1) : Option (List UInt8))).bind fun s_9 =>
  (ix c i_2).bind fun v_10 =>
  (f33 v_10).bind fun o12 =>
  (cat s_9 o12).bind fun s_14 =>
  some (.inl (s_14, w64 (i_2 + 1)))
  else
  some (.inr s_1) : (List UInt8) × Int -> Option (((List UInt8) × Int) ⊕ (List UInt8)))) (by exact go)
instance i14 : Rn cx (f14 c) 14 [(ssl eI c)] (fun (r : (List UInt8)) => (.str r)) (fun r => []) := Rn.o rfl (by unfold f14; exact go)
instance : Io0 cx 14 := ⟨rfl⟩
instance i11_0 : Lp cx (f11_0 l) 28 L11_0 (fun (zs : (List UInt8) × Int) => [(1, .v (ssl (eL eI) l)), (5, .v (.str zs.1)), (6, .v (iT zs.2))]) (QX 0 (fun (y : (List UInt8)) => [(5, .v (.str y))])) := Lp.of (by unfold f11_0; exact go)
instance i11 : Rn cx (f11 n0 l) 11 [(iT n0), (ssl (eL eI) l)] (fun (r : (List UInt8)) => (.str r)) (fun r => []) := Rn.o rfl (by unfold f11; exact go)
instance : Io0 cx 11 := ⟨rfl⟩
instance i13 : Rn cx (f13 code) 13 [(ssl eU code)] (fun (r : (List Int)) => (ssl eI r)) (fun r => []) := Rn.o (e := (
  (f15 code).bind fun o1 =>
  (f16 o1).bind fun o3 =>
  if (o3.2.1.length : Int) = 0 then
  sn 2 2 (osl eI true ([])) <| 
  some ([])
  else
  sn 1 15 (ssl (eL eI) o3.2.1) <| 
  (ix o3.2.1 0).bind fun v_6 =>
  some v_6 : Option (List Int))) rfl (by exact go)
instance : Io0 cx 13 := ⟨rfl⟩
instance i50 : Rn cx (f50 model x) 50 [(ssl eB model), (iT x)] (fun (r : Bool) => (.bool r)) (fun r => []) := Rn.o (e := (
  if x > 0 then
  (jn (QN (fun (y : Bool) => [(4, .v (.bool y))])) ((if x <= (model.length : Int) then
  (ix model (w64 (x - 1))).bind fun v_5 =>
  some v_5
  else
  some false) : Option (Bool))).bind fun x_2 =>
  some x_2
  else
  (jn (QN (fun (y : Bool) => [(4, .v (.bool y))])) ((if x < 0 then
  (jn (QN (fun (y : Bool) => [(4, .v (.bool y))])) ((if x >= (w64 (-(model.length : Int))) then
  (ix model (w64 ((w64 (-x)) - 1))).bind fun v_13 =>
  some (decide (¬ (v_13 = true)))
  else
  some false) : Option (Bool))).bind fun x_10 =>
  some x_10
  else
  some false) : Option (Bool))).bind fun x_7 =>
  some x_7 : Option Bool)) rfl (by exact go)
instance : Io0 cx 50 := ⟨rfl⟩
instance i49 {c : (List Bool)} : Rn cx (f49 x c) 49 [(iT x), (.ptr false [(ssl eB c)])] (fun (r : Bool) => (.bool r)) (fun r => []) := Rn.o rfl (by unfold f49; exact go)
instance : Io0 cx 49 := ⟨rfl⟩
instance i48 {c : (List Bool)} : Rn cx (f48 clause c) 48 [(ssl eI clause), (.ptr false [(ssl eB c)])] (fun (r : Bool) => (.bool r)) (fun r => []) := Rn.o rfl (by unfold f48; exact go)
instance : Io0 cx 48 := ⟨rfl⟩
instance i31 : Rn cx (f31 clauses model) 31 [(ssl (eL eI) clauses), (ssl eB model)] (fun (r : Bool) => (.bool r)) (fun r => []) := Rn.o rfl (by unfold f31; exact go)
instance : Io0 cx 31 := ⟨rfl⟩
instance i9_1 {count_8 : Int} {model_9 : (List Bool)} {x_10 : Int} : Lp cx (lw (n0, clauses, count_8) (f9_1 model_9 x_10)) 41 L9_1 (fun (zs : (List Bool) × Int) => [(1, .v (ssl (eL eI) clauses)), (5, .v (iT count_8)), (6, .v (osl eB true zs.1)), (7, .v (iT x_10)), (16, .v (iT (sshl .i64 1 n0))), (17, .v (iT x_10)), (21, .v (iT (model_9.length : Int))), (22, .v (iT zs.2))]) (QX 2 (fun (y : (List Bool)) => [(1, .v (ssl (eL eI) clauses)), (5, .v (iT count_8)), (6, .v (osl eB true y)), (16, .v (iT (sshl .i64 1 n0))), (17, .v (iT x_10))])) := Lp.of (by unfold lw f9_1; exact go)
instance i9_0 : Lp cx (f9_0 n0 clauses) 41 L9_0 (fun (zs : Int × (List Bool) × Int) => [(1, .v (ssl (eL eI) clauses)), (5, .v (iT zs.1)), (6, .v (osl eB true zs.2.1)), (16, .v (iT (sshl .i64 1 n0))), (17, .v (iT zs.2.2))]) (QX 0 (fun (y : Int) => [(5, .v (iT y))])) := Lp.of (f := (fun
 | (count_8, model_9, x_10) =>
  if x_10 < (sshl .i64 1 n0) then
  (iter (lw (n0, clauses, count_8)  (f9_1 model_9 x_10)) (model_9, 0)).bind fun model_22 =>
  (f31 clauses model_22).bind fun o23 =>
  (jn (QN (fun (y : Int) => [(1, .v (ssl (eL eI) clauses)), (5, .v (iT y)), (6, .v (osl eB true model_22)), (16, .v (iT (sshl .i64 1 n0))), (17, .v (iT x_10))])) ((if o23 = true then
  some (w64 (count_8 + 1))
  else
  some count_8) : Option Int)).bind fun count_28 =>
  some (.inl (count_28, model_22, w64 (x_10 + 1)))
  else
  some (.inr count_8) : Int × (List Bool) × Int -> Option ((Int × (List Bool) × Int) ⊕ Int))) (by exact go)
instance i9 : Rn cx (f9 n0 clauses) 9 [(iT n0), (ssl (eL eI) clauses)] (fun (r : Int) => (iT r)) (fun r => []) := Rn.o (e := (
  (f21 n0 clauses).bind fun o1 =>
  if ¬ (o1 = true) then
  some 0
  else
  (mkl 1 n0 false).bind fun l_4 =>
  sn 4 6 (osl eB true l_4) <| 
  (nn n0).bind fun z_6 =>
  (iter (f9_0 n0 clauses) (0, l_4, 0)).bind fun count_31 =>
  some count_31 : Option Int)) rfl (by exact go)
instance : Io0 cx 9 := ⟨rfl⟩
instance i3 : Rn cx (f3 code) 3 [(ssl eU code)] (fun (r : Bool) => (.bool r)) (fun r => []) := Rn.o (e := (
  (f4 code).bind fun o1 =>
  if o1 = true then
  some true
  else
  (f5 code).bind fun o4 =>
  (f6 o4.1 o4.2.1 o4.2.2).bind fun o6 =>
  (f7 code).bind fun o8 =>
  (f8 o4.1 o4.2.1 o4.2.2).bind fun o10 =>
  (jn (QN (fun (y : Bool) => [(2, .v (.bool y))])) ((if (o6 == o10) = true then
  (jn (QN (fun (y : Bool) => [(2, .v (.bool y))])) ((if ¬ (o6 = true) then
  (f10 o8.1 o8.2).bind fun o18 =>
  (f11 o8.1 o8.2).bind fun o20 =>
  (jn (QN (fun (y : Bool) => [(2, .v (.bool y))])) ((if o18 = o20 then
  (f13 code).bind fun o25 =>
  (f12 o25).bind fun o27 =>
  (f13 code).bind fun o29 =>
  (f14 o29).bind fun o31 =>
  some (decide (o27 = o31))
  else
  some false) : Option (Bool))).bind fun x_22 =>
  some x_22
  else
  (f9 o4.1 o4.2.1).bind fun o33 =>
  (jn (QN (fun (y : Bool) => [(2, .v (.bool y))])) ((if o33 = 0 then
  (f10 o8.1 o8.2).bind fun o38 =>
  (f11 o8.1 o8.2).bind fun o40 =>
  (jn (QN (fun (y : Bool) => [(2, .v (.bool y))])) ((if o38 = o40 then
  (f13 code).bind fun o45 =>
  (f12 o45).bind fun o47 =>
  (f13 code).bind fun o49 =>
  (f14 o49).bind fun o51 =>
  some (decide (o47 = o51))
  else
  some false) : Option (Bool))).bind fun x_42 =>
  some x_42
  else
  some false) : Option (Bool))).bind fun x_35 =>
  some x_35) : Option (Bool))).bind fun x_15 =>
  some x_15
  else
  some false) : Option (Bool))).bind fun x_12 =>
  some x_12 : Option Bool)) rfl (by exact go)
instance : Io0 cx 3 := ⟨rfl⟩
end
end Go.Proofs.YtbpdhmbdpjafeaaDoorH
