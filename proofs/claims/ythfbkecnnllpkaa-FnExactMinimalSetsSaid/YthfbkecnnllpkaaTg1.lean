/- Runs of the program's functions: printed by tg.py. -/
import Derived.Test.YthfbkecnnllpkaaCx1
import Derived.Test.YthfbkecnnllpkaaTd1
set_option linter.unusedVariables false
set_option linter.unusedSimpArgs false
set_option maxRecDepth 100000
namespace Go.Proofs.YthfbkecnnllpkaaH
open Go
noncomputable section
theorem r51 {a : (List Int)} {left : Int} {r : Int} (h : f51 a left = some r) : VJx cx (.ca 51 [(ssl eI a), (.int .i64 left)] (.int .i64 r) []) := by
  unfold f51 at h
  refine ca_of rfl rfl (by decide) rfl ?_
  refine Wc.start (V1 := [(0, .v (ssl eI a)), (1, .v (.int .i64 left))]) (by simp) ?_
  refine Wc.seq ?_
  refine Wc.evs (by conv => lhs; simp) ?_
  refine Wo.nil ?_
  refine Wc.seq ?_
  refine Wc.evs (by conv => lhs; simp) ?_
  refine Wo.nil ?_
  refine Wc.seq ?_
  refine Wc.seq ?_
  refine Wc.evs (by conv => lhs; simp) ?_
  refine Wo.nil ?_
  by_cases kc1 : (w64 (left - (a.length : Int))) < 0
  · rw [if_pos kc1] at h
    refine Wc.condT' (t := _) (by conv => lhs; simp) (by simpa using kc1) ?_
    refine Wc.seq ?_
    refine Wc.kil (by conv => lhs; simp) ?_
    refine Wc.seq ?_
    refine Wc.evs (by conv => lhs; simp) ?_
    refine Wo.nil ?_
    refine Wc.ret (res_of (.inr rfl) ?_)
    cases h
    exact ⟨_, _, _, by conv => lhs; simp, by (conv => lhs; simp [cx, ioTab, List.range, List.range.loop]) <;> rfl, by first | rfl | simp⟩
  · rw [if_neg kc1] at h
    refine Wc.condF' (t := _) (by conv => lhs; simp) (by simpa using kc1) ?_
    refine Wc.seq ?_
    refine Wc.kil (by conv => lhs; simp) ?_
    refine Wc.skip ?_
    refine Wc.seq ?_
    refine Wc.evs (by conv => lhs; simp) ?_
    refine Wo.nil ?_
    refine Wc.ret (res_of (.inr rfl) ?_)
    cases h
    exact ⟨_, _, _, by conv => lhs; simp, by (conv => lhs; simp [cx, ioTab, List.range, List.range.loop]) <;> rfl, by first | rfl | simp⟩
theorem r26_0 {a : (List (List Int))} : ∀ zs zo, iter (f26_0 a) zs = some zo → Wc cx 27 (.loop L26_0) [(0, .v (ssl (eL eI) a)), (1, .v (.int .i64 zs.1)), (5, .v (.int .i64 zs.2))] ((QO (QX 0 (fun (y : Int) => [(1, .v (.int .i64 y))])) (QR (fun (y : Int) => [(4, .v (.int .i64 y))]))) zo) := by
  intro zs0 zo0 zh0
  refine iter_run (f := (f26_0 a)) (P := fun zs zo => Wc cx 27 (.loop L26_0) [(0, .v (ssl (eL eI) a)), (1, .v (.int .i64 zs.1)), (5, .v (.int .i64 zs.2))] ((QO (QX 0 (fun (y : Int) => [(1, .v (.int .i64 y))])) (QR (fun (y : Int) => [(4, .v (.int .i64 y))]))) zo)) ?_ zh0
  rintro ⟨left_2, i_3⟩ zo zr h hk hx
  try dsimp only at hk ⊢
  rw [f26_0] at h
  refine Wc.loop ?_
  refine Wc.seq ?_
  refine Wc.seq ?_
  refine Wc.evs (by conv => lhs; simp) ?_
  refine Wo.nil ?_
  by_cases kc4 : i_3 < (a.length : Int)
  · rw [if_pos kc4] at h
    refine Wc.condT' (t := _) (by conv => lhs; simp) (by simpa using kc4) ?_
    refine Wc.seq ?_
    refine Wc.kil (by conv => lhs; simp) ?_
    refine Wc.skip ?_
    refine Wc.seq ?_
    refine Wc.block ?_
    refine Wc.seq ?_
    obtain ⟨v_5, h6, h⟩ := bind_some h
    obtain ⟨ga6, gb6, gc6⟩ := ix_some h6
    have gn6 := ix_ne h6
    have gd6 := arr_at (E := (eL eI)) (b := false) gc6
    simp at gd6
    refine Wc.evs (by conv => lhs; simp [ga6, gb6, gn6, gd6]) ?_
    obtain ⟨o7, h8, h⟩ := bind_some h
    refine Wo.call (by simp) rfl (by (conv => lhs; simp [ga6, gb6, gn6, gd6, cx, ioTab]) <;> rfl) (r51 h8) (by simp) (by simp) (by (conv => lhs; simp [ga6, gb6, gn6, gd6, cx, ioTab]) <;> rfl) (by (conv => lhs; simp [ga6, gb6, gn6, gd6]) <;> rfl) ?_
    refine Wo.evs (by conv => lhs; simp [ga6, gb6, gn6, gd6]) ?_
    refine Wo.nil ?_
    refine Wc.seq ?_
    refine Wc.evs (by conv => lhs; simp) ?_
    refine Wo.nil ?_
    by_cases kc9 : o7 < 0
    · rw [if_pos kc9] at h
      refine Wc.condT' (t := _) (by conv => lhs; simp) (by simpa using kc9) ?_
      refine Wc.seq ?_
      refine Wc.kil (by conv => lhs; simp) ?_
      refine Wc.seq ?_
      refine Wc.evs (by conv => lhs; simp) ?_
      refine Wo.nil ?_
      refine Wc.ret ?_
      have e0 := hx _ (Option.some.inj h).symm
      subst e0
      exact ⟨rfl, by first | rfl | simp⟩
    · rw [if_neg kc9] at h
      refine Wc.condF' (t := _) (by conv => lhs; simp) (by simpa using kc9) ?_
      refine Wc.seq ?_
      refine Wc.kil (by conv => lhs; simp) ?_
      refine Wc.skip ?_
      refine Wc.evs (by conv => lhs; simp) ?_
      refine Wo.nil ?_
      refine Wc.start (V1 := [(0, .v (ssl (eL eI) a)), (1, .v (.int .i64 o7)), (5, .v (.int .i64 (w64 (i_3 + 1))))]) ?_ (hk _ (Option.some.inj h).symm)
      first | rfl | simp
  · rw [if_neg kc4] at h
    refine Wc.condF' (t := _) (by conv => lhs; simp) (by simpa using kc4) ?_
    refine Wc.seq ?_
    refine Wc.kil (by conv => lhs; simp) ?_
    refine Wc.exit ?_
    have e0 := hx _ (Option.some.inj h).symm
    subst e0
    exact ⟨rfl, by first | rfl | simp⟩
theorem r26 {a : (List (List Int))} {left : Int} {r : Int} (h : f26 a left = some r) : VJx cx (.ca 26 [(ssl (eL eI) a), (.int .i64 left)] (.int .i64 r) []) := by
  unfold f26 at h
  refine ca_of rfl rfl (by decide) rfl ?_
  refine Wc.start (V1 := [(0, .v (ssl (eL eI) a)), (1, .v (.int .i64 left))]) (by simp) ?_
  refine Wc.seq ?_
  refine Wc.evs (by conv => lhs; simp) ?_
  refine Wo.nil ?_
  refine Wc.seq ?_
  refine Wc.evs (by conv => lhs; simp) ?_
  refine Wo.nil ?_
  refine Wc.seq ?_
  refine Wc.seq ?_
  refine Wc.evs (by conv => lhs; simp) ?_
  refine Wo.nil ?_
  by_cases kc1 : (w64 (left - (a.length : Int))) < 0
  · rw [if_pos kc1] at h
    refine Wc.condT' (t := _) (by conv => lhs; simp) (by simpa using kc1) ?_
    refine Wc.seq ?_
    refine Wc.kil (by conv => lhs; simp) ?_
    refine Wc.seq ?_
    refine Wc.evs (by conv => lhs; simp) ?_
    refine Wo.nil ?_
    refine Wc.ret (res_of (.inr rfl) ?_)
    cases h
    exact ⟨_, _, _, by conv => lhs; simp, by (conv => lhs; simp [cx, ioTab, List.range, List.range.loop]) <;> rfl, by first | rfl | simp⟩
  · rw [if_neg kc1] at h
    refine Wc.condF' (t := _) (by conv => lhs; simp) (by simpa using kc1) ?_
    refine Wc.seq ?_
    refine Wc.kil (by conv => lhs; simp) ?_
    refine Wc.skip ?_
    refine Wc.seq ?_
    refine Wc.seq ?_
    refine Wc.evs (by conv => lhs; simp) ?_
    refine Wo.nil ?_
    refine Wc.block ?_
    obtain ⟨w10, h11, h⟩ := bind_some h
    refine Wc.start (V1 := [(0, .v (ssl (eL eI) a)), (1, .v (.int .i64 (w64 (left - (a.length : Int))))), (5, .v (.int .i64 0))]) (by first | rfl | simp) ?_
    refine Wc.mono (r26_0 _ _ h11) ?_
    rcases w10 with left_12 | x_13
    · rintro ex V ⟨rfl, rfl⟩
      try dsimp only at h
      refine Wc.seq ?_
      refine Wc.evs (by conv => lhs; simp) ?_
      refine Wo.nil ?_
      refine Wc.ret (res_of (.inr rfl) ?_)
      cases h
      exact ⟨_, _, _, by conv => lhs; simp, by (conv => lhs; simp [cx, ioTab, List.range, List.range.loop]) <;> rfl, by first | rfl | simp⟩
    · rintro ex V ⟨rfl, rfl⟩
      try dsimp only at h
      refine res_of (.inr rfl) ?_
      cases h
      exact ⟨_, _, _, by conv => lhs; simp, by (conv => lhs; simp [cx, ioTab, List.range, List.range.loop]) <;> rfl, by first | rfl | simp⟩
theorem r16_0 {a : (List Int)} : ∀ zs zo, iter (f16_0 a) zs = some zo → Wc cx 22 (.loop L16_0) [(0, .v (ssl eI a)), (3, .v (osl eI true zs.1)), (4, .v (.int .i64 zs.2))] ((QX 0 (fun (y : (List Int)) => [(3, .v (osl eI true y))])) zo) := by
  intro zs0 zo0 zh0
  refine iter_run (f := (f16_0 a)) (P := fun zs zo => Wc cx 22 (.loop L16_0) [(0, .v (ssl eI a)), (3, .v (osl eI true zs.1)), (4, .v (.int .i64 zs.2))] ((QX 0 (fun (y : (List Int)) => [(3, .v (osl eI true y))])) zo)) ?_ zh0
  rintro ⟨out_3, i_4⟩ zo zr h hk hx
  try dsimp only at hk ⊢
  rw [f16_0] at h
  refine Wc.loop ?_
  refine Wc.seq ?_
  refine Wc.seq ?_
  refine Wc.evs (by conv => lhs; simp) ?_
  refine Wo.nil ?_
  by_cases kc5 : i_4 < (a.length : Int)
  · rw [if_pos kc5] at h
    refine Wc.condT' (t := _) (by conv => lhs; simp) (by simpa using kc5) ?_
    refine Wc.seq ?_
    refine Wc.kil (by conv => lhs; simp) ?_
    refine Wc.skip ?_
    refine Wc.seq ?_
    refine Wc.block ?_
    obtain ⟨v_6, h7, h⟩ := bind_some h
    obtain ⟨ga7, gb7, gc7⟩ := ix_some h7
    have gn7 := ix_ne h7
    have gd7 := arr_at (E := eI) (b := false) gc7
    simp at gd7
    obtain ⟨v_8, h9, h⟩ := bind_some h
    obtain ⟨ga9, gb9, gc9⟩ := ix_some h9
    have gn9 := ix_ne h9
    have gf9 := arr_fit (E := eI) (b := true) (i := i_4.toNat) (l := out_3) (by omega)
    have gg9_0 := arr_get (E := eI) (b := true) (o := 0) gc9 (by decide)
    simp at gf9 gg9_0
    have gl9 : i_4.toNat < out_3.length := by omega
    have gy10 := lay_set (E := eI) (b := true) (i := i_4.toNat) (l := out_3) v_6 (by omega)
    simp at gy10
    refine Wc.evs (by conv => lhs; simp [ga7, gb7, gn7, gd7, -getElem?_pos, List.getElem?_cons_zero, List.getElem?_cons_succ, ga9, gb9, gn9, gf9, gg9_0, gl9, gy10]) ?_
    refine Wo.nil ?_
    refine Wc.evs (by conv => lhs; simp) ?_
    refine Wo.nil ?_
    refine Wc.start (V1 := [(0, .v (ssl eI a)), (3, .v (osl eI true (out_3.set i_4.toNat v_6))), (4, .v (.int .i64 (w64 (i_4 + 1))))]) ?_ (hk _ (Option.some.inj h).symm)
    first | rfl | simp
  · rw [if_neg kc5] at h
    refine Wc.condF' (t := _) (by conv => lhs; simp) (by simpa using kc5) ?_
    refine Wc.seq ?_
    refine Wc.kil (by conv => lhs; simp) ?_
    refine Wc.exit ?_
    have e0 := hx _ (Option.some.inj h).symm
    subst e0
    exact ⟨rfl, by first | rfl | simp⟩
theorem r16 {a : (List Int)} {r : (List Int)} (h : f16 a = some r) : VJx cx (.ca 16 [(ssl eI a)] (osl eI true r) []) := by
  unfold f16 at h
  refine ca_of rfl rfl (by decide) rfl ?_
  refine Wc.start (V1 := [(0, .v (ssl eI a))]) (by simp) ?_
  refine Wc.seq ?_
  refine Wc.evs (by conv => lhs; simp) ?_
  refine Wo.nil ?_
  refine Wc.seq ?_
  obtain ⟨l_1, h2, h⟩ := bind_some h
  obtain ⟨gm2, gp2, gq2, gr2⟩ := mkl_some h2
  have gx2 := rep_arr (E := eI) (b := true) gr2
  simp at gx2
  refine Wc.evs (by conv => lhs; simp [gm2, gp2, gq2, gx2]) ?_
  refine Wo.gh (vle_co (s := 3) (t1 := (osl eI true l_1)) rfl (by simp) (tle_own rfl) (by conv => lhs; simp)) ?_
  refine Wo.nil ?_
  refine Wc.seq ?_
  refine Wc.seq ?_
  refine Wc.evs (by conv => lhs; simp) ?_
  refine Wo.nil ?_
  refine Wc.block ?_
  obtain ⟨w11, h12, h⟩ := bind_some h
  refine Wc.start (V1 := [(0, .v (ssl eI a)), (3, .v (osl eI true l_1)), (4, .v (.int .i64 0))]) (by first | rfl | simp) ?_
  refine Wc.mono (r16_0 _ _ h12) ?_
  generalize w11 = out_13 at *
  rintro ex V ⟨rfl, rfl⟩
  try dsimp only at h
  refine Wc.seq ?_
  refine Wc.evs (by conv => lhs; simp) ?_
  refine Wo.nil ?_
  refine Wc.ret (res_of (.inr rfl) ?_)
  cases h
  exact ⟨_, _, _, by conv => lhs; simp, by (conv => lhs; simp [cx, ioTab, List.range, List.range.loop]) <;> rfl, by first | rfl | simp⟩
theorem r28_0 {a : (List (List Int))} : ∀ zs zo, iter (f28_0 a) zs = some zo → Wc cx 23 (.loop L28_0) [(0, .v (ssl (eL eI) a)), (3, .v (osl (eL eI) true zs.1)), (4, .v (.int .i64 zs.2))] ((QX 0 (fun (y : (List (List Int))) => [(3, .v (osl (eL eI) true y))])) zo) := by
  intro zs0 zo0 zh0
  refine iter_run (f := (f28_0 a)) (P := fun zs zo => Wc cx 23 (.loop L28_0) [(0, .v (ssl (eL eI) a)), (3, .v (osl (eL eI) true zs.1)), (4, .v (.int .i64 zs.2))] ((QX 0 (fun (y : (List (List Int))) => [(3, .v (osl (eL eI) true y))])) zo)) ?_ zh0
  rintro ⟨out_3, i_4⟩ zo zr h hk hx
  try dsimp only at hk ⊢
  rw [f28_0] at h
  refine Wc.loop ?_
  refine Wc.seq ?_
  refine Wc.seq ?_
  refine Wc.evs (by conv => lhs; simp) ?_
  refine Wo.nil ?_
  by_cases kc5 : i_4 < (a.length : Int)
  · rw [if_pos kc5] at h
    refine Wc.condT' (t := _) (by conv => lhs; simp) (by simpa using kc5) ?_
    refine Wc.seq ?_
    refine Wc.kil (by conv => lhs; simp) ?_
    refine Wc.skip ?_
    refine Wc.seq ?_
    refine Wc.block ?_
    obtain ⟨v_6, h7, h⟩ := bind_some h
    obtain ⟨ga7, gb7, gc7⟩ := ix_some h7
    have gn7 := ix_ne h7
    have gd7 := arr_at (E := (eL eI)) (b := false) gc7
    simp at gd7
    refine Wc.evs (by conv => lhs; simp [ga7, gb7, gn7, gd7]) ?_
    obtain ⟨o8, h9, h⟩ := bind_some h
    refine Wo.call (by simp) rfl (by (conv => lhs; simp [ga7, gb7, gn7, gd7, cx, ioTab]) <;> rfl) (r16 h9) (by simp) (by simp) (by (conv => lhs; simp [ga7, gb7, gn7, gd7, cx, ioTab]) <;> rfl) (by (conv => lhs; simp [ga7, gb7, gn7, gd7]) <;> rfl) ?_
    obtain ⟨v_10, h11, h⟩ := bind_some h
    obtain ⟨ga11, gb11, gc11⟩ := ix_some h11
    have gn11 := ix_ne h11
    have gf11 := arr_fit (E := (eL eI)) (b := true) (i := i_4.toNat) (l := out_3) (by omega)
    have gg11_0 := arr_get (E := (eL eI)) (b := true) (o := 0) gc11 (by decide)
    simp at gf11 gg11_0
    have gl11 : i_4.toNat < out_3.length := by omega
    have gy12 := lay_set (E := (eL eI)) (b := true) (i := i_4.toNat) (l := out_3) o8 (by omega)
    simp at gy12
    refine Wo.evs (by conv => lhs; simp [ga7, gb7, gn7, gd7, -getElem?_pos, List.getElem?_cons_zero, List.getElem?_cons_succ, ga11, gb11, gn11, gf11, gg11_0, gl11, gy12]) ?_
    refine Wo.nil ?_
    refine Wc.evs (by conv => lhs; simp) ?_
    refine Wo.nil ?_
    refine Wc.start (V1 := [(0, .v (ssl (eL eI) a)), (3, .v (osl (eL eI) true (out_3.set i_4.toNat o8))), (4, .v (.int .i64 (w64 (i_4 + 1))))]) ?_ (hk _ (Option.some.inj h).symm)
    first | rfl | simp
  · rw [if_neg kc5] at h
    refine Wc.condF' (t := _) (by conv => lhs; simp) (by simpa using kc5) ?_
    refine Wc.seq ?_
    refine Wc.kil (by conv => lhs; simp) ?_
    refine Wc.exit ?_
    have e0 := hx _ (Option.some.inj h).symm
    subst e0
    exact ⟨rfl, by first | rfl | simp⟩
theorem r28 {a : (List (List Int))} {r : (List (List Int))} (h : f28 a = some r) : VJx cx (.ca 28 [(ssl (eL eI) a)] (osl (eL eI) true r) []) := by
  unfold f28 at h
  refine ca_of rfl rfl (by decide) rfl ?_
  refine Wc.start (V1 := [(0, .v (ssl (eL eI) a))]) (by simp) ?_
  refine Wc.seq ?_
  refine Wc.evs (by conv => lhs; simp) ?_
  refine Wo.nil ?_
  refine Wc.seq ?_
  obtain ⟨l_1, h2, h⟩ := bind_some h
  obtain ⟨gm2, gp2, gq2, gr2⟩ := mkl_some h2
  try simp at gr2
  refine Wc.evs (by conv => lhs; simp [gm2, gp2, gq2]) ?_
  refine Wo.gh (vle_co (s := 3) (t1 := (osl (eL eI) true l_1)) rfl (by simp) (TLe.own0 (tles_rep1 (E := (eL eI)) (b := true) gr2 (show TLes _ [(osl eI true ([]))] from (TLes.cons (TLe.nil rfl (by decide)) (TLes.refl _))))) (by conv => lhs; simp)) ?_
  refine Wo.nil ?_
  refine Wc.seq ?_
  refine Wc.seq ?_
  refine Wc.evs (by conv => lhs; simp) ?_
  refine Wo.nil ?_
  refine Wc.block ?_
  obtain ⟨w13, h14, h⟩ := bind_some h
  refine Wc.start (V1 := [(0, .v (ssl (eL eI) a)), (3, .v (osl (eL eI) true l_1)), (4, .v (.int .i64 0))]) (by first | rfl | simp) ?_
  refine Wc.mono (r28_0 _ _ h14) ?_
  generalize w13 = out_15 at *
  rintro ex V ⟨rfl, rfl⟩
  try dsimp only at h
  refine Wc.seq ?_
  refine Wc.evs (by conv => lhs; simp) ?_
  refine Wo.nil ?_
  refine Wc.ret (res_of (.inr rfl) ?_)
  cases h
  exact ⟨_, _, _, by conv => lhs; simp, by (conv => lhs; simp [cx, ioTab, List.range, List.range.loop]) <;> rfl, by first | rfl | simp⟩
theorem r70_0 {l : (List Int)} {x : Int} : ∀ zs zo, iter (f70_0 l x) zs = some zo → Wc cx 18 (.loop L70_0) [(0, .v (ssl eI l)), (1, .v (.int .i64 x)), (5, .v (.int .i64 zs))] ((QO (QX 0 (fun (y : Unit) => [])) (QR (fun (y : Bool) => [(4, .v (.bool y))]))) zo) := by
  intro zs0 zo0 zh0
  refine iter_run (f := (f70_0 l x)) (P := fun zs zo => Wc cx 18 (.loop L70_0) [(0, .v (ssl eI l)), (1, .v (.int .i64 x)), (5, .v (.int .i64 zs))] ((QO (QX 0 (fun (y : Unit) => [])) (QR (fun (y : Bool) => [(4, .v (.bool y))]))) zo)) ?_ zh0
  rintro i_1 zo zr h hk hx
  try dsimp only at hk ⊢
  rw [f70_0] at h
  refine Wc.loop ?_
  refine Wc.seq ?_
  refine Wc.seq ?_
  refine Wc.evs (by conv => lhs; simp) ?_
  refine Wo.nil ?_
  by_cases kc2 : i_1 < (l.length : Int)
  · rw [if_pos kc2] at h
    refine Wc.condT' (t := _) (by conv => lhs; simp) (by simpa using kc2) ?_
    refine Wc.seq ?_
    refine Wc.kil (by conv => lhs; simp) ?_
    refine Wc.skip ?_
    refine Wc.seq ?_
    refine Wc.block ?_
    refine Wc.seq ?_
    obtain ⟨v_3, h4, h⟩ := bind_some h
    obtain ⟨ga4, gb4, gc4⟩ := ix_some h4
    have gn4 := ix_ne h4
    have gd4 := arr_at (E := eI) (b := false) gc4
    simp at gd4
    refine Wc.evs (by conv => lhs; simp [ga4, gb4, gn4, gd4]) ?_
    refine Wo.nil ?_
    by_cases kc5 : v_3 = x
    · rw [if_pos kc5] at h
      refine Wc.condT' (t := _) (by conv => lhs; simp) (by simpa using kc5) ?_
      refine Wc.seq ?_
      refine Wc.kil (by conv => lhs; simp) ?_
      refine Wc.seq ?_
      refine Wc.evs (by conv => lhs; simp) ?_
      refine Wo.nil ?_
      refine Wc.ret ?_
      have e0 := hx _ (Option.some.inj h).symm
      subst e0
      exact ⟨rfl, by first | rfl | simp⟩
    · rw [if_neg kc5] at h
      refine Wc.condF' (t := _) (by conv => lhs; simp) (by simpa using kc5) ?_
      refine Wc.seq ?_
      refine Wc.kil (by conv => lhs; simp) ?_
      refine Wc.skip ?_
      refine Wc.evs (by conv => lhs; simp) ?_
      refine Wo.nil ?_
      refine Wc.start (V1 := [(0, .v (ssl eI l)), (1, .v (.int .i64 x)), (5, .v (.int .i64 (w64 (i_1 + 1))))]) ?_ (hk _ (Option.some.inj h).symm)
      first | rfl | simp
  · rw [if_neg kc2] at h
    refine Wc.condF' (t := _) (by conv => lhs; simp) (by simpa using kc2) ?_
    refine Wc.seq ?_
    refine Wc.kil (by conv => lhs; simp) ?_
    refine Wc.exit ?_
    have e0 := hx _ (Option.some.inj h).symm
    subst e0
    exact ⟨rfl, by first | rfl | simp⟩
theorem r70 {l : (List Int)} {x : Int} {r : Bool} (h : f70 l x = some r) : VJx cx (.ca 70 [(ssl eI l), (.int .i64 x)] (.bool r) []) := by
  unfold f70 at h
  refine ca_of rfl rfl (by decide) rfl ?_
  refine Wc.start (V1 := [(0, .v (ssl eI l)), (1, .v (.int .i64 x))]) (by simp) ?_
  refine Wc.seq ?_
  refine Wc.evs (by conv => lhs; simp) ?_
  refine Wo.nil ?_
  refine Wc.seq ?_
  refine Wc.seq ?_
  refine Wc.evs (by conv => lhs; simp) ?_
  refine Wo.nil ?_
  refine Wc.block ?_
  obtain ⟨w6, h7, h⟩ := bind_some h
  refine Wc.start (V1 := [(0, .v (ssl eI l)), (1, .v (.int .i64 x)), (5, .v (.int .i64 0))]) (by first | rfl | simp) ?_
  refine Wc.mono (r70_0 _ _ h7) ?_
  rcases w6 with ⟨⟩ | x_8
  · rintro ex V ⟨rfl, rfl⟩
    try dsimp only at h
    refine Wc.seq ?_
    refine Wc.evs (by conv => lhs; simp) ?_
    refine Wo.nil ?_
    refine Wc.ret (res_of (.inr rfl) ?_)
    cases h
    exact ⟨_, _, _, by conv => lhs; simp, by (conv => lhs; simp [cx, ioTab, List.range, List.range.loop]) <;> rfl, by first | rfl | simp⟩
  · rintro ex V ⟨rfl, rfl⟩
    try dsimp only at h
    refine res_of (.inr rfl) ?_
    cases h
    exact ⟨_, _, _, by conv => lhs; simp, by (conv => lhs; simp [cx, ioTab, List.range, List.range.loop]) <;> rfl, by first | rfl | simp⟩
theorem r52_1 {l : (List (List Int))} {s1 : (List Int)} {i_1 : Int} : ∀ zs zo, iter (f52_1 l s1 i_1) zs = some zo → Wc cx 36 (.loop L52_1) [(0, .v (ssl (eL eI) l)), (1, .v (ssl eI s1)), (5, .v (.int .i64 i_1)), (6, .v (.bool zs.1)), (7, .v (.int .i64 zs.2))] ((QX 2 (fun (y : Bool) => [(0, .v (ssl (eL eI) l)), (1, .v (ssl eI s1)), (5, .v (.int .i64 i_1)), (6, .v (.bool y))])) zo) := by
  intro zs0 zo0 zh0
  refine iter_run (f := (f52_1 l s1 i_1)) (P := fun zs zo => Wc cx 36 (.loop L52_1) [(0, .v (ssl (eL eI) l)), (1, .v (ssl eI s1)), (5, .v (.int .i64 i_1)), (6, .v (.bool zs.1)), (7, .v (.int .i64 zs.2))] ((QX 2 (fun (y : Bool) => [(0, .v (ssl (eL eI) l)), (1, .v (ssl eI s1)), (5, .v (.int .i64 i_1)), (6, .v (.bool y))])) zo)) ?_ zh0
  rintro ⟨all_3, k_4⟩ zo zr h hk hx
  try dsimp only at hk ⊢
  rw [f52_1] at h
  refine Wc.loop ?_
  refine Wc.seq ?_
  refine Wc.seq ?_
  obtain ⟨v_5, h6, h⟩ := bind_some h
  obtain ⟨ga6, gb6, gc6⟩ := ix_some h6
  have gn6 := ix_ne h6
  have gd6 := arr_at (E := (eL eI)) (b := false) gc6
  simp at gd6
  refine Wc.evs (by conv => lhs; simp [ga6, gb6, gn6, gd6]) ?_
  refine Wo.nil ?_
  by_cases kc7 : k_4 < (v_5.length : Int)
  · rw [if_pos kc7] at h
    refine Wc.condT' (t := _) (by conv => lhs; simp) (by simpa using kc7) ?_
    refine Wc.seq ?_
    refine Wc.kil (by conv => lhs; simp) ?_
    refine Wc.skip ?_
    refine Wc.seq ?_
    refine Wc.block ?_
    refine Wc.evk 2 (by conv => lhs; simp) ?_
    obtain ⟨w9, h10, h⟩ := bind_some h
    refine Wo.mono (Q := fun V => V = [(0, .v (ssl (eL eI) l)), (1, .v (ssl eI s1)), (5, .v (.int .i64 i_1)), (6, .v (.bool w9)), (7, .v (.int .i64 k_4))]) ?_ ?_
    · by_cases knh10 : all_3 = true
      · rw [if_pos knh10] at h10
        refine Wo.gh (vle_co (s := 24) (t1 := .bool true) rfl (by simp) (tle_bool (by simpa using knh10)) (by conv => lhs; simp)) ?_
        obtain ⟨v_11, h12, h10⟩ := bind_some h10
        obtain ⟨ga12, gb12, gc12⟩ := ix_some h12
        have gn12 := ix_ne h12
        have gd12 := arr_at (E := eI) (b := false) gc12
        simp at gd12
        refine Wo.evs (by conv => lhs; simp [ga6, gb6, gn6, gd6, ga12, gb12, gn12, gd12]) ?_
        obtain ⟨o13, h14, h10⟩ := bind_some h10
        refine Wo.call (by simp [ga6, gb6, gn6, gd6, ga12, gb12, gn12, gd12]) rfl (by (conv => lhs; simp [ga6, gb6, gn6, gd6, ga12, gb12, gn12, gd12, cx, ioTab]) <;> rfl) (r70 h14) (by simp) (by simp) (by (conv => lhs; simp [ga6, gb6, gn6, gd6, ga12, gb12, gn12, gd12, cx, ioTab]) <;> rfl) (by (conv => lhs; simp [ga6, gb6, gn6, gd6, ga12, gb12, gn12, gd12]) <;> rfl) ?_
        refine Wo.evs (by conv => lhs; simp [ga6, gb6, gn6, gd6, ga12, gb12, gn12, gd12]) ?_
        refine Wo.nil ?_
        cases h10
        first | rfl | simp [ga6, gb6, gn6, gd6, ga12, gb12, gn12, gd12]
      · rw [if_neg knh10] at h10
        refine Wo.gh (vle_co (s := 24) (t1 := .bool false) rfl (by simp) (tle_bool (by simpa using knh10)) (by conv => lhs; simp)) ?_
        refine Wo.evs (by conv => lhs; simp) ?_
        refine Wo.nil ?_
        cases h10
        first | rfl | simp
    · rintro V rfl
      generalize w9 = all_8 at *
      try dsimp only at h
      refine Wc.evs (by conv => lhs; simp) ?_
      refine Wo.nil ?_
      refine Wc.start (V1 := [(0, .v (ssl (eL eI) l)), (1, .v (ssl eI s1)), (5, .v (.int .i64 i_1)), (6, .v (.bool all_8)), (7, .v (.int .i64 (w64 (k_4 + 1))))]) ?_ (hk _ (Option.some.inj h).symm)
      first | rfl | simp
  · rw [if_neg kc7] at h
    refine Wc.condF' (t := _) (by conv => lhs; simp) (by simpa using kc7) ?_
    refine Wc.seq ?_
    refine Wc.kil (by conv => lhs; simp) ?_
    refine Wc.exit ?_
    have e0 := hx _ (Option.some.inj h).symm
    subst e0
    exact ⟨rfl, by first | rfl | simp [ga6, gb6, gn6, gd6]⟩
theorem r52_0 {l : (List (List Int))} {s1 : (List Int)} : ∀ zs zo, iter (f52_0 l s1) zs = some zo → Wc cx 36 (.loop L52_0) [(0, .v (ssl (eL eI) l)), (1, .v (ssl eI s1)), (5, .v (.int .i64 zs))] ((QO (QX 0 (fun (y : Unit) => [])) (QR (fun (y : Bool) => [(4, .v (.bool y))]))) zo) := by
  intro zs0 zo0 zh0
  refine iter_run (f := (f52_0 l s1)) (P := fun zs zo => Wc cx 36 (.loop L52_0) [(0, .v (ssl (eL eI) l)), (1, .v (ssl eI s1)), (5, .v (.int .i64 zs))] ((QO (QX 0 (fun (y : Unit) => [])) (QR (fun (y : Bool) => [(4, .v (.bool y))]))) zo)) ?_ zh0
  rintro i_1 zo zr h hk hx
  try dsimp only at hk ⊢
  rw [f52_0] at h
  refine Wc.loop ?_
  refine Wc.seq ?_
  refine Wc.seq ?_
  refine Wc.evs (by conv => lhs; simp) ?_
  refine Wo.nil ?_
  by_cases kc2 : i_1 < (l.length : Int)
  · rw [if_pos kc2] at h
    refine Wc.condT' (t := _) (by conv => lhs; simp) (by simpa using kc2) ?_
    refine Wc.seq ?_
    refine Wc.kil (by conv => lhs; simp) ?_
    refine Wc.skip ?_
    refine Wc.seq ?_
    refine Wc.block ?_
    refine Wc.seq ?_
    refine Wc.evs (by conv => lhs; simp) ?_
    refine Wo.nil ?_
    refine Wc.seq ?_
    refine Wc.seq ?_
    refine Wc.evs (by conv => lhs; simp) ?_
    refine Wo.nil ?_
    refine Wc.block ?_
    obtain ⟨w15, h16, h⟩ := bind_some h
    refine Wc.start (V1 := [(0, .v (ssl (eL eI) l)), (1, .v (ssl eI s1)), (5, .v (.int .i64 i_1)), (6, .v (.bool true)), (7, .v (.int .i64 0))]) (by first | rfl | simp) ?_
    refine Wc.mono (r52_1 _ _ h16) ?_
    generalize w15 = all_17 at *
    rintro ex V ⟨rfl, rfl⟩
    try dsimp only at h
    refine Wc.seq ?_
    refine Wc.evs (by conv => lhs; simp) ?_
    refine Wo.nil ?_
    by_cases kc18 : all_17 = true
    · rw [if_pos kc18] at h
      refine Wc.condT' (t := _) (by conv => lhs; simp) (by simpa using kc18) ?_
      refine Wc.seq ?_
      refine Wc.kil (by conv => lhs; simp) ?_
      refine Wc.seq ?_
      refine Wc.evs (by conv => lhs; simp) ?_
      refine Wo.nil ?_
      refine Wc.ret ?_
      have e0 := hx _ (Option.some.inj h).symm
      subst e0
      exact ⟨rfl, by first | rfl | simp⟩
    · rw [if_neg kc18] at h
      refine Wc.condF' (t := _) (by conv => lhs; simp) (by simpa using kc18) ?_
      refine Wc.seq ?_
      refine Wc.kil (by conv => lhs; simp) ?_
      refine Wc.skip ?_
      refine Wc.evs (by conv => lhs; simp) ?_
      refine Wo.nil ?_
      refine Wc.start (V1 := [(0, .v (ssl (eL eI) l)), (1, .v (ssl eI s1)), (5, .v (.int .i64 (w64 (i_1 + 1))))]) ?_ (hk _ (Option.some.inj h).symm)
      first | rfl | simp
  · rw [if_neg kc2] at h
    refine Wc.condF' (t := _) (by conv => lhs; simp) (by simpa using kc2) ?_
    refine Wc.seq ?_
    refine Wc.kil (by conv => lhs; simp) ?_
    refine Wc.exit ?_
    have e0 := hx _ (Option.some.inj h).symm
    subst e0
    exact ⟨rfl, by first | rfl | simp⟩
theorem r52 {l : (List (List Int))} {s1 : (List Int)} {r : Bool} (h : f52 l s1 = some r) : VJx cx (.ca 52 [(ssl (eL eI) l), (ssl eI s1)] (.bool r) []) := by
  unfold f52 at h
  refine ca_of rfl rfl (by decide) rfl ?_
  refine Wc.start (V1 := [(0, .v (ssl (eL eI) l)), (1, .v (ssl eI s1))]) (by simp) ?_
  refine Wc.seq ?_
  refine Wc.evs (by conv => lhs; simp) ?_
  refine Wo.nil ?_
  refine Wc.seq ?_
  refine Wc.seq ?_
  refine Wc.evs (by conv => lhs; simp) ?_
  refine Wo.nil ?_
  refine Wc.block ?_
  obtain ⟨w19, h20, h⟩ := bind_some h
  refine Wc.start (V1 := [(0, .v (ssl (eL eI) l)), (1, .v (ssl eI s1)), (5, .v (.int .i64 0))]) (by first | rfl | simp) ?_
  refine Wc.mono (r52_0 _ _ h20) ?_
  rcases w19 with ⟨⟩ | x_21
  · rintro ex V ⟨rfl, rfl⟩
    try dsimp only at h
    refine Wc.seq ?_
    refine Wc.evs (by conv => lhs; simp) ?_
    refine Wo.nil ?_
    refine Wc.ret (res_of (.inr rfl) ?_)
    cases h
    exact ⟨_, _, _, by conv => lhs; simp, by (conv => lhs; simp [cx, ioTab, List.range, List.range.loop]) <;> rfl, by first | rfl | simp⟩
  · rintro ex V ⟨rfl, rfl⟩
    try dsimp only at h
    refine res_of (.inr rfl) ?_
    cases h
    exact ⟨_, _, _, by conv => lhs; simp, by (conv => lhs; simp [cx, ioTab, List.range, List.range.loop]) <;> rfl, by first | rfl | simp⟩
theorem r27 {l : (List (List Int))} {s1 : (List Int)} {r : Bool} (h : f27 l s1 = some r) : VJx cx (.ca 27 [(ssl (eL eI) l), (ssl eI s1)] (.bool r) []) := by
  unfold f27 at h
  refine ca_of rfl rfl (by decide) rfl ?_
  refine Wc.start (V1 := [(0, .v (ssl (eL eI) l)), (1, .v (ssl eI s1))]) (by simp) ?_
  refine Wc.seq ?_
  refine Wc.evs (by conv => lhs; simp) ?_
  refine Wo.nil ?_
  refine Wc.seq ?_
  refine Wc.evs (by conv => lhs; simp) ?_
  obtain ⟨o1, h2, h⟩ := bind_some h
  refine Wo.call (by simp) rfl (by (conv => lhs; simp [cx, ioTab]) <;> rfl) (r52 h2) (by simp) (by simp) (by (conv => lhs; simp [cx, ioTab]) <;> rfl) (by (conv => lhs; simp) <;> rfl) ?_
  refine Wo.evs (by conv => lhs; simp) ?_
  refine Wo.nil ?_
  refine Wc.ret (res_of (.inr rfl) ?_)
  cases h
  exact ⟨_, _, _, by conv => lhs; simp, by (conv => lhs; simp [cx, ioTab, List.range, List.range.loop]) <;> rfl, by first | rfl | simp⟩
theorem r35_1 {l : (List (List Int))} {out_1 : (List (List Int))} {i_2 : Int} : ∀ zs zo, iter (f35_1 l i_2) zs = some zo → Wc cx 78 (.loop L35_1) [(0, .v (ssl (eL eI) l)), (3, .v (osl (eL eI) true out_1)), (4, .v (.int .i64 i_2)), (5, .v (.bool zs.1)), (6, .v (.int .i64 zs.2))] ((QX 2 (fun (y : Bool) => [(0, .v (ssl (eL eI) l)), (3, .v (osl (eL eI) true out_1)), (4, .v (.int .i64 i_2)), (5, .v (.bool y))])) zo) := by
  intro zs0 zo0 zh0
  refine iter_run (f := (f35_1 l i_2)) (P := fun zs zo => Wc cx 78 (.loop L35_1) [(0, .v (ssl (eL eI) l)), (3, .v (osl (eL eI) true out_1)), (4, .v (.int .i64 i_2)), (5, .v (.bool zs.1)), (6, .v (.int .i64 zs.2))] ((QX 2 (fun (y : Bool) => [(0, .v (ssl (eL eI) l)), (3, .v (osl (eL eI) true out_1)), (4, .v (.int .i64 i_2)), (5, .v (.bool y))])) zo)) ?_ zh0
  rintro ⟨least_4, k_5⟩ zo zr h hk hx
  try dsimp only at hk ⊢
  rw [f35_1] at h
  refine Wc.loop ?_
  refine Wc.seq ?_
  refine Wc.seq ?_
  refine Wc.evs (by conv => lhs; simp) ?_
  refine Wo.nil ?_
  by_cases kc6 : k_5 < (l.length : Int)
  · rw [if_pos kc6] at h
    refine Wc.condT' (t := _) (by conv => lhs; simp) (by simpa using kc6) ?_
    refine Wc.seq ?_
    refine Wc.kil (by conv => lhs; simp) ?_
    refine Wc.skip ?_
    refine Wc.seq ?_
    refine Wc.block ?_
    refine Wc.seq ?_
    obtain ⟨v_7, h8, h⟩ := bind_some h
    obtain ⟨ga8, gb8, gc8⟩ := ix_some h8
    have gn8 := ix_ne h8
    have gd8 := arr_at (E := (eL eI)) (b := false) gc8
    simp at gd8
    obtain ⟨v_9, h10, h⟩ := bind_some h
    obtain ⟨ga10, gb10, gc10⟩ := ix_some h10
    have gn10 := ix_ne h10
    have gd10 := arr_at (E := (eL eI)) (b := false) gc10
    simp at gd10
    refine Wc.evk 12 (by conv => lhs; simp [ga8, gb8, gn8, gd8, ga10, gb10, gn10, gd10]) ?_
    obtain ⟨w12, h13, h⟩ := bind_some h
    refine Wo.mono (Q := fun V => V = [(0, .v (ssl (eL eI) l)), (3, .v (osl (eL eI) true out_1)), (4, .v (.int .i64 i_2)), (5, .v (.bool least_4)), (6, .v (.int .i64 k_5)), (7, .v (.bool w12))]) ?_ ?_
    · by_cases knh13 : (v_7.length : Int) < (v_9.length : Int)
      · rw [if_pos knh13] at h13
        refine Wo.gh (vle_co (s := 32) (t1 := .bool true) rfl (by simp) (tle_bool (by simpa using knh13)) (by conv => lhs; simp)) ?_
        refine Wo.evs (by conv => lhs; simp [ga8, gb8, gn8, gd8, ga10, gb10, gn10, gd10]) ?_
        refine Wo.nil ?_
        cases h13
        first | rfl | simp [ga8, gb8, gn8, gd8, ga10, gb10, gn10, gd10]
      · rw [if_neg knh13] at h13
        refine Wo.gh (vle_co (s := 32) (t1 := .bool false) rfl (by simp) (tle_bool (by simpa using knh13)) (by conv => lhs; simp)) ?_
        refine Wo.evk 4 (by conv => lhs; simp [ga8, gb8, gn8, gd8, ga10, gb10, gn10, gd10]) ?_
        obtain ⟨w15, h16, h13⟩ := bind_some h13
        refine Wo.mono (Q := fun V => V = [(0, .v (ssl (eL eI) l)), (3, .v (osl (eL eI) true out_1)), (4, .v (.int .i64 i_2)), (5, .v (.bool least_4)), (6, .v (.int .i64 k_5)), (7, .v (.bool w15))]) ?_ ?_
        · by_cases knh16 : k_5 < i_2
          · rw [if_pos knh16] at h16
            refine Wo.gh (vle_co (s := 36) (t1 := .bool true) rfl (by simp) (tle_bool (by simpa using knh16)) (by conv => lhs; simp)) ?_
            refine Wo.evs (by conv => lhs; simp [ga8, gb8, gn8, gd8, ga10, gb10, gn10, gd10]) ?_
            refine Wo.nil ?_
            cases h16
            first | rfl | simp [ga8, gb8, gn8, gd8, ga10, gb10, gn10, gd10]
          · rw [if_neg knh16] at h16
            refine Wo.gh (vle_co (s := 36) (t1 := .bool false) rfl (by simp) (tle_bool (by simpa using knh16)) (by conv => lhs; simp)) ?_
            refine Wo.evs (by conv => lhs; simp [ga8, gb8, gn8, gd8, ga10, gb10, gn10, gd10]) ?_
            refine Wo.nil ?_
            cases h16
            first | rfl | simp [ga8, gb8, gn8, gd8, ga10, gb10, gn10, gd10]
        · rintro V rfl
          generalize w15 = smaller_14 at *
          try dsimp only at h13
          cases h13
          first | rfl | simp [ga8, gb8, gn8, gd8, ga10, gb10, gn10, gd10]
    · rintro V rfl
      generalize w12 = smaller_11 at *
      try dsimp only at h
      refine Wc.evk 2 (by conv => lhs; simp) ?_
      obtain ⟨w18, h19, h⟩ := bind_some h
      refine Wo.mono (Q := fun V => V = [(0, .v (ssl (eL eI) l)), (3, .v (osl (eL eI) true out_1)), (4, .v (.int .i64 i_2)), (5, .v (.bool w18)), (6, .v (.int .i64 k_5))]) ?_ ?_
      · by_cases knh19 : least_4 = true
        · rw [if_pos knh19] at h19
          refine Wo.gh (vle_co (s := 51) (t1 := .bool true) rfl (by simp) (tle_bool (by simpa using knh19)) (by conv => lhs; simp)) ?_
          refine Wo.evk 2 (by conv => lhs; simp) ?_
          obtain ⟨w21, h22, h19⟩ := bind_some h19
          refine Wo.mono (Q := fun V => V = [(0, .v (ssl (eL eI) l)), (3, .v (osl (eL eI) true out_1)), (4, .v (.int .i64 i_2)), (5, .v (.bool w21)), (6, .v (.int .i64 k_5))]) ?_ ?_
          · by_cases knh22 : smaller_11 = true
            · rw [if_pos knh22] at h22
              refine Wo.gh (vle_co (s := 53) (t1 := .bool true) rfl (by simp) (tle_bool (by simpa using knh22)) (by conv => lhs; simp)) ?_
              refine Wo.evs (by conv => lhs; simp [ga8, gb8, gn8, gd8, ga10, gb10, gn10, gd10]) ?_
              refine Wo.gh (vle_co (s := 58) (t1 := (osl (eL eI) false ([v_7]))) rfl (by simp) (TLe.own (show TLes _ [(ssl eI v_7)] from (TLes.cons (TLe.refl _) (TLes.refl _))) rfl) (by conv => lhs; simp)) ?_
              obtain ⟨o23, h24, h22⟩ := bind_some h22
              refine Wo.call (by simp [ga8, gb8, gn8, gd8, ga10, gb10, gn10, gd10]) rfl (by (conv => lhs; simp [ga8, gb8, gn8, gd8, ga10, gb10, gn10, gd10, cx, ioTab]) <;> rfl) (r27 h24) (by simp) (by simp) (by (conv => lhs; simp [ga8, gb8, gn8, gd8, ga10, gb10, gn10, gd10, cx, ioTab]) <;> rfl) (by (conv => lhs; simp [ga8, gb8, gn8, gd8, ga10, gb10, gn10, gd10]) <;> rfl) ?_
              refine Wo.evs (by conv => lhs; simp [ga8, gb8, gn8, gd8, ga10, gb10, gn10, gd10]) ?_
              refine Wo.nil ?_
              cases h22
              first | rfl | simp [ga8, gb8, gn8, gd8, ga10, gb10, gn10, gd10]
            · rw [if_neg knh22] at h22
              refine Wo.gh (vle_co (s := 53) (t1 := .bool false) rfl (by simp) (tle_bool (by simpa using knh22)) (by conv => lhs; simp)) ?_
              refine Wo.evs (by conv => lhs; simp) ?_
              refine Wo.nil ?_
              cases h22
              first | rfl | simp
          · rintro V rfl
            generalize w21 = least_20 at *
            try dsimp only at h19
            cases h19
            first | rfl | simp
        · rw [if_neg knh19] at h19
          refine Wo.gh (vle_co (s := 51) (t1 := .bool false) rfl (by simp) (tle_bool (by simpa using knh19)) (by conv => lhs; simp)) ?_
          refine Wo.evs (by conv => lhs; simp) ?_
          refine Wo.nil ?_
          cases h19
          first | rfl | simp
      · rintro V rfl
        generalize w18 = least_17 at *
        try dsimp only at h
        refine Wc.evs (by conv => lhs; simp) ?_
        refine Wo.nil ?_
        refine Wc.start (V1 := [(0, .v (ssl (eL eI) l)), (3, .v (osl (eL eI) true out_1)), (4, .v (.int .i64 i_2)), (5, .v (.bool least_17)), (6, .v (.int .i64 (w64 (k_5 + 1))))]) ?_ (hk _ (Option.some.inj h).symm)
        first | rfl | simp
  · rw [if_neg kc6] at h
    refine Wc.condF' (t := _) (by conv => lhs; simp) (by simpa using kc6) ?_
    refine Wc.seq ?_
    refine Wc.kil (by conv => lhs; simp) ?_
    refine Wc.exit ?_
    have e0 := hx _ (Option.some.inj h).symm
    subst e0
    exact ⟨rfl, by first | rfl | simp⟩
theorem r35_0 {l : (List (List Int))} : ∀ zs zo, iter (f35_0 l) zs = some zo → Wc cx 78 (.loop L35_0) [(0, .v (ssl (eL eI) l)), (3, .v (osl (eL eI) true zs.1)), (4, .v (.int .i64 zs.2))] ((QX 0 (fun (y : (List (List Int))) => [(3, .v (osl (eL eI) true y))])) zo) := by
  intro zs0 zo0 zh0
  refine iter_run (f := (f35_0 l)) (P := fun zs zo => Wc cx 78 (.loop L35_0) [(0, .v (ssl (eL eI) l)), (3, .v (osl (eL eI) true zs.1)), (4, .v (.int .i64 zs.2))] ((QX 0 (fun (y : (List (List Int))) => [(3, .v (osl (eL eI) true y))])) zo)) ?_ zh0
  rintro ⟨out_1, i_2⟩ zo zr h hk hx
  try dsimp only at hk ⊢
  rw [f35_0] at h
  refine Wc.loop ?_
  refine Wc.seq ?_
  refine Wc.seq ?_
  refine Wc.evs (by conv => lhs; simp) ?_
  refine Wo.nil ?_
  by_cases kc3 : i_2 < (l.length : Int)
  · rw [if_pos kc3] at h
    refine Wc.condT' (t := _) (by conv => lhs; simp) (by simpa using kc3) ?_
    refine Wc.seq ?_
    refine Wc.kil (by conv => lhs; simp) ?_
    refine Wc.skip ?_
    refine Wc.seq ?_
    refine Wc.block ?_
    refine Wc.seq ?_
    refine Wc.evs (by conv => lhs; simp) ?_
    refine Wo.nil ?_
    refine Wc.seq ?_
    refine Wc.seq ?_
    refine Wc.evs (by conv => lhs; simp) ?_
    refine Wo.nil ?_
    refine Wc.block ?_
    obtain ⟨w25, h26, h⟩ := bind_some h
    refine Wc.start (V1 := [(0, .v (ssl (eL eI) l)), (3, .v (osl (eL eI) true out_1)), (4, .v (.int .i64 i_2)), (5, .v (.bool true)), (6, .v (.int .i64 0))]) (by first | rfl | simp) ?_
    refine Wc.mono (r35_1 _ _ h26) ?_
    generalize w25 = least_27 at *
    rintro ex V ⟨rfl, rfl⟩
    try dsimp only at h
    refine Wc.seq ?_
    refine Wc.evs (by conv => lhs; simp) ?_
    refine Wo.nil ?_
    obtain ⟨w28, h29, h⟩ := bind_some h
    refine Wc.mono (Q := (QN (fun (y : (List (List Int))) => [(0, .v (ssl (eL eI) l)), (3, .v (osl (eL eI) true y)), (4, .v (.int .i64 i_2))])) w28) ?_ ?_
    · skip
      by_cases kc30 : least_27 = true
      · rw [if_pos kc30] at h29
        refine Wc.condT' (t := _) (by conv => lhs; simp) (by simpa using kc30) ?_
        refine Wc.seq ?_
        refine Wc.kil (by conv => lhs; simp) ?_
        obtain ⟨v_31, h32, h29⟩ := bind_some h29
        obtain ⟨ga32, gb32, gc32⟩ := ix_some h32
        have gn32 := ix_ne h32
        have gd32 := arr_at (E := (eL eI)) (b := false) gc32
        simp at gd32
        obtain ⟨l_33, h34, h29⟩ := bind_some h29
        have gx34 := appT_arr2 (E := eI) (b := true) (b' := false) (y := false) h34 (by decide) (arr_sc rfl _)
        simp at gx34
        refine Wc.evk 7 (by conv => lhs; simp [ga32, gb32, gn32, gd32, gx34]) ?_
        refine Wo.gh (vle_co (s := 74) (t1 := (osl eI true l_33)) rfl (by simp) (tle_own rfl) (by conv => lhs; simp)) ?_
        obtain ⟨l_35, h36, h29⟩ := bind_some h29
        have gx36 := appT_arr (E := (eL eI)) (b := true) (y := true) h36 (by decide)
        simp at gx36
        refine Wo.evs (by conv => lhs; simp [ga32, gb32, gn32, gd32, gx34, gx36]) ?_
        refine Wo.nil ?_
        cases h29
        exact ⟨rfl, by first | rfl | simp [ga32, gb32, gn32, gd32, gx34, gx36]⟩
      · rw [if_neg kc30] at h29
        refine Wc.condF' (t := _) (by conv => lhs; simp) (by simpa using kc30) ?_
        refine Wc.seq ?_
        refine Wc.kil (by conv => lhs; simp) ?_
        refine Wc.skip ?_
        cases h29
        exact ⟨rfl, by first | rfl | simp⟩
    · skip
      generalize w28 = out_37 at *
      rintro ex V ⟨rfl, rfl⟩
      try dsimp only at h
      refine Wc.evs (by conv => lhs; simp) ?_
      refine Wo.nil ?_
      refine Wc.start (V1 := [(0, .v (ssl (eL eI) l)), (3, .v (osl (eL eI) true out_37)), (4, .v (.int .i64 (w64 (i_2 + 1))))]) ?_ (hk _ (Option.some.inj h).symm)
      first | rfl | simp
  · rw [if_neg kc3] at h
    refine Wc.condF' (t := _) (by conv => lhs; simp) (by simpa using kc3) ?_
    refine Wc.seq ?_
    refine Wc.kil (by conv => lhs; simp) ?_
    refine Wc.exit ?_
    have e0 := hx _ (Option.some.inj h).symm
    subst e0
    exact ⟨rfl, by first | rfl | simp⟩
theorem r35 {l : (List (List Int))} {r : (List (List Int))} (h : f35 l = some r) : VJx cx (.ca 35 [(ssl (eL eI) l)] (osl (eL eI) true r) []) := by
  unfold f35 at h
  refine ca_of rfl rfl (by decide) rfl ?_
  refine Wc.start (V1 := [(0, .v (ssl (eL eI) l))]) (by simp) ?_
  refine Wc.seq ?_
  refine Wc.evs (by conv => lhs; simp) ?_
  refine Wo.nil ?_
  refine Wc.seq ?_
  refine Wc.evs (by conv => lhs; simp) ?_
  refine Wo.gh (vle_co (s := 3) (t1 := (osl (eL eI) true ([]))) rfl (by simp) (TLe.own (show TLes _ [] from (TLes.refl _)) rfl) (by conv => lhs; simp)) ?_
  refine Wo.nil ?_
  refine Wc.seq ?_
  refine Wc.seq ?_
  refine Wc.evs (by conv => lhs; simp) ?_
  refine Wo.nil ?_
  refine Wc.block ?_
  obtain ⟨w38, h39, h⟩ := bind_some h
  refine Wc.start (V1 := [(0, .v (ssl (eL eI) l)), (3, .v (osl (eL eI) true ([]))), (4, .v (.int .i64 0))]) (by first | rfl | simp) ?_
  refine Wc.mono (r35_0 _ _ h39) ?_
  generalize w38 = out_40 at *
  rintro ex V ⟨rfl, rfl⟩
  try dsimp only at h
  refine Wc.seq ?_
  refine Wc.evs (by conv => lhs; simp) ?_
  refine Wo.nil ?_
  refine Wc.ret (res_of (.inr rfl) ?_)
  cases h
  exact ⟨_, _, _, by conv => lhs; simp, by (conv => lhs; simp [cx, ioTab, List.range, List.range.loop]) <;> rfl, by first | rfl | simp⟩
theorem r74_0 {g_f : Nat} {cp_f : List T} {f : Int → Option Bool} (hio_f : cx.io g_f = []) (hp_f : ∀ x0 o, f x0 = some o → VJx cx (.ca g_f ([(.int .i64 x0)] ++ cp_f) (.bool o) [])) {s0 : (List Int)} : ∀ zs zo, iter (f74_0 s0 f) zs = some zo → Wc cx 19 (.loop L74_0) [(0, .v (ssl eI s0)), (1, .v (.fn g_f cp_f)), (7, .v (.int .i64 (s0.length : Int))), (8, .v (.int .i64 zs))] ((QO (QX 0 (fun (y : Unit) => [])) (QR (fun (y : Int) => [(4, .v (.int .i64 y))]))) zo) := by
  intro zs0 zo0 zh0
  refine iter_run (f := (f74_0 s0 f)) (P := fun zs zo => Wc cx 19 (.loop L74_0) [(0, .v (ssl eI s0)), (1, .v (.fn g_f cp_f)), (7, .v (.int .i64 (s0.length : Int))), (8, .v (.int .i64 zs))] ((QO (QX 0 (fun (y : Unit) => [])) (QR (fun (y : Int) => [(4, .v (.int .i64 y))]))) zo)) ?_ zh0
  rintro x_1 zo zr h hk hx
  try dsimp only at hk ⊢
  rw [f74_0] at h
  refine Wc.loop ?_
  refine Wc.seq ?_
  refine Wc.evs (by conv => lhs; simp) ?_
  refine Wo.nil ?_
  refine Wc.seq ?_
  by_cases kc2 : x_1 < (s0.length : Int)
  · rw [if_pos kc2] at h
    refine Wc.condT' (t := _) (by conv => lhs; simp) (by simpa using kc2) ?_
    refine Wc.seq ?_
    refine Wc.kil (by conv => lhs; simp) ?_
    refine Wc.skip ?_
    refine Wc.seq ?_
    refine Wc.block ?_
    refine Wc.seq ?_
    refine Wc.evs (by conv => lhs; simp) ?_
    refine Wo.nil ?_
    refine Wc.seq ?_
    obtain ⟨v_3, h4, h⟩ := bind_some h
    obtain ⟨ga4, gb4, gc4⟩ := ix_some h4
    have gn4 := ix_ne h4
    have gd4 := arr_at (E := eI) (b := false) gc4
    simp at gd4
    refine Wc.evs (by conv => lhs; simp [ga4, gb4, gn4, gd4]) ?_
    obtain ⟨o5, h6, h⟩ := bind_some h
    refine Wo.call rfl rfl (by (conv => lhs; simp [ga4, gb4, gn4, gd4, hio_f]) <;> rfl) (hp_f v_3 _ h6) (by simp) (by simp) (by (conv => lhs; simp [ga4, gb4, gn4, gd4, hio_f]) <;> rfl) (by (conv => lhs; simp [ga4, gb4, gn4, gd4]) <;> rfl) ?_
    refine Wo.nil ?_
    by_cases kc7 : o5 = true
    · rw [if_pos kc7] at h
      refine Wc.condT' (t := _) (by conv => lhs; simp) (by simpa using kc7) ?_
      refine Wc.seq ?_
      refine Wc.kil (by conv => lhs; simp) ?_
      refine Wc.seq ?_
      refine Wc.evs (by conv => lhs; simp) ?_
      refine Wo.nil ?_
      refine Wc.ret ?_
      have e0 := hx _ (Option.some.inj h).symm
      subst e0
      exact ⟨rfl, by first | rfl | simp⟩
    · rw [if_neg kc7] at h
      refine Wc.condF' (t := _) (by conv => lhs; simp) (by simpa using kc7) ?_
      refine Wc.seq ?_
      refine Wc.kil (by conv => lhs; simp) ?_
      refine Wc.skip ?_
      refine Wc.evs (by conv => lhs; simp) ?_
      refine Wo.nil ?_
      refine Wc.start (V1 := [(0, .v (ssl eI s0)), (1, .v (.fn g_f cp_f)), (7, .v (.int .i64 (s0.length : Int))), (8, .v (.int .i64 (w64 (x_1 + 1))))]) ?_ (hk _ (Option.some.inj h).symm)
      first | rfl | simp
  · rw [if_neg kc2] at h
    refine Wc.condF' (t := _) (by conv => lhs; simp) (by simpa using kc2) ?_
    refine Wc.seq ?_
    refine Wc.kil (by conv => lhs; simp) ?_
    refine Wc.exit ?_
    have e0 := hx _ (Option.some.inj h).symm
    subst e0
    exact ⟨rfl, by first | rfl | simp⟩
theorem r74 {s0 : (List Int)} {g_f : Nat} {cp_f : List T} {f : Int → Option Bool} (hio_f : cx.io g_f = []) (hp_f : ∀ x0 o, f x0 = some o → VJx cx (.ca g_f ([(.int .i64 x0)] ++ cp_f) (.bool o) [])) {r : Int} (h : f74 s0 f = some r) : VJx cx (.ca 74 [(ssl eI s0), (.fn g_f cp_f)] (.int .i64 r) []) := by
  unfold f74 at h
  refine ca_of rfl rfl (by decide) rfl ?_
  refine Wc.start (V1 := [(0, .v (ssl eI s0)), (1, .v (.fn g_f cp_f))]) (by simp) ?_
  refine Wc.seq ?_
  refine Wc.evs (by conv => lhs; simp) ?_
  refine Wo.nil ?_
  refine Wc.seq ?_
  refine Wc.seq ?_
  refine Wc.evs (by conv => lhs; simp) ?_
  refine Wo.nil ?_
  refine Wc.block ?_
  obtain ⟨w8, h9, h⟩ := bind_some h
  refine Wc.start (V1 := [(0, .v (ssl eI s0)), (1, .v (.fn g_f cp_f)), (7, .v (.int .i64 (s0.length : Int))), (8, .v (.int .i64 0))]) (by first | rfl | simp) ?_
  refine Wc.mono (r74_0 hio_f hp_f _ _ h9) ?_
  rcases w8 with ⟨⟩ | x_10
  · rintro ex V ⟨rfl, rfl⟩
    try dsimp only at h
    refine Wc.seq ?_
    refine Wc.evs (by conv => lhs; simp) ?_
    refine Wo.nil ?_
    refine Wc.ret (res_of (.inr rfl) ?_)
    cases h
    exact ⟨_, _, _, by conv => lhs; simp, by (conv => lhs; simp [cx, ioTab, List.range, List.range.loop]) <;> rfl, by first | rfl | simp⟩
  · rintro ex V ⟨rfl, rfl⟩
    try dsimp only at h
    refine res_of (.inr rfl) ?_
    cases h
    exact ⟨_, _, _, by conv => lhs; simp, by (conv => lhs; simp [cx, ioTab, List.range, List.range.loop]) <;> rfl, by first | rfl | simp⟩
theorem r57 {s0 : (List Int)} {g_f : Nat} {cp_f : List T} {f : Int → Option Bool} (hio_f : cx.io g_f = []) (hp_f : ∀ x0 o, f x0 = some o → VJx cx (.ca g_f ([(.int .i64 x0)] ++ cp_f) (.bool o) [])) {r : Bool} (h : f57 s0 f = some r) : VJx cx (.ca 57 [(ssl eI s0), (.fn g_f cp_f)] (.bool r) []) := by
  unfold f57 at h
  refine ca_of rfl rfl (by decide) rfl ?_
  refine Wc.start (V1 := [(0, .v (ssl eI s0)), (1, .v (.fn g_f cp_f))]) (by simp) ?_
  refine Wc.seq ?_
  refine Wc.evs (by conv => lhs; simp) ?_
  refine Wo.nil ?_
  refine Wc.seq ?_
  refine Wc.evs (by conv => lhs; simp) ?_
  obtain ⟨o1, h2, h⟩ := bind_some h
  refine Wo.call (by simp) rfl (by (conv => lhs; simp [cx, ioTab]) <;> rfl) (r74 hio_f hp_f h2) (by simp) (by simp) (by (conv => lhs; simp [cx, ioTab]) <;> rfl) (by (conv => lhs; simp) <;> rfl) ?_
  refine Wo.evs (by conv => lhs; simp) ?_
  refine Wo.nil ?_
  refine Wc.ret (res_of (.inr rfl) ?_)
  cases h
  exact ⟨_, _, _, by conv => lhs; simp, by (conv => lhs; simp [cx, ioTab, List.range, List.range.loop]) <;> rfl, by first | rfl | simp⟩
theorem r83_0 {s0 : (List Int)} {v : Int} : ∀ zs zo, iter (f83_0 s0 v) zs = some zo → Wc cx 19 (.loop L83_0) [(0, .v (ssl eI s0)), (1, .v (.int .i64 v)), (7, .v (.int .i64 (s0.length : Int))), (8, .v (.int .i64 zs))] ((QO (QX 0 (fun (y : Unit) => [])) (QR (fun (y : Int) => [(4, .v (.int .i64 y))]))) zo) := by
  intro zs0 zo0 zh0
  refine iter_run (f := (f83_0 s0 v)) (P := fun zs zo => Wc cx 19 (.loop L83_0) [(0, .v (ssl eI s0)), (1, .v (.int .i64 v)), (7, .v (.int .i64 (s0.length : Int))), (8, .v (.int .i64 zs))] ((QO (QX 0 (fun (y : Unit) => [])) (QR (fun (y : Int) => [(4, .v (.int .i64 y))]))) zo)) ?_ zh0
  rintro x_1 zo zr h hk hx
  try dsimp only at hk ⊢
  rw [f83_0] at h
  refine Wc.loop ?_
  refine Wc.seq ?_
  refine Wc.evs (by conv => lhs; simp) ?_
  refine Wo.nil ?_
  refine Wc.seq ?_
  by_cases kc2 : x_1 < (s0.length : Int)
  · rw [if_pos kc2] at h
    refine Wc.condT' (t := _) (by conv => lhs; simp) (by simpa using kc2) ?_
    refine Wc.seq ?_
    refine Wc.kil (by conv => lhs; simp) ?_
    refine Wc.skip ?_
    refine Wc.seq ?_
    refine Wc.block ?_
    refine Wc.seq ?_
    refine Wc.evs (by conv => lhs; simp) ?_
    refine Wo.nil ?_
    refine Wc.seq ?_
    obtain ⟨v_3, h4, h⟩ := bind_some h
    obtain ⟨ga4, gb4, gc4⟩ := ix_some h4
    have gn4 := ix_ne h4
    have gd4 := arr_at (E := eI) (b := false) gc4
    simp at gd4
    refine Wc.evs (by conv => lhs; simp [ga4, gb4, gn4, gd4]) ?_
    refine Wo.nil ?_
    by_cases kc5 : v = v_3
    · rw [if_pos kc5] at h
      refine Wc.condT' (t := _) (by conv => lhs; simp) (by simpa using kc5) ?_
      refine Wc.seq ?_
      refine Wc.kil (by conv => lhs; simp) ?_
      refine Wc.seq ?_
      refine Wc.evs (by conv => lhs; simp) ?_
      refine Wo.nil ?_
      refine Wc.ret ?_
      have e0 := hx _ (Option.some.inj h).symm
      subst e0
      exact ⟨rfl, by first | rfl | simp⟩
    · rw [if_neg kc5] at h
      refine Wc.condF' (t := _) (by conv => lhs; simp) (by simpa using kc5) ?_
      refine Wc.seq ?_
      refine Wc.kil (by conv => lhs; simp) ?_
      refine Wc.skip ?_
      refine Wc.evs (by conv => lhs; simp) ?_
      refine Wo.nil ?_
      refine Wc.start (V1 := [(0, .v (ssl eI s0)), (1, .v (.int .i64 v)), (7, .v (.int .i64 (s0.length : Int))), (8, .v (.int .i64 (w64 (x_1 + 1))))]) ?_ (hk _ (Option.some.inj h).symm)
      first | rfl | simp
  · rw [if_neg kc2] at h
    refine Wc.condF' (t := _) (by conv => lhs; simp) (by simpa using kc2) ?_
    refine Wc.seq ?_
    refine Wc.kil (by conv => lhs; simp) ?_
    refine Wc.exit ?_
    have e0 := hx _ (Option.some.inj h).symm
    subst e0
    exact ⟨rfl, by first | rfl | simp⟩
theorem r83 {s0 : (List Int)} {v : Int} {r : Int} (h : f83 s0 v = some r) : VJx cx (.ca 83 [(ssl eI s0), (.int .i64 v)] (.int .i64 r) []) := by
  unfold f83 at h
  refine ca_of rfl rfl (by decide) rfl ?_
  refine Wc.start (V1 := [(0, .v (ssl eI s0)), (1, .v (.int .i64 v))]) (by simp) ?_
  refine Wc.seq ?_
  refine Wc.evs (by conv => lhs; simp) ?_
  refine Wo.nil ?_
  refine Wc.seq ?_
  refine Wc.seq ?_
  refine Wc.evs (by conv => lhs; simp) ?_
  refine Wo.nil ?_
  refine Wc.block ?_
  obtain ⟨w6, h7, h⟩ := bind_some h
  refine Wc.start (V1 := [(0, .v (ssl eI s0)), (1, .v (.int .i64 v)), (7, .v (.int .i64 (s0.length : Int))), (8, .v (.int .i64 0))]) (by first | rfl | simp) ?_
  refine Wc.mono (r83_0 _ _ h7) ?_
  rcases w6 with ⟨⟩ | x_8
  · rintro ex V ⟨rfl, rfl⟩
    try dsimp only at h
    refine Wc.seq ?_
    refine Wc.evs (by conv => lhs; simp) ?_
    refine Wo.nil ?_
    refine Wc.ret (res_of (.inr rfl) ?_)
    cases h
    exact ⟨_, _, _, by conv => lhs; simp, by (conv => lhs; simp [cx, ioTab, List.range, List.range.loop]) <;> rfl, by first | rfl | simp⟩
  · rintro ex V ⟨rfl, rfl⟩
    try dsimp only at h
    refine res_of (.inr rfl) ?_
    cases h
    exact ⟨_, _, _, by conv => lhs; simp, by (conv => lhs; simp [cx, ioTab, List.range, List.range.loop]) <;> rfl, by first | rfl | simp⟩
theorem r73 {s0 : (List Int)} {v : Int} {r : Bool} (h : f73 s0 v = some r) : VJx cx (.ca 73 [(ssl eI s0), (.int .i64 v)] (.bool r) []) := by
  unfold f73 at h
  refine ca_of rfl rfl (by decide) rfl ?_
  refine Wc.start (V1 := [(0, .v (ssl eI s0)), (1, .v (.int .i64 v))]) (by simp) ?_
  refine Wc.seq ?_
  refine Wc.evs (by conv => lhs; simp) ?_
  refine Wo.nil ?_
  refine Wc.seq ?_
  refine Wc.evs (by conv => lhs; simp) ?_
  obtain ⟨o1, h2, h⟩ := bind_some h
  refine Wo.call (by simp) rfl (by (conv => lhs; simp [cx, ioTab]) <;> rfl) (r83 h2) (by simp) (by simp) (by (conv => lhs; simp [cx, ioTab]) <;> rfl) (by (conv => lhs; simp) <;> rfl) ?_
  refine Wo.evs (by conv => lhs; simp) ?_
  refine Wo.nil ?_
  refine Wc.ret (res_of (.inr rfl) ?_)
  cases h
  exact ⟨_, _, _, by conv => lhs; simp, by (conv => lhs; simp [cx, ioTab, List.range, List.range.loop]) <;> rfl, by first | rfl | simp⟩
theorem r72 {n0 : Int} {c : (List Int)} {r : Bool} (h : f72 n0 c = some r) : VJx cx (.ca 72 [(.int .i64 n0), (.ptr false [(ssl eI c)])] (.bool r) []) := by
  unfold f72 at h
  refine ca_of rfl rfl (by decide) rfl ?_
  refine Wc.start (V1 := [(0, .v (.int .i64 n0)), (1, .v (.ptr false [(ssl eI c)]))]) (by simp) ?_
  refine Wc.seq ?_
  refine Wc.evs (by conv => lhs; simp) ?_
  refine Wo.nil ?_
  refine Wc.seq ?_
  refine Wc.evs (by conv => lhs; simp) ?_
  obtain ⟨o1, h2, h⟩ := bind_some h
  refine Wo.call (by simp) rfl (by (conv => lhs; simp [cx, ioTab]) <;> rfl) (r73 h2) (by simp) (by simp) (by (conv => lhs; simp [cx, ioTab]) <;> rfl) (by (conv => lhs; simp) <;> rfl) ?_
  refine Wo.evs (by conv => lhs; simp) ?_
  refine Wo.nil ?_
  refine Wc.ret (res_of (.inr rfl) ?_)
  cases h
  exact ⟨_, _, _, by conv => lhs; simp, by (conv => lhs; simp [cx, ioTab, List.range, List.range.loop]) <;> rfl, by first | rfl | simp⟩
theorem r55 {a : (List Int)} {b : (List Int)} {r : Bool} (h : f55 a b = some r) : VJx cx (.ca 55 [(ssl eI a), (ssl eI b)] (.bool r) []) := by
  unfold f55 at h
  refine ca_of rfl rfl (by decide) rfl ?_
  refine Wc.start (V1 := [(0, .v (ssl eI a)), (1, .v (ssl eI b))]) (by simp) ?_
  refine Wc.seq ?_
  refine Wc.evs (by conv => lhs; simp) ?_
  refine Wo.nil ?_
  refine Wc.seq ?_
  refine Wc.evs (by conv => lhs; simp) ?_
  obtain ⟨o1, h2, h⟩ := bind_some h
  refine Wo.call (by simp) rfl (by (conv => lhs; simp [cx, ioTab]) <;> rfl) (r57 (g_f := 72) (cp_f := [(.ptr false [(ssl eI b)])]) rfl (fun x0 o h => r72 h) h2) (by simp) (by simp) (by (conv => lhs; simp [cx, ioTab]) <;> rfl) (by (conv => lhs; simp) <;> rfl) ?_
  refine Wo.evs (by conv => lhs; simp) ?_
  refine Wo.nil ?_
  refine Wc.ret (res_of (.inr rfl) ?_)
  cases h
  exact ⟨_, _, _, by conv => lhs; simp, by (conv => lhs; simp [cx, ioTab, List.range, List.range.loop]) <;> rfl, by first | rfl | simp⟩
theorem r36_1 {sets : (List (List Int))} {out_1 : (List (List Int))} {x_2 : Int} {v_4 : (List Int)} : ∀ zs zo, iter (f36_1 sets x_2 v_4) zs = some zo → Wc cx 56 (.loop L36_1) [(0, .v (ssl (eL eI) sets)), (3, .v (osl (eL eI) true out_1)), (4, .v (.int .i64 x_2)), (5, .v (ssl eI v_4)), (6, .v (.bool zs.1)), (10, .v (ssl (eL eI) sets)), (11, .v (.int .i64 (sets.length : Int))), (12, .v (.int .i64 x_2)), (17, .v (ssl (eL eI) sets)), (18, .v (.int .i64 (sets.length : Int))), (19, .v (.int .i64 zs.2))] ((QX 2 (fun (y : Bool) => [(0, .v (ssl (eL eI) sets)), (3, .v (osl (eL eI) true out_1)), (5, .v (ssl eI v_4)), (6, .v (.bool y)), (10, .v (ssl (eL eI) sets)), (11, .v (.int .i64 (sets.length : Int))), (12, .v (.int .i64 x_2))])) zo) := by
  intro zs0 zo0 zh0
  refine iter_run (f := (f36_1 sets x_2 v_4)) (P := fun zs zo => Wc cx 56 (.loop L36_1) [(0, .v (ssl (eL eI) sets)), (3, .v (osl (eL eI) true out_1)), (4, .v (.int .i64 x_2)), (5, .v (ssl eI v_4)), (6, .v (.bool zs.1)), (10, .v (ssl (eL eI) sets)), (11, .v (.int .i64 (sets.length : Int))), (12, .v (.int .i64 x_2)), (17, .v (ssl (eL eI) sets)), (18, .v (.int .i64 (sets.length : Int))), (19, .v (.int .i64 zs.2))] ((QX 2 (fun (y : Bool) => [(0, .v (ssl (eL eI) sets)), (3, .v (osl (eL eI) true out_1)), (5, .v (ssl eI v_4)), (6, .v (.bool y)), (10, .v (ssl (eL eI) sets)), (11, .v (.int .i64 (sets.length : Int))), (12, .v (.int .i64 x_2))])) zo)) ?_ zh0
  rintro ⟨minimal_6, x_7⟩ zo zr h hk hx
  try dsimp only at hk ⊢
  rw [f36_1] at h
  refine Wc.loop ?_
  refine Wc.seq ?_
  refine Wc.evs (by conv => lhs; simp) ?_
  refine Wo.nil ?_
  refine Wc.seq ?_
  by_cases kc8 : x_7 < (sets.length : Int)
  · rw [if_pos kc8] at h
    refine Wc.condT' (t := _) (by conv => lhs; simp) (by simpa using kc8) ?_
    refine Wc.seq ?_
    refine Wc.kil (by conv => lhs; simp) ?_
    refine Wc.skip ?_
    refine Wc.seq ?_
    refine Wc.block ?_
    refine Wc.seq ?_
    obtain ⟨v_9, h10, h⟩ := bind_some h
    obtain ⟨ga10, gb10, gc10⟩ := ix_some h10
    have gn10 := ix_ne h10
    have gd10 := arr_at (E := (eL eI)) (b := false) gc10
    simp at gd10
    refine Wc.evs (by conv => lhs; simp [ga10, gb10, gn10, gd10]) ?_
    refine Wo.nil ?_
    refine Wc.seq ?_
    refine Wc.evk 6 (by conv => lhs; simp) ?_
    obtain ⟨w12, h13, h⟩ := bind_some h
    refine Wo.mono (Q := fun V => V = [(0, .v (ssl (eL eI) sets)), (3, .v (osl (eL eI) true out_1)), (4, .v (.int .i64 x_2)), (5, .v (ssl eI v_4)), (6, .v (.bool minimal_6)), (10, .v (ssl (eL eI) sets)), (11, .v (.int .i64 (sets.length : Int))), (12, .v (.int .i64 x_2)), (17, .v (ssl (eL eI) sets)), (18, .v (.int .i64 (sets.length : Int))), (19, .v (.int .i64 x_7)), (45, .v (.bool w12))]) ?_ ?_
    · by_cases knh13 : (v_9.length : Int) < (v_4.length : Int)
      · rw [if_pos knh13] at h13
        refine Wo.gh (vle_co (s := 29) (t1 := .bool true) rfl (by simp) (tle_bool (by simpa using knh13)) (by conv => lhs; simp)) ?_
        refine Wo.evs (by conv => lhs; simp) ?_
        obtain ⟨o14, h15, h13⟩ := bind_some h13
        refine Wo.call (by simp) rfl (by (conv => lhs; simp [cx, ioTab]) <;> rfl) (r55 h15) (by simp) (by simp) (by (conv => lhs; simp [cx, ioTab]) <;> rfl) (by (conv => lhs; simp) <;> rfl) ?_
        refine Wo.evs (by conv => lhs; simp) ?_
        refine Wo.nil ?_
        cases h13
        first | rfl | simp
      · rw [if_neg knh13] at h13
        refine Wo.gh (vle_co (s := 29) (t1 := .bool false) rfl (by simp) (tle_bool (by simpa using knh13)) (by conv => lhs; simp)) ?_
        refine Wo.evk 6 (by conv => lhs; simp) ?_
        obtain ⟨w17, h18, h13⟩ := bind_some h13
        refine Wo.mono (Q := fun V => V = [(0, .v (ssl (eL eI) sets)), (3, .v (osl (eL eI) true out_1)), (4, .v (.int .i64 x_2)), (5, .v (ssl eI v_4)), (6, .v (.bool minimal_6)), (10, .v (ssl (eL eI) sets)), (11, .v (.int .i64 (sets.length : Int))), (12, .v (.int .i64 x_2)), (17, .v (ssl (eL eI) sets)), (18, .v (.int .i64 (sets.length : Int))), (19, .v (.int .i64 x_7)), (45, .v (.bool w17))]) ?_ ?_
        · by_cases knh18 : (v_9.length : Int) = (v_4.length : Int)
          · rw [if_pos knh18] at h18
            refine Wo.gh (vle_co (s := 35) (t1 := .bool true) rfl (by simp) (tle_bool (by simpa using knh18)) (by conv => lhs; simp)) ?_
            refine Wo.evk 6 (by conv => lhs; simp) ?_
            obtain ⟨w20, h21, h18⟩ := bind_some h18
            refine Wo.mono (Q := fun V => V = [(0, .v (ssl (eL eI) sets)), (3, .v (osl (eL eI) true out_1)), (4, .v (.int .i64 x_2)), (5, .v (ssl eI v_4)), (6, .v (.bool minimal_6)), (10, .v (ssl (eL eI) sets)), (11, .v (.int .i64 (sets.length : Int))), (12, .v (.int .i64 x_2)), (17, .v (ssl (eL eI) sets)), (18, .v (.int .i64 (sets.length : Int))), (19, .v (.int .i64 x_7)), (45, .v (.bool w20))]) ?_ ?_
            · by_cases knh21 : x_7 < x_2
              · rw [if_pos knh21] at h21
                refine Wo.gh (vle_co (s := 41) (t1 := .bool true) rfl (by simp) (tle_bool (by simpa using knh21)) (by conv => lhs; simp)) ?_
                refine Wo.evs (by conv => lhs; simp) ?_
                obtain ⟨o22, h23, h21⟩ := bind_some h21
                refine Wo.call (by simp) rfl (by (conv => lhs; simp [cx, ioTab]) <;> rfl) (r55 h23) (by simp) (by simp) (by (conv => lhs; simp [cx, ioTab]) <;> rfl) (by (conv => lhs; simp) <;> rfl) ?_
                refine Wo.evs (by conv => lhs; simp) ?_
                refine Wo.nil ?_
                cases h21
                first | rfl | simp
              · rw [if_neg knh21] at h21
                refine Wo.gh (vle_co (s := 41) (t1 := .bool false) rfl (by simp) (tle_bool (by simpa using knh21)) (by conv => lhs; simp)) ?_
                refine Wo.evs (by conv => lhs; simp) ?_
                refine Wo.nil ?_
                cases h21
                first | rfl | simp
            · rintro V rfl
              generalize w20 = x_19 at *
              try dsimp only at h18
              cases h18
              first | rfl | simp
          · rw [if_neg knh18] at h18
            refine Wo.gh (vle_co (s := 35) (t1 := .bool false) rfl (by simp) (tle_bool (by simpa using knh18)) (by conv => lhs; simp)) ?_
            refine Wo.evs (by conv => lhs; simp) ?_
            refine Wo.nil ?_
            cases h18
            first | rfl | simp
        · rintro V rfl
          generalize w17 = x_16 at *
          try dsimp only at h13
          cases h13
          first | rfl | simp
    · rintro V rfl
      generalize w12 = x_11 at *
      try dsimp only at h
      obtain ⟨w24, h25, h⟩ := bind_some h
      refine Wc.mono (Q := (QN (fun (y : Bool) => [(0, .v (ssl (eL eI) sets)), (3, .v (osl (eL eI) true out_1)), (4, .v (.int .i64 x_2)), (5, .v (ssl eI v_4)), (6, .v (.bool y)), (10, .v (ssl (eL eI) sets)), (11, .v (.int .i64 (sets.length : Int))), (12, .v (.int .i64 x_2)), (17, .v (ssl (eL eI) sets)), (18, .v (.int .i64 (sets.length : Int))), (19, .v (.int .i64 x_7))])) w24) ?_ ?_
      · skip
        by_cases kc26 : x_11 = true
        · rw [if_pos kc26] at h25
          refine Wc.condT' (t := _) (by conv => lhs; simp) (by simpa using kc26) ?_
          refine Wc.seq ?_
          refine Wc.kil (by conv => lhs; simp) ?_
          refine Wc.evs (by conv => lhs; simp) ?_
          refine Wo.nil ?_
          cases h25
          exact ⟨rfl, by first | rfl | simp⟩
        · rw [if_neg kc26] at h25
          refine Wc.condF' (t := _) (by conv => lhs; simp) (by simpa using kc26) ?_
          refine Wc.seq ?_
          refine Wc.kil (by conv => lhs; simp) ?_
          refine Wc.skip ?_
          cases h25
          exact ⟨rfl, by first | rfl | simp⟩
      · skip
        generalize w24 = minimal_27 at *
        rintro ex V ⟨rfl, rfl⟩
        try dsimp only at h
        refine Wc.evs (by conv => lhs; simp) ?_
        refine Wo.nil ?_
        refine Wc.start (V1 := [(0, .v (ssl (eL eI) sets)), (3, .v (osl (eL eI) true out_1)), (4, .v (.int .i64 x_2)), (5, .v (ssl eI v_4)), (6, .v (.bool minimal_27)), (10, .v (ssl (eL eI) sets)), (11, .v (.int .i64 (sets.length : Int))), (12, .v (.int .i64 x_2)), (17, .v (ssl (eL eI) sets)), (18, .v (.int .i64 (sets.length : Int))), (19, .v (.int .i64 (w64 (x_7 + 1))))]) ?_ (hk _ (Option.some.inj h).symm)
        first | rfl | simp
  · rw [if_neg kc8] at h
    refine Wc.condF' (t := _) (by conv => lhs; simp) (by simpa using kc8) ?_
    refine Wc.seq ?_
    refine Wc.kil (by conv => lhs; simp) ?_
    refine Wc.exit ?_
    have e0 := hx _ (Option.some.inj h).symm
    subst e0
    exact ⟨rfl, by first | rfl | simp⟩
theorem r36_0 {sets : (List (List Int))} : ∀ zs zo, iter (f36_0 sets) zs = some zo → Wc cx 56 (.loop L36_0) [(0, .v (ssl (eL eI) sets)), (3, .v (osl (eL eI) true zs.1)), (10, .v (ssl (eL eI) sets)), (11, .v (.int .i64 (sets.length : Int))), (12, .v (.int .i64 zs.2))] ((QX 0 (fun (y : (List (List Int))) => [(3, .v (osl (eL eI) true y))])) zo) := by
  intro zs0 zo0 zh0
  refine iter_run (f := (f36_0 sets)) (P := fun zs zo => Wc cx 56 (.loop L36_0) [(0, .v (ssl (eL eI) sets)), (3, .v (osl (eL eI) true zs.1)), (10, .v (ssl (eL eI) sets)), (11, .v (.int .i64 (sets.length : Int))), (12, .v (.int .i64 zs.2))] ((QX 0 (fun (y : (List (List Int))) => [(3, .v (osl (eL eI) true y))])) zo)) ?_ zh0
  rintro ⟨out_1, x_2⟩ zo zr h hk hx
  try dsimp only at hk ⊢
  rw [f36_0] at h
  refine Wc.loop ?_
  refine Wc.seq ?_
  refine Wc.evs (by conv => lhs; simp) ?_
  refine Wo.nil ?_
  refine Wc.seq ?_
  by_cases kc3 : x_2 < (sets.length : Int)
  · rw [if_pos kc3] at h
    refine Wc.condT' (t := _) (by conv => lhs; simp) (by simpa using kc3) ?_
    refine Wc.seq ?_
    refine Wc.kil (by conv => lhs; simp) ?_
    refine Wc.skip ?_
    refine Wc.seq ?_
    refine Wc.block ?_
    refine Wc.seq ?_
    obtain ⟨v_4, h5, h⟩ := bind_some h
    obtain ⟨ga5, gb5, gc5⟩ := ix_some h5
    have gn5 := ix_ne h5
    have gd5 := arr_at (E := (eL eI)) (b := false) gc5
    simp at gd5
    refine Wc.evs (by conv => lhs; simp [ga5, gb5, gn5, gd5]) ?_
    refine Wo.nil ?_
    refine Wc.seq ?_
    refine Wc.evs (by conv => lhs; simp) ?_
    refine Wo.nil ?_
    refine Wc.seq ?_
    refine Wc.seq ?_
    refine Wc.evs (by conv => lhs; simp) ?_
    refine Wo.nil ?_
    refine Wc.block ?_
    obtain ⟨w28, h29, h⟩ := bind_some h
    refine Wc.start (V1 := [(0, .v (ssl (eL eI) sets)), (3, .v (osl (eL eI) true out_1)), (4, .v (.int .i64 x_2)), (5, .v (ssl eI v_4)), (6, .v (.bool true)), (10, .v (ssl (eL eI) sets)), (11, .v (.int .i64 (sets.length : Int))), (12, .v (.int .i64 x_2)), (17, .v (ssl (eL eI) sets)), (18, .v (.int .i64 (sets.length : Int))), (19, .v (.int .i64 0))]) (by first | rfl | simp) ?_
    refine Wc.mono (r36_1 _ _ h29) ?_
    generalize w28 = minimal_30 at *
    rintro ex V ⟨rfl, rfl⟩
    try dsimp only at h
    refine Wc.seq ?_
    refine Wc.evs (by conv => lhs; simp) ?_
    refine Wo.nil ?_
    obtain ⟨w31, h32, h⟩ := bind_some h
    refine Wc.mono (Q := (QN (fun (y : (List (List Int))) => [(0, .v (ssl (eL eI) sets)), (3, .v (osl (eL eI) true y)), (10, .v (ssl (eL eI) sets)), (11, .v (.int .i64 (sets.length : Int))), (12, .v (.int .i64 x_2))])) w31) ?_ ?_
    · skip
      by_cases kc33 : minimal_30 = true
      · rw [if_pos kc33] at h32
        refine Wc.condT' (t := _) (by conv => lhs; simp) (by simpa using kc33) ?_
        refine Wc.seq ?_
        refine Wc.kil (by conv => lhs; simp) ?_
        obtain ⟨l_34, h35, h32⟩ := bind_some h32
        have gx35 := appT_arr2 (E := eI) (b := true) (b' := false) (y := false) h35 (by decide) (arr_sc rfl _)
        simp at gx35
        refine Wc.evk 4 (by conv => lhs; simp [gx35]) ?_
        refine Wo.gh (vle_co (s := 51) (t1 := (osl eI true l_34)) rfl (by simp) (tle_own rfl) (by conv => lhs; simp)) ?_
        obtain ⟨l_36, h37, h32⟩ := bind_some h32
        have gx37 := appT_arr (E := (eL eI)) (b := true) (y := true) h37 (by decide)
        simp at gx37
        refine Wo.evs (by conv => lhs; simp [gx35, gx37]) ?_
        refine Wo.nil ?_
        cases h32
        exact ⟨rfl, by first | rfl | simp [gx35, gx37]⟩
      · rw [if_neg kc33] at h32
        refine Wc.condF' (t := _) (by conv => lhs; simp) (by simpa using kc33) ?_
        refine Wc.seq ?_
        refine Wc.kil (by conv => lhs; simp) ?_
        refine Wc.skip ?_
        cases h32
        exact ⟨rfl, by first | rfl | simp⟩
    · skip
      generalize w31 = out_38 at *
      rintro ex V ⟨rfl, rfl⟩
      try dsimp only at h
      refine Wc.evs (by conv => lhs; simp) ?_
      refine Wo.nil ?_
      refine Wc.start (V1 := [(0, .v (ssl (eL eI) sets)), (3, .v (osl (eL eI) true out_38)), (10, .v (ssl (eL eI) sets)), (11, .v (.int .i64 (sets.length : Int))), (12, .v (.int .i64 (w64 (x_2 + 1))))]) ?_ (hk _ (Option.some.inj h).symm)
      first | rfl | simp
  · rw [if_neg kc3] at h
    refine Wc.condF' (t := _) (by conv => lhs; simp) (by simpa using kc3) ?_
    refine Wc.seq ?_
    refine Wc.kil (by conv => lhs; simp) ?_
    refine Wc.exit ?_
    have e0 := hx _ (Option.some.inj h).symm
    subst e0
    exact ⟨rfl, by first | rfl | simp⟩
theorem r36 {sets : (List (List Int))} {r : (List (List Int))} (h : f36 sets = some r) : VJx cx (.ca 36 [(ssl (eL eI) sets)] (osl (eL eI) true r) []) := by
  unfold f36 at h
  refine ca_of rfl rfl (by decide) rfl ?_
  refine Wc.start (V1 := [(0, .v (ssl (eL eI) sets))]) (by simp) ?_
  refine Wc.seq ?_
  refine Wc.evs (by conv => lhs; simp) ?_
  refine Wo.nil ?_
  refine Wc.seq ?_
  refine Wc.evs (by conv => lhs; simp) ?_
  refine Wo.gh (vle_co (s := 3) (t1 := (osl (eL eI) true ([]))) rfl (by simp) (TLe.own (show TLes _ [] from (TLes.refl _)) rfl) (by conv => lhs; simp)) ?_
  refine Wo.nil ?_
  refine Wc.seq ?_
  refine Wc.seq ?_
  refine Wc.evs (by conv => lhs; simp) ?_
  refine Wo.nil ?_
  refine Wc.block ?_
  obtain ⟨w39, h40, h⟩ := bind_some h
  refine Wc.start (V1 := [(0, .v (ssl (eL eI) sets)), (3, .v (osl (eL eI) true ([]))), (10, .v (ssl (eL eI) sets)), (11, .v (.int .i64 (sets.length : Int))), (12, .v (.int .i64 0))]) (by first | rfl | simp) ?_
  refine Wc.mono (r36_0 _ _ h40) ?_
  generalize w39 = out_41 at *
  rintro ex V ⟨rfl, rfl⟩
  try dsimp only at h
  refine Wc.seq ?_
  refine Wc.evs (by conv => lhs; simp) ?_
  refine Wo.nil ?_
  refine Wc.ret (res_of (.inr rfl) ?_)
  cases h
  exact ⟨_, _, _, by conv => lhs; simp, by (conv => lhs; simp [cx, ioTab, List.range, List.range.loop]) <;> rfl, by first | rfl | simp⟩
theorem r18_0 {a : (List Int)} {b : (List Int)} : ∀ zs zo, iter (f18_0 a b) zs = some zo → Wc cx 26 (.loop L18_0) [(0, .v (ssl eI a)), (1, .v (ssl eI b)), (5, .v (.int .i64 zs))] ((QO (QX 0 (fun (y : Unit) => [])) (QR (fun (y : Bool) => [(4, .v (.bool y))]))) zo) := by
  intro zs0 zo0 zh0
  refine iter_run (f := (f18_0 a b)) (P := fun zs zo => Wc cx 26 (.loop L18_0) [(0, .v (ssl eI a)), (1, .v (ssl eI b)), (5, .v (.int .i64 zs))] ((QO (QX 0 (fun (y : Unit) => [])) (QR (fun (y : Bool) => [(4, .v (.bool y))]))) zo)) ?_ zh0
  rintro i_2 zo zr h hk hx
  try dsimp only at hk ⊢
  rw [f18_0] at h
  refine Wc.loop ?_
  refine Wc.seq ?_
  refine Wc.seq ?_
  refine Wc.evs (by conv => lhs; simp) ?_
  refine Wo.nil ?_
  by_cases kc3 : i_2 < (a.length : Int)
  · rw [if_pos kc3] at h
    refine Wc.condT' (t := _) (by conv => lhs; simp) (by simpa using kc3) ?_
    refine Wc.seq ?_
    refine Wc.kil (by conv => lhs; simp) ?_
    refine Wc.skip ?_
    refine Wc.seq ?_
    refine Wc.block ?_
    refine Wc.seq ?_
    obtain ⟨v_4, h5, h⟩ := bind_some h
    obtain ⟨ga5, gb5, gc5⟩ := ix_some h5
    have gn5 := ix_ne h5
    have gd5 := arr_at (E := eI) (b := false) gc5
    simp at gd5
    obtain ⟨v_6, h7, h⟩ := bind_some h
    obtain ⟨ga7, gb7, gc7⟩ := ix_some h7
    have gn7 := ix_ne h7
    have gd7 := arr_at (E := eI) (b := false) gc7
    simp at gd7
    refine Wc.evs (by conv => lhs; simp [ga5, gb5, gn5, gd5, ga7, gb7, gn7, gd7]) ?_
    refine Wo.nil ?_
    by_cases kc8 : v_4 ≠ v_6
    · rw [if_pos kc8] at h
      refine Wc.condT' (t := _) (by conv => lhs; simp) (by simpa using kc8) ?_
      refine Wc.seq ?_
      refine Wc.kil (by conv => lhs; simp) ?_
      refine Wc.seq ?_
      refine Wc.evs (by conv => lhs; simp) ?_
      refine Wo.nil ?_
      refine Wc.ret ?_
      have e0 := hx _ (Option.some.inj h).symm
      subst e0
      exact ⟨rfl, by first | rfl | simp⟩
    · rw [if_neg kc8] at h
      refine Wc.condF' (t := _) (by conv => lhs; simp) (by simpa using kc8) ?_
      refine Wc.seq ?_
      refine Wc.kil (by conv => lhs; simp) ?_
      refine Wc.skip ?_
      refine Wc.evs (by conv => lhs; simp) ?_
      refine Wo.nil ?_
      refine Wc.start (V1 := [(0, .v (ssl eI a)), (1, .v (ssl eI b)), (5, .v (.int .i64 (w64 (i_2 + 1))))]) ?_ (hk _ (Option.some.inj h).symm)
      first | rfl | simp
  · rw [if_neg kc3] at h
    refine Wc.condF' (t := _) (by conv => lhs; simp) (by simpa using kc3) ?_
    refine Wc.seq ?_
    refine Wc.kil (by conv => lhs; simp) ?_
    refine Wc.exit ?_
    have e0 := hx _ (Option.some.inj h).symm
    subst e0
    exact ⟨rfl, by first | rfl | simp⟩
theorem r18 {a : (List Int)} {b : (List Int)} {r : Bool} (h : f18 a b = some r) : VJx cx (.ca 18 [(ssl eI a), (ssl eI b)] (.bool r) []) := by
  unfold f18 at h
  refine ca_of rfl rfl (by decide) rfl ?_
  refine Wc.start (V1 := [(0, .v (ssl eI a)), (1, .v (ssl eI b))]) (by simp) ?_
  refine Wc.seq ?_
  refine Wc.evs (by conv => lhs; simp) ?_
  refine Wo.nil ?_
  refine Wc.seq ?_
  refine Wc.seq ?_
  refine Wc.evs (by conv => lhs; simp) ?_
  refine Wo.nil ?_
  by_cases kc1 : (a.length : Int) ≠ (b.length : Int)
  · rw [if_pos kc1] at h
    refine Wc.condT' (t := _) (by conv => lhs; simp) (by simpa using kc1) ?_
    refine Wc.seq ?_
    refine Wc.kil (by conv => lhs; simp) ?_
    refine Wc.seq ?_
    refine Wc.evs (by conv => lhs; simp) ?_
    refine Wo.nil ?_
    refine Wc.ret (res_of (.inr rfl) ?_)
    cases h
    exact ⟨_, _, _, by conv => lhs; simp, by (conv => lhs; simp [cx, ioTab, List.range, List.range.loop]) <;> rfl, by first | rfl | simp⟩
  · rw [if_neg kc1] at h
    refine Wc.condF' (t := _) (by conv => lhs; simp) (by simpa using kc1) ?_
    refine Wc.seq ?_
    refine Wc.kil (by conv => lhs; simp) ?_
    refine Wc.skip ?_
    refine Wc.seq ?_
    refine Wc.seq ?_
    refine Wc.evs (by conv => lhs; simp) ?_
    refine Wo.nil ?_
    refine Wc.block ?_
    obtain ⟨w9, h10, h⟩ := bind_some h
    refine Wc.start (V1 := [(0, .v (ssl eI a)), (1, .v (ssl eI b)), (5, .v (.int .i64 0))]) (by first | rfl | simp) ?_
    refine Wc.mono (r18_0 _ _ h10) ?_
    rcases w9 with ⟨⟩ | x_11
    · rintro ex V ⟨rfl, rfl⟩
      try dsimp only at h
      refine Wc.seq ?_
      refine Wc.evs (by conv => lhs; simp) ?_
      refine Wo.nil ?_
      refine Wc.ret (res_of (.inr rfl) ?_)
      cases h
      exact ⟨_, _, _, by conv => lhs; simp, by (conv => lhs; simp [cx, ioTab, List.range, List.range.loop]) <;> rfl, by first | rfl | simp⟩
    · rintro ex V ⟨rfl, rfl⟩
      try dsimp only at h
      refine res_of (.inr rfl) ?_
      cases h
      exact ⟨_, _, _, by conv => lhs; simp, by (conv => lhs; simp [cx, ioTab, List.range, List.range.loop]) <;> rfl, by first | rfl | simp⟩
theorem r30_0 {a : (List (List Int))} {b : (List (List Int))} : ∀ zs zo, iter (f30_0 a b) zs = some zo → Wc cx 27 (.loop L30_0) [(0, .v (ssl (eL eI) a)), (1, .v (ssl (eL eI) b)), (5, .v (.int .i64 zs))] ((QO (QX 0 (fun (y : Unit) => [])) (QR (fun (y : Bool) => [(4, .v (.bool y))]))) zo) := by
  intro zs0 zo0 zh0
  refine iter_run (f := (f30_0 a b)) (P := fun zs zo => Wc cx 27 (.loop L30_0) [(0, .v (ssl (eL eI) a)), (1, .v (ssl (eL eI) b)), (5, .v (.int .i64 zs))] ((QO (QX 0 (fun (y : Unit) => [])) (QR (fun (y : Bool) => [(4, .v (.bool y))]))) zo)) ?_ zh0
  rintro i_2 zo zr h hk hx
  try dsimp only at hk ⊢
  rw [f30_0] at h
  refine Wc.loop ?_
  refine Wc.seq ?_
  refine Wc.seq ?_
  refine Wc.evs (by conv => lhs; simp) ?_
  refine Wo.nil ?_
  by_cases kc3 : i_2 < (a.length : Int)
  · rw [if_pos kc3] at h
    refine Wc.condT' (t := _) (by conv => lhs; simp) (by simpa using kc3) ?_
    refine Wc.seq ?_
    refine Wc.kil (by conv => lhs; simp) ?_
    refine Wc.skip ?_
    refine Wc.seq ?_
    refine Wc.block ?_
    refine Wc.seq ?_
    obtain ⟨v_4, h5, h⟩ := bind_some h
    obtain ⟨ga5, gb5, gc5⟩ := ix_some h5
    have gn5 := ix_ne h5
    have gd5 := arr_at (E := (eL eI)) (b := false) gc5
    simp at gd5
    obtain ⟨v_6, h7, h⟩ := bind_some h
    obtain ⟨ga7, gb7, gc7⟩ := ix_some h7
    have gn7 := ix_ne h7
    have gd7 := arr_at (E := (eL eI)) (b := false) gc7
    simp at gd7
    refine Wc.evs (by conv => lhs; simp [ga5, gb5, gn5, gd5, ga7, gb7, gn7, gd7]) ?_
    obtain ⟨o8, h9, h⟩ := bind_some h
    refine Wo.call (by simp) rfl (by (conv => lhs; simp [ga5, gb5, gn5, gd5, ga7, gb7, gn7, gd7, cx, ioTab]) <;> rfl) (r18 h9) (by simp) (by simp) (by (conv => lhs; simp [ga5, gb5, gn5, gd5, ga7, gb7, gn7, gd7, cx, ioTab]) <;> rfl) (by (conv => lhs; simp [ga5, gb5, gn5, gd5, ga7, gb7, gn7, gd7]) <;> rfl) ?_
    refine Wo.evs (by conv => lhs; simp [ga5, gb5, gn5, gd5, ga7, gb7, gn7, gd7]) ?_
    refine Wo.nil ?_
    by_cases kc10 : ¬ (o8 = true)
    · rw [if_pos kc10] at h
      refine Wc.condT' (t := _) (by conv => lhs; simp) (by simpa using kc10) ?_
      refine Wc.seq ?_
      refine Wc.kil (by conv => lhs; simp) ?_
      refine Wc.seq ?_
      refine Wc.evs (by conv => lhs; simp) ?_
      refine Wo.nil ?_
      refine Wc.ret ?_
      have e0 := hx _ (Option.some.inj h).symm
      subst e0
      exact ⟨rfl, by first | rfl | simp⟩
    · rw [if_neg kc10] at h
      refine Wc.condF' (t := _) (by conv => lhs; simp) (by simpa using kc10) ?_
      refine Wc.seq ?_
      refine Wc.kil (by conv => lhs; simp) ?_
      refine Wc.skip ?_
      refine Wc.evs (by conv => lhs; simp) ?_
      refine Wo.nil ?_
      refine Wc.start (V1 := [(0, .v (ssl (eL eI) a)), (1, .v (ssl (eL eI) b)), (5, .v (.int .i64 (w64 (i_2 + 1))))]) ?_ (hk _ (Option.some.inj h).symm)
      first | rfl | simp
  · rw [if_neg kc3] at h
    refine Wc.condF' (t := _) (by conv => lhs; simp) (by simpa using kc3) ?_
    refine Wc.seq ?_
    refine Wc.kil (by conv => lhs; simp) ?_
    refine Wc.exit ?_
    have e0 := hx _ (Option.some.inj h).symm
    subst e0
    exact ⟨rfl, by first | rfl | simp⟩
theorem r30 {a : (List (List Int))} {b : (List (List Int))} {r : Bool} (h : f30 a b = some r) : VJx cx (.ca 30 [(ssl (eL eI) a), (ssl (eL eI) b)] (.bool r) []) := by
  unfold f30 at h
  refine ca_of rfl rfl (by decide) rfl ?_
  refine Wc.start (V1 := [(0, .v (ssl (eL eI) a)), (1, .v (ssl (eL eI) b))]) (by simp) ?_
  refine Wc.seq ?_
  refine Wc.evs (by conv => lhs; simp) ?_
  refine Wo.nil ?_
  refine Wc.seq ?_
  refine Wc.seq ?_
  refine Wc.evs (by conv => lhs; simp) ?_
  refine Wo.nil ?_
  by_cases kc1 : (a.length : Int) ≠ (b.length : Int)
  · rw [if_pos kc1] at h
    refine Wc.condT' (t := _) (by conv => lhs; simp) (by simpa using kc1) ?_
    refine Wc.seq ?_
    refine Wc.kil (by conv => lhs; simp) ?_
    refine Wc.seq ?_
    refine Wc.evs (by conv => lhs; simp) ?_
    refine Wo.nil ?_
    refine Wc.ret (res_of (.inr rfl) ?_)
    cases h
    exact ⟨_, _, _, by conv => lhs; simp, by (conv => lhs; simp [cx, ioTab, List.range, List.range.loop]) <;> rfl, by first | rfl | simp⟩
  · rw [if_neg kc1] at h
    refine Wc.condF' (t := _) (by conv => lhs; simp) (by simpa using kc1) ?_
    refine Wc.seq ?_
    refine Wc.kil (by conv => lhs; simp) ?_
    refine Wc.skip ?_
    refine Wc.seq ?_
    refine Wc.seq ?_
    refine Wc.evs (by conv => lhs; simp) ?_
    refine Wo.nil ?_
    refine Wc.block ?_
    obtain ⟨w11, h12, h⟩ := bind_some h
    refine Wc.start (V1 := [(0, .v (ssl (eL eI) a)), (1, .v (ssl (eL eI) b)), (5, .v (.int .i64 0))]) (by first | rfl | simp) ?_
    refine Wc.mono (r30_0 _ _ h12) ?_
    rcases w11 with ⟨⟩ | x_13
    · rintro ex V ⟨rfl, rfl⟩
      try dsimp only at h
      refine Wc.seq ?_
      refine Wc.evs (by conv => lhs; simp) ?_
      refine Wo.nil ?_
      refine Wc.ret (res_of (.inr rfl) ?_)
      cases h
      exact ⟨_, _, _, by conv => lhs; simp, by (conv => lhs; simp [cx, ioTab, List.range, List.range.loop]) <;> rfl, by first | rfl | simp⟩
    · rintro ex V ⟨rfl, rfl⟩
      try dsimp only at h
      refine res_of (.inr rfl) ?_
      cases h
      exact ⟨_, _, _, by conv => lhs; simp, by (conv => lhs; simp [cx, ioTab, List.range, List.range.loop]) <;> rfl, by first | rfl | simp⟩
theorem r19_0 : ∀ zs zo, iter f19_0 zs = some zo → Wc cx 19 (.loop L19_0) [(0, .v (osl eI true zs.1)), (1, .v (.int .i64 zs.2.1)), (5, .v (.int .i64 zs.2.2))] ((QX 0 (fun (y : (List Int) × Int) => [(0, .v (osl eI true y.1)), (1, .v (.int .i64 y.2))])) zo) := by
  intro zs0 zo0 zh0
  refine iter_run (f := f19_0) (P := fun zs zo => Wc cx 19 (.loop L19_0) [(0, .v (osl eI true zs.1)), (1, .v (.int .i64 zs.2.1)), (5, .v (.int .i64 zs.2.2))] ((QX 0 (fun (y : (List Int) × Int) => [(0, .v (osl eI true y.1)), (1, .v (.int .i64 y.2))])) zo)) ?_ zh0
  rintro ⟨a_1, k_2, i_3⟩ zo zr h hk hx
  try dsimp only at hk ⊢
  rw [f19_0] at h
  refine Wc.loop ?_
  refine Wc.seq ?_
  refine Wc.seq ?_
  refine Wc.evs (by conv => lhs; simp) ?_
  refine Wo.nil ?_
  by_cases kc4 : i_3 < (a_1.length : Int)
  · rw [if_pos kc4] at h
    refine Wc.condT' (t := _) (by conv => lhs; simp) (by simpa using kc4) ?_
    refine Wc.seq ?_
    refine Wc.kil (by conv => lhs; simp) ?_
    refine Wc.skip ?_
    refine Wc.seq ?_
    refine Wc.block ?_
    refine Wc.seq ?_
    obtain ⟨v_5, h6, h⟩ := bind_some h
    obtain ⟨ga6, gb6, gc6⟩ := ix_some h6
    have gn6 := ix_ne h6
    have gf6 := arr_fit (E := eI) (b := true) (i := i_3.toNat) (l := a_1) (by omega)
    have gg6_0 := arr_get (E := eI) (b := true) (o := 0) gc6 (by decide)
    simp at gf6 gg6_0
    have gl6 : i_3.toNat < a_1.length := by omega
    have gy7 := lay_set (E := eI) (b := true) (i := i_3.toNat) (l := a_1) k_2 (by omega)
    simp at gy7
    refine Wc.evs (by conv => lhs; simp [-getElem?_pos, List.getElem?_cons_zero, List.getElem?_cons_succ, ga6, gb6, gn6, gf6, gg6_0, gl6, gy7]) ?_
    refine Wo.nil ?_
    refine Wc.evs (by conv => lhs; simp) ?_
    refine Wo.nil ?_
    refine Wc.evs (by conv => lhs; simp) ?_
    refine Wo.nil ?_
    refine Wc.start (V1 := [(0, .v (osl eI true (a_1.set i_3.toNat k_2))), (1, .v (.int .i64 (w64 (k_2 + 1)))), (5, .v (.int .i64 (w64 (i_3 + 1))))]) ?_ (hk _ (Option.some.inj h).symm)
    first | rfl | simp
  · rw [if_neg kc4] at h
    refine Wc.condF' (t := _) (by conv => lhs; simp) (by simpa using kc4) ?_
    refine Wc.seq ?_
    refine Wc.kil (by conv => lhs; simp) ?_
    refine Wc.exit ?_
    have e0 := hx _ (Option.some.inj h).symm
    subst e0
    exact ⟨rfl, by first | rfl | simp⟩
theorem r19 {a : (List Int)} {k : Int} {r : Int × (List Int)} (h : f19 a k = some r) : VJx cx (.ca 19 [(osl eI true a), (.int .i64 k)] (.int .i64 r.1) [(osl eI true r.2)]) := by
  unfold f19 at h
  refine ca_of rfl rfl (by decide) rfl ?_
  refine Wc.start (V1 := [(0, .v (osl eI true a)), (1, .v (.int .i64 k))]) (by simp) ?_
  refine Wc.seq ?_
  refine Wc.evs (by conv => lhs; simp) ?_
  refine Wo.nil ?_
  refine Wc.seq ?_
  refine Wc.seq ?_
  refine Wc.evs (by conv => lhs; simp) ?_
  refine Wo.nil ?_
  refine Wc.block ?_
  obtain ⟨w8, h9, h⟩ := bind_some h
  refine Wc.start (V1 := [(0, .v (osl eI true a)), (1, .v (.int .i64 k)), (5, .v (.int .i64 0))]) (by first | rfl | simp) ?_
  refine Wc.mono (r19_0 _ _ h9) ?_
  obtain ⟨a_10, k_11⟩ := w8
  rintro ex V ⟨rfl, rfl⟩
  dsimp only at h ⊢
  refine Wc.seq ?_
  refine Wc.evs (by conv => lhs; simp) ?_
  refine Wo.nil ?_
  refine Wc.ret (res_of (.inr rfl) ?_)
  cases h
  exact ⟨_, _, _, by conv => lhs; simp, by (conv => lhs; simp [cx, ioTab, List.range, List.range.loop]) <;> rfl, by first | rfl | simp⟩
theorem r37_0 : ∀ zs zo, iter f37_0 zs = some zo → Wc cx 19 (.loop L37_0) [(0, .v (osl (eL eI) true zs.1)), (1, .v (.int .i64 zs.2.1)), (5, .v (.int .i64 zs.2.2))] ((QX 0 (fun (y : (List (List Int)) × Int) => [(0, .v (osl (eL eI) true y.1)), (1, .v (.int .i64 y.2))])) zo) := by
  intro zs0 zo0 zh0
  refine iter_run (f := f37_0) (P := fun zs zo => Wc cx 19 (.loop L37_0) [(0, .v (osl (eL eI) true zs.1)), (1, .v (.int .i64 zs.2.1)), (5, .v (.int .i64 zs.2.2))] ((QX 0 (fun (y : (List (List Int)) × Int) => [(0, .v (osl (eL eI) true y.1)), (1, .v (.int .i64 y.2))])) zo)) ?_ zh0
  rintro ⟨a_1, k_2, i_3⟩ zo zr h hk hx
  try dsimp only at hk ⊢
  rw [f37_0] at h
  refine Wc.loop ?_
  refine Wc.seq ?_
  refine Wc.seq ?_
  refine Wc.evs (by conv => lhs; simp) ?_
  refine Wo.nil ?_
  by_cases kc4 : i_3 < (a_1.length : Int)
  · rw [if_pos kc4] at h
    refine Wc.condT' (t := _) (by conv => lhs; simp) (by simpa using kc4) ?_
    refine Wc.seq ?_
    refine Wc.kil (by conv => lhs; simp) ?_
    refine Wc.skip ?_
    refine Wc.seq ?_
    refine Wc.block ?_
    obtain ⟨v_5, h6, h⟩ := bind_some h
    obtain ⟨ga6, gb6, gc6⟩ := ix_some h6
    have gn6 := ix_ne h6
    have gf6 := arr_fit (E := (eL eI)) (b := true) (i := i_3.toNat) (l := a_1) (by omega)
    have gg6_0 := arr_get (E := (eL eI)) (b := true) (o := 0) gc6 (by decide)
    simp at gf6 gg6_0
    have gl6 : i_3.toNat < a_1.length := by omega
    refine Wc.evs (by conv => lhs; simp [-getElem?_pos, List.getElem?_cons_zero, List.getElem?_cons_succ, ga6, gb6, gn6, gf6, gg6_0, gl6]) ?_
    obtain ⟨o7, h8, h⟩ := bind_some h
    refine Wo.call (by simp) rfl (by (conv => lhs; simp [-getElem?_pos, List.getElem?_cons_zero, List.getElem?_cons_succ, ga6, gb6, gn6, gf6, gg6_0, gl6, cx, ioTab]) <;> rfl) (r19 h8) (by simp) (by simp) (by (conv => lhs; simp [-getElem?_pos, List.getElem?_cons_zero, List.getElem?_cons_succ, ga6, gb6, gn6, gf6, gg6_0, gl6, cx, ioTab]) <;> rfl) (by (conv => lhs; simp [-getElem?_pos, List.getElem?_cons_zero, List.getElem?_cons_succ, ga6, gb6, gn6, gf6, gg6_0, gl6]) <;> rfl) ?_
    have gy9 := set_cell (E := (eL eI)) (b := true) (o := 0) o7.2 (t := (osl eI true o7.2)) gc6 (by decide) rfl
    simp at gy9
    refine Wo.evs (by conv => lhs; simp [-getElem?_pos, List.getElem?_cons_zero, List.getElem?_cons_succ, ga6, gb6, gn6, gf6, gg6_0, gl6, gy9]) ?_
    refine Wo.nil ?_
    refine Wc.evs (by conv => lhs; simp) ?_
    refine Wo.nil ?_
    refine Wc.start (V1 := [(0, .v (osl (eL eI) true (a_1.set i_3.toNat o7.2))), (1, .v (.int .i64 o7.1)), (5, .v (.int .i64 (w64 (i_3 + 1))))]) ?_ (hk _ (Option.some.inj h).symm)
    first | rfl | simp
  · rw [if_neg kc4] at h
    refine Wc.condF' (t := _) (by conv => lhs; simp) (by simpa using kc4) ?_
    refine Wc.seq ?_
    refine Wc.kil (by conv => lhs; simp) ?_
    refine Wc.exit ?_
    have e0 := hx _ (Option.some.inj h).symm
    subst e0
    exact ⟨rfl, by first | rfl | simp⟩
theorem r37 {a : (List (List Int))} {k : Int} {r : Int × (List (List Int))} (h : f37 a k = some r) : VJx cx (.ca 37 [(osl (eL eI) true a), (.int .i64 k)] (.int .i64 r.1) [(osl (eL eI) true r.2)]) := by
  unfold f37 at h
  refine ca_of rfl rfl (by decide) rfl ?_
  refine Wc.start (V1 := [(0, .v (osl (eL eI) true a)), (1, .v (.int .i64 k))]) (by simp) ?_
  refine Wc.seq ?_
  refine Wc.evs (by conv => lhs; simp) ?_
  refine Wo.nil ?_
  refine Wc.seq ?_
  refine Wc.seq ?_
  refine Wc.evs (by conv => lhs; simp) ?_
  refine Wo.nil ?_
  refine Wc.block ?_
  obtain ⟨w10, h11, h⟩ := bind_some h
  refine Wc.start (V1 := [(0, .v (osl (eL eI) true a)), (1, .v (.int .i64 k)), (5, .v (.int .i64 0))]) (by first | rfl | simp) ?_
  refine Wc.mono (r37_0 _ _ h11) ?_
  obtain ⟨a_12, k_13⟩ := w10
  rintro ex V ⟨rfl, rfl⟩
  dsimp only at h ⊢
  refine Wc.seq ?_
  refine Wc.evs (by conv => lhs; simp) ?_
  refine Wo.nil ?_
  refine Wc.ret (res_of (.inr rfl) ?_)
  cases h
  exact ⟨_, _, _, by conv => lhs; simp, by (conv => lhs; simp [cx, ioTab, List.range, List.range.loop]) <;> rfl, by first | rfl | simp⟩
theorem r20_0 {a : (List Int)} : ∀ zs zo, iter (f20_0 a) zs = some zo → Wc cx 21 (.loop L20_0) [(0, .v (ssl eI a)), (1, .v (.int .i64 zs.1)), (5, .v (.int .i64 zs.2))] ((QO (QX 0 (fun (y : Int) => [(1, .v (.int .i64 y))])) (QR (fun (y : Int) => [(4, .v (.int .i64 y))]))) zo) := by
  intro zs0 zo0 zh0
  refine iter_run (f := (f20_0 a)) (P := fun zs zo => Wc cx 21 (.loop L20_0) [(0, .v (ssl eI a)), (1, .v (.int .i64 zs.1)), (5, .v (.int .i64 zs.2))] ((QO (QX 0 (fun (y : Int) => [(1, .v (.int .i64 y))])) (QR (fun (y : Int) => [(4, .v (.int .i64 y))]))) zo)) ?_ zh0
  rintro ⟨k_1, i_2⟩ zo zr h hk hx
  try dsimp only at hk ⊢
  rw [f20_0] at h
  refine Wc.loop ?_
  refine Wc.seq ?_
  refine Wc.seq ?_
  refine Wc.evs (by conv => lhs; simp) ?_
  refine Wo.nil ?_
  by_cases kc3 : i_2 < (a.length : Int)
  · rw [if_pos kc3] at h
    refine Wc.condT' (t := _) (by conv => lhs; simp) (by simpa using kc3) ?_
    refine Wc.seq ?_
    refine Wc.kil (by conv => lhs; simp) ?_
    refine Wc.skip ?_
    refine Wc.seq ?_
    refine Wc.block ?_
    refine Wc.seq ?_
    refine Wc.seq ?_
    obtain ⟨v_4, h5, h⟩ := bind_some h
    obtain ⟨ga5, gb5, gc5⟩ := ix_some h5
    have gn5 := ix_ne h5
    have gd5 := arr_at (E := eI) (b := false) gc5
    simp at gd5
    refine Wc.evs (by conv => lhs; simp [ga5, gb5, gn5, gd5]) ?_
    refine Wo.nil ?_
    by_cases kc6 : v_4 ≠ k_1
    · rw [if_pos kc6] at h
      refine Wc.condT' (t := _) (by conv => lhs; simp) (by simpa using kc6) ?_
      refine Wc.seq ?_
      refine Wc.kil (by conv => lhs; simp) ?_
      refine Wc.seq ?_
      refine Wc.evs (by conv => lhs; simp) ?_
      refine Wo.nil ?_
      refine Wc.ret ?_
      have e0 := hx _ (Option.some.inj h).symm
      subst e0
      exact ⟨rfl, by first | rfl | simp⟩
    · rw [if_neg kc6] at h
      refine Wc.condF' (t := _) (by conv => lhs; simp) (by simpa using kc6) ?_
      refine Wc.seq ?_
      refine Wc.kil (by conv => lhs; simp) ?_
      refine Wc.skip ?_
      refine Wc.evs (by conv => lhs; simp) ?_
      refine Wo.nil ?_
      refine Wc.evs (by conv => lhs; simp) ?_
      refine Wo.nil ?_
      refine Wc.start (V1 := [(0, .v (ssl eI a)), (1, .v (.int .i64 (w64 (k_1 + 1)))), (5, .v (.int .i64 (w64 (i_2 + 1))))]) ?_ (hk _ (Option.some.inj h).symm)
      first | rfl | simp
  · rw [if_neg kc3] at h
    refine Wc.condF' (t := _) (by conv => lhs; simp) (by simpa using kc3) ?_
    refine Wc.seq ?_
    refine Wc.kil (by conv => lhs; simp) ?_
    refine Wc.exit ?_
    have e0 := hx _ (Option.some.inj h).symm
    subst e0
    exact ⟨rfl, by first | rfl | simp⟩
theorem r20 {a : (List Int)} {k : Int} {r : Int} (h : f20 a k = some r) : VJx cx (.ca 20 [(ssl eI a), (.int .i64 k)] (.int .i64 r) []) := by
  unfold f20 at h
  refine ca_of rfl rfl (by decide) rfl ?_
  refine Wc.start (V1 := [(0, .v (ssl eI a)), (1, .v (.int .i64 k))]) (by simp) ?_
  refine Wc.seq ?_
  refine Wc.evs (by conv => lhs; simp) ?_
  refine Wo.nil ?_
  refine Wc.seq ?_
  refine Wc.seq ?_
  refine Wc.evs (by conv => lhs; simp) ?_
  refine Wo.nil ?_
  refine Wc.block ?_
  obtain ⟨w7, h8, h⟩ := bind_some h
  refine Wc.start (V1 := [(0, .v (ssl eI a)), (1, .v (.int .i64 k)), (5, .v (.int .i64 0))]) (by first | rfl | simp) ?_
  refine Wc.mono (r20_0 _ _ h8) ?_
  rcases w7 with k_9 | x_10
  · rintro ex V ⟨rfl, rfl⟩
    try dsimp only at h
    refine Wc.seq ?_
    refine Wc.evs (by conv => lhs; simp) ?_
    refine Wo.nil ?_
    refine Wc.ret (res_of (.inr rfl) ?_)
    cases h
    exact ⟨_, _, _, by conv => lhs; simp, by (conv => lhs; simp [cx, ioTab, List.range, List.range.loop]) <;> rfl, by first | rfl | simp⟩
  · rintro ex V ⟨rfl, rfl⟩
    try dsimp only at h
    refine res_of (.inr rfl) ?_
    cases h
    exact ⟨_, _, _, by conv => lhs; simp, by (conv => lhs; simp [cx, ioTab, List.range, List.range.loop]) <;> rfl, by first | rfl | simp⟩
theorem r38_0 {a : (List (List Int))} : ∀ zs zo, iter (f38_0 a) zs = some zo → Wc cx 21 (.loop L38_0) [(0, .v (ssl (eL eI) a)), (1, .v (.int .i64 zs.1)), (5, .v (.int .i64 zs.2))] ((QO (QX 0 (fun (y : Int) => [(1, .v (.int .i64 y))])) (QR (fun (y : Int) => [(4, .v (.int .i64 y))]))) zo) := by
  intro zs0 zo0 zh0
  refine iter_run (f := (f38_0 a)) (P := fun zs zo => Wc cx 21 (.loop L38_0) [(0, .v (ssl (eL eI) a)), (1, .v (.int .i64 zs.1)), (5, .v (.int .i64 zs.2))] ((QO (QX 0 (fun (y : Int) => [(1, .v (.int .i64 y))])) (QR (fun (y : Int) => [(4, .v (.int .i64 y))]))) zo)) ?_ zh0
  rintro ⟨k_1, i_2⟩ zo zr h hk hx
  try dsimp only at hk ⊢
  rw [f38_0] at h
  refine Wc.loop ?_
  refine Wc.seq ?_
  refine Wc.seq ?_
  refine Wc.evs (by conv => lhs; simp) ?_
  refine Wo.nil ?_
  by_cases kc3 : i_2 < (a.length : Int)
  · rw [if_pos kc3] at h
    refine Wc.condT' (t := _) (by conv => lhs; simp) (by simpa using kc3) ?_
    refine Wc.seq ?_
    refine Wc.kil (by conv => lhs; simp) ?_
    refine Wc.skip ?_
    refine Wc.seq ?_
    refine Wc.block ?_
    refine Wc.seq ?_
    obtain ⟨v_4, h5, h⟩ := bind_some h
    obtain ⟨ga5, gb5, gc5⟩ := ix_some h5
    have gn5 := ix_ne h5
    have gd5 := arr_at (E := (eL eI)) (b := false) gc5
    simp at gd5
    refine Wc.evs (by conv => lhs; simp [ga5, gb5, gn5, gd5]) ?_
    obtain ⟨o6, h7, h⟩ := bind_some h
    refine Wo.call (by simp) rfl (by (conv => lhs; simp [ga5, gb5, gn5, gd5, cx, ioTab]) <;> rfl) (r20 h7) (by simp) (by simp) (by (conv => lhs; simp [ga5, gb5, gn5, gd5, cx, ioTab]) <;> rfl) (by (conv => lhs; simp [ga5, gb5, gn5, gd5]) <;> rfl) ?_
    refine Wo.evs (by conv => lhs; simp [ga5, gb5, gn5, gd5]) ?_
    refine Wo.nil ?_
    refine Wc.seq ?_
    refine Wc.evs (by conv => lhs; simp) ?_
    refine Wo.nil ?_
    by_cases kc8 : o6 < 0
    · rw [if_pos kc8] at h
      refine Wc.condT' (t := _) (by conv => lhs; simp) (by simpa using kc8) ?_
      refine Wc.seq ?_
      refine Wc.kil (by conv => lhs; simp) ?_
      refine Wc.seq ?_
      refine Wc.evs (by conv => lhs; simp) ?_
      refine Wo.nil ?_
      refine Wc.ret ?_
      have e0 := hx _ (Option.some.inj h).symm
      subst e0
      exact ⟨rfl, by first | rfl | simp⟩
    · rw [if_neg kc8] at h
      refine Wc.condF' (t := _) (by conv => lhs; simp) (by simpa using kc8) ?_
      refine Wc.seq ?_
      refine Wc.kil (by conv => lhs; simp) ?_
      refine Wc.skip ?_
      refine Wc.evs (by conv => lhs; simp) ?_
      refine Wo.nil ?_
      refine Wc.start (V1 := [(0, .v (ssl (eL eI) a)), (1, .v (.int .i64 o6)), (5, .v (.int .i64 (w64 (i_2 + 1))))]) ?_ (hk _ (Option.some.inj h).symm)
      first | rfl | simp
  · rw [if_neg kc3] at h
    refine Wc.condF' (t := _) (by conv => lhs; simp) (by simpa using kc3) ?_
    refine Wc.seq ?_
    refine Wc.kil (by conv => lhs; simp) ?_
    refine Wc.exit ?_
    have e0 := hx _ (Option.some.inj h).symm
    subst e0
    exact ⟨rfl, by first | rfl | simp⟩
theorem r38 {a : (List (List Int))} {k : Int} {r : Int} (h : f38 a k = some r) : VJx cx (.ca 38 [(ssl (eL eI) a), (.int .i64 k)] (.int .i64 r) []) := by
  unfold f38 at h
  refine ca_of rfl rfl (by decide) rfl ?_
  refine Wc.start (V1 := [(0, .v (ssl (eL eI) a)), (1, .v (.int .i64 k))]) (by simp) ?_
  refine Wc.seq ?_
  refine Wc.evs (by conv => lhs; simp) ?_
  refine Wo.nil ?_
  refine Wc.seq ?_
  refine Wc.seq ?_
  refine Wc.evs (by conv => lhs; simp) ?_
  refine Wo.nil ?_
  refine Wc.block ?_
  obtain ⟨w9, h10, h⟩ := bind_some h
  refine Wc.start (V1 := [(0, .v (ssl (eL eI) a)), (1, .v (.int .i64 k)), (5, .v (.int .i64 0))]) (by first | rfl | simp) ?_
  refine Wc.mono (r38_0 _ _ h10) ?_
  rcases w9 with k_11 | x_12
  · rintro ex V ⟨rfl, rfl⟩
    try dsimp only at h
    refine Wc.seq ?_
    refine Wc.evs (by conv => lhs; simp) ?_
    refine Wo.nil ?_
    refine Wc.ret (res_of (.inr rfl) ?_)
    cases h
    exact ⟨_, _, _, by conv => lhs; simp, by (conv => lhs; simp [cx, ioTab, List.range, List.range.loop]) <;> rfl, by first | rfl | simp⟩
  · rintro ex V ⟨rfl, rfl⟩
    try dsimp only at h
    refine res_of (.inr rfl) ?_
    cases h
    exact ⟨_, _, _, by conv => lhs; simp, by (conv => lhs; simp [cx, ioTab, List.range, List.range.loop]) <;> rfl, by first | rfl | simp⟩
theorem r8 {aSets : (List (List Int))} {r : Bool} (h : f8 aSets = some r) : VJx cx (.ca 8 [(ssl (eL eI) aSets)] (.bool r) []) := by
  unfold f8 at h
  refine ca_of rfl rfl (by decide) rfl ?_
  refine Wc.start (V1 := [(0, .v (ssl (eL eI) aSets))]) (by simp) ?_
  refine Wc.seq ?_
  refine Wc.evs (by conv => lhs; simp) ?_
  refine Wo.nil ?_
  refine Wc.seq ?_
  refine Wc.evs (by conv => lhs; simp) ?_
  refine Wo.nil ?_
  refine Wc.seq ?_
  refine Wc.evs (by conv => lhs; simp) ?_
  obtain ⟨o1, h2, h⟩ := bind_some h
  refine Wo.call (by simp) rfl (by (conv => lhs; simp [cx, ioTab]) <;> rfl) (r26 h2) (by simp) (by simp) (by (conv => lhs; simp [cx, ioTab]) <;> rfl) (by (conv => lhs; simp) <;> rfl) ?_
  refine Wo.evs (by conv => lhs; simp) ?_
  refine Wo.nil ?_
  refine Wc.seq ?_
  refine Wc.seq ?_
  refine Wc.evs (by conv => lhs; simp) ?_
  refine Wo.nil ?_
  by_cases kc3 : o1 < 0
  · rw [if_pos kc3] at h
    refine Wc.condT' (t := _) (by conv => lhs; simp) (by simpa using kc3) ?_
    refine Wc.seq ?_
    refine Wc.kil (by conv => lhs; simp) ?_
    refine Wc.seq ?_
    refine Wc.evs (by conv => lhs; simp) ?_
    refine Wo.nil ?_
    refine Wc.ret (res_of (.inr rfl) ?_)
    cases h
    exact ⟨_, _, _, by conv => lhs; simp, by (conv => lhs; simp [cx, ioTab, List.range, List.range.loop]) <;> rfl, by first | rfl | simp⟩
  · rw [if_neg kc3] at h
    refine Wc.condF' (t := _) (by conv => lhs; simp) (by simpa using kc3) ?_
    refine Wc.seq ?_
    refine Wc.kil (by conv => lhs; simp) ?_
    refine Wc.skip ?_
    refine Wc.seq ?_
    refine Wc.evs (by conv => lhs; simp) ?_
    obtain ⟨o4, h5, h⟩ := bind_some h
    refine Wo.call (by simp) rfl (by (conv => lhs; simp [cx, ioTab]) <;> rfl) (r28 h5) (by simp) (by simp) (by (conv => lhs; simp [cx, ioTab]) <;> rfl) (by (conv => lhs; simp) <;> rfl) ?_
    obtain ⟨o6, h7, h⟩ := bind_some h
    refine Wo.call (by simp) rfl (by (conv => lhs; simp [cx, ioTab]) <;> rfl) (r35 h7) (by simp) (by simp) (by (conv => lhs; simp [cx, ioTab]) <;> rfl) (by (conv => lhs; simp) <;> rfl) ?_
    refine Wo.evs (by conv => lhs; simp) ?_
    refine Wo.nil ?_
    refine Wc.seq ?_
    refine Wc.evs (by conv => lhs; simp) ?_
    obtain ⟨o8, h9, h⟩ := bind_some h
    refine Wo.call (by simp) rfl (by (conv => lhs; simp [cx, ioTab]) <;> rfl) (r28 h9) (by simp) (by simp) (by (conv => lhs; simp [cx, ioTab]) <;> rfl) (by (conv => lhs; simp) <;> rfl) ?_
    refine Wo.evs (by conv => lhs; simp) ?_
    refine Wo.nil ?_
    refine Wc.seq ?_
    refine Wc.evs (by conv => lhs; simp) ?_
    obtain ⟨o10, h11, h⟩ := bind_some h
    refine Wo.call (by simp) rfl (by (conv => lhs; simp [cx, ioTab]) <;> rfl) (r36 h11) (by simp) (by simp) (by (conv => lhs; simp [cx, ioTab]) <;> rfl) (by (conv => lhs; simp) <;> rfl) ?_
    refine Wo.evs (by conv => lhs; simp) ?_
    refine Wo.nil ?_
    refine Wc.seq ?_
    refine Wc.seq ?_
    refine Wc.evs (by conv => lhs; simp) ?_
    obtain ⟨o12, h13, h⟩ := bind_some h
    refine Wo.call (by simp) rfl (by (conv => lhs; simp [cx, ioTab]) <;> rfl) (r30 h13) (by simp) (by simp) (by (conv => lhs; simp [cx, ioTab]) <;> rfl) (by (conv => lhs; simp) <;> rfl) ?_
    refine Wo.evs (by conv => lhs; simp) ?_
    refine Wo.nil ?_
    by_cases kc14 : ¬ (o12 = true)
    · rw [if_pos kc14] at h
      refine Wc.condT' (t := _) (by conv => lhs; simp) (by simpa using kc14) ?_
      refine Wc.seq ?_
      refine Wc.kil (by conv => lhs; simp) ?_
      refine Wc.seq ?_
      refine Wc.evs (by conv => lhs; simp) ?_
      refine Wo.nil ?_
      refine Wc.ret (res_of (.inr rfl) ?_)
      cases h
      exact ⟨_, _, _, by conv => lhs; simp, by (conv => lhs; simp [cx, ioTab, List.range, List.range.loop]) <;> rfl, by first | rfl | simp⟩
    · rw [if_neg kc14] at h
      refine Wc.condF' (t := _) (by conv => lhs; simp) (by simpa using kc14) ?_
      refine Wc.seq ?_
      refine Wc.kil (by conv => lhs; simp) ?_
      refine Wc.skip ?_
      refine Wc.seq ?_
      refine Wc.seq ?_
      refine Wc.evs (by conv => lhs; simp) ?_
      obtain ⟨o15, h16, h⟩ := bind_some h
      refine Wo.call (by simp) rfl (by (conv => lhs; simp [cx, ioTab]) <;> rfl) (r28 h16) (by simp) (by simp) (by (conv => lhs; simp [cx, ioTab]) <;> rfl) (by (conv => lhs; simp) <;> rfl) ?_
      obtain ⟨o17, h18, h⟩ := bind_some h
      refine Wo.call (by simp) rfl (by (conv => lhs; simp [cx, ioTab]) <;> rfl) (r30 h18) (by simp) (by simp) (by (conv => lhs; simp [cx, ioTab]) <;> rfl) (by (conv => lhs; simp) <;> rfl) ?_
      refine Wo.evs (by conv => lhs; simp) ?_
      refine Wo.nil ?_
      by_cases kc19 : ¬ (o17 = true)
      · rw [if_pos kc19] at h
        refine Wc.condT' (t := _) (by conv => lhs; simp) (by simpa using kc19) ?_
        refine Wc.seq ?_
        refine Wc.kil (by conv => lhs; simp) ?_
        refine Wc.seq ?_
        refine Wc.evs (by conv => lhs; simp) ?_
        refine Wo.nil ?_
        refine Wc.ret (res_of (.inr rfl) ?_)
        cases h
        exact ⟨_, _, _, by conv => lhs; simp, by (conv => lhs; simp [cx, ioTab, List.range, List.range.loop]) <;> rfl, by first | rfl | simp⟩
      · rw [if_neg kc19] at h
        refine Wc.condF' (t := _) (by conv => lhs; simp) (by simpa using kc19) ?_
        refine Wc.seq ?_
        refine Wc.kil (by conv => lhs; simp) ?_
        refine Wc.skip ?_
        refine Wc.seq ?_
        refine Wc.evs (by conv => lhs; simp) ?_
        refine Wo.nil ?_
        refine Wc.seq ?_
        refine Wc.evs (by conv => lhs; simp) ?_
        obtain ⟨o20, h21, h⟩ := bind_some h
        refine Wo.call (by simp) rfl (by (conv => lhs; simp [cx, ioTab]) <;> rfl) (r37 h21) (by simp) (by simp) (by (conv => lhs; simp [cx, ioTab]) <;> rfl) (by (conv => lhs; simp) <;> rfl) ?_
        refine Wo.evs (by conv => lhs; simp) ?_
        refine Wo.nil ?_
        refine Wc.seq ?_
        refine Wc.seq ?_
        refine Wc.evk 3 (by conv => lhs; simp) ?_
        obtain ⟨w23, h24, h⟩ := bind_some h
        refine Wo.mono (Q := fun V => V = [(0, .v (ssl (eL eI) aSets)), (4, .v (osl (eL eI) true o6)), (6, .v (osl (eL eI) true o10)), (42, .v (.bool w23))]) ?_ ?_
        · by_cases knh24 : o20.1 < 0
          · rw [if_pos knh24] at h24
            refine Wo.gh (vle_co (s := 37) (t1 := .bool true) rfl (by simp) (tle_bool (by simpa using knh24)) (by conv => lhs; simp)) ?_
            refine Wo.evs (by conv => lhs; simp) ?_
            refine Wo.nil ?_
            cases h24
            first | rfl | simp
          · rw [if_neg knh24] at h24
            refine Wo.gh (vle_co (s := 37) (t1 := .bool false) rfl (by simp) (tle_bool (by simpa using knh24)) (by conv => lhs; simp)) ?_
            refine Wo.evs (by conv => lhs; simp) ?_
            obtain ⟨o25, h26, h24⟩ := bind_some h24
            refine Wo.call (by simp) rfl (by (conv => lhs; simp [cx, ioTab]) <;> rfl) (r30 h26) (by simp) (by simp) (by (conv => lhs; simp [cx, ioTab]) <;> rfl) (by (conv => lhs; simp) <;> rfl) ?_
            refine Wo.evs (by conv => lhs; simp) ?_
            refine Wo.nil ?_
            cases h24
            first | rfl | simp
        · rintro V rfl
          generalize w23 = x_22 at *
          try dsimp only at h
          by_cases kc27 : x_22 = true
          · rw [if_pos kc27] at h
            refine Wc.condT' (t := _) (by conv => lhs; simp) (by simpa using kc27) ?_
            refine Wc.seq ?_
            refine Wc.kil (by conv => lhs; simp) ?_
            refine Wc.seq ?_
            refine Wc.evs (by conv => lhs; simp) ?_
            refine Wo.nil ?_
            refine Wc.ret (res_of (.inr rfl) ?_)
            cases h
            exact ⟨_, _, _, by conv => lhs; simp, by (conv => lhs; simp [cx, ioTab, List.range, List.range.loop]) <;> rfl, by first | rfl | simp⟩
          · rw [if_neg kc27] at h
            refine Wc.condF' (t := _) (by conv => lhs; simp) (by simpa using kc27) ?_
            refine Wc.seq ?_
            refine Wc.kil (by conv => lhs; simp) ?_
            refine Wc.skip ?_
            refine Wc.seq ?_
            refine Wc.evs (by conv => lhs; simp) ?_
            refine Wo.nil ?_
            refine Wc.seq ?_
            refine Wc.evs (by conv => lhs; simp) ?_
            obtain ⟨o28, h29, h⟩ := bind_some h
            refine Wo.call (by simp) rfl (by (conv => lhs; simp [cx, ioTab]) <;> rfl) (r37 h29) (by simp) (by simp) (by (conv => lhs; simp [cx, ioTab]) <;> rfl) (by (conv => lhs; simp) <;> rfl) ?_
            refine Wo.evs (by conv => lhs; simp) ?_
            refine Wo.nil ?_
            refine Wc.seq ?_
            refine Wc.evs (by conv => lhs; simp) ?_
            refine Wo.nil ?_
            refine Wc.seq ?_
            refine Wc.evs (by conv => lhs; simp) ?_
            obtain ⟨o30, h31, h⟩ := bind_some h
            refine Wo.call (by simp) rfl (by (conv => lhs; simp [cx, ioTab]) <;> rfl) (r38 h31) (by simp) (by simp) (by (conv => lhs; simp [cx, ioTab]) <;> rfl) (by (conv => lhs; simp) <;> rfl) ?_
            refine Wo.evs (by conv => lhs; simp) ?_
            refine Wo.nil ?_
            refine Wc.seq ?_
            refine Wc.seq ?_
            refine Wc.evs (by conv => lhs; simp) ?_
            refine Wo.nil ?_
            by_cases kc32 : o30 < 0
            · rw [if_pos kc32] at h
              refine Wc.condT' (t := _) (by conv => lhs; simp) (by simpa using kc32) ?_
              refine Wc.seq ?_
              refine Wc.kil (by conv => lhs; simp) ?_
              refine Wc.seq ?_
              refine Wc.evs (by conv => lhs; simp) ?_
              refine Wo.nil ?_
              refine Wc.ret (res_of (.inr rfl) ?_)
              cases h
              exact ⟨_, _, _, by conv => lhs; simp, by (conv => lhs; simp [cx, ioTab, List.range, List.range.loop]) <;> rfl, by first | rfl | simp⟩
            · rw [if_neg kc32] at h
              refine Wc.condF' (t := _) (by conv => lhs; simp) (by simpa using kc32) ?_
              refine Wc.seq ?_
              refine Wc.kil (by conv => lhs; simp) ?_
              refine Wc.skip ?_
              refine Wc.seq ?_
              refine Wc.seq ?_
              refine Wc.evs (by conv => lhs; simp) ?_
              refine Wo.nil ?_
              by_cases kc33 : o30 ≠ o28.1
              · rw [if_pos kc33] at h
                refine Wc.condT' (t := _) (by conv => lhs; simp) (by simpa using kc33) ?_
                refine Wc.seq ?_
                refine Wc.kil (by conv => lhs; simp) ?_
                refine Wc.seq ?_
                refine Wc.evs (by conv => lhs; simp) ?_
                refine Wo.nil ?_
                refine Wc.ret (res_of (.inr rfl) ?_)
                cases h
                exact ⟨_, _, _, by conv => lhs; simp, by (conv => lhs; simp [cx, ioTab, List.range, List.range.loop]) <;> rfl, by first | rfl | simp⟩
              · rw [if_neg kc33] at h
                refine Wc.condF' (t := _) (by conv => lhs; simp) (by simpa using kc33) ?_
                refine Wc.seq ?_
                refine Wc.kil (by conv => lhs; simp) ?_
                refine Wc.skip ?_
                refine Wc.seq ?_
                refine Wc.evs (by conv => lhs; simp) ?_
                obtain ⟨o34, h35, h⟩ := bind_some h
                refine Wo.call (by simp) rfl (by (conv => lhs; simp [cx, ioTab]) <;> rfl) (r28 h35) (by simp) (by simp) (by (conv => lhs; simp [cx, ioTab]) <;> rfl) (by (conv => lhs; simp) <;> rfl) ?_
                obtain ⟨o36, h37, h⟩ := bind_some h
                refine Wo.call (by simp) rfl (by (conv => lhs; simp [cx, ioTab]) <;> rfl) (r36 h37) (by simp) (by simp) (by (conv => lhs; simp [cx, ioTab]) <;> rfl) (by (conv => lhs; simp) <;> rfl) ?_
                refine Wo.evs (by conv => lhs; simp) ?_
                refine Wo.nil ?_
                refine Wc.seq ?_
                refine Wc.seq ?_
                refine Wc.evs (by conv => lhs; simp) ?_
                obtain ⟨o38, h39, h⟩ := bind_some h
                refine Wo.call (by simp) rfl (by (conv => lhs; simp [cx, ioTab]) <;> rfl) (r30 h39) (by simp) (by simp) (by (conv => lhs; simp [cx, ioTab]) <;> rfl) (by (conv => lhs; simp) <;> rfl) ?_
                refine Wo.evs (by conv => lhs; simp) ?_
                refine Wo.nil ?_
                by_cases kc40 : ¬ (o38 = true)
                · rw [if_pos kc40] at h
                  refine Wc.condT' (t := _) (by conv => lhs; simp) (by simpa using kc40) ?_
                  refine Wc.seq ?_
                  refine Wc.kil (by conv => lhs; simp) ?_
                  refine Wc.seq ?_
                  refine Wc.evs (by conv => lhs; simp) ?_
                  refine Wo.nil ?_
                  refine Wc.ret (res_of (.inr rfl) ?_)
                  cases h
                  exact ⟨_, _, _, by conv => lhs; simp, by (conv => lhs; simp [cx, ioTab, List.range, List.range.loop]) <;> rfl, by first | rfl | simp⟩
                · rw [if_neg kc40] at h
                  refine Wc.condF' (t := _) (by conv => lhs; simp) (by simpa using kc40) ?_
                  refine Wc.seq ?_
                  refine Wc.kil (by conv => lhs; simp) ?_
                  refine Wc.skip ?_
                  refine Wc.seq ?_
                  refine Wc.evs (by conv => lhs; simp) ?_
                  refine Wo.nil ?_
                  refine Wc.seq ?_
                  refine Wc.evs (by conv => lhs; simp) ?_
                  obtain ⟨o41, h42, h⟩ := bind_some h
                  refine Wo.call (by simp) rfl (by (conv => lhs; simp [cx, ioTab]) <;> rfl) (r38 h42) (by simp) (by simp) (by (conv => lhs; simp [cx, ioTab]) <;> rfl) (by (conv => lhs; simp) <;> rfl) ?_
                  refine Wo.evs (by conv => lhs; simp) ?_
                  refine Wo.nil ?_
                  refine Wc.seq ?_
                  refine Wc.seq ?_
                  refine Wc.evs (by conv => lhs; simp) ?_
                  refine Wo.nil ?_
                  by_cases kc43 : o41 < 0
                  · rw [if_pos kc43] at h
                    refine Wc.condT' (t := _) (by conv => lhs; simp) (by simpa using kc43) ?_
                    refine Wc.seq ?_
                    refine Wc.kil (by conv => lhs; simp) ?_
                    refine Wc.seq ?_
                    refine Wc.evs (by conv => lhs; simp) ?_
                    refine Wo.nil ?_
                    refine Wc.ret (res_of (.inr rfl) ?_)
                    cases h
                    exact ⟨_, _, _, by conv => lhs; simp, by (conv => lhs; simp [cx, ioTab, List.range, List.range.loop]) <;> rfl, by first | rfl | simp⟩
                  · rw [if_neg kc43] at h
                    refine Wc.condF' (t := _) (by conv => lhs; simp) (by simpa using kc43) ?_
                    refine Wc.seq ?_
                    refine Wc.kil (by conv => lhs; simp) ?_
                    refine Wc.skip ?_
                    refine Wc.seq ?_
                    refine Wc.seq ?_
                    refine Wc.evs (by conv => lhs; simp) ?_
                    refine Wo.nil ?_
                    by_cases kc44 : o41 ≠ o28.1
                    · rw [if_pos kc44] at h
                      refine Wc.condT' (t := _) (by conv => lhs; simp) (by simpa using kc44) ?_
                      refine Wc.seq ?_
                      refine Wc.kil (by conv => lhs; simp) ?_
                      refine Wc.seq ?_
                      refine Wc.evs (by conv => lhs; simp) ?_
                      refine Wo.nil ?_
                      refine Wc.ret (res_of (.inr rfl) ?_)
                      cases h
                      exact ⟨_, _, _, by conv => lhs; simp, by (conv => lhs; simp [cx, ioTab, List.range, List.range.loop]) <;> rfl, by first | rfl | simp⟩
                    · rw [if_neg kc44] at h
                      refine Wc.condF' (t := _) (by conv => lhs; simp) (by simpa using kc44) ?_
                      refine Wc.seq ?_
                      refine Wc.kil (by conv => lhs; simp) ?_
                      refine Wc.skip ?_
                      refine Wc.seq ?_
                      refine Wc.evs (by conv => lhs; simp) ?_
                      refine Wo.nil ?_
                      refine Wc.ret (res_of (.inr rfl) ?_)
                      cases h
                      exact ⟨_, _, _, by conv => lhs; simp, by (conv => lhs; simp [cx, ioTab, List.range, List.range.loop]) <;> rfl, by first | rfl | simp⟩
end
end Go.Proofs.YthfbkecnnllpkaaH
