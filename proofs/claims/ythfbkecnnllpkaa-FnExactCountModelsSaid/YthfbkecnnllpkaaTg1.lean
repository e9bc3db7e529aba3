/- Runs of the program's functions: printed by tg.py. -/
import Derived.Test.YthfbkecnnllpkaaCx1
import Derived.Test.YthfbkecnnllpkaaHn3
import Derived.Test.YthfbkecnnllpkaaTd1
set_option linter.unusedVariables false
set_option linter.unusedSimpArgs false
set_option maxRecDepth 100000
namespace Go.Proofs.YthfbkecnnllpkaaH
open Go
noncomputable section
theorem r51 {a : (List Int)} {left : Int} {r : Int} (h : f51 a left = some r) : VJx cx (.ca 51 [(ssl eI a), (.int .i64 left)] (.int .i64 r) []) := by
  unfold f51 at h
  refine ca_of rfl rfl (by decide) rfl ?_
  refine Wc.start (V1 := [(0, .v (ssl eI a)), (1, .v (.int .i64 left))]) (by simp) ?_
  refine Wc.seq ?_
  refine Wc.evs (by conv => lhs; simp) ?_
  refine Wo.nil ?_
  refine Wc.seq ?_
  refine Wc.evs (by conv => lhs; simp) ?_
  refine Wo.nil ?_
  refine Wc.seq ?_
  refine Wc.seq ?_
  refine Wc.evs (by conv => lhs; simp) ?_
  refine Wo.nil ?_
  by_cases kc1 : (w64 (left - (a.length : Int))) < 0
  · rw [if_pos kc1] at h
    refine Wc.condT' (t := _) (by conv => lhs; simp) (by simpa using kc1) ?_
    refine Wc.seq ?_
    refine Wc.kil (by conv => lhs; simp) ?_
    refine Wc.seq ?_
    refine Wc.evs (by conv => lhs; simp) ?_
    refine Wo.nil ?_
    refine Wc.ret (res_of (.inr rfl) ?_)
    cases h
    exact ⟨_, _, _, by conv => lhs; simp, by (conv => lhs; simp [cx, ioTab, List.range, List.range.loop]) <;> rfl, by first | rfl | simp⟩
  · rw [if_neg kc1] at h
    refine Wc.condF' (t := _) (by conv => lhs; simp) (by simpa using kc1) ?_
    refine Wc.seq ?_
    refine Wc.kil (by conv => lhs; simp) ?_
    refine Wc.skip ?_
    refine Wc.seq ?_
    refine Wc.evs (by conv => lhs; simp) ?_
    refine Wo.nil ?_
    refine Wc.ret (res_of (.inr rfl) ?_)
    cases h
    exact ⟨_, _, _, by conv => lhs; simp, by (conv => lhs; simp [cx, ioTab, List.range, List.range.loop]) <;> rfl, by first | rfl | simp⟩
theorem r26_0 {a : (List (List Int))} : ∀ zs zo, iter (f26_0 a) zs = some zo → Wc cx 27 (.loop L26_0) [(0, .v (ssl (eL eI) a)), (1, .v (.int .i64 zs.1)), (5, .v (.int .i64 zs.2))] ((QO (QX 0 (fun (y : Int) => [(1, .v (.int .i64 y))])) (QR (fun (y : Int) => [(4, .v (.int .i64 y))]))) zo) := by
  intro zs0 zo0 zh0
  refine iter_run (f := (f26_0 a)) (P := fun zs zo => Wc cx 27 (.loop L26_0) [(0, .v (ssl (eL eI) a)), (1, .v (.int .i64 zs.1)), (5, .v (.int .i64 zs.2))] ((QO (QX 0 (fun (y : Int) => [(1, .v (.int .i64 y))])) (QR (fun (y : Int) => [(4, .v (.int .i64 y))]))) zo)) ?_ zh0
  rintro ⟨left_2, i_3⟩ zo zr h hk hx
  try dsimp only at hk ⊢
  rw [f26_0] at h
  refine Wc.loop ?_
  refine Wc.seq ?_
  refine Wc.seq ?_
  refine Wc.evs (by conv => lhs; simp) ?_
  refine Wo.nil ?_
  by_cases kc4 : i_3 < (a.length : Int)
  · rw [if_pos kc4] at h
    refine Wc.condT' (t := _) (by conv => lhs; simp) (by simpa using kc4) ?_
    refine Wc.seq ?_
    refine Wc.kil (by conv => lhs; simp) ?_
    refine Wc.skip ?_
    refine Wc.seq ?_
    refine Wc.block ?_
    refine Wc.seq ?_
    obtain ⟨v_5, h6, h⟩ := bind_some h
    obtain ⟨ga6, gb6, gc6⟩ := ix_some h6
    have gn6 := ix_ne h6
    have gd6 := arr_at (E := (eL eI)) (b := false) gc6
    simp at gd6
    refine Wc.evs (by conv => lhs; simp [ga6, gb6, gn6, gd6]) ?_
    obtain ⟨o7, h8, h⟩ := bind_some h
    refine Wo.call (by simp) rfl (by (conv => lhs; simp [ga6, gb6, gn6, gd6, cx, ioTab]) <;> rfl) (r51 h8) (by simp) (by simp) (by (conv => lhs; simp [ga6, gb6, gn6, gd6, cx, ioTab]) <;> rfl) (by (conv => lhs; simp [ga6, gb6, gn6, gd6]) <;> rfl) ?_
    refine Wo.evs (by conv => lhs; simp [ga6, gb6, gn6, gd6]) ?_
    refine Wo.nil ?_
    refine Wc.seq ?_
    refine Wc.evs (by conv => lhs; simp) ?_
    refine Wo.nil ?_
    by_cases kc9 : o7 < 0
    · rw [if_pos kc9] at h
      refine Wc.condT' (t := _) (by conv => lhs; simp) (by simpa using kc9) ?_
      refine Wc.seq ?_
      refine Wc.kil (by conv => lhs; simp) ?_
      refine Wc.seq ?_
      refine Wc.evs (by conv => lhs; simp) ?_
      refine Wo.nil ?_
      refine Wc.ret ?_
      have e0 := hx _ (Option.some.inj h).symm
      subst e0
      exact ⟨rfl, by first | rfl | simp⟩
    · rw [if_neg kc9] at h
      refine Wc.condF' (t := _) (by conv => lhs; simp) (by simpa using kc9) ?_
      refine Wc.seq ?_
      refine Wc.kil (by conv => lhs; simp) ?_
      refine Wc.skip ?_
      refine Wc.evs (by conv => lhs; simp) ?_
      refine Wo.nil ?_
      refine Wc.start (V1 := [(0, .v (ssl (eL eI) a)), (1, .v (.int .i64 o7)), (5, .v (.int .i64 (w64 (i_3 + 1))))]) ?_ (hk _ (Option.some.inj h).symm)
      first | rfl | simp
  · rw [if_neg kc4] at h
    refine Wc.condF' (t := _) (by conv => lhs; simp) (by simpa using kc4) ?_
    refine Wc.seq ?_
    refine Wc.kil (by conv => lhs; simp) ?_
    refine Wc.exit ?_
    have e0 := hx _ (Option.some.inj h).symm
    subst e0
    exact ⟨rfl, by first | rfl | simp⟩
theorem r26 {a : (List (List Int))} {left : Int} {r : Int} (h : f26 a left = some r) : VJx cx (.ca 26 [(ssl (eL eI) a), (.int .i64 left)] (.int .i64 r) []) := by
  unfold f26 at h
  refine ca_of rfl rfl (by decide) rfl ?_
  refine Wc.start (V1 := [(0, .v (ssl (eL eI) a)), (1, .v (.int .i64 left))]) (by simp) ?_
  refine Wc.seq ?_
  refine Wc.evs (by conv => lhs; simp) ?_
  refine Wo.nil ?_
  refine Wc.seq ?_
  refine Wc.evs (by conv => lhs; simp) ?_
  refine Wo.nil ?_
  refine Wc.seq ?_
  refine Wc.seq ?_
  refine Wc.evs (by conv => lhs; simp) ?_
  refine Wo.nil ?_
  by_cases kc1 : (w64 (left - (a.length : Int))) < 0
  · rw [if_pos kc1] at h
    refine Wc.condT' (t := _) (by conv => lhs; simp) (by simpa using kc1) ?_
    refine Wc.seq ?_
    refine Wc.kil (by conv => lhs; simp) ?_
    refine Wc.seq ?_
    refine Wc.evs (by conv => lhs; simp) ?_
    refine Wo.nil ?_
    refine Wc.ret (res_of (.inr rfl) ?_)
    cases h
    exact ⟨_, _, _, by conv => lhs; simp, by (conv => lhs; simp [cx, ioTab, List.range, List.range.loop]) <;> rfl, by first | rfl | simp⟩
  · rw [if_neg kc1] at h
    refine Wc.condF' (t := _) (by conv => lhs; simp) (by simpa using kc1) ?_
    refine Wc.seq ?_
    refine Wc.kil (by conv => lhs; simp) ?_
    refine Wc.skip ?_
    refine Wc.seq ?_
    refine Wc.seq ?_
    refine Wc.evs (by conv => lhs; simp) ?_
    refine Wo.nil ?_
    refine Wc.block ?_
    obtain ⟨w10, h11, h⟩ := bind_some h
    refine Wc.start (V1 := [(0, .v (ssl (eL eI) a)), (1, .v (.int .i64 (w64 (left - (a.length : Int))))), (5, .v (.int .i64 0))]) (by first | rfl | simp) ?_
    refine Wc.mono (r26_0 _ _ h11) ?_
    rcases w10 with left_12 | x_13
    · rintro ex V ⟨rfl, rfl⟩
      try dsimp only at h
      refine Wc.seq ?_
      refine Wc.evs (by conv => lhs; simp) ?_
      refine Wo.nil ?_
      refine Wc.ret (res_of (.inr rfl) ?_)
      cases h
      exact ⟨_, _, _, by conv => lhs; simp, by (conv => lhs; simp [cx, ioTab, List.range, List.range.loop]) <;> rfl, by first | rfl | simp⟩
    · rintro ex V ⟨rfl, rfl⟩
      try dsimp only at h
      refine res_of (.inr rfl) ?_
      cases h
      exact ⟨_, _, _, by conv => lhs; simp, by (conv => lhs; simp [cx, ioTab, List.range, List.range.loop]) <;> rfl, by first | rfl | simp⟩
theorem r16_0 {a : (List Int)} : ∀ zs zo, iter (f16_0 a) zs = some zo → Wc cx 22 (.loop L16_0) [(0, .v (ssl eI a)), (3, .v (osl eI true zs.1)), (4, .v (.int .i64 zs.2))] ((QX 0 (fun (y : (List Int)) => [(3, .v (osl eI true y))])) zo) := by
  intro zs0 zo0 zh0
  refine iter_run (f := (f16_0 a)) (P := fun zs zo => Wc cx 22 (.loop L16_0) [(0, .v (ssl eI a)), (3, .v (osl eI true zs.1)), (4, .v (.int .i64 zs.2))] ((QX 0 (fun (y : (List Int)) => [(3, .v (osl eI true y))])) zo)) ?_ zh0
  rintro ⟨out_3, i_4⟩ zo zr h hk hx
  try dsimp only at hk ⊢
  rw [f16_0] at h
  refine Wc.loop ?_
  refine Wc.seq ?_
  refine Wc.seq ?_
  refine Wc.evs (by conv => lhs; simp) ?_
  refine Wo.nil ?_
  by_cases kc5 : i_4 < (a.length : Int)
  · rw [if_pos kc5] at h
    refine Wc.condT' (t := _) (by conv => lhs; simp) (by simpa using kc5) ?_
    refine Wc.seq ?_
    refine Wc.kil (by conv => lhs; simp) ?_
    refine Wc.skip ?_
    refine Wc.seq ?_
    refine Wc.block ?_
    obtain ⟨v_6, h7, h⟩ := bind_some h
    obtain ⟨ga7, gb7, gc7⟩ := ix_some h7
    have gn7 := ix_ne h7
    have gd7 := arr_at (E := eI) (b := false) gc7
    simp at gd7
    obtain ⟨v_8, h9, h⟩ := bind_some h
    obtain ⟨ga9, gb9, gc9⟩ := ix_some h9
    have gn9 := ix_ne h9
    have gf9 := arr_fit (E := eI) (b := true) (i := i_4.toNat) (l := out_3) (by omega)
    have gg9_0 := arr_get (E := eI) (b := true) (o := 0) gc9 (by decide)
    simp at gf9 gg9_0
    have gl9 : i_4.toNat < out_3.length := by omega
    have gy10 := lay_set (E := eI) (b := true) (i := i_4.toNat) (l := out_3) v_6 (by omega)
    simp at gy10
    refine Wc.evs (by conv => lhs; simp [ga7, gb7, gn7, gd7, -getElem?_pos, List.getElem?_cons_zero, List.getElem?_cons_succ, ga9, gb9, gn9, gf9, gg9_0, gl9, gy10]) ?_
    refine Wo.nil ?_
    refine Wc.evs (by conv => lhs; simp) ?_
    refine Wo.nil ?_
    refine Wc.start (V1 := [(0, .v (ssl eI a)), (3, .v (osl eI true (out_3.set i_4.toNat v_6))), (4, .v (.int .i64 (w64 (i_4 + 1))))]) ?_ (hk _ (Option.some.inj h).symm)
    first | rfl | simp
  · rw [if_neg kc5] at h
    refine Wc.condF' (t := _) (by conv => lhs; simp) (by simpa using kc5) ?_
    refine Wc.seq ?_
    refine Wc.kil (by conv => lhs; simp) ?_
    refine Wc.exit ?_
    have e0 := hx _ (Option.some.inj h).symm
    subst e0
    exact ⟨rfl, by first | rfl | simp⟩
theorem r16 {a : (List Int)} {r : (List Int)} (h : f16 a = some r) : VJx cx (.ca 16 [(ssl eI a)] (osl eI true r) []) := by
  unfold f16 at h
  refine ca_of rfl rfl (by decide) rfl ?_
  refine Wc.start (V1 := [(0, .v (ssl eI a))]) (by simp) ?_
  refine Wc.seq ?_
  refine Wc.evs (by conv => lhs; simp) ?_
  refine Wo.nil ?_
  refine Wc.seq ?_
  obtain ⟨l_1, h2, h⟩ := bind_some h
  obtain ⟨gm2, gp2, gq2, gr2⟩ := mkl_some h2
  have gx2 := rep_arr (E := eI) (b := true) gr2
  simp at gx2
  refine Wc.evs (by conv => lhs; simp [gm2, gp2, gq2, gx2]) ?_
  refine Wo.gh (vle_co (s := 3) (t1 := (osl eI true l_1)) rfl (by simp) (tle_own rfl) (by conv => lhs; simp)) ?_
  refine Wo.nil ?_
  refine Wc.seq ?_
  refine Wc.seq ?_
  refine Wc.evs (by conv => lhs; simp) ?_
  refine Wo.nil ?_
  refine Wc.block ?_
  obtain ⟨w11, h12, h⟩ := bind_some h
  refine Wc.start (V1 := [(0, .v (ssl eI a)), (3, .v (osl eI true l_1)), (4, .v (.int .i64 0))]) (by first | rfl | simp) ?_
  refine Wc.mono (r16_0 _ _ h12) ?_
  generalize w11 = out_13 at *
  rintro ex V ⟨rfl, rfl⟩
  try dsimp only at h
  refine Wc.seq ?_
  refine Wc.evs (by conv => lhs; simp) ?_
  refine Wo.nil ?_
  refine Wc.ret (res_of (.inr rfl) ?_)
  cases h
  exact ⟨_, _, _, by conv => lhs; simp, by (conv => lhs; simp [cx, ioTab, List.range, List.range.loop]) <;> rfl, by first | rfl | simp⟩
theorem r28_0 {a : (List (List Int))} : ∀ zs zo, iter (f28_0 a) zs = some zo → Wc cx 23 (.loop L28_0) [(0, .v (ssl (eL eI) a)), (3, .v (osl (eL eI) true zs.1)), (4, .v (.int .i64 zs.2))] ((QX 0 (fun (y : (List (List Int))) => [(3, .v (osl (eL eI) true y))])) zo) := by
  intro zs0 zo0 zh0
  refine iter_run (f := (f28_0 a)) (P := fun zs zo => Wc cx 23 (.loop L28_0) [(0, .v (ssl (eL eI) a)), (3, .v (osl (eL eI) true zs.1)), (4, .v (.int .i64 zs.2))] ((QX 0 (fun (y : (List (List Int))) => [(3, .v (osl (eL eI) true y))])) zo)) ?_ zh0
  rintro ⟨out_3, i_4⟩ zo zr h hk hx
  try dsimp only at hk ⊢
  rw [f28_0] at h
  refine Wc.loop ?_
  refine Wc.seq ?_
  refine Wc.seq ?_
  refine Wc.evs (by conv => lhs; simp) ?_
  refine Wo.nil ?_
  by_cases kc5 : i_4 < (a.length : Int)
  · rw [if_pos kc5] at h
    refine Wc.condT' (t := _) (by conv => lhs; simp) (by simpa using kc5) ?_
    refine Wc.seq ?_
    refine Wc.kil (by conv => lhs; simp) ?_
    refine Wc.skip ?_
    refine Wc.seq ?_
    refine Wc.block ?_
    obtain ⟨v_6, h7, h⟩ := bind_some h
    obtain ⟨ga7, gb7, gc7⟩ := ix_some h7
    have gn7 := ix_ne h7
    have gd7 := arr_at (E := (eL eI)) (b := false) gc7
    simp at gd7
    refine Wc.evs (by conv => lhs; simp [ga7, gb7, gn7, gd7]) ?_
    obtain ⟨o8, h9, h⟩ := bind_some h
    refine Wo.call (by simp) rfl (by (conv => lhs; simp [ga7, gb7, gn7, gd7, cx, ioTab]) <;> rfl) (r16 h9) (by simp) (by simp) (by (conv => lhs; simp [ga7, gb7, gn7, gd7, cx, ioTab]) <;> rfl) (by (conv => lhs; simp [ga7, gb7, gn7, gd7]) <;> rfl) ?_
    obtain ⟨v_10, h11, h⟩ := bind_some h
    obtain ⟨ga11, gb11, gc11⟩ := ix_some h11
    have gn11 := ix_ne h11
    have gf11 := arr_fit (E := (eL eI)) (b := true) (i := i_4.toNat) (l := out_3) (by omega)
    have gg11_0 := arr_get (E := (eL eI)) (b := true) (o := 0) gc11 (by decide)
    simp at gf11 gg11_0
    have gl11 : i_4.toNat < out_3.length := by omega
    have gy12 := lay_set (E := (eL eI)) (b := true) (i := i_4.toNat) (l := out_3) o8 (by omega)
    simp at gy12
    refine Wo.evs (by conv => lhs; simp [ga7, gb7, gn7, gd7, -getElem?_pos, List.getElem?_cons_zero, List.getElem?_cons_succ, ga11, gb11, gn11, gf11, gg11_0, gl11, gy12]) ?_
    refine Wo.nil ?_
    refine Wc.evs (by conv => lhs; simp) ?_
    refine Wo.nil ?_
    refine Wc.start (V1 := [(0, .v (ssl (eL eI) a)), (3, .v (osl (eL eI) true (out_3.set i_4.toNat o8))), (4, .v (.int .i64 (w64 (i_4 + 1))))]) ?_ (hk _ (Option.some.inj h).symm)
    first | rfl | simp
  · rw [if_neg kc5] at h
    refine Wc.condF' (t := _) (by conv => lhs; simp) (by simpa using kc5) ?_
    refine Wc.seq ?_
    refine Wc.kil (by conv => lhs; simp) ?_
    refine Wc.exit ?_
    have e0 := hx _ (Option.some.inj h).symm
    subst e0
    exact ⟨rfl, by first | rfl | simp⟩
theorem r28 {a : (List (List Int))} {r : (List (List Int))} (h : f28 a = some r) : VJx cx (.ca 28 [(ssl (eL eI) a)] (osl (eL eI) true r) []) := by
  unfold f28 at h
  refine ca_of rfl rfl (by decide) rfl ?_
  refine Wc.start (V1 := [(0, .v (ssl (eL eI) a))]) (by simp) ?_
  refine Wc.seq ?_
  refine Wc.evs (by conv => lhs; simp) ?_
  refine Wo.nil ?_
  refine Wc.seq ?_
  obtain ⟨l_1, h2, h⟩ := bind_some h
  obtain ⟨gm2, gp2, gq2, gr2⟩ := mkl_some h2
  try simp at gr2
  refine Wc.evs (by conv => lhs; simp [gm2, gp2, gq2]) ?_
  refine Wo.gh (vle_co (s := 3) (t1 := (osl (eL eI) true l_1)) rfl (by simp) (TLe.own0 (tles_rep1 (E := (eL eI)) (b := true) gr2 (show TLes _ [(osl eI true ([]))] from (TLes.cons (TLe.nil rfl (by decide)) (TLes.refl _))))) (by conv => lhs; simp)) ?_
  refine Wo.nil ?_
  refine Wc.seq ?_
  refine Wc.seq ?_
  refine Wc.evs (by conv => lhs; simp) ?_
  refine Wo.nil ?_
  refine Wc.block ?_
  obtain ⟨w13, h14, h⟩ := bind_some h
  refine Wc.start (V1 := [(0, .v (ssl (eL eI) a)), (3, .v (osl (eL eI) true l_1)), (4, .v (.int .i64 0))]) (by first | rfl | simp) ?_
  refine Wc.mono (r28_0 _ _ h14) ?_
  generalize w13 = out_15 at *
  rintro ex V ⟨rfl, rfl⟩
  try dsimp only at h
  refine Wc.seq ?_
  refine Wc.evs (by conv => lhs; simp) ?_
  refine Wo.nil ?_
  refine Wc.ret (res_of (.inr rfl) ?_)
  cases h
  exact ⟨_, _, _, by conv => lhs; simp, by (conv => lhs; simp [cx, ioTab, List.range, List.range.loop]) <;> rfl, by first | rfl | simp⟩
theorem r61 {x : Int} {low : Int} {high : Int} {r : Bool} (h : f61 x low high = some r) : VJx cx (.ca 61 [(.int .i64 x), (.int .i64 low), (.int .i64 high)] (.bool r) []) := by
  unfold f61 at h
  refine ca_of rfl rfl (by decide) rfl ?_
  refine Wc.start (V1 := [(0, .v (.int .i64 x)), (1, .v (.int .i64 low)), (2, .v (.int .i64 high))]) (by simp) ?_
  refine Wc.seq ?_
  refine Wc.evs (by conv => lhs; simp) ?_
  refine Wo.nil ?_
  refine Wc.seq ?_
  refine Wc.evk 4 (by conv => lhs; simp) ?_
  obtain ⟨w2, h3, h⟩ := bind_some h
  refine Wo.mono (Q := fun V => V = [(6, .v (.bool w2))]) ?_ ?_
  · by_cases knh3 : x ≥ low
    · rw [if_pos knh3] at h3
      refine Wo.gh (vle_co (s := 10) (t1 := .bool true) rfl (by simp) (tle_bool (by simpa using knh3)) (by conv => lhs; simp)) ?_
      refine Wo.evs (by conv => lhs; simp) ?_
      refine Wo.nil ?_
      cases h3
      first | rfl | simp
    · rw [if_neg knh3] at h3
      refine Wo.gh (vle_co (s := 10) (t1 := .bool false) rfl (by simp) (tle_bool (by simpa using knh3)) (by conv => lhs; simp)) ?_
      refine Wo.evs (by conv => lhs; simp) ?_
      refine Wo.nil ?_
      cases h3
      first | rfl | simp
  · rintro V rfl
    generalize w2 = x_1 at *
    try dsimp only at h
    refine Wc.ret (res_of (.inr rfl) ?_)
    cases h
    exact ⟨_, _, _, by conv => lhs; simp, by (conv => lhs; simp [cx, ioTab, List.range, List.range.loop]) <;> rfl, by first | rfl | simp⟩
theorem r60_1 {n0 : Int} {c : (List Int)} {i_1 : Int} : ∀ zs zo, iter (f60_1 c i_1) zs = some zo → Wc cx 68 (.loop L60_1) [(0, .v (.int .i64 n0)), (1, .v (ssl eI c)), (5, .v (.int .i64 i_1)), (7, .v (.int .i64 zs))] ((QO (QX 2 (fun (y : Unit) => [(0, .v (.int .i64 n0)), (1, .v (ssl eI c)), (5, .v (.int .i64 i_1))])) (QR (fun (y : Bool) => [(4, .v (.bool y))]))) zo) := by
  intro zs0 zo0 zh0
  refine iter_run (f := (f60_1 c i_1)) (P := fun zs zo => Wc cx 68 (.loop L60_1) [(0, .v (.int .i64 n0)), (1, .v (ssl eI c)), (5, .v (.int .i64 i_1)), (7, .v (.int .i64 zs))] ((QO (QX 2 (fun (y : Unit) => [(0, .v (.int .i64 n0)), (1, .v (ssl eI c)), (5, .v (.int .i64 i_1))])) (QR (fun (y : Bool) => [(4, .v (.bool y))]))) zo)) ?_ zh0
  rintro k_15 zo zr h hk hx
  try dsimp only at hk ⊢
  rw [f60_1] at h
  refine Wc.loop ?_
  refine Wc.seq ?_
  refine Wc.seq ?_
  refine Wc.evs (by conv => lhs; simp) ?_
  refine Wo.nil ?_
  by_cases kc16 : k_15 < i_1
  · rw [if_pos kc16] at h
    refine Wc.condT' (t := _) (by conv => lhs; simp) (by simpa using kc16) ?_
    refine Wc.seq ?_
    refine Wc.kil (by conv => lhs; simp) ?_
    refine Wc.skip ?_
    refine Wc.seq ?_
    refine Wc.block ?_
    refine Wc.seq ?_
    obtain ⟨v_17, h18, h⟩ := bind_some h
    obtain ⟨ga18, gb18, gc18⟩ := ix_some h18
    have gn18 := ix_ne h18
    have gd18 := arr_at (E := eI) (b := false) gc18
    simp at gd18
    obtain ⟨v_19, h20, h⟩ := bind_some h
    obtain ⟨ga20, gb20, gc20⟩ := ix_some h20
    have gn20 := ix_ne h20
    have gd20 := arr_at (E := eI) (b := false) gc20
    simp at gd20
    refine Wc.evk 10 (by conv => lhs; simp [ga18, gb18, gn18, gd18, ga20, gb20, gn20, gd20]) ?_
    obtain ⟨w22, h23, h⟩ := bind_some h
    refine Wo.mono (Q := fun V => V = [(0, .v (.int .i64 n0)), (1, .v (ssl eI c)), (5, .v (.int .i64 i_1)), (7, .v (.int .i64 k_15)), (67, .v (.bool w22))]) ?_ ?_
    · by_cases knh23 : v_17 = v_19
      · rw [if_pos knh23] at h23
        refine Wo.gh (vle_co (s := 56) (t1 := .bool true) rfl (by simp) (tle_bool (by simpa using knh23)) (by conv => lhs; simp)) ?_
        refine Wo.evs (by conv => lhs; simp [ga18, gb18, gn18, gd18, ga20, gb20, gn20, gd20]) ?_
        refine Wo.nil ?_
        cases h23
        first | rfl | simp [ga18, gb18, gn18, gd18, ga20, gb20, gn20, gd20]
      · rw [if_neg knh23] at h23
        refine Wo.gh (vle_co (s := 56) (t1 := .bool false) rfl (by simp) (tle_bool (by simpa using knh23)) (by conv => lhs; simp)) ?_
        refine Wo.evs (by conv => lhs; simp [ga18, gb18, gn18, gd18, ga20, gb20, gn20, gd20]) ?_
        refine Wo.nil ?_
        cases h23
        first | rfl | simp [ga18, gb18, gn18, gd18, ga20, gb20, gn20, gd20]
    · rintro V rfl
      generalize w22 = x_21 at *
      try dsimp only at h
      by_cases kc24 : x_21 = true
      · rw [if_pos kc24] at h
        refine Wc.condT' (t := _) (by conv => lhs; simp) (by simpa using kc24) ?_
        refine Wc.seq ?_
        refine Wc.kil (by conv => lhs; simp) ?_
        refine Wc.seq ?_
        refine Wc.evs (by conv => lhs; simp) ?_
        refine Wo.nil ?_
        refine Wc.ret ?_
        have e0 := hx _ (Option.some.inj h).symm
        subst e0
        exact ⟨rfl, by first | rfl | simp⟩
      · rw [if_neg kc24] at h
        refine Wc.condF' (t := _) (by conv => lhs; simp) (by simpa using kc24) ?_
        refine Wc.seq ?_
        refine Wc.kil (by conv => lhs; simp) ?_
        refine Wc.skip ?_
        refine Wc.evs (by conv => lhs; simp) ?_
        refine Wo.nil ?_
        refine Wc.start (V1 := [(0, .v (.int .i64 n0)), (1, .v (ssl eI c)), (5, .v (.int .i64 i_1)), (7, .v (.int .i64 (w64 (k_15 + 1))))]) ?_ (hk _ (Option.some.inj h).symm)
        first | rfl | simp
  · rw [if_neg kc16] at h
    refine Wc.condF' (t := _) (by conv => lhs; simp) (by simpa using kc16) ?_
    refine Wc.seq ?_
    refine Wc.kil (by conv => lhs; simp) ?_
    refine Wc.exit ?_
    have e0 := hx _ (Option.some.inj h).symm
    subst e0
    exact ⟨rfl, by first | rfl | simp⟩
theorem r60_0 {n0 : Int} {c : (List Int)} : ∀ zs zo, iter (f60_0 n0 c) zs = some zo → Wc cx 68 (.loop L60_0) [(0, .v (.int .i64 n0)), (1, .v (ssl eI c)), (5, .v (.int .i64 zs))] ((QO (QX 0 (fun (y : Unit) => [])) (QR (fun (y : Bool) => [(4, .v (.bool y))]))) zo) := by
  intro zs0 zo0 zh0
  refine iter_run (f := (f60_0 n0 c)) (P := fun zs zo => Wc cx 68 (.loop L60_0) [(0, .v (.int .i64 n0)), (1, .v (ssl eI c)), (5, .v (.int .i64 zs))] ((QO (QX 0 (fun (y : Unit) => [])) (QR (fun (y : Bool) => [(4, .v (.bool y))]))) zo)) ?_ zh0
  rintro i_1 zo zr h hk hx
  try dsimp only at hk ⊢
  rw [f60_0] at h
  refine Wc.loop ?_
  refine Wc.seq ?_
  refine Wc.seq ?_
  refine Wc.evs (by conv => lhs; simp) ?_
  refine Wo.nil ?_
  by_cases kc2 : i_1 < (c.length : Int)
  · rw [if_pos kc2] at h
    refine Wc.condT' (t := _) (by conv => lhs; simp) (by simpa using kc2) ?_
    refine Wc.seq ?_
    refine Wc.kil (by conv => lhs; simp) ?_
    refine Wc.skip ?_
    refine Wc.seq ?_
    refine Wc.block ?_
    refine Wc.seq ?_
    obtain ⟨v_3, h4, h⟩ := bind_some h
    obtain ⟨ga4, gb4, gc4⟩ := ix_some h4
    have gn4 := ix_ne h4
    have gd4 := arr_at (E := eI) (b := false) gc4
    simp at gd4
    refine Wc.evs (by conv => lhs; simp [ga4, gb4, gn4, gd4]) ?_
    refine Wo.nil ?_
    refine Wc.seq ?_
    refine Wc.seq ?_
    refine Wc.evk 6 (by conv => lhs; simp [ga4, gb4, gn4, gd4]) ?_
    obtain ⟨w6, h7, h⟩ := bind_some h
    refine Wo.mono (Q := fun V => V = [(0, .v (.int .i64 n0)), (1, .v (ssl eI c)), (5, .v (.int .i64 i_1)), (6, .v (.int .i64 (if 0 > v_3 then 0 else v_3))), (32, .v (.bool w6))]) ?_ ?_
    · by_cases knh7 : v_3 < 0
      · rw [if_pos knh7] at h7
        refine Wo.gh (vle_co (s := 24) (t1 := .bool true) rfl (by simp) (tle_bool (by simpa using knh7)) (by conv => lhs; simp)) ?_
        refine Wo.evs (by conv => lhs; simp [ga4, gb4, gn4, gd4]) ?_
        refine Wo.nil ?_
        cases h7
        first | rfl | simp [ga4, gb4, gn4, gd4]
      · rw [if_neg knh7] at h7
        refine Wo.gh (vle_co (s := 24) (t1 := .bool false) rfl (by simp) (tle_bool (by simpa using knh7)) (by conv => lhs; simp)) ?_
        refine Wo.evs (by conv => lhs; simp [ga4, gb4, gn4, gd4]) ?_
        refine Wo.nil ?_
        cases h7
        first | rfl | simp [ga4, gb4, gn4, gd4]
    · rintro V rfl
      generalize w6 = x_5 at *
      try dsimp only at h
      obtain ⟨w8, h9, h⟩ := bind_some h
      refine Wc.mono (Q := (QN (fun (y : Int) => [(0, .v (.int .i64 n0)), (1, .v (ssl eI c)), (5, .v (.int .i64 i_1)), (6, .v (.int .i64 y))])) w8) ?_ ?_
      · skip
        by_cases kc10 : x_5 = true
        · rw [if_pos kc10] at h9
          refine Wc.condT' (t := _) (by conv => lhs; simp) (by simpa using kc10) ?_
          refine Wc.seq ?_
          refine Wc.kil (by conv => lhs; simp) ?_
          refine Wc.evs (by conv => lhs; simp [ga4, gb4, gn4, gd4]) ?_
          refine Wo.nil ?_
          cases h9
          exact ⟨rfl, by first | rfl | simp [ga4, gb4, gn4, gd4]⟩
        · rw [if_neg kc10] at h9
          refine Wc.condF' (t := _) (by conv => lhs; simp) (by simpa using kc10) ?_
          refine Wc.seq ?_
          refine Wc.kil (by conv => lhs; simp) ?_
          refine Wc.skip ?_
          cases h9
          exact ⟨rfl, by first | rfl | simp [ga4, gb4, gn4, gd4]⟩
      · skip
        generalize w8 = v_11 at *
        rintro ex V ⟨rfl, rfl⟩
        try dsimp only at h
        refine Wc.seq ?_
        refine Wc.seq ?_
        refine Wc.evs (by conv => lhs; simp) ?_
        obtain ⟨o12, h13, h⟩ := bind_some h
        refine Wo.call (by simp) rfl (by (conv => lhs; simp [cx, ioTab]) <;> rfl) (r61 h13) (by simp) (by simp) (by (conv => lhs; simp [cx, ioTab]) <;> rfl) (by (conv => lhs; simp) <;> rfl) ?_
        refine Wo.evs (by conv => lhs; simp) ?_
        refine Wo.nil ?_
        by_cases kc14 : ¬ (o12 = true)
        · rw [if_pos kc14] at h
          refine Wc.condT' (t := _) (by conv => lhs; simp) (by simpa using kc14) ?_
          refine Wc.seq ?_
          refine Wc.kil (by conv => lhs; simp) ?_
          refine Wc.seq ?_
          refine Wc.evs (by conv => lhs; simp) ?_
          refine Wo.nil ?_
          refine Wc.ret ?_
          have e0 := hx _ (Option.some.inj h).symm
          subst e0
          exact ⟨rfl, by first | rfl | simp⟩
        · rw [if_neg kc14] at h
          refine Wc.condF' (t := _) (by conv => lhs; simp) (by simpa using kc14) ?_
          refine Wc.seq ?_
          refine Wc.kil (by conv => lhs; simp) ?_
          refine Wc.skip ?_
          refine Wc.seq ?_
          refine Wc.evs (by conv => lhs; simp) ?_
          refine Wo.nil ?_
          refine Wc.block ?_
          obtain ⟨w25, h26, h⟩ := bind_some h
          refine Wc.start (V1 := [(0, .v (.int .i64 n0)), (1, .v (ssl eI c)), (5, .v (.int .i64 i_1)), (7, .v (.int .i64 0))]) (by first | rfl | simp) ?_
          refine Wc.mono (r60_1 _ _ h26) ?_
          rcases w25 with ⟨⟩ | x_27
          · rintro ex V ⟨rfl, rfl⟩
            try dsimp only at h
            refine Wc.evs (by conv => lhs; simp) ?_
            refine Wo.nil ?_
            refine Wc.start (V1 := [(0, .v (.int .i64 n0)), (1, .v (ssl eI c)), (5, .v (.int .i64 (w64 (i_1 + 1))))]) ?_ (hk _ (Option.some.inj h).symm)
            first | rfl | simp
          · rintro ex V ⟨rfl, rfl⟩
            try dsimp only at h
            have e0 := hx _ (Option.some.inj h).symm
            subst e0
            exact ⟨rfl, by first | rfl | simp⟩
  · rw [if_neg kc2] at h
    refine Wc.condF' (t := _) (by conv => lhs; simp) (by simpa using kc2) ?_
    refine Wc.seq ?_
    refine Wc.kil (by conv => lhs; simp) ?_
    refine Wc.exit ?_
    have e0 := hx _ (Option.some.inj h).symm
    subst e0
    exact ⟨rfl, by first | rfl | simp⟩
theorem r60 {n0 : Int} {c : (List Int)} {r : Bool} (h : f60 n0 c = some r) : VJx cx (.ca 60 [(.int .i64 n0), (ssl eI c)] (.bool r) []) := by
  unfold f60 at h
  refine ca_of rfl rfl (by decide) rfl ?_
  refine Wc.start (V1 := [(0, .v (.int .i64 n0)), (1, .v (ssl eI c))]) (by simp) ?_
  refine Wc.seq ?_
  refine Wc.evs (by conv => lhs; simp) ?_
  refine Wo.nil ?_
  refine Wc.seq ?_
  refine Wc.seq ?_
  refine Wc.evs (by conv => lhs; simp) ?_
  refine Wo.nil ?_
  refine Wc.block ?_
  obtain ⟨w28, h29, h⟩ := bind_some h
  refine Wc.start (V1 := [(0, .v (.int .i64 n0)), (1, .v (ssl eI c)), (5, .v (.int .i64 0))]) (by first | rfl | simp) ?_
  refine Wc.mono (r60_0 _ _ h29) ?_
  rcases w28 with ⟨⟩ | x_30
  · rintro ex V ⟨rfl, rfl⟩
    try dsimp only at h
    refine Wc.seq ?_
    refine Wc.evs (by conv => lhs; simp) ?_
    refine Wo.nil ?_
    refine Wc.ret (res_of (.inr rfl) ?_)
    cases h
    exact ⟨_, _, _, by conv => lhs; simp, by (conv => lhs; simp [cx, ioTab, List.range, List.range.loop]) <;> rfl, by first | rfl | simp⟩
  · rintro ex V ⟨rfl, rfl⟩
    try dsimp only at h
    refine res_of (.inr rfl) ?_
    cases h
    exact ⟨_, _, _, by conv => lhs; simp, by (conv => lhs; simp [cx, ioTab, List.range, List.range.loop]) <;> rfl, by first | rfl | simp⟩
theorem r33_0 {n0 : Int} {l : (List (List Int))} : ∀ zs zo, iter (f33_0 n0 l) zs = some zo → Wc cx 26 (.loop L33_0) [(0, .v (.int .i64 n0)), (1, .v (ssl (eL eI) l)), (5, .v (.int .i64 zs))] ((QO (QX 0 (fun (y : Unit) => [(0, .v (.int .i64 n0)), (1, .v (ssl (eL eI) l))])) (QR (fun (y : Bool) => [(4, .v (.bool y))]))) zo) := by
  intro zs0 zo0 zh0
  refine iter_run (f := (f33_0 n0 l)) (P := fun zs zo => Wc cx 26 (.loop L33_0) [(0, .v (.int .i64 n0)), (1, .v (ssl (eL eI) l)), (5, .v (.int .i64 zs))] ((QO (QX 0 (fun (y : Unit) => [(0, .v (.int .i64 n0)), (1, .v (ssl (eL eI) l))])) (QR (fun (y : Bool) => [(4, .v (.bool y))]))) zo)) ?_ zh0
  rintro i_1 zo zr h hk hx
  try dsimp only at hk ⊢
  rw [f33_0] at h
  refine Wc.loop ?_
  refine Wc.seq ?_
  refine Wc.seq ?_
  refine Wc.evs (by conv => lhs; simp) ?_
  refine Wo.nil ?_
  by_cases kc2 : i_1 < (l.length : Int)
  · rw [if_pos kc2] at h
    refine Wc.condT' (t := _) (by conv => lhs; simp) (by simpa using kc2) ?_
    refine Wc.seq ?_
    refine Wc.kil (by conv => lhs; simp) ?_
    refine Wc.skip ?_
    refine Wc.seq ?_
    refine Wc.block ?_
    refine Wc.seq ?_
    obtain ⟨v_3, h4, h⟩ := bind_some h
    obtain ⟨ga4, gb4, gc4⟩ := ix_some h4
    have gn4 := ix_ne h4
    have gd4 := arr_at (E := (eL eI)) (b := false) gc4
    simp at gd4
    refine Wc.evs (by conv => lhs; simp [ga4, gb4, gn4, gd4]) ?_
    obtain ⟨o5, h6, h⟩ := bind_some h
    refine Wo.call (by simp) rfl (by (conv => lhs; simp [ga4, gb4, gn4, gd4, cx, ioTab]) <;> rfl) (r60 h6) (by simp) (by simp) (by (conv => lhs; simp [ga4, gb4, gn4, gd4, cx, ioTab]) <;> rfl) (by (conv => lhs; simp [ga4, gb4, gn4, gd4]) <;> rfl) ?_
    refine Wo.evs (by conv => lhs; simp [ga4, gb4, gn4, gd4]) ?_
    refine Wo.nil ?_
    by_cases kc7 : ¬ (o5 = true)
    · rw [if_pos kc7] at h
      refine Wc.condT' (t := _) (by conv => lhs; simp) (by simpa using kc7) ?_
      refine Wc.seq ?_
      refine Wc.kil (by conv => lhs; simp) ?_
      refine Wc.seq ?_
      refine Wc.evs (by conv => lhs; simp) ?_
      refine Wo.nil ?_
      refine Wc.ret ?_
      have e0 := hx _ (Option.some.inj h).symm
      subst e0
      exact ⟨rfl, by first | rfl | simp⟩
    · rw [if_neg kc7] at h
      refine Wc.condF' (t := _) (by conv => lhs; simp) (by simpa using kc7) ?_
      refine Wc.seq ?_
      refine Wc.kil (by conv => lhs; simp) ?_
      refine Wc.skip ?_
      refine Wc.evs (by conv => lhs; simp) ?_
      refine Wo.nil ?_
      refine Wc.start (V1 := [(0, .v (.int .i64 n0)), (1, .v (ssl (eL eI) l)), (5, .v (.int .i64 (w64 (i_1 + 1))))]) ?_ (hk _ (Option.some.inj h).symm)
      first | rfl | simp
  · rw [if_neg kc2] at h
    refine Wc.condF' (t := _) (by conv => lhs; simp) (by simpa using kc2) ?_
    refine Wc.seq ?_
    refine Wc.kil (by conv => lhs; simp) ?_
    refine Wc.exit ?_
    have e0 := hx _ (Option.some.inj h).symm
    subst e0
    exact ⟨rfl, by first | rfl | simp⟩
theorem r33 {n0 : Int} {l : (List (List Int))} {r : Bool} (h : f33 n0 l = some r) : VJx cx (.ca 33 [(.int .i64 n0), (ssl (eL eI) l)] (.bool r) []) := by
  unfold f33 at h
  refine ca_of rfl rfl (by decide) rfl ?_
  refine Wc.start (V1 := [(0, .v (.int .i64 n0)), (1, .v (ssl (eL eI) l))]) (by simp) ?_
  refine Wc.seq ?_
  refine Wc.evs (by conv => lhs; simp) ?_
  refine Wo.nil ?_
  refine Wc.seq ?_
  refine Wc.seq ?_
  refine Wc.evs (by conv => lhs; simp) ?_
  refine Wo.nil ?_
  refine Wc.block ?_
  obtain ⟨w8, h9, h⟩ := bind_some h
  refine Wc.start (V1 := [(0, .v (.int .i64 n0)), (1, .v (ssl (eL eI) l)), (5, .v (.int .i64 0))]) (by first | rfl | simp) ?_
  refine Wc.mono (r33_0 _ _ h9) ?_
  rcases w8 with ⟨⟩ | x_10
  · rintro ex V ⟨rfl, rfl⟩
    try dsimp only at h
    refine Wc.seq ?_
    refine Wc.evs (by conv => lhs; simp) ?_
    obtain ⟨o11, h12, h⟩ := bind_some h
    refine Wo.call (by simp) rfl (by (conv => lhs; simp [cx, ioTab]) <;> rfl) (r61 h12) (by simp) (by simp) (by (conv => lhs; simp [cx, ioTab]) <;> rfl) (by (conv => lhs; simp) <;> rfl) ?_
    refine Wo.evk 1 (by conv => lhs; simp) ?_
    obtain ⟨w14, h15, h⟩ := bind_some h
    refine Wo.mono (Q := fun V => V = [(4, .v (.bool w14))]) ?_ ?_
    · by_cases knh15 : o11 = true
      · rw [if_pos knh15] at h15
        refine Wo.gh (vle_co (s := 21) (t1 := .bool true) rfl (by simp) (tle_bool (by simpa using knh15)) (by conv => lhs; simp)) ?_
        refine Wo.evs (by conv => lhs; simp) ?_
        refine Wo.nil ?_
        cases h15
        first | rfl | simp
      · rw [if_neg knh15] at h15
        refine Wo.gh (vle_co (s := 21) (t1 := .bool false) rfl (by simp) (tle_bool (by simpa using knh15)) (by conv => lhs; simp)) ?_
        refine Wo.evs (by conv => lhs; simp) ?_
        refine Wo.nil ?_
        cases h15
        first | rfl | simp
    · rintro V rfl
      generalize w14 = x_13 at *
      try dsimp only at h
      refine Wc.ret (res_of (.inr rfl) ?_)
      cases h
      exact ⟨_, _, _, by conv => lhs; simp, by (conv => lhs; simp [cx, ioTab, List.range, List.range.loop]) <;> rfl, by first | rfl | simp⟩
  · rintro ex V ⟨rfl, rfl⟩
    try dsimp only at h
    refine res_of (.inr rfl) ?_
    cases h
    exact ⟨_, _, _, by conv => lhs; simp, by (conv => lhs; simp [cx, ioTab, List.range, List.range.loop]) <;> rfl, by first | rfl | simp⟩
theorem r31_1 {l : (List (List Int))} {m : (List Bool)} {i_1 : Int} : ∀ zs zo, iter (f31_1 l m i_1) zs = some zo → Wc cx 71 (.loop L31_1) [(0, .v (ssl (eL eI) l)), (1, .v (ssl eB m)), (5, .v (.int .i64 i_1)), (6, .v (.bool zs.1)), (7, .v (.int .i64 zs.2))] ((QX 2 (fun (y : Bool) => [(0, .v (ssl (eL eI) l)), (1, .v (ssl eB m)), (5, .v (.int .i64 i_1)), (6, .v (.bool y))])) zo) := by
  intro zs0 zo0 zh0
  refine iter_run (f := (f31_1 l m i_1)) (P := fun zs zo => Wc cx 71 (.loop L31_1) [(0, .v (ssl (eL eI) l)), (1, .v (ssl eB m)), (5, .v (.int .i64 i_1)), (6, .v (.bool zs.1)), (7, .v (.int .i64 zs.2))] ((QX 2 (fun (y : Bool) => [(0, .v (ssl (eL eI) l)), (1, .v (ssl eB m)), (5, .v (.int .i64 i_1)), (6, .v (.bool y))])) zo)) ?_ zh0
  rintro ⟨is_3, k_4⟩ zo zr h hk hx
  try dsimp only at hk ⊢
  rw [f31_1] at h
  refine Wc.loop ?_
  refine Wc.seq ?_
  refine Wc.seq ?_
  obtain ⟨v_5, h6, h⟩ := bind_some h
  obtain ⟨ga6, gb6, gc6⟩ := ix_some h6
  have gn6 := ix_ne h6
  have gd6 := arr_at (E := (eL eI)) (b := false) gc6
  simp at gd6
  refine Wc.evs (by conv => lhs; simp [ga6, gb6, gn6, gd6]) ?_
  refine Wo.nil ?_
  by_cases kc7 : k_4 < (v_5.length : Int)
  · rw [if_pos kc7] at h
    refine Wc.condT' (t := _) (by conv => lhs; simp) (by simpa using kc7) ?_
    refine Wc.seq ?_
    refine Wc.kil (by conv => lhs; simp) ?_
    refine Wc.skip ?_
    refine Wc.seq ?_
    refine Wc.block ?_
    refine Wc.seq ?_
    obtain ⟨v_8, h9, h⟩ := bind_some h
    obtain ⟨ga9, gb9, gc9⟩ := ix_some h9
    have gn9 := ix_ne h9
    have gd9 := arr_at (E := eI) (b := false) gc9
    simp at gd9
    refine Wc.evs (by conv => lhs; simp [ga6, gb6, gn6, gd6, ga9, gb9, gn9, gd9]) ?_
    refine Wo.nil ?_
    refine Wc.evk 2 (by conv => lhs; simp) ?_
    obtain ⟨w11, h12, h⟩ := bind_some h
    refine Wo.mono (Q := fun V => V = [(0, .v (ssl (eL eI) l)), (1, .v (ssl eB m)), (5, .v (.int .i64 i_1)), (6, .v (.bool w11)), (7, .v (.int .i64 k_4))]) ?_ ?_
    · by_cases knh12 : is_3 = true
      · rw [if_pos knh12] at h12
        refine Wo.gh (vle_co (s := 32) (t1 := .bool true) rfl (by simp) (tle_bool (by simpa using knh12)) (by conv => lhs; simp)) ?_
        refine Wo.evs (by conv => lhs; simp) ?_
        refine Wo.nil ?_
        cases h12
        first | rfl | simp
      · rw [if_neg knh12] at h12
        refine Wo.gh (vle_co (s := 32) (t1 := .bool false) rfl (by simp) (tle_bool (by simpa using knh12)) (by conv => lhs; simp)) ?_
        refine Wo.evk 3 (by conv => lhs; simp) ?_
        obtain ⟨w14, h15, h12⟩ := bind_some h12
        refine Wo.mono (Q := fun V => V = [(0, .v (ssl (eL eI) l)), (1, .v (ssl eB m)), (5, .v (.int .i64 i_1)), (6, .v (.bool w14)), (7, .v (.int .i64 k_4))]) ?_ ?_
        · by_cases knh15 : v_8 > 0
          · rw [if_pos knh15] at h15
            refine Wo.gh (vle_co (s := 35) (t1 := .bool true) rfl (by simp) (tle_bool (by simpa using knh15)) (by conv => lhs; simp)) ?_
            refine Wo.evk 6 (by conv => lhs; simp) ?_
            obtain ⟨w17, h18, h15⟩ := bind_some h15
            refine Wo.mono (Q := fun V => V = [(0, .v (ssl (eL eI) l)), (1, .v (ssl eB m)), (5, .v (.int .i64 i_1)), (6, .v (.bool w17)), (7, .v (.int .i64 k_4))]) ?_ ?_
            · by_cases knh18 : v_8 ≤ (m.length : Int)
              · rw [if_pos knh18] at h18
                refine Wo.gh (vle_co (s := 41) (t1 := .bool true) rfl (by simp) (tle_bool (by simpa using knh18)) (by conv => lhs; simp)) ?_
                obtain ⟨v_19, h20, h18⟩ := bind_some h18
                obtain ⟨ga20, gb20, gc20⟩ := ix_some h20
                have gn20 := ix_ne h20
                have gd20 := arr_at (E := eB) (b := false) gc20
                simp at gd20
                refine Wo.evk 8 (by conv => lhs; simp [ga20, gb20, gn20, gd20]) ?_
                obtain ⟨w22, h23, h18⟩ := bind_some h18
                refine Wo.mono (Q := fun V => V = [(0, .v (ssl (eL eI) l)), (1, .v (ssl eB m)), (5, .v (.int .i64 i_1)), (6, .v (.bool w22)), (7, .v (.int .i64 k_4))]) ?_ ?_
                · by_cases knh23 : v_19 = true
                  · rw [if_pos knh23] at h23
                    refine Wo.gh (vle_co (s := 49) (t1 := .bool true) rfl (by simp) (tle_bool (by simpa using knh23)) (by conv => lhs; simp)) ?_
                    refine Wo.evs (by conv => lhs; simp [ga20, gb20, gn20, gd20]) ?_
                    refine Wo.nil ?_
                    cases h23
                    first | rfl | simp [ga20, gb20, gn20, gd20]
                  · rw [if_neg knh23] at h23
                    refine Wo.gh (vle_co (s := 49) (t1 := .bool false) rfl (by simp) (tle_bool (by simpa using knh23)) (by conv => lhs; simp)) ?_
                    refine Wo.evk 3 (by conv => lhs; simp [ga20, gb20, gn20, gd20]) ?_
                    obtain ⟨w25, h26, h23⟩ := bind_some h23
                    refine Wo.mono (Q := fun V => V = [(0, .v (ssl (eL eI) l)), (1, .v (ssl eB m)), (5, .v (.int .i64 i_1)), (6, .v (.bool w25)), (7, .v (.int .i64 k_4))]) ?_ ?_
                    · by_cases knh26 : v_8 < 0
                      · rw [if_pos knh26] at h26
                        refine Wo.gh (vle_co (s := 52) (t1 := .bool true) rfl (by simp) (tle_bool (by simpa using knh26)) (by conv => lhs; simp)) ?_
                        refine Wo.evk 7 (by conv => lhs; simp [ga20, gb20, gn20, gd20]) ?_
                        obtain ⟨w28, h29, h26⟩ := bind_some h26
                        refine Wo.mono (Q := fun V => V = [(0, .v (ssl (eL eI) l)), (1, .v (ssl eB m)), (5, .v (.int .i64 i_1)), (6, .v (.bool w28)), (7, .v (.int .i64 k_4))]) ?_ ?_
                        · by_cases knh29 : v_8 ≥ (w64 (-(m.length : Int)))
                          · rw [if_pos knh29] at h29
                            refine Wo.gh (vle_co (s := 59) (t1 := .bool true) rfl (by simp) (tle_bool (by simpa using knh29)) (by conv => lhs; simp)) ?_
                            obtain ⟨v_30, h31, h29⟩ := bind_some h29
                            obtain ⟨ga31, gb31, gc31⟩ := ix_some h31
                            have gn31 := ix_ne h31
                            have gd31 := arr_at (E := eB) (b := false) gc31
                            simp at gd31
                            refine Wo.evs (by conv => lhs; simp [ga20, gb20, gn20, gd20, ga31, gb31, gn31, gd31]) ?_
                            refine Wo.nil ?_
                            cases h29
                            first | rfl | simp [ga20, gb20, gn20, gd20, ga31, gb31, gn31, gd31]
                          · rw [if_neg knh29] at h29
                            refine Wo.gh (vle_co (s := 59) (t1 := .bool false) rfl (by simp) (tle_bool (by simpa using knh29)) (by conv => lhs; simp)) ?_
                            refine Wo.evs (by conv => lhs; simp [ga20, gb20, gn20, gd20]) ?_
                            refine Wo.nil ?_
                            cases h29
                            first | rfl | simp [ga20, gb20, gn20, gd20]
                        · rintro V rfl
                          generalize w28 = is_27 at *
                          try dsimp only at h26
                          cases h26
                          first | rfl | simp [ga20, gb20, gn20, gd20]
                      · rw [if_neg knh26] at h26
                        refine Wo.gh (vle_co (s := 52) (t1 := .bool false) rfl (by simp) (tle_bool (by simpa using knh26)) (by conv => lhs; simp)) ?_
                        refine Wo.evs (by conv => lhs; simp [ga20, gb20, gn20, gd20]) ?_
                        refine Wo.nil ?_
                        cases h26
                        first | rfl | simp [ga20, gb20, gn20, gd20]
                    · rintro V rfl
                      generalize w25 = is_24 at *
                      try dsimp only at h23
                      cases h23
                      first | rfl | simp [ga20, gb20, gn20, gd20]
                · rintro V rfl
                  generalize w22 = is_21 at *
                  try dsimp only at h18
                  cases h18
                  first | rfl | simp [ga20, gb20, gn20, gd20]
              · rw [if_neg knh18] at h18
                refine Wo.gh (vle_co (s := 41) (t1 := .bool false) rfl (by simp) (tle_bool (by simpa using knh18)) (by conv => lhs; simp)) ?_
                refine Wo.evk 11 (by conv => lhs; simp) ?_
                obtain ⟨w33, h34, h18⟩ := bind_some h18
                refine Wo.mono (Q := fun V => V = [(0, .v (ssl (eL eI) l)), (1, .v (ssl eB m)), (5, .v (.int .i64 i_1)), (6, .v (.bool w33)), (7, .v (.int .i64 k_4))]) ?_ ?_
                · by_cases knh34 : v_8 < 0
                  · rw [if_pos knh34] at h34
                    refine Wo.gh (vle_co (s := 52) (t1 := .bool true) rfl (by simp) (tle_bool (by simpa using knh34)) (by conv => lhs; simp)) ?_
                    refine Wo.evk 7 (by conv => lhs; simp) ?_
                    obtain ⟨w36, h37, h34⟩ := bind_some h34
                    refine Wo.mono (Q := fun V => V = [(0, .v (ssl (eL eI) l)), (1, .v (ssl eB m)), (5, .v (.int .i64 i_1)), (6, .v (.bool w36)), (7, .v (.int .i64 k_4))]) ?_ ?_
                    · by_cases knh37 : v_8 ≥ (w64 (-(m.length : Int)))
                      · rw [if_pos knh37] at h37
                        refine Wo.gh (vle_co (s := 59) (t1 := .bool true) rfl (by simp) (tle_bool (by simpa using knh37)) (by conv => lhs; simp)) ?_
                        obtain ⟨v_38, h39, h37⟩ := bind_some h37
                        obtain ⟨ga39, gb39, gc39⟩ := ix_some h39
                        have gn39 := ix_ne h39
                        have gd39 := arr_at (E := eB) (b := false) gc39
                        simp at gd39
                        refine Wo.evs (by conv => lhs; simp [ga39, gb39, gn39, gd39]) ?_
                        refine Wo.nil ?_
                        cases h37
                        first | rfl | simp [ga39, gb39, gn39, gd39]
                      · rw [if_neg knh37] at h37
                        refine Wo.gh (vle_co (s := 59) (t1 := .bool false) rfl (by simp) (tle_bool (by simpa using knh37)) (by conv => lhs; simp)) ?_
                        refine Wo.evs (by conv => lhs; simp) ?_
                        refine Wo.nil ?_
                        cases h37
                        first | rfl | simp
                    · rintro V rfl
                      generalize w36 = is_35 at *
                      try dsimp only at h34
                      cases h34
                      first | rfl | simp
                  · rw [if_neg knh34] at h34
                    refine Wo.gh (vle_co (s := 52) (t1 := .bool false) rfl (by simp) (tle_bool (by simpa using knh34)) (by conv => lhs; simp)) ?_
                    refine Wo.evs (by conv => lhs; simp) ?_
                    refine Wo.nil ?_
                    cases h34
                    first | rfl | simp
                · rintro V rfl
                  generalize w33 = is_32 at *
                  try dsimp only at h18
                  cases h18
                  first | rfl | simp
            · rintro V rfl
              generalize w17 = is_16 at *
              try dsimp only at h15
              cases h15
              first | rfl | simp
          · rw [if_neg knh15] at h15
            refine Wo.gh (vle_co (s := 35) (t1 := .bool false) rfl (by simp) (tle_bool (by simpa using knh15)) (by conv => lhs; simp)) ?_
            refine Wo.evk 17 (by conv => lhs; simp) ?_
            obtain ⟨w41, h42, h15⟩ := bind_some h15
            refine Wo.mono (Q := fun V => V = [(0, .v (ssl (eL eI) l)), (1, .v (ssl eB m)), (5, .v (.int .i64 i_1)), (6, .v (.bool w41)), (7, .v (.int .i64 k_4))]) ?_ ?_
            · by_cases knh42 : v_8 < 0
              · rw [if_pos knh42] at h42
                refine Wo.gh (vle_co (s := 52) (t1 := .bool true) rfl (by simp) (tle_bool (by simpa using knh42)) (by conv => lhs; simp)) ?_
                refine Wo.evk 7 (by conv => lhs; simp) ?_
                obtain ⟨w44, h45, h42⟩ := bind_some h42
                refine Wo.mono (Q := fun V => V = [(0, .v (ssl (eL eI) l)), (1, .v (ssl eB m)), (5, .v (.int .i64 i_1)), (6, .v (.bool w44)), (7, .v (.int .i64 k_4))]) ?_ ?_
                · by_cases knh45 : v_8 ≥ (w64 (-(m.length : Int)))
                  · rw [if_pos knh45] at h45
                    refine Wo.gh (vle_co (s := 59) (t1 := .bool true) rfl (by simp) (tle_bool (by simpa using knh45)) (by conv => lhs; simp)) ?_
                    obtain ⟨v_46, h47, h45⟩ := bind_some h45
                    obtain ⟨ga47, gb47, gc47⟩ := ix_some h47
                    have gn47 := ix_ne h47
                    have gd47 := arr_at (E := eB) (b := false) gc47
                    simp at gd47
                    refine Wo.evs (by conv => lhs; simp [ga47, gb47, gn47, gd47]) ?_
                    refine Wo.nil ?_
                    cases h45
                    first | rfl | simp [ga47, gb47, gn47, gd47]
                  · rw [if_neg knh45] at h45
                    refine Wo.gh (vle_co (s := 59) (t1 := .bool false) rfl (by simp) (tle_bool (by simpa using knh45)) (by conv => lhs; simp)) ?_
                    refine Wo.evs (by conv => lhs; simp) ?_
                    refine Wo.nil ?_
                    cases h45
                    first | rfl | simp
                · rintro V rfl
                  generalize w44 = is_43 at *
                  try dsimp only at h42
                  cases h42
                  first | rfl | simp
              · rw [if_neg knh42] at h42
                refine Wo.gh (vle_co (s := 52) (t1 := .bool false) rfl (by simp) (tle_bool (by simpa using knh42)) (by conv => lhs; simp)) ?_
                refine Wo.evs (by conv => lhs; simp) ?_
                refine Wo.nil ?_
                cases h42
                first | rfl | simp
            · rintro V rfl
              generalize w41 = is_40 at *
              try dsimp only at h15
              cases h15
              first | rfl | simp
        · rintro V rfl
          generalize w14 = is_13 at *
          try dsimp only at h12
          cases h12
          first | rfl | simp
    · rintro V rfl
      generalize w11 = is_10 at *
      try dsimp only at h
      refine Wc.evs (by conv => lhs; simp) ?_
      refine Wo.nil ?_
      refine Wc.start (V1 := [(0, .v (ssl (eL eI) l)), (1, .v (ssl eB m)), (5, .v (.int .i64 i_1)), (6, .v (.bool is_10)), (7, .v (.int .i64 (w64 (k_4 + 1))))]) ?_ (hk _ (Option.some.inj h).symm)
      first | rfl | simp
  · rw [if_neg kc7] at h
    refine Wc.condF' (t := _) (by conv => lhs; simp) (by simpa using kc7) ?_
    refine Wc.seq ?_
    refine Wc.kil (by conv => lhs; simp) ?_
    refine Wc.exit ?_
    have e0 := hx _ (Option.some.inj h).symm
    subst e0
    exact ⟨rfl, by first | rfl | simp [ga6, gb6, gn6, gd6]⟩
theorem r31_0 {l : (List (List Int))} {m : (List Bool)} : ∀ zs zo, iter (f31_0 l m) zs = some zo → Wc cx 71 (.loop L31_0) [(0, .v (ssl (eL eI) l)), (1, .v (ssl eB m)), (5, .v (.int .i64 zs))] ((QO (QX 0 (fun (y : Unit) => [])) (QR (fun (y : Bool) => [(4, .v (.bool y))]))) zo) := by
  intro zs0 zo0 zh0
  refine iter_run (f := (f31_0 l m)) (P := fun zs zo => Wc cx 71 (.loop L31_0) [(0, .v (ssl (eL eI) l)), (1, .v (ssl eB m)), (5, .v (.int .i64 zs))] ((QO (QX 0 (fun (y : Unit) => [])) (QR (fun (y : Bool) => [(4, .v (.bool y))]))) zo)) ?_ zh0
  rintro i_1 zo zr h hk hx
  try dsimp only at hk ⊢
  rw [f31_0] at h
  refine Wc.loop ?_
  refine Wc.seq ?_
  refine Wc.seq ?_
  refine Wc.evs (by conv => lhs; simp) ?_
  refine Wo.nil ?_
  by_cases kc2 : i_1 < (l.length : Int)
  · rw [if_pos kc2] at h
    refine Wc.condT' (t := _) (by conv => lhs; simp) (by simpa using kc2) ?_
    refine Wc.seq ?_
    refine Wc.kil (by conv => lhs; simp) ?_
    refine Wc.skip ?_
    refine Wc.seq ?_
    refine Wc.block ?_
    refine Wc.seq ?_
    refine Wc.evs (by conv => lhs; simp) ?_
    refine Wo.nil ?_
    refine Wc.seq ?_
    refine Wc.seq ?_
    refine Wc.evs (by conv => lhs; simp) ?_
    refine Wo.nil ?_
    refine Wc.block ?_
    obtain ⟨w48, h49, h⟩ := bind_some h
    refine Wc.start (V1 := [(0, .v (ssl (eL eI) l)), (1, .v (ssl eB m)), (5, .v (.int .i64 i_1)), (6, .v (.bool false)), (7, .v (.int .i64 0))]) (by first | rfl | simp) ?_
    refine Wc.mono (r31_1 _ _ h49) ?_
    generalize w48 = is_50 at *
    rintro ex V ⟨rfl, rfl⟩
    try dsimp only at h
    refine Wc.seq ?_
    refine Wc.evs (by conv => lhs; simp) ?_
    refine Wo.nil ?_
    by_cases kc51 : ¬ (is_50 = true)
    · rw [if_pos kc51] at h
      refine Wc.condT' (t := _) (by conv => lhs; simp) (by simpa using kc51) ?_
      refine Wc.seq ?_
      refine Wc.kil (by conv => lhs; simp) ?_
      refine Wc.seq ?_
      refine Wc.evs (by conv => lhs; simp) ?_
      refine Wo.nil ?_
      refine Wc.ret ?_
      have e0 := hx _ (Option.some.inj h).symm
      subst e0
      exact ⟨rfl, by first | rfl | simp⟩
    · rw [if_neg kc51] at h
      refine Wc.condF' (t := _) (by conv => lhs; simp) (by simpa using kc51) ?_
      refine Wc.seq ?_
      refine Wc.kil (by conv => lhs; simp) ?_
      refine Wc.skip ?_
      refine Wc.evs (by conv => lhs; simp) ?_
      refine Wo.nil ?_
      refine Wc.start (V1 := [(0, .v (ssl (eL eI) l)), (1, .v (ssl eB m)), (5, .v (.int .i64 (w64 (i_1 + 1))))]) ?_ (hk _ (Option.some.inj h).symm)
      first | rfl | simp
  · rw [if_neg kc2] at h
    refine Wc.condF' (t := _) (by conv => lhs; simp) (by simpa using kc2) ?_
    refine Wc.seq ?_
    refine Wc.kil (by conv => lhs; simp) ?_
    refine Wc.exit ?_
    have e0 := hx _ (Option.some.inj h).symm
    subst e0
    exact ⟨rfl, by first | rfl | simp⟩
theorem r31 {l : (List (List Int))} {m : (List Bool)} {r : Bool} (h : f31 l m = some r) : VJx cx (.ca 31 [(ssl (eL eI) l), (ssl eB m)] (.bool r) []) := by
  unfold f31 at h
  refine ca_of rfl rfl (by decide) rfl ?_
  refine Wc.start (V1 := [(0, .v (ssl (eL eI) l)), (1, .v (ssl eB m))]) (by simp) ?_
  refine Wc.seq ?_
  refine Wc.evs (by conv => lhs; simp) ?_
  refine Wo.nil ?_
  refine Wc.seq ?_
  refine Wc.seq ?_
  refine Wc.evs (by conv => lhs; simp) ?_
  refine Wo.nil ?_
  refine Wc.block ?_
  obtain ⟨w52, h53, h⟩ := bind_some h
  refine Wc.start (V1 := [(0, .v (ssl (eL eI) l)), (1, .v (ssl eB m)), (5, .v (.int .i64 0))]) (by first | rfl | simp) ?_
  refine Wc.mono (r31_0 _ _ h53) ?_
  rcases w52 with ⟨⟩ | x_54
  · rintro ex V ⟨rfl, rfl⟩
    try dsimp only at h
    refine Wc.seq ?_
    refine Wc.evs (by conv => lhs; simp) ?_
    refine Wo.nil ?_
    refine Wc.ret (res_of (.inr rfl) ?_)
    cases h
    exact ⟨_, _, _, by conv => lhs; simp, by (conv => lhs; simp [cx, ioTab, List.range, List.range.loop]) <;> rfl, by first | rfl | simp⟩
  · rintro ex V ⟨rfl, rfl⟩
    try dsimp only at h
    refine res_of (.inr rfl) ?_
    cases h
    exact ⟨_, _, _, by conv => lhs; simp, by (conv => lhs; simp [cx, ioTab, List.range, List.range.loop]) <;> rfl, by first | rfl | simp⟩
theorem r39_1 {n0 : Int} {l : (List (List Int))} {out_4 : Int} {k_5 : Int} : ∀ zs zo, iter (f39_1 n0 k_5) zs = some zo → Wc cx 39 (.loop L39_1) [(0, .v (.int .i64 n0)), (1, .v (ssl (eL eI) l)), (5, .v (.int .i64 out_4)), (6, .v (.int .i64 k_5)), (7, .v (osl eB true zs.1)), (8, .v (.int .i64 zs.2))] ((QX 2 (fun (y : (List Bool)) => [(0, .v (.int .i64 n0)), (1, .v (ssl (eL eI) l)), (5, .v (.int .i64 out_4)), (6, .v (.int .i64 k_5)), (7, .v (osl eB true y))])) zo) := by
  intro zs0 zo0 zh0
  refine iter_run (f := (f39_1 n0 k_5)) (P := fun zs zo => Wc cx 39 (.loop L39_1) [(0, .v (.int .i64 n0)), (1, .v (ssl (eL eI) l)), (5, .v (.int .i64 out_4)), (6, .v (.int .i64 k_5)), (7, .v (osl eB true zs.1)), (8, .v (.int .i64 zs.2))] ((QX 2 (fun (y : (List Bool)) => [(0, .v (.int .i64 n0)), (1, .v (ssl (eL eI) l)), (5, .v (.int .i64 out_4)), (6, .v (.int .i64 k_5)), (7, .v (osl eB true y))])) zo)) ?_ zh0
  rintro ⟨m_9, v_10⟩ zo zr h hk hx
  try dsimp only at hk ⊢
  rw [f39_1] at h
  refine Wc.loop ?_
  refine Wc.seq ?_
  refine Wc.seq ?_
  refine Wc.evs (by conv => lhs; simp) ?_
  refine Wo.nil ?_
  by_cases kc11 : v_10 < n0
  · rw [if_pos kc11] at h
    refine Wc.condT' (t := _) (by conv => lhs; simp) (by simpa using kc11) ?_
    refine Wc.seq ?_
    refine Wc.kil (by conv => lhs; simp) ?_
    refine Wc.skip ?_
    refine Wc.seq ?_
    refine Wc.block ?_
    obtain ⟨z_12, h13, h⟩ := bind_some h
    have gz13 := nn_some h13
    obtain ⟨l_14, h15, h⟩ := bind_some h
    have gx15 := appT_arr (E := eB) (b := true) (y := true) h15 (by decide)
    simp at gx15
    refine Wc.evs (by conv => lhs; simp [gz13, gx15]) ?_
    refine Wo.nil ?_
    refine Wc.evs (by conv => lhs; simp) ?_
    refine Wo.nil ?_
    refine Wc.start (V1 := [(0, .v (.int .i64 n0)), (1, .v (ssl (eL eI) l)), (5, .v (.int .i64 out_4)), (6, .v (.int .i64 k_5)), (7, .v (osl eB true l_14)), (8, .v (.int .i64 (w64 (v_10 + 1))))]) ?_ (hk _ (Option.some.inj h).symm)
    first | rfl | simp
  · rw [if_neg kc11] at h
    refine Wc.condF' (t := _) (by conv => lhs; simp) (by simpa using kc11) ?_
    refine Wc.seq ?_
    refine Wc.kil (by conv => lhs; simp) ?_
    refine Wc.exit ?_
    have e0 := hx _ (Option.some.inj h).symm
    subst e0
    exact ⟨rfl, by first | rfl | simp⟩
theorem r39_0 {n0 : Int} {l : (List (List Int))} : ∀ zs zo, iter (f39_0 n0 l) zs = some zo → Wc cx 39 (.loop L39_0) [(0, .v (.int .i64 n0)), (1, .v (ssl (eL eI) l)), (5, .v (.int .i64 zs.1)), (6, .v (.int .i64 zs.2))] ((QX 0 (fun (y : Int) => [(5, .v (.int .i64 y))])) zo) := by
  intro zs0 zo0 zh0
  refine iter_run (f := (f39_0 n0 l)) (P := fun zs zo => Wc cx 39 (.loop L39_0) [(0, .v (.int .i64 n0)), (1, .v (ssl (eL eI) l)), (5, .v (.int .i64 zs.1)), (6, .v (.int .i64 zs.2))] ((QX 0 (fun (y : Int) => [(5, .v (.int .i64 y))])) zo)) ?_ zh0
  rintro ⟨out_4, k_5⟩ zo zr h hk hx
  try dsimp only at hk ⊢
  rw [f39_0] at h
  refine Wc.loop ?_
  refine Wc.seq ?_
  refine Wc.seq ?_
  obtain ⟨z_6, h7, h⟩ := bind_some h
  have gz7 := nn_some h7
  refine Wc.evs (by conv => lhs; simp [gz7]) ?_
  refine Wo.nil ?_
  by_cases kc8 : k_5 < (sshl .i64 1 n0)
  · rw [if_pos kc8] at h
    refine Wc.condT' (t := _) (by conv => lhs; simp) (by simpa using kc8) ?_
    refine Wc.seq ?_
    refine Wc.kil (by conv => lhs; simp) ?_
    refine Wc.skip ?_
    refine Wc.seq ?_
    refine Wc.block ?_
    refine Wc.seq ?_
    refine Wc.evs (by conv => lhs; simp) ?_
    refine Wo.gh (vle_co (s := 7) (t1 := (osl eB true ([]))) rfl (by simp) (TLe.own (show TLes _ [] from (TLes.refl _)) rfl) (by conv => lhs; simp)) ?_
    refine Wo.nil ?_
    refine Wc.seq ?_
    refine Wc.seq ?_
    refine Wc.evs (by conv => lhs; simp) ?_
    refine Wo.nil ?_
    refine Wc.block ?_
    obtain ⟨w16, h17, h⟩ := bind_some h
    refine Wc.start (V1 := [(0, .v (.int .i64 n0)), (1, .v (ssl (eL eI) l)), (5, .v (.int .i64 out_4)), (6, .v (.int .i64 k_5)), (7, .v (osl eB true ([]))), (8, .v (.int .i64 0))]) (by first | rfl | simp) ?_
    refine Wc.mono (r39_1 _ _ h17) ?_
    generalize w16 = m_18 at *
    rintro ex V ⟨rfl, rfl⟩
    try dsimp only at h
    refine Wc.seq ?_
    refine Wc.evs (by conv => lhs; simp) ?_
    obtain ⟨o19, h20, h⟩ := bind_some h
    refine Wo.call (by simp) rfl (by (conv => lhs; simp [cx, ioTab]) <;> rfl) (r31 h20) (by simp) (by simp) (by (conv => lhs; simp [cx, ioTab]) <;> rfl) (by (conv => lhs; simp) <;> rfl) ?_
    refine Wo.nil ?_
    obtain ⟨w21, h22, h⟩ := bind_some h
    refine Wc.mono (Q := (QN (fun (y : Int) => [(0, .v (.int .i64 n0)), (1, .v (ssl (eL eI) l)), (5, .v (.int .i64 y)), (6, .v (.int .i64 k_5))])) w21) ?_ ?_
    · skip
      by_cases kc23 : o19 = true
      · rw [if_pos kc23] at h22
        refine Wc.condT' (t := _) (by conv => lhs; simp) (by simpa using kc23) ?_
        refine Wc.seq ?_
        refine Wc.kil (by conv => lhs; simp) ?_
        refine Wc.evs (by conv => lhs; simp) ?_
        refine Wo.nil ?_
        cases h22
        exact ⟨rfl, by first | rfl | simp⟩
      · rw [if_neg kc23] at h22
        refine Wc.condF' (t := _) (by conv => lhs; simp) (by simpa using kc23) ?_
        refine Wc.seq ?_
        refine Wc.kil (by conv => lhs; simp) ?_
        refine Wc.skip ?_
        cases h22
        exact ⟨rfl, by first | rfl | simp⟩
    · skip
      generalize w21 = out_24 at *
      rintro ex V ⟨rfl, rfl⟩
      try dsimp only at h
      refine Wc.evs (by conv => lhs; simp) ?_
      refine Wo.nil ?_
      refine Wc.start (V1 := [(0, .v (.int .i64 n0)), (1, .v (ssl (eL eI) l)), (5, .v (.int .i64 out_24)), (6, .v (.int .i64 (w64 (k_5 + 1))))]) ?_ (hk _ (Option.some.inj h).symm)
      first | rfl | simp
  · rw [if_neg kc8] at h
    refine Wc.condF' (t := _) (by conv => lhs; simp) (by simpa using kc8) ?_
    refine Wc.seq ?_
    refine Wc.kil (by conv => lhs; simp) ?_
    refine Wc.exit ?_
    have e0 := hx _ (Option.some.inj h).symm
    subst e0
    exact ⟨rfl, by first | rfl | simp [gz7]⟩
theorem r39 {n0 : Int} {l : (List (List Int))} {r : Int} (h : f39 n0 l = some r) : VJx cx (.ca 39 [(.int .i64 n0), (ssl (eL eI) l)] (.int .i64 r) []) := by
  unfold f39 at h
  refine ca_of rfl rfl (by decide) rfl ?_
  refine Wc.start (V1 := [(0, .v (.int .i64 n0)), (1, .v (ssl (eL eI) l))]) (by simp) ?_
  refine Wc.seq ?_
  refine Wc.evs (by conv => lhs; simp) ?_
  refine Wo.nil ?_
  refine Wc.seq ?_
  refine Wc.seq ?_
  refine Wc.evs (by conv => lhs; simp) ?_
  obtain ⟨o1, h2, h⟩ := bind_some h
  refine Wo.call (by simp) rfl (by (conv => lhs; simp [cx, ioTab]) <;> rfl) (r33 h2) (by simp) (by simp) (by (conv => lhs; simp [cx, ioTab]) <;> rfl) (by (conv => lhs; simp) <;> rfl) ?_
  refine Wo.evs (by conv => lhs; simp) ?_
  refine Wo.nil ?_
  by_cases kc3 : ¬ (o1 = true)
  · rw [if_pos kc3] at h
    refine Wc.condT' (t := _) (by conv => lhs; simp) (by simpa using kc3) ?_
    refine Wc.seq ?_
    refine Wc.kil (by conv => lhs; simp) ?_
    refine Wc.seq ?_
    refine Wc.evs (by conv => lhs; simp) ?_
    refine Wo.nil ?_
    refine Wc.ret (res_of (.inr rfl) ?_)
    cases h
    exact ⟨_, _, _, by conv => lhs; simp, by (conv => lhs; simp [cx, ioTab, List.range, List.range.loop]) <;> rfl, by first | rfl | simp⟩
  · rw [if_neg kc3] at h
    refine Wc.condF' (t := _) (by conv => lhs; simp) (by simpa using kc3) ?_
    refine Wc.seq ?_
    refine Wc.kil (by conv => lhs; simp) ?_
    refine Wc.skip ?_
    refine Wc.seq ?_
    refine Wc.evs (by conv => lhs; simp) ?_
    refine Wo.nil ?_
    refine Wc.seq ?_
    refine Wc.seq ?_
    refine Wc.evs (by conv => lhs; simp) ?_
    refine Wo.nil ?_
    refine Wc.block ?_
    obtain ⟨w25, h26, h⟩ := bind_some h
    refine Wc.start (V1 := [(0, .v (.int .i64 n0)), (1, .v (ssl (eL eI) l)), (5, .v (.int .i64 0)), (6, .v (.int .i64 0))]) (by first | rfl | simp) ?_
    refine Wc.mono (r39_0 _ _ h26) ?_
    generalize w25 = out_27 at *
    rintro ex V ⟨rfl, rfl⟩
    try dsimp only at h
    refine Wc.seq ?_
    refine Wc.evs (by conv => lhs; simp) ?_
    refine Wo.nil ?_
    refine Wc.ret (res_of (.inr rfl) ?_)
    cases h
    exact ⟨_, _, _, by conv => lhs; simp, by (conv => lhs; simp [cx, ioTab, List.range, List.range.loop]) <;> rfl, by first | rfl | simp⟩
theorem r75 {n0 : Int} {low : Int} {high : Int} {r : Bool} (h : f75 n0 low high = some r) : VJx cx (.ca 75 [(.int .i64 n0), (.int .i64 low), (.int .i64 high)] (.bool r) []) := by
  unfold f75 at h
  refine ca_of rfl rfl (by decide) rfl ?_
  refine Wc.start (V1 := [(0, .v (.int .i64 n0)), (1, .v (.int .i64 low)), (2, .v (.int .i64 high))]) (by simp) ?_
  refine Wc.seq ?_
  refine Wc.evs (by conv => lhs; simp) ?_
  refine Wo.nil ?_
  refine Wc.seq ?_
  refine Wc.evk 4 (by conv => lhs; simp) ?_
  obtain ⟨w2, h3, h⟩ := bind_some h
  refine Wo.mono (Q := fun V => V = [(6, .v (.bool w2))]) ?_ ?_
  · by_cases knh3 : low ≤ n0
    · rw [if_pos knh3] at h3
      refine Wo.gh (vle_co (s := 10) (t1 := .bool true) rfl (by simp) (tle_bool (by simpa using knh3)) (by conv => lhs; simp)) ?_
      refine Wo.evs (by conv => lhs; simp) ?_
      refine Wo.nil ?_
      cases h3
      first | rfl | simp
    · rw [if_neg knh3] at h3
      refine Wo.gh (vle_co (s := 10) (t1 := .bool false) rfl (by simp) (tle_bool (by simpa using knh3)) (by conv => lhs; simp)) ?_
      refine Wo.evs (by conv => lhs; simp) ?_
      refine Wo.nil ?_
      cases h3
      first | rfl | simp
  · rintro V rfl
    generalize w2 = x_1 at *
    try dsimp only at h
    refine Wc.ret (res_of (.inr rfl) ?_)
    cases h
    exact ⟨_, _, _, by conv => lhs; simp, by (conv => lhs; simp [cx, ioTab, List.range, List.range.loop]) <;> rfl, by first | rfl | simp⟩
theorem r71_0 {g_f : Nat} {cp_f : List T} {f : (List Int) → Option Bool} (hio_f : cx.io g_f = []) (hp_f : ∀ x0 o, f x0 = some o → VJx cx (.ca g_f ([(ssl eI x0)] ++ cp_f) (.bool o) [])) {s0 : (List (List Int))} : ∀ zs zo, iter (f71_0 s0 f) zs = some zo → Wc cx 19 (.loop L71_0) [(0, .v (ssl (eL eI) s0)), (1, .v (.fn g_f cp_f)), (7, .v (.int .i64 (s0.length : Int))), (8, .v (.int .i64 zs))] ((QO (QX 0 (fun (y : Unit) => [])) (QR (fun (y : Int) => [(4, .v (.int .i64 y))]))) zo) := by
  intro zs0 zo0 zh0
  refine iter_run (f := (f71_0 s0 f)) (P := fun zs zo => Wc cx 19 (.loop L71_0) [(0, .v (ssl (eL eI) s0)), (1, .v (.fn g_f cp_f)), (7, .v (.int .i64 (s0.length : Int))), (8, .v (.int .i64 zs))] ((QO (QX 0 (fun (y : Unit) => [])) (QR (fun (y : Int) => [(4, .v (.int .i64 y))]))) zo)) ?_ zh0
  rintro x_1 zo zr h hk hx
  try dsimp only at hk ⊢
  rw [f71_0] at h
  refine Wc.loop ?_
  refine Wc.seq ?_
  refine Wc.evs (by conv => lhs; simp) ?_
  refine Wo.nil ?_
  refine Wc.seq ?_
  by_cases kc2 : x_1 < (s0.length : Int)
  · rw [if_pos kc2] at h
    refine Wc.condT' (t := _) (by conv => lhs; simp) (by simpa using kc2) ?_
    refine Wc.seq ?_
    refine Wc.kil (by conv => lhs; simp) ?_
    refine Wc.skip ?_
    refine Wc.seq ?_
    refine Wc.block ?_
    refine Wc.seq ?_
    refine Wc.evs (by conv => lhs; simp) ?_
    refine Wo.nil ?_
    refine Wc.seq ?_
    obtain ⟨v_3, h4, h⟩ := bind_some h
    obtain ⟨ga4, gb4, gc4⟩ := ix_some h4
    have gn4 := ix_ne h4
    have gd4 := arr_at (E := (eL eI)) (b := false) gc4
    simp at gd4
    refine Wc.evs (by conv => lhs; simp [ga4, gb4, gn4, gd4]) ?_
    obtain ⟨o5, h6, h⟩ := bind_some h
    refine Wo.call rfl rfl (by (conv => lhs; simp [ga4, gb4, gn4, gd4, hio_f]) <;> rfl) (hp_f v_3 _ h6) (by simp) (by simp) (by (conv => lhs; simp [ga4, gb4, gn4, gd4, hio_f]) <;> rfl) (by (conv => lhs; simp [ga4, gb4, gn4, gd4]) <;> rfl) ?_
    refine Wo.nil ?_
    by_cases kc7 : o5 = true
    · rw [if_pos kc7] at h
      refine Wc.condT' (t := _) (by conv => lhs; simp) (by simpa using kc7) ?_
      refine Wc.seq ?_
      refine Wc.kil (by conv => lhs; simp) ?_
      refine Wc.seq ?_
      refine Wc.evs (by conv => lhs; simp) ?_
      refine Wo.nil ?_
      refine Wc.ret ?_
      have e0 := hx _ (Option.some.inj h).symm
      subst e0
      exact ⟨rfl, by first | rfl | simp⟩
    · rw [if_neg kc7] at h
      refine Wc.condF' (t := _) (by conv => lhs; simp) (by simpa using kc7) ?_
      refine Wc.seq ?_
      refine Wc.kil (by conv => lhs; simp) ?_
      refine Wc.skip ?_
      refine Wc.evs (by conv => lhs; simp) ?_
      refine Wo.nil ?_
      refine Wc.start (V1 := [(0, .v (ssl (eL eI) s0)), (1, .v (.fn g_f cp_f)), (7, .v (.int .i64 (s0.length : Int))), (8, .v (.int .i64 (w64 (x_1 + 1))))]) ?_ (hk _ (Option.some.inj h).symm)
      first | rfl | simp
  · rw [if_neg kc2] at h
    refine Wc.condF' (t := _) (by conv => lhs; simp) (by simpa using kc2) ?_
    refine Wc.seq ?_
    refine Wc.kil (by conv => lhs; simp) ?_
    refine Wc.exit ?_
    have e0 := hx _ (Option.some.inj h).symm
    subst e0
    exact ⟨rfl, by first | rfl | simp⟩
theorem r71 {s0 : (List (List Int))} {g_f : Nat} {cp_f : List T} {f : (List Int) → Option Bool} (hio_f : cx.io g_f = []) (hp_f : ∀ x0 o, f x0 = some o → VJx cx (.ca g_f ([(ssl eI x0)] ++ cp_f) (.bool o) [])) {r : Int} (h : f71 s0 f = some r) : VJx cx (.ca 71 [(ssl (eL eI) s0), (.fn g_f cp_f)] (.int .i64 r) []) := by
  unfold f71 at h
  refine ca_of rfl rfl (by decide) rfl ?_
  refine Wc.start (V1 := [(0, .v (ssl (eL eI) s0)), (1, .v (.fn g_f cp_f))]) (by simp) ?_
  refine Wc.seq ?_
  refine Wc.evs (by conv => lhs; simp) ?_
  refine Wo.nil ?_
  refine Wc.seq ?_
  refine Wc.seq ?_
  refine Wc.evs (by conv => lhs; simp) ?_
  refine Wo.nil ?_
  refine Wc.block ?_
  obtain ⟨w8, h9, h⟩ := bind_some h
  refine Wc.start (V1 := [(0, .v (ssl (eL eI) s0)), (1, .v (.fn g_f cp_f)), (7, .v (.int .i64 (s0.length : Int))), (8, .v (.int .i64 0))]) (by first | rfl | simp) ?_
  refine Wc.mono (r71_0 hio_f hp_f _ _ h9) ?_
  rcases w8 with ⟨⟩ | x_10
  · rintro ex V ⟨rfl, rfl⟩
    try dsimp only at h
    refine Wc.seq ?_
    refine Wc.evs (by conv => lhs; simp) ?_
    refine Wo.nil ?_
    refine Wc.ret (res_of (.inr rfl) ?_)
    cases h
    exact ⟨_, _, _, by conv => lhs; simp, by (conv => lhs; simp [cx, ioTab, List.range, List.range.loop]) <;> rfl, by first | rfl | simp⟩
  · rintro ex V ⟨rfl, rfl⟩
    try dsimp only at h
    refine res_of (.inr rfl) ?_
    cases h
    exact ⟨_, _, _, by conv => lhs; simp, by (conv => lhs; simp [cx, ioTab, List.range, List.range.loop]) <;> rfl, by first | rfl | simp⟩
theorem r53 {s0 : (List (List Int))} {g_f : Nat} {cp_f : List T} {f : (List Int) → Option Bool} (hio_f : cx.io g_f = []) (hp_f : ∀ x0 o, f x0 = some o → VJx cx (.ca g_f ([(ssl eI x0)] ++ cp_f) (.bool o) [])) {r : Bool} (h : f53 s0 f = some r) : VJx cx (.ca 53 [(ssl (eL eI) s0), (.fn g_f cp_f)] (.bool r) []) := by
  unfold f53 at h
  refine ca_of rfl rfl (by decide) rfl ?_
  refine Wc.start (V1 := [(0, .v (ssl (eL eI) s0)), (1, .v (.fn g_f cp_f))]) (by simp) ?_
  refine Wc.seq ?_
  refine Wc.evs (by conv => lhs; simp) ?_
  refine Wo.nil ?_
  refine Wc.seq ?_
  refine Wc.evs (by conv => lhs; simp) ?_
  obtain ⟨o1, h2, h⟩ := bind_some h
  refine Wo.call (by simp) rfl (by (conv => lhs; simp [cx, ioTab]) <;> rfl) (r71 hio_f hp_f h2) (by simp) (by simp) (by (conv => lhs; simp [cx, ioTab]) <;> rfl) (by (conv => lhs; simp) <;> rfl) ?_
  refine Wo.evs (by conv => lhs; simp) ?_
  refine Wo.nil ?_
  refine Wc.ret (res_of (.inr rfl) ?_)
  cases h
  exact ⟨_, _, _, by conv => lhs; simp, by (conv => lhs; simp [cx, ioTab, List.range, List.range.loop]) <;> rfl, by first | rfl | simp⟩
theorem r83_0 {s0 : (List Int)} {v : Int} : ∀ zs zo, iter (f83_0 s0 v) zs = some zo → Wc cx 19 (.loop L83_0) [(0, .v (ssl eI s0)), (1, .v (.int .i64 v)), (7, .v (.int .i64 (s0.length : Int))), (8, .v (.int .i64 zs))] ((QO (QX 0 (fun (y : Unit) => [])) (QR (fun (y : Int) => [(4, .v (.int .i64 y))]))) zo) := by
  intro zs0 zo0 zh0
  refine iter_run (f := (f83_0 s0 v)) (P := fun zs zo => Wc cx 19 (.loop L83_0) [(0, .v (ssl eI s0)), (1, .v (.int .i64 v)), (7, .v (.int .i64 (s0.length : Int))), (8, .v (.int .i64 zs))] ((QO (QX 0 (fun (y : Unit) => [])) (QR (fun (y : Int) => [(4, .v (.int .i64 y))]))) zo)) ?_ zh0
  rintro x_1 zo zr h hk hx
  try dsimp only at hk ⊢
  rw [f83_0] at h
  refine Wc.loop ?_
  refine Wc.seq ?_
  refine Wc.evs (by conv => lhs; simp) ?_
  refine Wo.nil ?_
  refine Wc.seq ?_
  by_cases kc2 : x_1 < (s0.length : Int)
  · rw [if_pos kc2] at h
    refine Wc.condT' (t := _) (by conv => lhs; simp) (by simpa using kc2) ?_
    refine Wc.seq ?_
    refine Wc.kil (by conv => lhs; simp) ?_
    refine Wc.skip ?_
    refine Wc.seq ?_
    refine Wc.block ?_
    refine Wc.seq ?_
    refine Wc.evs (by conv => lhs; simp) ?_
    refine Wo.nil ?_
    refine Wc.seq ?_
    obtain ⟨v_3, h4, h⟩ := bind_some h
    obtain ⟨ga4, gb4, gc4⟩ := ix_some h4
    have gn4 := ix_ne h4
    have gd4 := arr_at (E := eI) (b := false) gc4
    simp at gd4
    refine Wc.evs (by conv => lhs; simp [ga4, gb4, gn4, gd4]) ?_
    refine Wo.nil ?_
    by_cases kc5 : v = v_3
    · rw [if_pos kc5] at h
      refine Wc.condT' (t := _) (by conv => lhs; simp) (by simpa using kc5) ?_
      refine Wc.seq ?_
      refine Wc.kil (by conv => lhs; simp) ?_
      refine Wc.seq ?_
      refine Wc.evs (by conv => lhs; simp) ?_
      refine Wo.nil ?_
      refine Wc.ret ?_
      have e0 := hx _ (Option.some.inj h).symm
      subst e0
      exact ⟨rfl, by first | rfl | simp⟩
    · rw [if_neg kc5] at h
      refine Wc.condF' (t := _) (by conv => lhs; simp) (by simpa using kc5) ?_
      refine Wc.seq ?_
      refine Wc.kil (by conv => lhs; simp) ?_
      refine Wc.skip ?_
      refine Wc.evs (by conv => lhs; simp) ?_
      refine Wo.nil ?_
      refine Wc.start (V1 := [(0, .v (ssl eI s0)), (1, .v (.int .i64 v)), (7, .v (.int .i64 (s0.length : Int))), (8, .v (.int .i64 (w64 (x_1 + 1))))]) ?_ (hk _ (Option.some.inj h).symm)
      first | rfl | simp
  · rw [if_neg kc2] at h
    refine Wc.condF' (t := _) (by conv => lhs; simp) (by simpa using kc2) ?_
    refine Wc.seq ?_
    refine Wc.kil (by conv => lhs; simp) ?_
    refine Wc.exit ?_
    have e0 := hx _ (Option.some.inj h).symm
    subst e0
    exact ⟨rfl, by first | rfl | simp⟩
theorem r83 {s0 : (List Int)} {v : Int} {r : Int} (h : f83 s0 v = some r) : VJx cx (.ca 83 [(ssl eI s0), (.int .i64 v)] (.int .i64 r) []) := by
  unfold f83 at h
  refine ca_of rfl rfl (by decide) rfl ?_
  refine Wc.start (V1 := [(0, .v (ssl eI s0)), (1, .v (.int .i64 v))]) (by simp) ?_
  refine Wc.seq ?_
  refine Wc.evs (by conv => lhs; simp) ?_
  refine Wo.nil ?_
  refine Wc.seq ?_
  refine Wc.seq ?_
  refine Wc.evs (by conv => lhs; simp) ?_
  refine Wo.nil ?_
  refine Wc.block ?_
  obtain ⟨w6, h7, h⟩ := bind_some h
  refine Wc.start (V1 := [(0, .v (ssl eI s0)), (1, .v (.int .i64 v)), (7, .v (.int .i64 (s0.length : Int))), (8, .v (.int .i64 0))]) (by first | rfl | simp) ?_
  refine Wc.mono (r83_0 _ _ h7) ?_
  rcases w6 with ⟨⟩ | x_8
  · rintro ex V ⟨rfl, rfl⟩
    try dsimp only at h
    refine Wc.seq ?_
    refine Wc.evs (by conv => lhs; simp) ?_
    refine Wo.nil ?_
    refine Wc.ret (res_of (.inr rfl) ?_)
    cases h
    exact ⟨_, _, _, by conv => lhs; simp, by (conv => lhs; simp [cx, ioTab, List.range, List.range.loop]) <;> rfl, by first | rfl | simp⟩
  · rintro ex V ⟨rfl, rfl⟩
    try dsimp only at h
    refine res_of (.inr rfl) ?_
    cases h
    exact ⟨_, _, _, by conv => lhs; simp, by (conv => lhs; simp [cx, ioTab, List.range, List.range.loop]) <;> rfl, by first | rfl | simp⟩
theorem r73 {s0 : (List Int)} {v : Int} {r : Bool} (h : f73 s0 v = some r) : VJx cx (.ca 73 [(ssl eI s0), (.int .i64 v)] (.bool r) []) := by
  unfold f73 at h
  refine ca_of rfl rfl (by decide) rfl ?_
  refine Wc.start (V1 := [(0, .v (ssl eI s0)), (1, .v (.int .i64 v))]) (by simp) ?_
  refine Wc.seq ?_
  refine Wc.evs (by conv => lhs; simp) ?_
  refine Wo.nil ?_
  refine Wc.seq ?_
  refine Wc.evs (by conv => lhs; simp) ?_
  obtain ⟨o1, h2, h⟩ := bind_some h
  refine Wo.call (by simp) rfl (by (conv => lhs; simp [cx, ioTab]) <;> rfl) (r83 h2) (by simp) (by simp) (by (conv => lhs; simp [cx, ioTab]) <;> rfl) (by (conv => lhs; simp) <;> rfl) ?_
  refine Wo.evs (by conv => lhs; simp) ?_
  refine Wo.nil ?_
  refine Wc.ret (res_of (.inr rfl) ?_)
  cases h
  exact ⟨_, _, _, by conv => lhs; simp, by (conv => lhs; simp [cx, ioTab, List.range, List.range.loop]) <;> rfl, by first | rfl | simp⟩
theorem r63_0 {n0 : Int} {clause : (List Int)} : ∀ zs zo, iter (f63_0 n0 clause) zs = some zo → Wc cx 40 (.loop L63_0) [(0, .v (.int .i64 n0)), (1, .v (ssl eI clause)), (7, .v (ssl eI clause)), (8, .v (.int .i64 (clause.length : Int))), (9, .v (.int .i64 zs))] ((QO (QX 0 (fun (y : Unit) => [])) (QR (fun (y : Bool) => [(4, .v (.bool y))]))) zo) := by
  intro zs0 zo0 zh0
  refine iter_run (f := (f63_0 n0 clause)) (P := fun zs zo => Wc cx 40 (.loop L63_0) [(0, .v (.int .i64 n0)), (1, .v (ssl eI clause)), (7, .v (ssl eI clause)), (8, .v (.int .i64 (clause.length : Int))), (9, .v (.int .i64 zs))] ((QO (QX 0 (fun (y : Unit) => [])) (QR (fun (y : Bool) => [(4, .v (.bool y))]))) zo)) ?_ zh0
  rintro x_1 zo zr h hk hx
  try dsimp only at hk ⊢
  rw [f63_0] at h
  refine Wc.loop ?_
  refine Wc.seq ?_
  refine Wc.evs (by conv => lhs; simp) ?_
  refine Wo.nil ?_
  refine Wc.seq ?_
  by_cases kc2 : x_1 < (clause.length : Int)
  · rw [if_pos kc2] at h
    refine Wc.condT' (t := _) (by conv => lhs; simp) (by simpa using kc2) ?_
    refine Wc.seq ?_
    refine Wc.kil (by conv => lhs; simp) ?_
    refine Wc.skip ?_
    refine Wc.seq ?_
    refine Wc.block ?_
    refine Wc.seq ?_
    obtain ⟨v_3, h4, h⟩ := bind_some h
    obtain ⟨ga4, gb4, gc4⟩ := ix_some h4
    have gn4 := ix_ne h4
    have gd4 := arr_at (E := eI) (b := false) gc4
    simp at gd4
    refine Wc.evs (by conv => lhs; simp [ga4, gb4, gn4, gd4]) ?_
    refine Wo.nil ?_
    refine Wc.seq ?_
    refine Wc.evk 3 (by conv => lhs; simp) ?_
    obtain ⟨w6, h7, h⟩ := bind_some h
    refine Wo.mono (Q := fun V => V = [(0, .v (.int .i64 n0)), (1, .v (ssl eI clause)), (7, .v (ssl eI clause)), (8, .v (.int .i64 (clause.length : Int))), (9, .v (.int .i64 x_1)), (38, .v (.bool w6))]) ?_ ?_
    · by_cases knh7 : v_3 = 0
      · rw [if_pos knh7] at h7
        refine Wo.gh (vle_co (s := 16) (t1 := .bool true) rfl (by simp) (tle_bool (by simpa using knh7)) (by conv => lhs; simp)) ?_
        refine Wo.evs (by conv => lhs; simp) ?_
        refine Wo.nil ?_
        cases h7
        first | rfl | simp
      · rw [if_neg knh7] at h7
        refine Wo.gh (vle_co (s := 16) (t1 := .bool false) rfl (by simp) (tle_bool (by simpa using knh7)) (by conv => lhs; simp)) ?_
        refine Wo.evs (by conv => lhs; simp) ?_
        obtain ⟨o8, h9, h7⟩ := bind_some h7
        refine Wo.call (by simp) rfl (by (conv => lhs; simp [cx, ioTab]) <;> rfl) (r75 h9) (by simp) (by simp) (by (conv => lhs; simp [cx, ioTab]) <;> rfl) (by (conv => lhs; simp) <;> rfl) ?_
        refine Wo.evk 3 (by conv => lhs; simp) ?_
        obtain ⟨w11, h12, h7⟩ := bind_some h7
        refine Wo.mono (Q := fun V => V = [(0, .v (.int .i64 n0)), (1, .v (ssl eI clause)), (7, .v (ssl eI clause)), (8, .v (.int .i64 (clause.length : Int))), (9, .v (.int .i64 x_1)), (38, .v (.bool w11))]) ?_ ?_
        · by_cases knh12 : ¬ (o8 = true)
          · rw [if_pos knh12] at h12
            refine Wo.gh (vle_co (s := 24) (t1 := .bool true) rfl (by simp) (tle_bool (by simpa using knh12)) (by conv => lhs; simp)) ?_
            refine Wo.evs (by conv => lhs; simp) ?_
            refine Wo.nil ?_
            cases h12
            first | rfl | simp
          · rw [if_neg knh12] at h12
            refine Wo.gh (vle_co (s := 24) (t1 := .bool false) rfl (by simp) (tle_bool (by simpa using knh12)) (by conv => lhs; simp)) ?_
            obtain ⟨l_13, h14, h12⟩ := bind_some h12
            obtain ⟨ga14, gb14, gc14, ge14⟩ := cut_some h14
            simp at ge14
            refine Wo.evs (by conv => lhs; simp [ga14, gb14, gc14, ge14]) ?_
            obtain ⟨o15, h16, h12⟩ := bind_some h12
            refine Wo.call (by simp [ga14, gb14, gc14, ge14]) rfl (by (conv => lhs; simp [ga14, gb14, gc14, ge14, cx, ioTab]) <;> rfl) (r73 h16) (by simp) (by simp) (by (conv => lhs; simp [ga14, gb14, gc14, ge14, cx, ioTab]) <;> rfl) (by (conv => lhs; simp [ga14, gb14, gc14, ge14]) <;> rfl) ?_
            refine Wo.evk 2 (by conv => lhs; simp [ga14, gb14, gc14, ge14]) ?_
            obtain ⟨w18, h19, h12⟩ := bind_some h12
            refine Wo.mono (Q := fun V => V = [(0, .v (.int .i64 n0)), (1, .v (ssl eI clause)), (7, .v (ssl eI clause)), (8, .v (.int .i64 (clause.length : Int))), (9, .v (.int .i64 x_1)), (38, .v (.bool w18))]) ?_ ?_
            · by_cases knh19 : o15 = true
              · rw [if_pos knh19] at h19
                refine Wo.gh (vle_co (s := 31) (t1 := .bool true) rfl (by simp) (tle_bool (by simpa using knh19)) (by conv => lhs; simp)) ?_
                refine Wo.evs (by conv => lhs; simp [ga14, gb14, gc14, ge14]) ?_
                refine Wo.nil ?_
                cases h19
                first | rfl | simp [ga14, gb14, gc14, ge14]
              · rw [if_neg knh19] at h19
                refine Wo.gh (vle_co (s := 31) (t1 := .bool false) rfl (by simp) (tle_bool (by simpa using knh19)) (by conv => lhs; simp)) ?_
                refine Wo.evs (by conv => lhs; simp [ga14, gb14, gc14, ge14]) ?_
                obtain ⟨o20, h21, h19⟩ := bind_some h19
                refine Wo.call (by simp [ga14, gb14, gc14, ge14]) rfl (by (conv => lhs; simp [ga14, gb14, gc14, ge14, cx, ioTab]) <;> rfl) (r73 h21) (by simp) (by simp) (by (conv => lhs; simp [ga14, gb14, gc14, ge14, cx, ioTab]) <;> rfl) (by (conv => lhs; simp [ga14, gb14, gc14, ge14]) <;> rfl) ?_
                refine Wo.evs (by conv => lhs; simp [ga14, gb14, gc14, ge14]) ?_
                refine Wo.nil ?_
                cases h19
                first | rfl | simp [ga14, gb14, gc14, ge14]
            · rintro V rfl
              generalize w18 = x_17 at *
              try dsimp only at h12
              cases h12
              first | rfl | simp [ga14, gb14, gc14, ge14]
        · rintro V rfl
          generalize w11 = x_10 at *
          try dsimp only at h7
          cases h7
          first | rfl | simp
    · rintro V rfl
      generalize w6 = x_5 at *
      try dsimp only at h
      by_cases kc22 : x_5 = true
      · rw [if_pos kc22] at h
        refine Wc.condT' (t := _) (by conv => lhs; simp) (by simpa using kc22) ?_
        refine Wc.seq ?_
        refine Wc.kil (by conv => lhs; simp) ?_
        refine Wc.seq ?_
        refine Wc.evs (by conv => lhs; simp) ?_
        refine Wo.nil ?_
        refine Wc.ret ?_
        have e0 := hx _ (Option.some.inj h).symm
        subst e0
        exact ⟨rfl, by first | rfl | simp⟩
      · rw [if_neg kc22] at h
        refine Wc.condF' (t := _) (by conv => lhs; simp) (by simpa using kc22) ?_
        refine Wc.seq ?_
        refine Wc.kil (by conv => lhs; simp) ?_
        refine Wc.skip ?_
        refine Wc.evs (by conv => lhs; simp) ?_
        refine Wo.nil ?_
        refine Wc.start (V1 := [(0, .v (.int .i64 n0)), (1, .v (ssl eI clause)), (7, .v (ssl eI clause)), (8, .v (.int .i64 (clause.length : Int))), (9, .v (.int .i64 (w64 (x_1 + 1))))]) ?_ (hk _ (Option.some.inj h).symm)
        first | rfl | simp
  · rw [if_neg kc2] at h
    refine Wc.condF' (t := _) (by conv => lhs; simp) (by simpa using kc2) ?_
    refine Wc.seq ?_
    refine Wc.kil (by conv => lhs; simp) ?_
    refine Wc.exit ?_
    have e0 := hx _ (Option.some.inj h).symm
    subst e0
    exact ⟨rfl, by first | rfl | simp⟩
theorem r63 {n0 : Int} {clause : (List Int)} {r : Bool} (h : f63 n0 clause = some r) : VJx cx (.ca 63 [(.int .i64 n0), (ssl eI clause)] (.bool r) []) := by
  unfold f63 at h
  refine ca_of rfl rfl (by decide) rfl ?_
  refine Wc.start (V1 := [(0, .v (.int .i64 n0)), (1, .v (ssl eI clause))]) (by simp) ?_
  refine Wc.seq ?_
  refine Wc.evs (by conv => lhs; simp) ?_
  refine Wo.nil ?_
  refine Wc.seq ?_
  refine Wc.seq ?_
  refine Wc.evs (by conv => lhs; simp) ?_
  refine Wo.nil ?_
  refine Wc.block ?_
  obtain ⟨w23, h24, h⟩ := bind_some h
  refine Wc.start (V1 := [(0, .v (.int .i64 n0)), (1, .v (ssl eI clause)), (7, .v (ssl eI clause)), (8, .v (.int .i64 (clause.length : Int))), (9, .v (.int .i64 0))]) (by first | rfl | simp) ?_
  refine Wc.mono (r63_0 _ _ h24) ?_
  rcases w23 with ⟨⟩ | x_25
  · rintro ex V ⟨rfl, rfl⟩
    try dsimp only at h
    refine Wc.seq ?_
    refine Wc.evs (by conv => lhs; simp) ?_
    refine Wo.nil ?_
    refine Wc.ret (res_of (.inr rfl) ?_)
    cases h
    exact ⟨_, _, _, by conv => lhs; simp, by (conv => lhs; simp [cx, ioTab, List.range, List.range.loop]) <;> rfl, by first | rfl | simp⟩
  · rintro ex V ⟨rfl, rfl⟩
    try dsimp only at h
    refine res_of (.inr rfl) ?_
    cases h
    exact ⟨_, _, _, by conv => lhs; simp, by (conv => lhs; simp [cx, ioTab, List.range, List.range.loop]) <;> rfl, by first | rfl | simp⟩
theorem r76 {clause : (List Int)} {c : Int} {r : Bool} (h : f76 clause c = some r) : VJx cx (.ca 76 [(ssl eI clause), (.ptr false [(.int .i64 c)])] (.bool r) []) := by
  unfold f76 at h
  refine ca_of rfl rfl (by decide) rfl ?_
  refine Wc.start (V1 := [(0, .v (ssl eI clause)), (1, .v (.ptr false [(.int .i64 c)]))]) (by simp) ?_
  refine Wc.seq ?_
  refine Wc.evs (by conv => lhs; simp) ?_
  refine Wo.nil ?_
  refine Wc.seq ?_
  refine Wc.evs (by conv => lhs; simp) ?_
  obtain ⟨o1, h2, h⟩ := bind_some h
  refine Wo.call (by simp) rfl (by (conv => lhs; simp [cx, ioTab]) <;> rfl) (r63 h2) (by simp) (by simp) (by (conv => lhs; simp [cx, ioTab]) <;> rfl) (by (conv => lhs; simp) <;> rfl) ?_
  refine Wo.evs (by conv => lhs; simp) ?_
  refine Wo.nil ?_
  refine Wc.ret (res_of (.inr rfl) ?_)
  cases h
  exact ⟨_, _, _, by conv => lhs; simp, by (conv => lhs; simp [cx, ioTab, List.range, List.range.loop]) <;> rfl, by first | rfl | simp⟩
theorem r62 {n0 : Int} {clauses : (List (List Int))} {r : Bool} (h : f62 n0 clauses = some r) : VJx cx (.ca 62 [(.int .i64 n0), (ssl (eL eI) clauses)] (.bool r) []) := by
  unfold f62 at h
  refine ca_of rfl rfl (by decide) rfl ?_
  refine Wc.start (V1 := [(0, .v (.int .i64 n0)), (1, .v (ssl (eL eI) clauses))]) (by simp) ?_
  refine Wc.seq ?_
  refine Wc.evs (by conv => lhs; simp) ?_
  refine Wo.nil ?_
  refine Wc.seq ?_
  refine Wc.evs (by conv => lhs; simp) ?_
  obtain ⟨o1, h2, h⟩ := bind_some h
  refine Wo.call (by simp) rfl (by (conv => lhs; simp [cx, ioTab]) <;> rfl) (r75 h2) (by simp) (by simp) (by (conv => lhs; simp [cx, ioTab]) <;> rfl) (by (conv => lhs; simp) <;> rfl) ?_
  refine Wo.evk 1 (by conv => lhs; simp) ?_
  obtain ⟨w4, h5, h⟩ := bind_some h
  refine Wo.mono (Q := fun V => V = [(4, .v (.bool w4))]) ?_ ?_
  · by_cases knh5 : o1 = true
    · rw [if_pos knh5] at h5
      refine Wo.gh (vle_co (s := 7) (t1 := .bool true) rfl (by simp) (tle_bool (by simpa using knh5)) (by conv => lhs; simp)) ?_
      refine Wo.evs (by conv => lhs; simp) ?_
      obtain ⟨o6, h7, h5⟩ := bind_some h5
      refine Wo.call (by simp) rfl (by (conv => lhs; simp [cx, ioTab]) <;> rfl) (r53 (g_f := 76) (cp_f := [(.ptr false [(.int .i64 n0)])]) rfl (fun x0 o h => r76 h) h7) (by simp) (by simp) (by (conv => lhs; simp [cx, ioTab]) <;> rfl) (by (conv => lhs; simp) <;> rfl) ?_
      refine Wo.evs (by conv => lhs; simp) ?_
      refine Wo.nil ?_
      cases h5
      first | rfl | simp
    · rw [if_neg knh5] at h5
      refine Wo.gh (vle_co (s := 7) (t1 := .bool false) rfl (by simp) (tle_bool (by simpa using knh5)) (by conv => lhs; simp)) ?_
      refine Wo.evs (by conv => lhs; simp) ?_
      refine Wo.nil ?_
      cases h5
      first | rfl | simp
  · rintro V rfl
    generalize w4 = x_3 at *
    try dsimp only at h
    refine Wc.ret (res_of (.inr rfl) ?_)
    cases h
    exact ⟨_, _, _, by conv => lhs; simp, by (conv => lhs; simp [cx, ioTab, List.range, List.range.loop]) <;> rfl, by first | rfl | simp⟩
theorem r34 {n0 : Int} {clauses : (List (List Int))} {r : Bool} (h : f34 n0 clauses = some r) : VJx cx (.ca 34 [(.int .i64 n0), (ssl (eL eI) clauses)] (.bool r) []) := by
  unfold f34 at h
  refine ca_of rfl rfl (by decide) rfl ?_
  refine Wc.start (V1 := [(0, .v (.int .i64 n0)), (1, .v (ssl (eL eI) clauses))]) (by simp) ?_
  refine Wc.seq ?_
  refine Wc.evs (by conv => lhs; simp) ?_
  refine Wo.nil ?_
  refine Wc.seq ?_
  refine Wc.evk 4 (by conv => lhs; simp) ?_
  obtain ⟨w2, h3, h⟩ := bind_some h
  refine Wo.mono (Q := fun V => V = [(4, .v (.bool w2))]) ?_ ?_
  · by_cases knh3 : (clauses.length : Int) ≤ 400
    · rw [if_pos knh3] at h3
      refine Wo.gh (vle_co (s := 8) (t1 := .bool true) rfl (by simp) (tle_bool (by simpa using knh3)) (by conv => lhs; simp)) ?_
      refine Wo.evs (by conv => lhs; simp) ?_
      obtain ⟨o4, h5, h3⟩ := bind_some h3
      refine Wo.call (by simp) rfl (by (conv => lhs; simp [cx, ioTab]) <;> rfl) (r62 h5) (by simp) (by simp) (by (conv => lhs; simp [cx, ioTab]) <;> rfl) (by (conv => lhs; simp) <;> rfl) ?_
      refine Wo.evs (by conv => lhs; simp) ?_
      refine Wo.nil ?_
      cases h3
      first | rfl | simp
    · rw [if_neg knh3] at h3
      refine Wo.gh (vle_co (s := 8) (t1 := .bool false) rfl (by simp) (tle_bool (by simpa using knh3)) (by conv => lhs; simp)) ?_
      refine Wo.evs (by conv => lhs; simp) ?_
      refine Wo.nil ?_
      cases h3
      first | rfl | simp
  · rintro V rfl
    generalize w2 = x_1 at *
    try dsimp only at h
    refine Wc.ret (res_of (.inr rfl) ?_)
    cases h
    exact ⟨_, _, _, by conv => lhs; simp, by (conv => lhs; simp [cx, ioTab, List.range, List.range.loop]) <;> rfl, by first | rfl | simp⟩
theorem r74_0 {g_f : Nat} {cp_f : List T} {f : Int → Option Bool} (hio_f : cx.io g_f = []) (hp_f : ∀ x0 o, f x0 = some o → VJx cx (.ca g_f ([(.int .i64 x0)] ++ cp_f) (.bool o) [])) {s0 : (List Int)} : ∀ zs zo, iter (f74_0 s0 f) zs = some zo → Wc cx 19 (.loop L74_0) [(0, .v (ssl eI s0)), (1, .v (.fn g_f cp_f)), (7, .v (.int .i64 (s0.length : Int))), (8, .v (.int .i64 zs))] ((QO (QX 0 (fun (y : Unit) => [])) (QR (fun (y : Int) => [(4, .v (.int .i64 y))]))) zo) := by
  intro zs0 zo0 zh0
  refine iter_run (f := (f74_0 s0 f)) (P := fun zs zo => Wc cx 19 (.loop L74_0) [(0, .v (ssl eI s0)), (1, .v (.fn g_f cp_f)), (7, .v (.int .i64 (s0.length : Int))), (8, .v (.int .i64 zs))] ((QO (QX 0 (fun (y : Unit) => [])) (QR (fun (y : Int) => [(4, .v (.int .i64 y))]))) zo)) ?_ zh0
  rintro x_1 zo zr h hk hx
  try dsimp only at hk ⊢
  rw [f74_0] at h
  refine Wc.loop ?_
  refine Wc.seq ?_
  refine Wc.evs (by conv => lhs; simp) ?_
  refine Wo.nil ?_
  refine Wc.seq ?_
  by_cases kc2 : x_1 < (s0.length : Int)
  · rw [if_pos kc2] at h
    refine Wc.condT' (t := _) (by conv => lhs; simp) (by simpa using kc2) ?_
    refine Wc.seq ?_
    refine Wc.kil (by conv => lhs; simp) ?_
    refine Wc.skip ?_
    refine Wc.seq ?_
    refine Wc.block ?_
    refine Wc.seq ?_
    refine Wc.evs (by conv => lhs; simp) ?_
    refine Wo.nil ?_
    refine Wc.seq ?_
    obtain ⟨v_3, h4, h⟩ := bind_some h
    obtain ⟨ga4, gb4, gc4⟩ := ix_some h4
    have gn4 := ix_ne h4
    have gd4 := arr_at (E := eI) (b := false) gc4
    simp at gd4
    refine Wc.evs (by conv => lhs; simp [ga4, gb4, gn4, gd4]) ?_
    obtain ⟨o5, h6, h⟩ := bind_some h
    refine Wo.call rfl rfl (by (conv => lhs; simp [ga4, gb4, gn4, gd4, hio_f]) <;> rfl) (hp_f v_3 _ h6) (by simp) (by simp) (by (conv => lhs; simp [ga4, gb4, gn4, gd4, hio_f]) <;> rfl) (by (conv => lhs; simp [ga4, gb4, gn4, gd4]) <;> rfl) ?_
    refine Wo.nil ?_
    by_cases kc7 : o5 = true
    · rw [if_pos kc7] at h
      refine Wc.condT' (t := _) (by conv => lhs; simp) (by simpa using kc7) ?_
      refine Wc.seq ?_
      refine Wc.kil (by conv => lhs; simp) ?_
      refine Wc.seq ?_
      refine Wc.evs (by conv => lhs; simp) ?_
      refine Wo.nil ?_
      refine Wc.ret ?_
      have e0 := hx _ (Option.some.inj h).symm
      subst e0
      exact ⟨rfl, by first | rfl | simp⟩
    · rw [if_neg kc7] at h
      refine Wc.condF' (t := _) (by conv => lhs; simp) (by simpa using kc7) ?_
      refine Wc.seq ?_
      refine Wc.kil (by conv => lhs; simp) ?_
      refine Wc.skip ?_
      refine Wc.evs (by conv => lhs; simp) ?_
      refine Wo.nil ?_
      refine Wc.start (V1 := [(0, .v (ssl eI s0)), (1, .v (.fn g_f cp_f)), (7, .v (.int .i64 (s0.length : Int))), (8, .v (.int .i64 (w64 (x_1 + 1))))]) ?_ (hk _ (Option.some.inj h).symm)
      first | rfl | simp
  · rw [if_neg kc2] at h
    refine Wc.condF' (t := _) (by conv => lhs; simp) (by simpa using kc2) ?_
    refine Wc.seq ?_
    refine Wc.kil (by conv => lhs; simp) ?_
    refine Wc.exit ?_
    have e0 := hx _ (Option.some.inj h).symm
    subst e0
    exact ⟨rfl, by first | rfl | simp⟩
theorem r74 {s0 : (List Int)} {g_f : Nat} {cp_f : List T} {f : Int → Option Bool} (hio_f : cx.io g_f = []) (hp_f : ∀ x0 o, f x0 = some o → VJx cx (.ca g_f ([(.int .i64 x0)] ++ cp_f) (.bool o) [])) {r : Int} (h : f74 s0 f = some r) : VJx cx (.ca 74 [(ssl eI s0), (.fn g_f cp_f)] (.int .i64 r) []) := by
  unfold f74 at h
  refine ca_of rfl rfl (by decide) rfl ?_
  refine Wc.start (V1 := [(0, .v (ssl eI s0)), (1, .v (.fn g_f cp_f))]) (by simp) ?_
  refine Wc.seq ?_
  refine Wc.evs (by conv => lhs; simp) ?_
  refine Wo.nil ?_
  refine Wc.seq ?_
  refine Wc.seq ?_
  refine Wc.evs (by conv => lhs; simp) ?_
  refine Wo.nil ?_
  refine Wc.block ?_
  obtain ⟨w8, h9, h⟩ := bind_some h
  refine Wc.start (V1 := [(0, .v (ssl eI s0)), (1, .v (.fn g_f cp_f)), (7, .v (.int .i64 (s0.length : Int))), (8, .v (.int .i64 0))]) (by first | rfl | simp) ?_
  refine Wc.mono (r74_0 hio_f hp_f _ _ h9) ?_
  rcases w8 with ⟨⟩ | x_10
  · rintro ex V ⟨rfl, rfl⟩
    try dsimp only at h
    refine Wc.seq ?_
    refine Wc.evs (by conv => lhs; simp) ?_
    refine Wo.nil ?_
    refine Wc.ret (res_of (.inr rfl) ?_)
    cases h
    exact ⟨_, _, _, by conv => lhs; simp, by (conv => lhs; simp [cx, ioTab, List.range, List.range.loop]) <;> rfl, by first | rfl | simp⟩
  · rintro ex V ⟨rfl, rfl⟩
    try dsimp only at h
    refine res_of (.inr rfl) ?_
    cases h
    exact ⟨_, _, _, by conv => lhs; simp, by (conv => lhs; simp [cx, ioTab, List.range, List.range.loop]) <;> rfl, by first | rfl | simp⟩
theorem r57 {s0 : (List Int)} {g_f : Nat} {cp_f : List T} {f : Int → Option Bool} (hio_f : cx.io g_f = []) (hp_f : ∀ x0 o, f x0 = some o → VJx cx (.ca g_f ([(.int .i64 x0)] ++ cp_f) (.bool o) [])) {r : Bool} (h : f57 s0 f = some r) : VJx cx (.ca 57 [(ssl eI s0), (.fn g_f cp_f)] (.bool r) []) := by
  unfold f57 at h
  refine ca_of rfl rfl (by decide) rfl ?_
  refine Wc.start (V1 := [(0, .v (ssl eI s0)), (1, .v (.fn g_f cp_f))]) (by simp) ?_
  refine Wc.seq ?_
  refine Wc.evs (by conv => lhs; simp) ?_
  refine Wo.nil ?_
  refine Wc.seq ?_
  refine Wc.evs (by conv => lhs; simp) ?_
  obtain ⟨o1, h2, h⟩ := bind_some h
  refine Wo.call (by simp) rfl (by (conv => lhs; simp [cx, ioTab]) <;> rfl) (r74 hio_f hp_f h2) (by simp) (by simp) (by (conv => lhs; simp [cx, ioTab]) <;> rfl) (by (conv => lhs; simp) <;> rfl) ?_
  refine Wo.evs (by conv => lhs; simp) ?_
  refine Wo.nil ?_
  refine Wc.ret (res_of (.inr rfl) ?_)
  cases h
  exact ⟨_, _, _, by conv => lhs; simp, by (conv => lhs; simp [cx, ioTab, List.range, List.range.loop]) <;> rfl, by first | rfl | simp⟩
theorem r59 {model : (List Bool)} {x : Int} {r : Bool} (h : f59 model x = some r) : VJx cx (.ca 59 [(ssl eB model), (.int .i64 x)] (.bool r) []) := by
  unfold f59 at h
  refine ca_of rfl rfl (by decide) rfl ?_
  refine Wc.start (V1 := [(0, .v (ssl eB model)), (1, .v (.int .i64 x))]) (by simp) ?_
  refine Wc.seq ?_
  refine Wc.evs (by conv => lhs; simp) ?_
  refine Wo.nil ?_
  refine Wc.seq ?_
  refine Wc.seq ?_
  refine Wc.evs (by conv => lhs; simp) ?_
  refine Wo.nil ?_
  by_cases kc1 : x > 0
  · rw [if_pos kc1] at h
    refine Wc.condT' (t := _) (by conv => lhs; simp) (by simpa using kc1) ?_
    refine Wc.seq ?_
    refine Wc.kil (by conv => lhs; simp) ?_
    refine Wc.seq ?_
    refine Wc.evk 5 (by conv => lhs; simp) ?_
    obtain ⟨w3, h4, h⟩ := bind_some h
    refine Wo.mono (Q := fun V => V = [(4, .v (.bool w3))]) ?_ ?_
    · by_cases knh4 : x ≤ (model.length : Int)
      · rw [if_pos knh4] at h4
        refine Wo.gh (vle_co (s := 11) (t1 := .bool true) rfl (by simp) (tle_bool (by simpa using knh4)) (by conv => lhs; simp)) ?_
        obtain ⟨v_5, h6, h4⟩ := bind_some h4
        obtain ⟨ga6, gb6, gc6⟩ := ix_some h6
        have gn6 := ix_ne h6
        have gd6 := arr_at (E := eB) (b := false) gc6
        simp at gd6
        refine Wo.evs (by conv => lhs; simp [ga6, gb6, gn6, gd6]) ?_
        refine Wo.nil ?_
        cases h4
        first | rfl | simp [ga6, gb6, gn6, gd6]
      · rw [if_neg knh4] at h4
        refine Wo.gh (vle_co (s := 11) (t1 := .bool false) rfl (by simp) (tle_bool (by simpa using knh4)) (by conv => lhs; simp)) ?_
        refine Wo.evs (by conv => lhs; simp) ?_
        refine Wo.nil ?_
        cases h4
        first | rfl | simp
    · rintro V rfl
      generalize w3 = x_2 at *
      try dsimp only at h
      refine Wc.ret (res_of (.inr rfl) ?_)
      cases h
      exact ⟨_, _, _, by conv => lhs; simp, by (conv => lhs; simp [cx, ioTab, List.range, List.range.loop]) <;> rfl, by first | rfl | simp⟩
  · rw [if_neg kc1] at h
    refine Wc.condF' (t := _) (by conv => lhs; simp) (by simpa using kc1) ?_
    refine Wc.seq ?_
    refine Wc.kil (by conv => lhs; simp) ?_
    refine Wc.skip ?_
    refine Wc.seq ?_
    refine Wc.evk 3 (by conv => lhs; simp) ?_
    obtain ⟨w8, h9, h⟩ := bind_some h
    refine Wo.mono (Q := fun V => V = [(4, .v (.bool w8))]) ?_ ?_
    · by_cases knh9 : x < 0
      · rw [if_pos knh9] at h9
        refine Wo.gh (vle_co (s := 20) (t1 := .bool true) rfl (by simp) (tle_bool (by simpa using knh9)) (by conv => lhs; simp)) ?_
        refine Wo.evk 7 (by conv => lhs; simp) ?_
        obtain ⟨w11, h12, h9⟩ := bind_some h9
        refine Wo.mono (Q := fun V => V = [(4, .v (.bool w11))]) ?_ ?_
        · by_cases knh12 : x ≥ (w64 (-(model.length : Int)))
          · rw [if_pos knh12] at h12
            refine Wo.gh (vle_co (s := 27) (t1 := .bool true) rfl (by simp) (tle_bool (by simpa using knh12)) (by conv => lhs; simp)) ?_
            obtain ⟨v_13, h14, h12⟩ := bind_some h12
            obtain ⟨ga14, gb14, gc14⟩ := ix_some h14
            have gn14 := ix_ne h14
            have gd14 := arr_at (E := eB) (b := false) gc14
            simp at gd14
            refine Wo.evs (by conv => lhs; simp [ga14, gb14, gn14, gd14]) ?_
            refine Wo.nil ?_
            cases h12
            first | rfl | simp [ga14, gb14, gn14, gd14]
          · rw [if_neg knh12] at h12
            refine Wo.gh (vle_co (s := 27) (t1 := .bool false) rfl (by simp) (tle_bool (by simpa using knh12)) (by conv => lhs; simp)) ?_
            refine Wo.evs (by conv => lhs; simp) ?_
            refine Wo.nil ?_
            cases h12
            first | rfl | simp
        · rintro V rfl
          generalize w11 = x_10 at *
          try dsimp only at h9
          cases h9
          first | rfl | simp
      · rw [if_neg knh9] at h9
        refine Wo.gh (vle_co (s := 20) (t1 := .bool false) rfl (by simp) (tle_bool (by simpa using knh9)) (by conv => lhs; simp)) ?_
        refine Wo.evs (by conv => lhs; simp) ?_
        refine Wo.nil ?_
        cases h9
        first | rfl | simp
    · rintro V rfl
      generalize w8 = x_7 at *
      try dsimp only at h
      refine Wc.ret (res_of (.inr rfl) ?_)
      cases h
      exact ⟨_, _, _, by conv => lhs; simp, by (conv => lhs; simp [cx, ioTab, List.range, List.range.loop]) <;> rfl, by first | rfl | simp⟩
theorem r58 {x : Int} {c : (List Bool)} {r : Bool} (h : f58 x c = some r) : VJx cx (.ca 58 [(.int .i64 x), (.ptr false [(ssl eB c)])] (.bool r) []) := by
  unfold f58 at h
  refine ca_of rfl rfl (by decide) rfl ?_
  refine Wc.start (V1 := [(0, .v (.int .i64 x)), (1, .v (.ptr false [(ssl eB c)]))]) (by simp) ?_
  refine Wc.seq ?_
  refine Wc.evs (by conv => lhs; simp) ?_
  refine Wo.nil ?_
  refine Wc.seq ?_
  refine Wc.evs (by conv => lhs; simp) ?_
  obtain ⟨o1, h2, h⟩ := bind_some h
  refine Wo.call (by simp) rfl (by (conv => lhs; simp [cx, ioTab]) <;> rfl) (r59 h2) (by simp) (by simp) (by (conv => lhs; simp [cx, ioTab]) <;> rfl) (by (conv => lhs; simp) <;> rfl) ?_
  refine Wo.evs (by conv => lhs; simp) ?_
  refine Wo.nil ?_
  refine Wc.ret (res_of (.inr rfl) ?_)
  cases h
  exact ⟨_, _, _, by conv => lhs; simp, by (conv => lhs; simp [cx, ioTab, List.range, List.range.loop]) <;> rfl, by first | rfl | simp⟩
theorem r56 {clause : (List Int)} {c : (List Bool)} {r : Bool} (h : f56 clause c = some r) : VJx cx (.ca 56 [(ssl eI clause), (.ptr false [(ssl eB c)])] (.bool r) []) := by
  unfold f56 at h
  refine ca_of rfl rfl (by decide) rfl ?_
  refine Wc.start (V1 := [(0, .v (ssl eI clause)), (1, .v (.ptr false [(ssl eB c)]))]) (by simp) ?_
  refine Wc.seq ?_
  refine Wc.evs (by conv => lhs; simp) ?_
  refine Wo.nil ?_
  refine Wc.seq ?_
  refine Wc.evs (by conv => lhs; simp) ?_
  obtain ⟨o1, h2, h⟩ := bind_some h
  refine Wo.call (by simp) rfl (by (conv => lhs; simp [cx, ioTab]) <;> rfl) (r57 (g_f := 58) (cp_f := [(.ptr false [(ssl eB c)])]) rfl (fun x0 o h => r58 h) h2) (by simp) (by simp) (by (conv => lhs; simp [cx, ioTab]) <;> rfl) (by (conv => lhs; simp) <;> rfl) ?_
  refine Wo.evs (by conv => lhs; simp) ?_
  refine Wo.nil ?_
  refine Wc.ret (res_of (.inr rfl) ?_)
  cases h
  exact ⟨_, _, _, by conv => lhs; simp, by (conv => lhs; simp [cx, ioTab, List.range, List.range.loop]) <;> rfl, by first | rfl | simp⟩
theorem r32 {clauses : (List (List Int))} {model : (List Bool)} {r : Bool} (h : f32 clauses model = some r) : VJx cx (.ca 32 [(ssl (eL eI) clauses), (ssl eB model)] (.bool r) []) := by
  unfold f32 at h
  refine ca_of rfl rfl (by decide) rfl ?_
  refine Wc.start (V1 := [(0, .v (ssl (eL eI) clauses)), (1, .v (ssl eB model))]) (by simp) ?_
  refine Wc.seq ?_
  refine Wc.evs (by conv => lhs; simp) ?_
  refine Wo.nil ?_
  refine Wc.seq ?_
  refine Wc.evs (by conv => lhs; simp) ?_
  obtain ⟨o1, h2, h⟩ := bind_some h
  refine Wo.call (by simp) rfl (by (conv => lhs; simp [cx, ioTab]) <;> rfl) (r53 (g_f := 56) (cp_f := [(.ptr false [(ssl eB model)])]) rfl (fun x0 o h => r56 h) h2) (by simp) (by simp) (by (conv => lhs; simp [cx, ioTab]) <;> rfl) (by (conv => lhs; simp) <;> rfl) ?_
  refine Wo.evs (by conv => lhs; simp) ?_
  refine Wo.nil ?_
  refine Wc.ret (res_of (.inr rfl) ?_)
  cases h
  exact ⟨_, _, _, by conv => lhs; simp, by (conv => lhs; simp [cx, ioTab, List.range, List.range.loop]) <;> rfl, by first | rfl | simp⟩
theorem r40_1 {n0 : Int} {clauses : (List (List Int))} {count_8 : Int} {model_9 : (List Bool)} {x_10 : Int} : ∀ zs zo, iter (f40_1 model_9 x_10) zs = some zo → Wc cx 41 (.loop L40_1) [(1, .v (ssl (eL eI) clauses)), (5, .v (.int .i64 count_8)), (6, .v (osl eB true zs.1)), (7, .v (.int .i64 x_10)), (16, .v (.int .i64 (sshl .i64 1 n0))), (17, .v (.int .i64 x_10)), (21, .v (.int .i64 (model_9.length : Int))), (22, .v (.int .i64 zs.2))] ((QX 2 (fun (y : (List Bool)) => [(1, .v (ssl (eL eI) clauses)), (5, .v (.int .i64 count_8)), (6, .v (osl eB true y)), (16, .v (.int .i64 (sshl .i64 1 n0))), (17, .v (.int .i64 x_10))])) zo) := by
  intro zs0 zo0 zh0
  refine iter_run (f := (f40_1 model_9 x_10)) (P := fun zs zo => Wc cx 41 (.loop L40_1) [(1, .v (ssl (eL eI) clauses)), (5, .v (.int .i64 count_8)), (6, .v (osl eB true zs.1)), (7, .v (.int .i64 x_10)), (16, .v (.int .i64 (sshl .i64 1 n0))), (17, .v (.int .i64 x_10)), (21, .v (.int .i64 (model_9.length : Int))), (22, .v (.int .i64 zs.2))] ((QX 2 (fun (y : (List Bool)) => [(1, .v (ssl (eL eI) clauses)), (5, .v (.int .i64 count_8)), (6, .v (osl eB true y)), (16, .v (.int .i64 (sshl .i64 1 n0))), (17, .v (.int .i64 x_10))])) zo)) ?_ zh0
  rintro ⟨model_12, x_13⟩ zo zr h hk hx
  try dsimp only at hk ⊢
  rw [f40_1] at h
  refine Wc.loop ?_
  refine Wc.seq ?_
  refine Wc.evs (by conv => lhs; simp) ?_
  refine Wo.nil ?_
  refine Wc.seq ?_
  by_cases kc14 : x_13 < (model_9.length : Int)
  · rw [if_pos kc14] at h
    refine Wc.condT' (t := _) (by conv => lhs; simp) (by simpa using kc14) ?_
    refine Wc.seq ?_
    refine Wc.kil (by conv => lhs; simp) ?_
    refine Wc.skip ?_
    refine Wc.seq ?_
    refine Wc.block ?_
    refine Wc.seq ?_
    refine Wc.evs (by conv => lhs; simp) ?_
    refine Wo.nil ?_
    obtain ⟨z_15, h16, h⟩ := bind_some h
    have gz16 := nn_some h16
    obtain ⟨v_17, h18, h⟩ := bind_some h
    obtain ⟨ga18, gb18, gc18⟩ := ix_some h18
    have gn18 := ix_ne h18
    have gf18 := arr_fit (E := eB) (b := true) (i := x_13.toNat) (l := model_12) (by omega)
    have gg18_0 := arr_get (E := eB) (b := true) (o := 0) gc18 (by decide)
    simp at gf18 gg18_0
    have gl18 : x_13.toNat < model_12.length := by omega
    have gy19 := lay_set (E := eB) (b := true) (i := x_13.toNat) (l := model_12) (decide ((band .i64 (sshr .i64 x_10 x_13) 1) = 1)) (by omega)
    simp at gy19
    refine Wc.evs (by conv => lhs; simp [gz16, -getElem?_pos, List.getElem?_cons_zero, List.getElem?_cons_succ, ga18, gb18, gn18, gf18, gg18_0, gl18, gy19]) ?_
    refine Wo.nil ?_
    refine Wc.evs (by conv => lhs; simp) ?_
    refine Wo.nil ?_
    refine Wc.start (V1 := [(1, .v (ssl (eL eI) clauses)), (5, .v (.int .i64 count_8)), (6, .v (osl eB true (model_12.set x_13.toNat (decide ((band .i64 (sshr .i64 x_10 x_13) 1) = 1))))), (7, .v (.int .i64 x_10)), (16, .v (.int .i64 (sshl .i64 1 n0))), (17, .v (.int .i64 x_10)), (21, .v (.int .i64 (model_9.length : Int))), (22, .v (.int .i64 (w64 (x_13 + 1))))]) ?_ (hk _ (Option.some.inj h).symm)
    first | rfl | simp
  · rw [if_neg kc14] at h
    refine Wc.condF' (t := _) (by conv => lhs; simp) (by simpa using kc14) ?_
    refine Wc.seq ?_
    refine Wc.kil (by conv => lhs; simp) ?_
    refine Wc.exit ?_
    have e0 := hx _ (Option.some.inj h).symm
    subst e0
    exact ⟨rfl, by first | rfl | simp⟩
theorem r40_0 {n0 : Int} {clauses : (List (List Int))} : ∀ zs zo, iter (f40_0 n0 clauses) zs = some zo → Wc cx 41 (.loop L40_0) [(1, .v (ssl (eL eI) clauses)), (5, .v (.int .i64 zs.1)), (6, .v (osl eB true zs.2.1)), (16, .v (.int .i64 (sshl .i64 1 n0))), (17, .v (.int .i64 zs.2.2))] ((QX 0 (fun (y : Int) => [(5, .v (.int .i64 y))])) zo) := by
  intro zs0 zo0 zh0
  refine iter_run (f := (f40_0 n0 clauses)) (P := fun zs zo => Wc cx 41 (.loop L40_0) [(1, .v (ssl (eL eI) clauses)), (5, .v (.int .i64 zs.1)), (6, .v (osl eB true zs.2.1)), (16, .v (.int .i64 (sshl .i64 1 n0))), (17, .v (.int .i64 zs.2.2))] ((QX 0 (fun (y : Int) => [(5, .v (.int .i64 y))])) zo)) ?_ zh0
  rintro ⟨count_8, model_9, x_10⟩ zo zr h hk hx
  try dsimp only at hk ⊢
  rw [f40_0] at h
  refine Wc.loop ?_
  refine Wc.seq ?_
  refine Wc.evs (by conv => lhs; simp) ?_
  refine Wo.nil ?_
  refine Wc.seq ?_
  by_cases kc11 : x_10 < (sshl .i64 1 n0)
  · rw [if_pos kc11] at h
    refine Wc.condT' (t := _) (by conv => lhs; simp) (by simpa using kc11) ?_
    refine Wc.seq ?_
    refine Wc.kil (by conv => lhs; simp) ?_
    refine Wc.skip ?_
    refine Wc.seq ?_
    refine Wc.block ?_
    refine Wc.seq ?_
    refine Wc.evs (by conv => lhs; simp) ?_
    refine Wo.nil ?_
    refine Wc.seq ?_
    refine Wc.seq ?_
    refine Wc.evs (by conv => lhs; simp) ?_
    refine Wo.nil ?_
    refine Wc.block ?_
    obtain ⟨w20, h21, h⟩ := bind_some h
    refine Wc.start (V1 := [(1, .v (ssl (eL eI) clauses)), (5, .v (.int .i64 count_8)), (6, .v (osl eB true model_9)), (7, .v (.int .i64 x_10)), (16, .v (.int .i64 (sshl .i64 1 n0))), (17, .v (.int .i64 x_10)), (21, .v (.int .i64 (model_9.length : Int))), (22, .v (.int .i64 0))]) (by first | rfl | simp) ?_
    refine Wc.mono (r40_1 _ _ h21) ?_
    generalize w20 = model_22 at *
    rintro ex V ⟨rfl, rfl⟩
    try dsimp only at h
    refine Wc.seq ?_
    refine Wc.evs (by conv => lhs; simp) ?_
    obtain ⟨o23, h24, h⟩ := bind_some h
    refine Wo.call (by simp) rfl (by (conv => lhs; simp [cx, ioTab]) <;> rfl) (r32 h24) (by simp) (by simp) (by (conv => lhs; simp [cx, ioTab]) <;> rfl) (by (conv => lhs; simp) <;> rfl) ?_
    refine Wo.nil ?_
    obtain ⟨w25, h26, h⟩ := bind_some h
    refine Wc.mono (Q := (QN (fun (y : Int) => [(1, .v (ssl (eL eI) clauses)), (5, .v (.int .i64 y)), (6, .v (osl eB true model_22)), (16, .v (.int .i64 (sshl .i64 1 n0))), (17, .v (.int .i64 x_10))])) w25) ?_ ?_
    · skip
      by_cases kc27 : o23 = true
      · rw [if_pos kc27] at h26
        refine Wc.condT' (t := _) (by conv => lhs; simp) (by simpa using kc27) ?_
        refine Wc.seq ?_
        refine Wc.kil (by conv => lhs; simp) ?_
        refine Wc.evs (by conv => lhs; simp) ?_
        refine Wo.nil ?_
        cases h26
        exact ⟨rfl, by first | rfl | simp⟩
      · rw [if_neg kc27] at h26
        refine Wc.condF' (t := _) (by conv => lhs; simp) (by simpa using kc27) ?_
        refine Wc.seq ?_
        refine Wc.kil (by conv => lhs; simp) ?_
        refine Wc.skip ?_
        cases h26
        exact ⟨rfl, by first | rfl | simp⟩
    · skip
      generalize w25 = count_28 at *
      rintro ex V ⟨rfl, rfl⟩
      try dsimp only at h
      refine Wc.evs (by conv => lhs; simp) ?_
      refine Wo.nil ?_
      refine Wc.start (V1 := [(1, .v (ssl (eL eI) clauses)), (5, .v (.int .i64 count_28)), (6, .v (osl eB true model_22)), (16, .v (.int .i64 (sshl .i64 1 n0))), (17, .v (.int .i64 (w64 (x_10 + 1))))]) ?_ (hk _ (Option.some.inj h).symm)
      first | rfl | simp
  · rw [if_neg kc11] at h
    refine Wc.condF' (t := _) (by conv => lhs; simp) (by simpa using kc11) ?_
    refine Wc.seq ?_
    refine Wc.kil (by conv => lhs; simp) ?_
    refine Wc.exit ?_
    have e0 := hx _ (Option.some.inj h).symm
    subst e0
    exact ⟨rfl, by first | rfl | simp⟩
theorem r40 {n0 : Int} {clauses : (List (List Int))} {r : Int} (h : f40 n0 clauses = some r) : VJx cx (.ca 40 [(.int .i64 n0), (ssl (eL eI) clauses)] (.int .i64 r) []) := by
  unfold f40 at h
  refine ca_of rfl rfl (by decide) rfl ?_
  refine Wc.start (V1 := [(0, .v (.int .i64 n0)), (1, .v (ssl (eL eI) clauses))]) (by simp) ?_
  refine Wc.seq ?_
  refine Wc.evs (by conv => lhs; simp) ?_
  refine Wo.nil ?_
  refine Wc.seq ?_
  refine Wc.seq ?_
  refine Wc.evs (by conv => lhs; simp) ?_
  obtain ⟨o1, h2, h⟩ := bind_some h
  refine Wo.call (by simp) rfl (by (conv => lhs; simp [cx, ioTab]) <;> rfl) (r34 h2) (by simp) (by simp) (by (conv => lhs; simp [cx, ioTab]) <;> rfl) (by (conv => lhs; simp) <;> rfl) ?_
  refine Wo.evs (by conv => lhs; simp) ?_
  refine Wo.nil ?_
  by_cases kc3 : ¬ (o1 = true)
  · rw [if_pos kc3] at h
    refine Wc.condT' (t := _) (by conv => lhs; simp) (by simpa using kc3) ?_
    refine Wc.seq ?_
    refine Wc.kil (by conv => lhs; simp) ?_
    refine Wc.seq ?_
    refine Wc.evs (by conv => lhs; simp) ?_
    refine Wo.nil ?_
    refine Wc.ret (res_of (.inr rfl) ?_)
    cases h
    exact ⟨_, _, _, by conv => lhs; simp, by (conv => lhs; simp [cx, ioTab, List.range, List.range.loop]) <;> rfl, by first | rfl | simp⟩
  · rw [if_neg kc3] at h
    refine Wc.condF' (t := _) (by conv => lhs; simp) (by simpa using kc3) ?_
    refine Wc.seq ?_
    refine Wc.kil (by conv => lhs; simp) ?_
    refine Wc.skip ?_
    refine Wc.seq ?_
    obtain ⟨l_4, h5, h⟩ := bind_some h
    obtain ⟨gm5, gp5, gq5, gr5⟩ := mkl_some h5
    have gx5 := rep_arr (E := eB) (b := true) gr5
    simp at gx5
    rw [Int.one_mul] at gp5
    refine Wc.evs (by conv => lhs; simp [gm5, gp5, gq5, gx5]) ?_
    refine Wo.gh (vle_co (s := 6) (t1 := (osl eB true l_4)) rfl (by simp) (tle_own rfl) (by conv => lhs; simp)) ?_
    refine Wo.nil ?_
    refine Wc.seq ?_
    refine Wc.seq ?_
    obtain ⟨z_6, h7, h⟩ := bind_some h
    have gz7 := nn_some h7
    refine Wc.evs (by conv => lhs; simp [gz7]) ?_
    refine Wo.nil ?_
    refine Wc.block ?_
    obtain ⟨w29, h30, h⟩ := bind_some h
    refine Wc.start (V1 := [(1, .v (ssl (eL eI) clauses)), (5, .v (.int .i64 0)), (6, .v (osl eB true l_4)), (16, .v (.int .i64 (sshl .i64 1 n0))), (17, .v (.int .i64 0))]) (by first | rfl | simp [gz7]) ?_
    refine Wc.mono (r40_0 _ _ h30) ?_
    generalize w29 = count_31 at *
    rintro ex V ⟨rfl, rfl⟩
    try dsimp only at h
    refine Wc.seq ?_
    refine Wc.evs (by conv => lhs; simp) ?_
    refine Wo.nil ?_
    refine Wc.ret (res_of (.inr rfl) ?_)
    cases h
    exact ⟨_, _, _, by conv => lhs; simp, by (conv => lhs; simp [cx, ioTab, List.range, List.range.loop]) <;> rfl, by first | rfl | simp⟩
theorem r18_0 {a : (List Int)} {b : (List Int)} : ∀ zs zo, iter (f18_0 a b) zs = some zo → Wc cx 26 (.loop L18_0) [(0, .v (ssl eI a)), (1, .v (ssl eI b)), (5, .v (.int .i64 zs))] ((QO (QX 0 (fun (y : Unit) => [])) (QR (fun (y : Bool) => [(4, .v (.bool y))]))) zo) := by
  intro zs0 zo0 zh0
  refine iter_run (f := (f18_0 a b)) (P := fun zs zo => Wc cx 26 (.loop L18_0) [(0, .v (ssl eI a)), (1, .v (ssl eI b)), (5, .v (.int .i64 zs))] ((QO (QX 0 (fun (y : Unit) => [])) (QR (fun (y : Bool) => [(4, .v (.bool y))]))) zo)) ?_ zh0
  rintro i_2 zo zr h hk hx
  try dsimp only at hk ⊢
  rw [f18_0] at h
  refine Wc.loop ?_
  refine Wc.seq ?_
  refine Wc.seq ?_
  refine Wc.evs (by conv => lhs; simp) ?_
  refine Wo.nil ?_
  by_cases kc3 : i_2 < (a.length : Int)
  · rw [if_pos kc3] at h
    refine Wc.condT' (t := _) (by conv => lhs; simp) (by simpa using kc3) ?_
    refine Wc.seq ?_
    refine Wc.kil (by conv => lhs; simp) ?_
    refine Wc.skip ?_
    refine Wc.seq ?_
    refine Wc.block ?_
    refine Wc.seq ?_
    obtain ⟨v_4, h5, h⟩ := bind_some h
    obtain ⟨ga5, gb5, gc5⟩ := ix_some h5
    have gn5 := ix_ne h5
    have gd5 := arr_at (E := eI) (b := false) gc5
    simp at gd5
    obtain ⟨v_6, h7, h⟩ := bind_some h
    obtain ⟨ga7, gb7, gc7⟩ := ix_some h7
    have gn7 := ix_ne h7
    have gd7 := arr_at (E := eI) (b := false) gc7
    simp at gd7
    refine Wc.evs (by conv => lhs; simp [ga5, gb5, gn5, gd5, ga7, gb7, gn7, gd7]) ?_
    refine Wo.nil ?_
    by_cases kc8 : v_4 ≠ v_6
    · rw [if_pos kc8] at h
      refine Wc.condT' (t := _) (by conv => lhs; simp) (by simpa using kc8) ?_
      refine Wc.seq ?_
      refine Wc.kil (by conv => lhs; simp) ?_
      refine Wc.seq ?_
      refine Wc.evs (by conv => lhs; simp) ?_
      refine Wo.nil ?_
      refine Wc.ret ?_
      have e0 := hx _ (Option.some.inj h).symm
      subst e0
      exact ⟨rfl, by first | rfl | simp⟩
    · rw [if_neg kc8] at h
      refine Wc.condF' (t := _) (by conv => lhs; simp) (by simpa using kc8) ?_
      refine Wc.seq ?_
      refine Wc.kil (by conv => lhs; simp) ?_
      refine Wc.skip ?_
      refine Wc.evs (by conv => lhs; simp) ?_
      refine Wo.nil ?_
      refine Wc.start (V1 := [(0, .v (ssl eI a)), (1, .v (ssl eI b)), (5, .v (.int .i64 (w64 (i_2 + 1))))]) ?_ (hk _ (Option.some.inj h).symm)
      first | rfl | simp
  · rw [if_neg kc3] at h
    refine Wc.condF' (t := _) (by conv => lhs; simp) (by simpa using kc3) ?_
    refine Wc.seq ?_
    refine Wc.kil (by conv => lhs; simp) ?_
    refine Wc.exit ?_
    have e0 := hx _ (Option.some.inj h).symm
    subst e0
    exact ⟨rfl, by first | rfl | simp⟩
theorem r18 {a : (List Int)} {b : (List Int)} {r : Bool} (h : f18 a b = some r) : VJx cx (.ca 18 [(ssl eI a), (ssl eI b)] (.bool r) []) := by
  unfold f18 at h
  refine ca_of rfl rfl (by decide) rfl ?_
  refine Wc.start (V1 := [(0, .v (ssl eI a)), (1, .v (ssl eI b))]) (by simp) ?_
  refine Wc.seq ?_
  refine Wc.evs (by conv => lhs; simp) ?_
  refine Wo.nil ?_
  refine Wc.seq ?_
  refine Wc.seq ?_
  refine Wc.evs (by conv => lhs; simp) ?_
  refine Wo.nil ?_
  by_cases kc1 : (a.length : Int) ≠ (b.length : Int)
  · rw [if_pos kc1] at h
    refine Wc.condT' (t := _) (by conv => lhs; simp) (by simpa using kc1) ?_
    refine Wc.seq ?_
    refine Wc.kil (by conv => lhs; simp) ?_
    refine Wc.seq ?_
    refine Wc.evs (by conv => lhs; simp) ?_
    refine Wo.nil ?_
    refine Wc.ret (res_of (.inr rfl) ?_)
    cases h
    exact ⟨_, _, _, by conv => lhs; simp, by (conv => lhs; simp [cx, ioTab, List.range, List.range.loop]) <;> rfl, by first | rfl | simp⟩
  · rw [if_neg kc1] at h
    refine Wc.condF' (t := _) (by conv => lhs; simp) (by simpa using kc1) ?_
    refine Wc.seq ?_
    refine Wc.kil (by conv => lhs; simp) ?_
    refine Wc.skip ?_
    refine Wc.seq ?_
    refine Wc.seq ?_
    refine Wc.evs (by conv => lhs; simp) ?_
    refine Wo.nil ?_
    refine Wc.block ?_
    obtain ⟨w9, h10, h⟩ := bind_some h
    refine Wc.start (V1 := [(0, .v (ssl eI a)), (1, .v (ssl eI b)), (5, .v (.int .i64 0))]) (by first | rfl | simp) ?_
    refine Wc.mono (r18_0 _ _ h10) ?_
    rcases w9 with ⟨⟩ | x_11
    · rintro ex V ⟨rfl, rfl⟩
      try dsimp only at h
      refine Wc.seq ?_
      refine Wc.evs (by conv => lhs; simp) ?_
      refine Wo.nil ?_
      refine Wc.ret (res_of (.inr rfl) ?_)
      cases h
      exact ⟨_, _, _, by conv => lhs; simp, by (conv => lhs; simp [cx, ioTab, List.range, List.range.loop]) <;> rfl, by first | rfl | simp⟩
    · rintro ex V ⟨rfl, rfl⟩
      try dsimp only at h
      refine res_of (.inr rfl) ?_
      cases h
      exact ⟨_, _, _, by conv => lhs; simp, by (conv => lhs; simp [cx, ioTab, List.range, List.range.loop]) <;> rfl, by first | rfl | simp⟩
theorem r30_0 {a : (List (List Int))} {b : (List (List Int))} : ∀ zs zo, iter (f30_0 a b) zs = some zo → Wc cx 27 (.loop L30_0) [(0, .v (ssl (eL eI) a)), (1, .v (ssl (eL eI) b)), (5, .v (.int .i64 zs))] ((QO (QX 0 (fun (y : Unit) => [])) (QR (fun (y : Bool) => [(4, .v (.bool y))]))) zo) := by
  intro zs0 zo0 zh0
  refine iter_run (f := (f30_0 a b)) (P := fun zs zo => Wc cx 27 (.loop L30_0) [(0, .v (ssl (eL eI) a)), (1, .v (ssl (eL eI) b)), (5, .v (.int .i64 zs))] ((QO (QX 0 (fun (y : Unit) => [])) (QR (fun (y : Bool) => [(4, .v (.bool y))]))) zo)) ?_ zh0
  rintro i_2 zo zr h hk hx
  try dsimp only at hk ⊢
  rw [f30_0] at h
  refine Wc.loop ?_
  refine Wc.seq ?_
  refine Wc.seq ?_
  refine Wc.evs (by conv => lhs; simp) ?_
  refine Wo.nil ?_
  by_cases kc3 : i_2 < (a.length : Int)
  · rw [if_pos kc3] at h
    refine Wc.condT' (t := _) (by conv => lhs; simp) (by simpa using kc3) ?_
    refine Wc.seq ?_
    refine Wc.kil (by conv => lhs; simp) ?_
    refine Wc.skip ?_
    refine Wc.seq ?_
    refine Wc.block ?_
    refine Wc.seq ?_
    obtain ⟨v_4, h5, h⟩ := bind_some h
    obtain ⟨ga5, gb5, gc5⟩ := ix_some h5
    have gn5 := ix_ne h5
    have gd5 := arr_at (E := (eL eI)) (b := false) gc5
    simp at gd5
    obtain ⟨v_6, h7, h⟩ := bind_some h
    obtain ⟨ga7, gb7, gc7⟩ := ix_some h7
    have gn7 := ix_ne h7
    have gd7 := arr_at (E := (eL eI)) (b := false) gc7
    simp at gd7
    refine Wc.evs (by conv => lhs; simp [ga5, gb5, gn5, gd5, ga7, gb7, gn7, gd7]) ?_
    obtain ⟨o8, h9, h⟩ := bind_some h
    refine Wo.call (by simp) rfl (by (conv => lhs; simp [ga5, gb5, gn5, gd5, ga7, gb7, gn7, gd7, cx, ioTab]) <;> rfl) (r18 h9) (by simp) (by simp) (by (conv => lhs; simp [ga5, gb5, gn5, gd5, ga7, gb7, gn7, gd7, cx, ioTab]) <;> rfl) (by (conv => lhs; simp [ga5, gb5, gn5, gd5, ga7, gb7, gn7, gd7]) <;> rfl) ?_
    refine Wo.evs (by conv => lhs; simp [ga5, gb5, gn5, gd5, ga7, gb7, gn7, gd7]) ?_
    refine Wo.nil ?_
    by_cases kc10 : ¬ (o8 = true)
    · rw [if_pos kc10] at h
      refine Wc.condT' (t := _) (by conv => lhs; simp) (by simpa using kc10) ?_
      refine Wc.seq ?_
      refine Wc.kil (by conv => lhs; simp) ?_
      refine Wc.seq ?_
      refine Wc.evs (by conv => lhs; simp) ?_
      refine Wo.nil ?_
      refine Wc.ret ?_
      have e0 := hx _ (Option.some.inj h).symm
      subst e0
      exact ⟨rfl, by first | rfl | simp⟩
    · rw [if_neg kc10] at h
      refine Wc.condF' (t := _) (by conv => lhs; simp) (by simpa using kc10) ?_
      refine Wc.seq ?_
      refine Wc.kil (by conv => lhs; simp) ?_
      refine Wc.skip ?_
      refine Wc.evs (by conv => lhs; simp) ?_
      refine Wo.nil ?_
      refine Wc.start (V1 := [(0, .v (ssl (eL eI) a)), (1, .v (ssl (eL eI) b)), (5, .v (.int .i64 (w64 (i_2 + 1))))]) ?_ (hk _ (Option.some.inj h).symm)
      first | rfl | simp
  · rw [if_neg kc3] at h
    refine Wc.condF' (t := _) (by conv => lhs; simp) (by simpa using kc3) ?_
    refine Wc.seq ?_
    refine Wc.kil (by conv => lhs; simp) ?_
    refine Wc.exit ?_
    have e0 := hx _ (Option.some.inj h).symm
    subst e0
    exact ⟨rfl, by first | rfl | simp⟩
theorem r30 {a : (List (List Int))} {b : (List (List Int))} {r : Bool} (h : f30 a b = some r) : VJx cx (.ca 30 [(ssl (eL eI) a), (ssl (eL eI) b)] (.bool r) []) := by
  unfold f30 at h
  refine ca_of rfl rfl (by decide) rfl ?_
  refine Wc.start (V1 := [(0, .v (ssl (eL eI) a)), (1, .v (ssl (eL eI) b))]) (by simp) ?_
  refine Wc.seq ?_
  refine Wc.evs (by conv => lhs; simp) ?_
  refine Wo.nil ?_
  refine Wc.seq ?_
  refine Wc.seq ?_
  refine Wc.evs (by conv => lhs; simp) ?_
  refine Wo.nil ?_
  by_cases kc1 : (a.length : Int) ≠ (b.length : Int)
  · rw [if_pos kc1] at h
    refine Wc.condT' (t := _) (by conv => lhs; simp) (by simpa using kc1) ?_
    refine Wc.seq ?_
    refine Wc.kil (by conv => lhs; simp) ?_
    refine Wc.seq ?_
    refine Wc.evs (by conv => lhs; simp) ?_
    refine Wo.nil ?_
    refine Wc.ret (res_of (.inr rfl) ?_)
    cases h
    exact ⟨_, _, _, by conv => lhs; simp, by (conv => lhs; simp [cx, ioTab, List.range, List.range.loop]) <;> rfl, by first | rfl | simp⟩
  · rw [if_neg kc1] at h
    refine Wc.condF' (t := _) (by conv => lhs; simp) (by simpa using kc1) ?_
    refine Wc.seq ?_
    refine Wc.kil (by conv => lhs; simp) ?_
    refine Wc.skip ?_
    refine Wc.seq ?_
    refine Wc.seq ?_
    refine Wc.evs (by conv => lhs; simp) ?_
    refine Wo.nil ?_
    refine Wc.block ?_
    obtain ⟨w11, h12, h⟩ := bind_some h
    refine Wc.start (V1 := [(0, .v (ssl (eL eI) a)), (1, .v (ssl (eL eI) b)), (5, .v (.int .i64 0))]) (by first | rfl | simp) ?_
    refine Wc.mono (r30_0 _ _ h12) ?_
    rcases w11 with ⟨⟩ | x_13
    · rintro ex V ⟨rfl, rfl⟩
      try dsimp only at h
      refine Wc.seq ?_
      refine Wc.evs (by conv => lhs; simp) ?_
      refine Wo.nil ?_
      refine Wc.ret (res_of (.inr rfl) ?_)
      cases h
      exact ⟨_, _, _, by conv => lhs; simp, by (conv => lhs; simp [cx, ioTab, List.range, List.range.loop]) <;> rfl, by first | rfl | simp⟩
    · rintro ex V ⟨rfl, rfl⟩
      try dsimp only at h
      refine res_of (.inr rfl) ?_
      cases h
      exact ⟨_, _, _, by conv => lhs; simp, by (conv => lhs; simp [cx, ioTab, List.range, List.range.loop]) <;> rfl, by first | rfl | simp⟩
theorem r9 {aN : Int} {aClauses : (List (List Int))} {r : Bool} (h : f9 aN aClauses = some r) : VJx cx (.ca 9 [(.int .i64 aN), (ssl (eL eI) aClauses)] (.bool r) []) := by
  unfold f9 at h
  refine ca_of rfl rfl (by decide) rfl ?_
  refine Wc.start (V1 := [(0, .v (.int .i64 aN)), (1, .v (ssl (eL eI) aClauses))]) (by simp) ?_
  refine Wc.seq ?_
  refine Wc.evs (by conv => lhs; simp) ?_
  refine Wo.nil ?_
  refine Wc.seq ?_
  refine Wc.evs (by conv => lhs; simp) ?_
  refine Wo.nil ?_
  refine Wc.seq ?_
  refine Wc.evs (by conv => lhs; simp) ?_
  obtain ⟨o1, h2, h⟩ := bind_some h
  refine Wo.call (by simp) rfl (by (conv => lhs; simp [cx, ioTab]) <;> rfl) (r26 h2) (by simp) (by simp) (by (conv => lhs; simp [cx, ioTab]) <;> rfl) (by (conv => lhs; simp) <;> rfl) ?_
  refine Wo.evs (by conv => lhs; simp) ?_
  refine Wo.nil ?_
  refine Wc.seq ?_
  refine Wc.seq ?_
  refine Wc.evs (by conv => lhs; simp) ?_
  refine Wo.nil ?_
  by_cases kc3 : o1 < 0
  · rw [if_pos kc3] at h
    refine Wc.condT' (t := _) (by conv => lhs; simp) (by simpa using kc3) ?_
    refine Wc.seq ?_
    refine Wc.kil (by conv => lhs; simp) ?_
    refine Wc.seq ?_
    refine Wc.evs (by conv => lhs; simp) ?_
    refine Wo.nil ?_
    refine Wc.ret (res_of (.inr rfl) ?_)
    cases h
    exact ⟨_, _, _, by conv => lhs; simp, by (conv => lhs; simp [cx, ioTab, List.range, List.range.loop]) <;> rfl, by first | rfl | simp⟩
  · rw [if_neg kc3] at h
    refine Wc.condF' (t := _) (by conv => lhs; simp) (by simpa using kc3) ?_
    refine Wc.seq ?_
    refine Wc.kil (by conv => lhs; simp) ?_
    refine Wc.skip ?_
    refine Wc.seq ?_
    refine Wc.evs (by conv => lhs; simp) ?_
    obtain ⟨o4, h5, h⟩ := bind_some h
    refine Wo.call (by simp) rfl (by (conv => lhs; simp [cx, ioTab]) <;> rfl) (r28 h5) (by simp) (by simp) (by (conv => lhs; simp [cx, ioTab]) <;> rfl) (by (conv => lhs; simp) <;> rfl) ?_
    obtain ⟨o6, h7, h⟩ := bind_some h
    refine Wo.call (by simp) rfl (by (conv => lhs; simp [cx, ioTab]) <;> rfl) (r39 h7) (by simp) (by simp) (by (conv => lhs; simp [cx, ioTab]) <;> rfl) (by (conv => lhs; simp) <;> rfl) ?_
    refine Wo.evs (by conv => lhs; simp) ?_
    refine Wo.nil ?_
    refine Wc.seq ?_
    refine Wc.evs (by conv => lhs; simp) ?_
    obtain ⟨o8, h9, h⟩ := bind_some h
    refine Wo.call (by simp) rfl (by (conv => lhs; simp [cx, ioTab]) <;> rfl) (r28 h9) (by simp) (by simp) (by (conv => lhs; simp [cx, ioTab]) <;> rfl) (by (conv => lhs; simp) <;> rfl) ?_
    refine Wo.evs (by conv => lhs; simp) ?_
    refine Wo.nil ?_
    refine Wc.seq ?_
    refine Wc.evs (by conv => lhs; simp) ?_
    obtain ⟨o10, h11, h⟩ := bind_some h
    refine Wo.call (by simp) rfl (by (conv => lhs; simp [cx, ioTab]) <;> rfl) (r40 h11) (by simp) (by simp) (by (conv => lhs; simp [cx, ioTab]) <;> rfl) (by (conv => lhs; simp) <;> rfl) ?_
    refine Wo.evs (by conv => lhs; simp) ?_
    refine Wo.nil ?_
    refine Wc.seq ?_
    refine Wc.seq ?_
    refine Wc.evs (by conv => lhs; simp) ?_
    refine Wo.nil ?_
    by_cases kc12 : o10 ≠ o6
    · rw [if_pos kc12] at h
      refine Wc.condT' (t := _) (by conv => lhs; simp) (by simpa using kc12) ?_
      refine Wc.seq ?_
      refine Wc.kil (by conv => lhs; simp) ?_
      refine Wc.seq ?_
      refine Wc.evs (by conv => lhs; simp) ?_
      refine Wo.nil ?_
      refine Wc.ret (res_of (.inr rfl) ?_)
      cases h
      exact ⟨_, _, _, by conv => lhs; simp, by (conv => lhs; simp [cx, ioTab, List.range, List.range.loop]) <;> rfl, by first | rfl | simp⟩
    · rw [if_neg kc12] at h
      refine Wc.condF' (t := _) (by conv => lhs; simp) (by simpa using kc12) ?_
      refine Wc.seq ?_
      refine Wc.kil (by conv => lhs; simp) ?_
      refine Wc.skip ?_
      refine Wc.seq ?_
      refine Wc.seq ?_
      refine Wc.evs (by conv => lhs; simp) ?_
      obtain ⟨o13, h14, h⟩ := bind_some h
      refine Wo.call (by simp) rfl (by (conv => lhs; simp [cx, ioTab]) <;> rfl) (r28 h14) (by simp) (by simp) (by (conv => lhs; simp [cx, ioTab]) <;> rfl) (by (conv => lhs; simp) <;> rfl) ?_
      obtain ⟨o15, h16, h⟩ := bind_some h
      refine Wo.call (by simp) rfl (by (conv => lhs; simp [cx, ioTab]) <;> rfl) (r30 h16) (by simp) (by simp) (by (conv => lhs; simp [cx, ioTab]) <;> rfl) (by (conv => lhs; simp) <;> rfl) ?_
      refine Wo.evs (by conv => lhs; simp) ?_
      refine Wo.nil ?_
      by_cases kc17 : ¬ (o15 = true)
      · rw [if_pos kc17] at h
        refine Wc.condT' (t := _) (by conv => lhs; simp) (by simpa using kc17) ?_
        refine Wc.seq ?_
        refine Wc.kil (by conv => lhs; simp) ?_
        refine Wc.seq ?_
        refine Wc.evs (by conv => lhs; simp) ?_
        refine Wo.nil ?_
        refine Wc.ret (res_of (.inr rfl) ?_)
        cases h
        exact ⟨_, _, _, by conv => lhs; simp, by (conv => lhs; simp [cx, ioTab, List.range, List.range.loop]) <;> rfl, by first | rfl | simp⟩
      · rw [if_neg kc17] at h
        refine Wc.condF' (t := _) (by conv => lhs; simp) (by simpa using kc17) ?_
        refine Wc.seq ?_
        refine Wc.kil (by conv => lhs; simp) ?_
        refine Wc.skip ?_
        refine Wc.seq ?_
        refine Wc.evs (by conv => lhs; simp) ?_
        refine Wo.nil ?_
        refine Wc.ret (res_of (.inr rfl) ?_)
        cases h
        exact ⟨_, _, _, by conv => lhs; simp, by (conv => lhs; simp [cx, ioTab, List.range, List.range.loop]) <;> rfl, by first | rfl | simp⟩
end
end Go.Proofs.YthfbkecnnllpkaaH
