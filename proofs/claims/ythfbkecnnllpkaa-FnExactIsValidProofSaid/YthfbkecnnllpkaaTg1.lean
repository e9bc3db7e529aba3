/- Runs of the program's functions: printed by tg.py. -/
import Derived.Test.YthfbkecnnllpkaaCx1
import Derived.Test.YthfbkecnnllpkaaHn3
import Derived.Test.YthfbkecnnllpkaaTd1
set_option linter.unusedVariables false
set_option linter.unusedSimpArgs false
set_option maxRecDepth 100000
namespace Go.Proofs.YthfbkecnnllpkaaH
open Go
noncomputable section
theorem r51 {a : (List Int)} {left : Int} {r : Int} (h : f51 a left = some r) : VJx cx (.ca 51 [(ssl eI a), (.int .i64 left)] (.int .i64 r) []) := by
  unfold f51 at h
  refine ca_of rfl rfl (by decide) rfl ?_
  refine Wc.start (V1 := [(0, .v (ssl eI a)), (1, .v (.int .i64 left))]) (by simp) ?_
  refine Wc.seq ?_
  refine Wc.evs (by conv => lhs; simp) ?_
  refine Wo.nil ?_
  refine Wc.seq ?_
  refine Wc.evs (by conv => lhs; simp) ?_
  refine Wo.nil ?_
  refine Wc.seq ?_
  refine Wc.seq ?_
  refine Wc.evs (by conv => lhs; simp) ?_
  refine Wo.nil ?_
  by_cases kc1 : (w64 (left - (a.length : Int))) < 0
  · rw [if_pos kc1] at h
    refine Wc.condT' (t := _) (by conv => lhs; simp) (by simpa using kc1) ?_
    refine Wc.seq ?_
    refine Wc.kil (by conv => lhs; simp) ?_
    refine Wc.seq ?_
    refine Wc.evs (by conv => lhs; simp) ?_
    refine Wo.nil ?_
    refine Wc.ret (res_of (.inr rfl) ?_)
    cases h
    exact ⟨_, _, _, by conv => lhs; simp, by (conv => lhs; simp [cx, ioTab, List.range, List.range.loop]) <;> rfl, by first | rfl | simp⟩
  · rw [if_neg kc1] at h
    refine Wc.condF' (t := _) (by conv => lhs; simp) (by simpa using kc1) ?_
    refine Wc.seq ?_
    refine Wc.kil (by conv => lhs; simp) ?_
    refine Wc.skip ?_
    refine Wc.seq ?_
    refine Wc.evs (by conv => lhs; simp) ?_
    refine Wo.nil ?_
    refine Wc.ret (res_of (.inr rfl) ?_)
    cases h
    exact ⟨_, _, _, by conv => lhs; simp, by (conv => lhs; simp [cx, ioTab, List.range, List.range.loop]) <;> rfl, by first | rfl | simp⟩
theorem r26_0 {a : (List (List Int))} : ∀ zs zo, iter (f26_0 a) zs = some zo → Wc cx 27 (.loop L26_0) [(0, .v (ssl (eL eI) a)), (1, .v (.int .i64 zs.1)), (5, .v (.int .i64 zs.2))] ((QO (QX 0 (fun (y : Int) => [(1, .v (.int .i64 y))])) (QR (fun (y : Int) => [(4, .v (.int .i64 y))]))) zo) := by
  intro zs0 zo0 zh0
  refine iter_run (f := (f26_0 a)) (P := fun zs zo => Wc cx 27 (.loop L26_0) [(0, .v (ssl (eL eI) a)), (1, .v (.int .i64 zs.1)), (5, .v (.int .i64 zs.2))] ((QO (QX 0 (fun (y : Int) => [(1, .v (.int .i64 y))])) (QR (fun (y : Int) => [(4, .v (.int .i64 y))]))) zo)) ?_ zh0
  rintro ⟨left_2, i_3⟩ zo zr h hk hx
  try dsimp only at hk ⊢
  rw [f26_0] at h
  refine Wc.loop ?_
  refine Wc.seq ?_
  refine Wc.seq ?_
  refine Wc.evs (by conv => lhs; simp) ?_
  refine Wo.nil ?_
  by_cases kc4 : i_3 < (a.length : Int)
  · rw [if_pos kc4] at h
    refine Wc.condT' (t := _) (by conv => lhs; simp) (by simpa using kc4) ?_
    refine Wc.seq ?_
    refine Wc.kil (by conv => lhs; simp) ?_
    refine Wc.skip ?_
    refine Wc.seq ?_
    refine Wc.block ?_
    refine Wc.seq ?_
    obtain ⟨v_5, h6, h⟩ := bind_some h
    obtain ⟨ga6, gb6, gc6⟩ := ix_some h6
    have gn6 := ix_ne h6
    have gd6 := arr_at (E := (eL eI)) (b := false) gc6
    simp at gd6
    refine Wc.evs (by conv => lhs; simp [ga6, gb6, gn6, gd6]) ?_
    obtain ⟨o7, h8, h⟩ := bind_some h
    refine Wo.call (by simp) rfl (by (conv => lhs; simp [ga6, gb6, gn6, gd6, cx, ioTab]) <;> rfl) (r51 h8) (by simp) (by simp) (by (conv => lhs; simp [ga6, gb6, gn6, gd6, cx, ioTab]) <;> rfl) (by (conv => lhs; simp [ga6, gb6, gn6, gd6]) <;> rfl) ?_
    refine Wo.evs (by conv => lhs; simp [ga6, gb6, gn6, gd6]) ?_
    refine Wo.nil ?_
    refine Wc.seq ?_
    refine Wc.evs (by conv => lhs; simp) ?_
    refine Wo.nil ?_
    by_cases kc9 : o7 < 0
    · rw [if_pos kc9] at h
      refine Wc.condT' (t := _) (by conv => lhs; simp) (by simpa using kc9) ?_
      refine Wc.seq ?_
      refine Wc.kil (by conv => lhs; simp) ?_
      refine Wc.seq ?_
      refine Wc.evs (by conv => lhs; simp) ?_
      refine Wo.nil ?_
      refine Wc.ret ?_
      have e0 := hx _ (Option.some.inj h).symm
      subst e0
      exact ⟨rfl, by first | rfl | simp⟩
    · rw [if_neg kc9] at h
      refine Wc.condF' (t := _) (by conv => lhs; simp) (by simpa using kc9) ?_
      refine Wc.seq ?_
      refine Wc.kil (by conv => lhs; simp) ?_
      refine Wc.skip ?_
      refine Wc.evs (by conv => lhs; simp) ?_
      refine Wo.nil ?_
      refine Wc.start (V1 := [(0, .v (ssl (eL eI) a)), (1, .v (.int .i64 o7)), (5, .v (.int .i64 (w64 (i_3 + 1))))]) ?_ (hk _ (Option.some.inj h).symm)
      first | rfl | simp
  · rw [if_neg kc4] at h
    refine Wc.condF' (t := _) (by conv => lhs; simp) (by simpa using kc4) ?_
    refine Wc.seq ?_
    refine Wc.kil (by conv => lhs; simp) ?_
    refine Wc.exit ?_
    have e0 := hx _ (Option.some.inj h).symm
    subst e0
    exact ⟨rfl, by first | rfl | simp⟩
theorem r26 {a : (List (List Int))} {left : Int} {r : Int} (h : f26 a left = some r) : VJx cx (.ca 26 [(ssl (eL eI) a), (.int .i64 left)] (.int .i64 r) []) := by
  unfold f26 at h
  refine ca_of rfl rfl (by decide) rfl ?_
  refine Wc.start (V1 := [(0, .v (ssl (eL eI) a)), (1, .v (.int .i64 left))]) (by simp) ?_
  refine Wc.seq ?_
  refine Wc.evs (by conv => lhs; simp) ?_
  refine Wo.nil ?_
  refine Wc.seq ?_
  refine Wc.evs (by conv => lhs; simp) ?_
  refine Wo.nil ?_
  refine Wc.seq ?_
  refine Wc.seq ?_
  refine Wc.evs (by conv => lhs; simp) ?_
  refine Wo.nil ?_
  by_cases kc1 : (w64 (left - (a.length : Int))) < 0
  · rw [if_pos kc1] at h
    refine Wc.condT' (t := _) (by conv => lhs; simp) (by simpa using kc1) ?_
    refine Wc.seq ?_
    refine Wc.kil (by conv => lhs; simp) ?_
    refine Wc.seq ?_
    refine Wc.evs (by conv => lhs; simp) ?_
    refine Wo.nil ?_
    refine Wc.ret (res_of (.inr rfl) ?_)
    cases h
    exact ⟨_, _, _, by conv => lhs; simp, by (conv => lhs; simp [cx, ioTab, List.range, List.range.loop]) <;> rfl, by first | rfl | simp⟩
  · rw [if_neg kc1] at h
    refine Wc.condF' (t := _) (by conv => lhs; simp) (by simpa using kc1) ?_
    refine Wc.seq ?_
    refine Wc.kil (by conv => lhs; simp) ?_
    refine Wc.skip ?_
    refine Wc.seq ?_
    refine Wc.seq ?_
    refine Wc.evs (by conv => lhs; simp) ?_
    refine Wo.nil ?_
    refine Wc.block ?_
    obtain ⟨w10, h11, h⟩ := bind_some h
    refine Wc.start (V1 := [(0, .v (ssl (eL eI) a)), (1, .v (.int .i64 (w64 (left - (a.length : Int))))), (5, .v (.int .i64 0))]) (by first | rfl | simp) ?_
    refine Wc.mono (r26_0 _ _ h11) ?_
    rcases w10 with left_12 | x_13
    · rintro ex V ⟨rfl, rfl⟩
      try dsimp only at h
      refine Wc.seq ?_
      refine Wc.evs (by conv => lhs; simp) ?_
      refine Wo.nil ?_
      refine Wc.ret (res_of (.inr rfl) ?_)
      cases h
      exact ⟨_, _, _, by conv => lhs; simp, by (conv => lhs; simp [cx, ioTab, List.range, List.range.loop]) <;> rfl, by first | rfl | simp⟩
    · rintro ex V ⟨rfl, rfl⟩
      try dsimp only at h
      refine res_of (.inr rfl) ?_
      cases h
      exact ⟨_, _, _, by conv => lhs; simp, by (conv => lhs; simp [cx, ioTab, List.range, List.range.loop]) <;> rfl, by first | rfl | simp⟩
theorem r16_0 {a : (List Int)} : ∀ zs zo, iter (f16_0 a) zs = some zo → Wc cx 22 (.loop L16_0) [(0, .v (ssl eI a)), (3, .v (osl eI true zs.1)), (4, .v (.int .i64 zs.2))] ((QX 0 (fun (y : (List Int)) => [(3, .v (osl eI true y))])) zo) := by
  intro zs0 zo0 zh0
  refine iter_run (f := (f16_0 a)) (P := fun zs zo => Wc cx 22 (.loop L16_0) [(0, .v (ssl eI a)), (3, .v (osl eI true zs.1)), (4, .v (.int .i64 zs.2))] ((QX 0 (fun (y : (List Int)) => [(3, .v (osl eI true y))])) zo)) ?_ zh0
  rintro ⟨out_3, i_4⟩ zo zr h hk hx
  try dsimp only at hk ⊢
  rw [f16_0] at h
  refine Wc.loop ?_
  refine Wc.seq ?_
  refine Wc.seq ?_
  refine Wc.evs (by conv => lhs; simp) ?_
  refine Wo.nil ?_
  by_cases kc5 : i_4 < (a.length : Int)
  · rw [if_pos kc5] at h
    refine Wc.condT' (t := _) (by conv => lhs; simp) (by simpa using kc5) ?_
    refine Wc.seq ?_
    refine Wc.kil (by conv => lhs; simp) ?_
    refine Wc.skip ?_
    refine Wc.seq ?_
    refine Wc.block ?_
    obtain ⟨v_6, h7, h⟩ := bind_some h
    obtain ⟨ga7, gb7, gc7⟩ := ix_some h7
    have gn7 := ix_ne h7
    have gd7 := arr_at (E := eI) (b := false) gc7
    simp at gd7
    obtain ⟨v_8, h9, h⟩ := bind_some h
    obtain ⟨ga9, gb9, gc9⟩ := ix_some h9
    have gn9 := ix_ne h9
    have gf9 := arr_fit (E := eI) (b := true) (i := i_4.toNat) (l := out_3) (by omega)
    have gg9_0 := arr_get (E := eI) (b := true) (o := 0) gc9 (by decide)
    simp at gf9 gg9_0
    have gl9 : i_4.toNat < out_3.length := by omega
    have gy10 := lay_set (E := eI) (b := true) (i := i_4.toNat) (l := out_3) v_6 (by omega)
    simp at gy10
    refine Wc.evs (by conv => lhs; simp [ga7, gb7, gn7, gd7, -getElem?_pos, List.getElem?_cons_zero, List.getElem?_cons_succ, ga9, gb9, gn9, gf9, gg9_0, gl9, gy10]) ?_
    refine Wo.nil ?_
    refine Wc.evs (by conv => lhs; simp) ?_
    refine Wo.nil ?_
    refine Wc.start (V1 := [(0, .v (ssl eI a)), (3, .v (osl eI true (out_3.set i_4.toNat v_6))), (4, .v (.int .i64 (w64 (i_4 + 1))))]) ?_ (hk _ (Option.some.inj h).symm)
    first | rfl | simp
  · rw [if_neg kc5] at h
    refine Wc.condF' (t := _) (by conv => lhs; simp) (by simpa using kc5) ?_
    refine Wc.seq ?_
    refine Wc.kil (by conv => lhs; simp) ?_
    refine Wc.exit ?_
    have e0 := hx _ (Option.some.inj h).symm
    subst e0
    exact ⟨rfl, by first | rfl | simp⟩
theorem r16 {a : (List Int)} {r : (List Int)} (h : f16 a = some r) : VJx cx (.ca 16 [(ssl eI a)] (osl eI true r) []) := by
  unfold f16 at h
  refine ca_of rfl rfl (by decide) rfl ?_
  refine Wc.start (V1 := [(0, .v (ssl eI a))]) (by simp) ?_
  refine Wc.seq ?_
  refine Wc.evs (by conv => lhs; simp) ?_
  refine Wo.nil ?_
  refine Wc.seq ?_
  obtain ⟨l_1, h2, h⟩ := bind_some h
  obtain ⟨gm2, gp2, gq2, gr2⟩ := mkl_some h2
  have gx2 := rep_arr (E := eI) (b := true) gr2
  simp at gx2
  refine Wc.evs (by conv => lhs; simp [gm2, gp2, gq2, gx2]) ?_
  refine Wo.gh (vle_co (s := 3) (t1 := (osl eI true l_1)) rfl (by simp) (tle_own rfl) (by conv => lhs; simp)) ?_
  refine Wo.nil ?_
  refine Wc.seq ?_
  refine Wc.seq ?_
  refine Wc.evs (by conv => lhs; simp) ?_
  refine Wo.nil ?_
  refine Wc.block ?_
  obtain ⟨w11, h12, h⟩ := bind_some h
  refine Wc.start (V1 := [(0, .v (ssl eI a)), (3, .v (osl eI true l_1)), (4, .v (.int .i64 0))]) (by first | rfl | simp) ?_
  refine Wc.mono (r16_0 _ _ h12) ?_
  generalize w11 = out_13 at *
  rintro ex V ⟨rfl, rfl⟩
  try dsimp only at h
  refine Wc.seq ?_
  refine Wc.evs (by conv => lhs; simp) ?_
  refine Wo.nil ?_
  refine Wc.ret (res_of (.inr rfl) ?_)
  cases h
  exact ⟨_, _, _, by conv => lhs; simp, by (conv => lhs; simp [cx, ioTab, List.range, List.range.loop]) <;> rfl, by first | rfl | simp⟩
theorem r28_0 {a : (List (List Int))} : ∀ zs zo, iter (f28_0 a) zs = some zo → Wc cx 23 (.loop L28_0) [(0, .v (ssl (eL eI) a)), (3, .v (osl (eL eI) true zs.1)), (4, .v (.int .i64 zs.2))] ((QX 0 (fun (y : (List (List Int))) => [(3, .v (osl (eL eI) true y))])) zo) := by
  intro zs0 zo0 zh0
  refine iter_run (f := (f28_0 a)) (P := fun zs zo => Wc cx 23 (.loop L28_0) [(0, .v (ssl (eL eI) a)), (3, .v (osl (eL eI) true zs.1)), (4, .v (.int .i64 zs.2))] ((QX 0 (fun (y : (List (List Int))) => [(3, .v (osl (eL eI) true y))])) zo)) ?_ zh0
  rintro ⟨out_3, i_4⟩ zo zr h hk hx
  try dsimp only at hk ⊢
  rw [f28_0] at h
  refine Wc.loop ?_
  refine Wc.seq ?_
  refine Wc.seq ?_
  refine Wc.evs (by conv => lhs; simp) ?_
  refine Wo.nil ?_
  by_cases kc5 : i_4 < (a.length : Int)
  · rw [if_pos kc5] at h
    refine Wc.condT' (t := _) (by conv => lhs; simp) (by simpa using kc5) ?_
    refine Wc.seq ?_
    refine Wc.kil (by conv => lhs; simp) ?_
    refine Wc.skip ?_
    refine Wc.seq ?_
    refine Wc.block ?_
    obtain ⟨v_6, h7, h⟩ := bind_some h
    obtain ⟨ga7, gb7, gc7⟩ := ix_some h7
    have gn7 := ix_ne h7
    have gd7 := arr_at (E := (eL eI)) (b := false) gc7
    simp at gd7
    refine Wc.evs (by conv => lhs; simp [ga7, gb7, gn7, gd7]) ?_
    obtain ⟨o8, h9, h⟩ := bind_some h
    refine Wo.call (by simp) rfl (by (conv => lhs; simp [ga7, gb7, gn7, gd7, cx, ioTab]) <;> rfl) (r16 h9) (by simp) (by simp) (by (conv => lhs; simp [ga7, gb7, gn7, gd7, cx, ioTab]) <;> rfl) (by (conv => lhs; simp [ga7, gb7, gn7, gd7]) <;> rfl) ?_
    obtain ⟨v_10, h11, h⟩ := bind_some h
    obtain ⟨ga11, gb11, gc11⟩ := ix_some h11
    have gn11 := ix_ne h11
    have gf11 := arr_fit (E := (eL eI)) (b := true) (i := i_4.toNat) (l := out_3) (by omega)
    have gg11_0 := arr_get (E := (eL eI)) (b := true) (o := 0) gc11 (by decide)
    simp at gf11 gg11_0
    have gl11 : i_4.toNat < out_3.length := by omega
    have gy12 := lay_set (E := (eL eI)) (b := true) (i := i_4.toNat) (l := out_3) o8 (by omega)
    simp at gy12
    refine Wo.evs (by conv => lhs; simp [ga7, gb7, gn7, gd7, -getElem?_pos, List.getElem?_cons_zero, List.getElem?_cons_succ, ga11, gb11, gn11, gf11, gg11_0, gl11, gy12]) ?_
    refine Wo.nil ?_
    refine Wc.evs (by conv => lhs; simp) ?_
    refine Wo.nil ?_
    refine Wc.start (V1 := [(0, .v (ssl (eL eI) a)), (3, .v (osl (eL eI) true (out_3.set i_4.toNat o8))), (4, .v (.int .i64 (w64 (i_4 + 1))))]) ?_ (hk _ (Option.some.inj h).symm)
    first | rfl | simp
  · rw [if_neg kc5] at h
    refine Wc.condF' (t := _) (by conv => lhs; simp) (by simpa using kc5) ?_
    refine Wc.seq ?_
    refine Wc.kil (by conv => lhs; simp) ?_
    refine Wc.exit ?_
    have e0 := hx _ (Option.some.inj h).symm
    subst e0
    exact ⟨rfl, by first | rfl | simp⟩
theorem r28 {a : (List (List Int))} {r : (List (List Int))} (h : f28 a = some r) : VJx cx (.ca 28 [(ssl (eL eI) a)] (osl (eL eI) true r) []) := by
  unfold f28 at h
  refine ca_of rfl rfl (by decide) rfl ?_
  refine Wc.start (V1 := [(0, .v (ssl (eL eI) a))]) (by simp) ?_
  refine Wc.seq ?_
  refine Wc.evs (by conv => lhs; simp) ?_
  refine Wo.nil ?_
  refine Wc.seq ?_
  obtain ⟨l_1, h2, h⟩ := bind_some h
  obtain ⟨gm2, gp2, gq2, gr2⟩ := mkl_some h2
  try simp at gr2
  refine Wc.evs (by conv => lhs; simp [gm2, gp2, gq2]) ?_
  refine Wo.gh (vle_co (s := 3) (t1 := (osl (eL eI) true l_1)) rfl (by simp) (TLe.own0 (tles_rep1 (E := (eL eI)) (b := true) gr2 (show TLes _ [(osl eI true ([]))] from (TLes.cons (TLe.nil rfl (by decide)) (TLes.refl _))))) (by conv => lhs; simp)) ?_
  refine Wo.nil ?_
  refine Wc.seq ?_
  refine Wc.seq ?_
  refine Wc.evs (by conv => lhs; simp) ?_
  refine Wo.nil ?_
  refine Wc.block ?_
  obtain ⟨w13, h14, h⟩ := bind_some h
  refine Wc.start (V1 := [(0, .v (ssl (eL eI) a)), (3, .v (osl (eL eI) true l_1)), (4, .v (.int .i64 0))]) (by first | rfl | simp) ?_
  refine Wc.mono (r28_0 _ _ h14) ?_
  generalize w13 = out_15 at *
  rintro ex V ⟨rfl, rfl⟩
  try dsimp only at h
  refine Wc.seq ?_
  refine Wc.evs (by conv => lhs; simp) ?_
  refine Wo.nil ?_
  refine Wc.ret (res_of (.inr rfl) ?_)
  cases h
  exact ⟨_, _, _, by conv => lhs; simp, by (conv => lhs; simp [cx, ioTab, List.range, List.range.loop]) <;> rfl, by first | rfl | simp⟩
theorem r61 {x : Int} {low : Int} {high : Int} {r : Bool} (h : f61 x low high = some r) : VJx cx (.ca 61 [(.int .i64 x), (.int .i64 low), (.int .i64 high)] (.bool r) []) := by
  unfold f61 at h
  refine ca_of rfl rfl (by decide) rfl ?_
  refine Wc.start (V1 := [(0, .v (.int .i64 x)), (1, .v (.int .i64 low)), (2, .v (.int .i64 high))]) (by simp) ?_
  refine Wc.seq ?_
  refine Wc.evs (by conv => lhs; simp) ?_
  refine Wo.nil ?_
  refine Wc.seq ?_
  refine Wc.evk 4 (by conv => lhs; simp) ?_
  obtain ⟨w2, h3, h⟩ := bind_some h
  refine Wo.mono (Q := fun V => V = [(6, .v (.bool w2))]) ?_ ?_
  · by_cases knh3 : x ≥ low
    · rw [if_pos knh3] at h3
      refine Wo.gh (vle_co (s := 10) (t1 := .bool true) rfl (by simp) (tle_bool (by simpa using knh3)) (by conv => lhs; simp)) ?_
      refine Wo.evs (by conv => lhs; simp) ?_
      refine Wo.nil ?_
      cases h3
      first | rfl | simp
    · rw [if_neg knh3] at h3
      refine Wo.gh (vle_co (s := 10) (t1 := .bool false) rfl (by simp) (tle_bool (by simpa using knh3)) (by conv => lhs; simp)) ?_
      refine Wo.evs (by conv => lhs; simp) ?_
      refine Wo.nil ?_
      cases h3
      first | rfl | simp
  · rintro V rfl
    generalize w2 = x_1 at *
    try dsimp only at h
    refine Wc.ret (res_of (.inr rfl) ?_)
    cases h
    exact ⟨_, _, _, by conv => lhs; simp, by (conv => lhs; simp [cx, ioTab, List.range, List.range.loop]) <;> rfl, by first | rfl | simp⟩
theorem r60_1 {n0 : Int} {c : (List Int)} {i_1 : Int} : ∀ zs zo, iter (f60_1 c i_1) zs = some zo → Wc cx 68 (.loop L60_1) [(0, .v (.int .i64 n0)), (1, .v (ssl eI c)), (5, .v (.int .i64 i_1)), (7, .v (.int .i64 zs))] ((QO (QX 2 (fun (y : Unit) => [(0, .v (.int .i64 n0)), (1, .v (ssl eI c)), (5, .v (.int .i64 i_1))])) (QR (fun (y : Bool) => [(4, .v (.bool y))]))) zo) := by
  intro zs0 zo0 zh0
  refine iter_run (f := (f60_1 c i_1)) (P := fun zs zo => Wc cx 68 (.loop L60_1) [(0, .v (.int .i64 n0)), (1, .v (ssl eI c)), (5, .v (.int .i64 i_1)), (7, .v (.int .i64 zs))] ((QO (QX 2 (fun (y : Unit) => [(0, .v (.int .i64 n0)), (1, .v (ssl eI c)), (5, .v (.int .i64 i_1))])) (QR (fun (y : Bool) => [(4, .v (.bool y))]))) zo)) ?_ zh0
  rintro k_15 zo zr h hk hx
  try dsimp only at hk ⊢
  rw [f60_1] at h
  refine Wc.loop ?_
  refine Wc.seq ?_
  refine Wc.seq ?_
  refine Wc.evs (by conv => lhs; simp) ?_
  refine Wo.nil ?_
  by_cases kc16 : k_15 < i_1
  · rw [if_pos kc16] at h
    refine Wc.condT' (t := _) (by conv => lhs; simp) (by simpa using kc16) ?_
    refine Wc.seq ?_
    refine Wc.kil (by conv => lhs; simp) ?_
    refine Wc.skip ?_
    refine Wc.seq ?_
    refine Wc.block ?_
    refine Wc.seq ?_
    obtain ⟨v_17, h18, h⟩ := bind_some h
    obtain ⟨ga18, gb18, gc18⟩ := ix_some h18
    have gn18 := ix_ne h18
    have gd18 := arr_at (E := eI) (b := false) gc18
    simp at gd18
    obtain ⟨v_19, h20, h⟩ := bind_some h
    obtain ⟨ga20, gb20, gc20⟩ := ix_some h20
    have gn20 := ix_ne h20
    have gd20 := arr_at (E := eI) (b := false) gc20
    simp at gd20
    refine Wc.evk 10 (by conv => lhs; simp [ga18, gb18, gn18, gd18, ga20, gb20, gn20, gd20]) ?_
    obtain ⟨w22, h23, h⟩ := bind_some h
    refine Wo.mono (Q := fun V => V = [(0, .v (.int .i64 n0)), (1, .v (ssl eI c)), (5, .v (.int .i64 i_1)), (7, .v (.int .i64 k_15)), (67, .v (.bool w22))]) ?_ ?_
    · by_cases knh23 : v_17 = v_19
      · rw [if_pos knh23] at h23
        refine Wo.gh (vle_co (s := 56) (t1 := .bool true) rfl (by simp) (tle_bool (by simpa using knh23)) (by conv => lhs; simp)) ?_
        refine Wo.evs (by conv => lhs; simp [ga18, gb18, gn18, gd18, ga20, gb20, gn20, gd20]) ?_
        refine Wo.nil ?_
        cases h23
        first | rfl | simp [ga18, gb18, gn18, gd18, ga20, gb20, gn20, gd20]
      · rw [if_neg knh23] at h23
        refine Wo.gh (vle_co (s := 56) (t1 := .bool false) rfl (by simp) (tle_bool (by simpa using knh23)) (by conv => lhs; simp)) ?_
        refine Wo.evs (by conv => lhs; simp [ga18, gb18, gn18, gd18, ga20, gb20, gn20, gd20]) ?_
        refine Wo.nil ?_
        cases h23
        first | rfl | simp [ga18, gb18, gn18, gd18, ga20, gb20, gn20, gd20]
    · rintro V rfl
      generalize w22 = x_21 at *
      try dsimp only at h
      by_cases kc24 : x_21 = true
      · rw [if_pos kc24] at h
        refine Wc.condT' (t := _) (by conv => lhs; simp) (by simpa using kc24) ?_
        refine Wc.seq ?_
        refine Wc.kil (by conv => lhs; simp) ?_
        refine Wc.seq ?_
        refine Wc.evs (by conv => lhs; simp) ?_
        refine Wo.nil ?_
        refine Wc.ret ?_
        have e0 := hx _ (Option.some.inj h).symm
        subst e0
        exact ⟨rfl, by first | rfl | simp⟩
      · rw [if_neg kc24] at h
        refine Wc.condF' (t := _) (by conv => lhs; simp) (by simpa using kc24) ?_
        refine Wc.seq ?_
        refine Wc.kil (by conv => lhs; simp) ?_
        refine Wc.skip ?_
        refine Wc.evs (by conv => lhs; simp) ?_
        refine Wo.nil ?_
        refine Wc.start (V1 := [(0, .v (.int .i64 n0)), (1, .v (ssl eI c)), (5, .v (.int .i64 i_1)), (7, .v (.int .i64 (w64 (k_15 + 1))))]) ?_ (hk _ (Option.some.inj h).symm)
        first | rfl | simp
  · rw [if_neg kc16] at h
    refine Wc.condF' (t := _) (by conv => lhs; simp) (by simpa using kc16) ?_
    refine Wc.seq ?_
    refine Wc.kil (by conv => lhs; simp) ?_
    refine Wc.exit ?_
    have e0 := hx _ (Option.some.inj h).symm
    subst e0
    exact ⟨rfl, by first | rfl | simp⟩
theorem r60_0 {n0 : Int} {c : (List Int)} : ∀ zs zo, iter (f60_0 n0 c) zs = some zo → Wc cx 68 (.loop L60_0) [(0, .v (.int .i64 n0)), (1, .v (ssl eI c)), (5, .v (.int .i64 zs))] ((QO (QX 0 (fun (y : Unit) => [])) (QR (fun (y : Bool) => [(4, .v (.bool y))]))) zo) := by
  intro zs0 zo0 zh0
  refine iter_run (f := (f60_0 n0 c)) (P := fun zs zo => Wc cx 68 (.loop L60_0) [(0, .v (.int .i64 n0)), (1, .v (ssl eI c)), (5, .v (.int .i64 zs))] ((QO (QX 0 (fun (y : Unit) => [])) (QR (fun (y : Bool) => [(4, .v (.bool y))]))) zo)) ?_ zh0
  rintro i_1 zo zr h hk hx
  try dsimp only at hk ⊢
  rw [f60_0] at h
  refine Wc.loop ?_
  refine Wc.seq ?_
  refine Wc.seq ?_
  refine Wc.evs (by conv => lhs; simp) ?_
  refine Wo.nil ?_
  by_cases kc2 : i_1 < (c.length : Int)
  · rw [if_pos kc2] at h
    refine Wc.condT' (t := _) (by conv => lhs; simp) (by simpa using kc2) ?_
    refine Wc.seq ?_
    refine Wc.kil (by conv => lhs; simp) ?_
    refine Wc.skip ?_
    refine Wc.seq ?_
    refine Wc.block ?_
    refine Wc.seq ?_
    obtain ⟨v_3, h4, h⟩ := bind_some h
    obtain ⟨ga4, gb4, gc4⟩ := ix_some h4
    have gn4 := ix_ne h4
    have gd4 := arr_at (E := eI) (b := false) gc4
    simp at gd4
    refine Wc.evs (by conv => lhs; simp [ga4, gb4, gn4, gd4]) ?_
    refine Wo.nil ?_
    refine Wc.seq ?_
    refine Wc.seq ?_
    refine Wc.evk 6 (by conv => lhs; simp [ga4, gb4, gn4, gd4]) ?_
    obtain ⟨w6, h7, h⟩ := bind_some h
    refine Wo.mono (Q := fun V => V = [(0, .v (.int .i64 n0)), (1, .v (ssl eI c)), (5, .v (.int .i64 i_1)), (6, .v (.int .i64 (if 0 > v_3 then 0 else v_3))), (32, .v (.bool w6))]) ?_ ?_
    · by_cases knh7 : v_3 < 0
      · rw [if_pos knh7] at h7
        refine Wo.gh (vle_co (s := 24) (t1 := .bool true) rfl (by simp) (tle_bool (by simpa using knh7)) (by conv => lhs; simp)) ?_
        refine Wo.evs (by conv => lhs; simp [ga4, gb4, gn4, gd4]) ?_
        refine Wo.nil ?_
        cases h7
        first | rfl | simp [ga4, gb4, gn4, gd4]
      · rw [if_neg knh7] at h7
        refine Wo.gh (vle_co (s := 24) (t1 := .bool false) rfl (by simp) (tle_bool (by simpa using knh7)) (by conv => lhs; simp)) ?_
        refine Wo.evs (by conv => lhs; simp [ga4, gb4, gn4, gd4]) ?_
        refine Wo.nil ?_
        cases h7
        first | rfl | simp [ga4, gb4, gn4, gd4]
    · rintro V rfl
      generalize w6 = x_5 at *
      try dsimp only at h
      obtain ⟨w8, h9, h⟩ := bind_some h
      refine Wc.mono (Q := (QN (fun (y : Int) => [(0, .v (.int .i64 n0)), (1, .v (ssl eI c)), (5, .v (.int .i64 i_1)), (6, .v (.int .i64 y))])) w8) ?_ ?_
      · skip
        by_cases kc10 : x_5 = true
        · rw [if_pos kc10] at h9
          refine Wc.condT' (t := _) (by conv => lhs; simp) (by simpa using kc10) ?_
          refine Wc.seq ?_
          refine Wc.kil (by conv => lhs; simp) ?_
          refine Wc.evs (by conv => lhs; simp [ga4, gb4, gn4, gd4]) ?_
          refine Wo.nil ?_
          cases h9
          exact ⟨rfl, by first | rfl | simp [ga4, gb4, gn4, gd4]⟩
        · rw [if_neg kc10] at h9
          refine Wc.condF' (t := _) (by conv => lhs; simp) (by simpa using kc10) ?_
          refine Wc.seq ?_
          refine Wc.kil (by conv => lhs; simp) ?_
          refine Wc.skip ?_
          cases h9
          exact ⟨rfl, by first | rfl | simp [ga4, gb4, gn4, gd4]⟩
      · skip
        generalize w8 = v_11 at *
        rintro ex V ⟨rfl, rfl⟩
        try dsimp only at h
        refine Wc.seq ?_
        refine Wc.seq ?_
        refine Wc.evs (by conv => lhs; simp) ?_
        obtain ⟨o12, h13, h⟩ := bind_some h
        refine Wo.call (by simp) rfl (by (conv => lhs; simp [cx, ioTab]) <;> rfl) (r61 h13) (by simp) (by simp) (by (conv => lhs; simp [cx, ioTab]) <;> rfl) (by (conv => lhs; simp) <;> rfl) ?_
        refine Wo.evs (by conv => lhs; simp) ?_
        refine Wo.nil ?_
        by_cases kc14 : ¬ (o12 = true)
        · rw [if_pos kc14] at h
          refine Wc.condT' (t := _) (by conv => lhs; simp) (by simpa using kc14) ?_
          refine Wc.seq ?_
          refine Wc.kil (by conv => lhs; simp) ?_
          refine Wc.seq ?_
          refine Wc.evs (by conv => lhs; simp) ?_
          refine Wo.nil ?_
          refine Wc.ret ?_
          have e0 := hx _ (Option.some.inj h).symm
          subst e0
          exact ⟨rfl, by first | rfl | simp⟩
        · rw [if_neg kc14] at h
          refine Wc.condF' (t := _) (by conv => lhs; simp) (by simpa using kc14) ?_
          refine Wc.seq ?_
          refine Wc.kil (by conv => lhs; simp) ?_
          refine Wc.skip ?_
          refine Wc.seq ?_
          refine Wc.evs (by conv => lhs; simp) ?_
          refine Wo.nil ?_
          refine Wc.block ?_
          obtain ⟨w25, h26, h⟩ := bind_some h
          refine Wc.start (V1 := [(0, .v (.int .i64 n0)), (1, .v (ssl eI c)), (5, .v (.int .i64 i_1)), (7, .v (.int .i64 0))]) (by first | rfl | simp) ?_
          refine Wc.mono (r60_1 _ _ h26) ?_
          rcases w25 with ⟨⟩ | x_27
          · rintro ex V ⟨rfl, rfl⟩
            try dsimp only at h
            refine Wc.evs (by conv => lhs; simp) ?_
            refine Wo.nil ?_
            refine Wc.start (V1 := [(0, .v (.int .i64 n0)), (1, .v (ssl eI c)), (5, .v (.int .i64 (w64 (i_1 + 1))))]) ?_ (hk _ (Option.some.inj h).symm)
            first | rfl | simp
          · rintro ex V ⟨rfl, rfl⟩
            try dsimp only at h
            have e0 := hx _ (Option.some.inj h).symm
            subst e0
            exact ⟨rfl, by first | rfl | simp⟩
  · rw [if_neg kc2] at h
    refine Wc.condF' (t := _) (by conv => lhs; simp) (by simpa using kc2) ?_
    refine Wc.seq ?_
    refine Wc.kil (by conv => lhs; simp) ?_
    refine Wc.exit ?_
    have e0 := hx _ (Option.some.inj h).symm
    subst e0
    exact ⟨rfl, by first | rfl | simp⟩
theorem r60 {n0 : Int} {c : (List Int)} {r : Bool} (h : f60 n0 c = some r) : VJx cx (.ca 60 [(.int .i64 n0), (ssl eI c)] (.bool r) []) := by
  unfold f60 at h
  refine ca_of rfl rfl (by decide) rfl ?_
  refine Wc.start (V1 := [(0, .v (.int .i64 n0)), (1, .v (ssl eI c))]) (by simp) ?_
  refine Wc.seq ?_
  refine Wc.evs (by conv => lhs; simp) ?_
  refine Wo.nil ?_
  refine Wc.seq ?_
  refine Wc.seq ?_
  refine Wc.evs (by conv => lhs; simp) ?_
  refine Wo.nil ?_
  refine Wc.block ?_
  obtain ⟨w28, h29, h⟩ := bind_some h
  refine Wc.start (V1 := [(0, .v (.int .i64 n0)), (1, .v (ssl eI c)), (5, .v (.int .i64 0))]) (by first | rfl | simp) ?_
  refine Wc.mono (r60_0 _ _ h29) ?_
  rcases w28 with ⟨⟩ | x_30
  · rintro ex V ⟨rfl, rfl⟩
    try dsimp only at h
    refine Wc.seq ?_
    refine Wc.evs (by conv => lhs; simp) ?_
    refine Wo.nil ?_
    refine Wc.ret (res_of (.inr rfl) ?_)
    cases h
    exact ⟨_, _, _, by conv => lhs; simp, by (conv => lhs; simp [cx, ioTab, List.range, List.range.loop]) <;> rfl, by first | rfl | simp⟩
  · rintro ex V ⟨rfl, rfl⟩
    try dsimp only at h
    refine res_of (.inr rfl) ?_
    cases h
    exact ⟨_, _, _, by conv => lhs; simp, by (conv => lhs; simp [cx, ioTab, List.range, List.range.loop]) <;> rfl, by first | rfl | simp⟩
theorem r33_0 {n0 : Int} {l : (List (List Int))} : ∀ zs zo, iter (f33_0 n0 l) zs = some zo → Wc cx 26 (.loop L33_0) [(0, .v (.int .i64 n0)), (1, .v (ssl (eL eI) l)), (5, .v (.int .i64 zs))] ((QO (QX 0 (fun (y : Unit) => [(0, .v (.int .i64 n0)), (1, .v (ssl (eL eI) l))])) (QR (fun (y : Bool) => [(4, .v (.bool y))]))) zo) := by
  intro zs0 zo0 zh0
  refine iter_run (f := (f33_0 n0 l)) (P := fun zs zo => Wc cx 26 (.loop L33_0) [(0, .v (.int .i64 n0)), (1, .v (ssl (eL eI) l)), (5, .v (.int .i64 zs))] ((QO (QX 0 (fun (y : Unit) => [(0, .v (.int .i64 n0)), (1, .v (ssl (eL eI) l))])) (QR (fun (y : Bool) => [(4, .v (.bool y))]))) zo)) ?_ zh0
  rintro i_1 zo zr h hk hx
  try dsimp only at hk ⊢
  rw [f33_0] at h
  refine Wc.loop ?_
  refine Wc.seq ?_
  refine Wc.seq ?_
  refine Wc.evs (by conv => lhs; simp) ?_
  refine Wo.nil ?_
  by_cases kc2 : i_1 < (l.length : Int)
  · rw [if_pos kc2] at h
    refine Wc.condT' (t := _) (by conv => lhs; simp) (by simpa using kc2) ?_
    refine Wc.seq ?_
    refine Wc.kil (by conv => lhs; simp) ?_
    refine Wc.skip ?_
    refine Wc.seq ?_
    refine Wc.block ?_
    refine Wc.seq ?_
    obtain ⟨v_3, h4, h⟩ := bind_some h
    obtain ⟨ga4, gb4, gc4⟩ := ix_some h4
    have gn4 := ix_ne h4
    have gd4 := arr_at (E := (eL eI)) (b := false) gc4
    simp at gd4
    refine Wc.evs (by conv => lhs; simp [ga4, gb4, gn4, gd4]) ?_
    obtain ⟨o5, h6, h⟩ := bind_some h
    refine Wo.call (by simp) rfl (by (conv => lhs; simp [ga4, gb4, gn4, gd4, cx, ioTab]) <;> rfl) (r60 h6) (by simp) (by simp) (by (conv => lhs; simp [ga4, gb4, gn4, gd4, cx, ioTab]) <;> rfl) (by (conv => lhs; simp [ga4, gb4, gn4, gd4]) <;> rfl) ?_
    refine Wo.evs (by conv => lhs; simp [ga4, gb4, gn4, gd4]) ?_
    refine Wo.nil ?_
    by_cases kc7 : ¬ (o5 = true)
    · rw [if_pos kc7] at h
      refine Wc.condT' (t := _) (by conv => lhs; simp) (by simpa using kc7) ?_
      refine Wc.seq ?_
      refine Wc.kil (by conv => lhs; simp) ?_
      refine Wc.seq ?_
      refine Wc.evs (by conv => lhs; simp) ?_
      refine Wo.nil ?_
      refine Wc.ret ?_
      have e0 := hx _ (Option.some.inj h).symm
      subst e0
      exact ⟨rfl, by first | rfl | simp⟩
    · rw [if_neg kc7] at h
      refine Wc.condF' (t := _) (by conv => lhs; simp) (by simpa using kc7) ?_
      refine Wc.seq ?_
      refine Wc.kil (by conv => lhs; simp) ?_
      refine Wc.skip ?_
      refine Wc.evs (by conv => lhs; simp) ?_
      refine Wo.nil ?_
      refine Wc.start (V1 := [(0, .v (.int .i64 n0)), (1, .v (ssl (eL eI) l)), (5, .v (.int .i64 (w64 (i_1 + 1))))]) ?_ (hk _ (Option.some.inj h).symm)
      first | rfl | simp
  · rw [if_neg kc2] at h
    refine Wc.condF' (t := _) (by conv => lhs; simp) (by simpa using kc2) ?_
    refine Wc.seq ?_
    refine Wc.kil (by conv => lhs; simp) ?_
    refine Wc.exit ?_
    have e0 := hx _ (Option.some.inj h).symm
    subst e0
    exact ⟨rfl, by first | rfl | simp⟩
theorem r33 {n0 : Int} {l : (List (List Int))} {r : Bool} (h : f33 n0 l = some r) : VJx cx (.ca 33 [(.int .i64 n0), (ssl (eL eI) l)] (.bool r) []) := by
  unfold f33 at h
  refine ca_of rfl rfl (by decide) rfl ?_
  refine Wc.start (V1 := [(0, .v (.int .i64 n0)), (1, .v (ssl (eL eI) l))]) (by simp) ?_
  refine Wc.seq ?_
  refine Wc.evs (by conv => lhs; simp) ?_
  refine Wo.nil ?_
  refine Wc.seq ?_
  refine Wc.seq ?_
  refine Wc.evs (by conv => lhs; simp) ?_
  refine Wo.nil ?_
  refine Wc.block ?_
  obtain ⟨w8, h9, h⟩ := bind_some h
  refine Wc.start (V1 := [(0, .v (.int .i64 n0)), (1, .v (ssl (eL eI) l)), (5, .v (.int .i64 0))]) (by first | rfl | simp) ?_
  refine Wc.mono (r33_0 _ _ h9) ?_
  rcases w8 with ⟨⟩ | x_10
  · rintro ex V ⟨rfl, rfl⟩
    try dsimp only at h
    refine Wc.seq ?_
    refine Wc.evs (by conv => lhs; simp) ?_
    obtain ⟨o11, h12, h⟩ := bind_some h
    refine Wo.call (by simp) rfl (by (conv => lhs; simp [cx, ioTab]) <;> rfl) (r61 h12) (by simp) (by simp) (by (conv => lhs; simp [cx, ioTab]) <;> rfl) (by (conv => lhs; simp) <;> rfl) ?_
    refine Wo.evk 1 (by conv => lhs; simp) ?_
    obtain ⟨w14, h15, h⟩ := bind_some h
    refine Wo.mono (Q := fun V => V = [(4, .v (.bool w14))]) ?_ ?_
    · by_cases knh15 : o11 = true
      · rw [if_pos knh15] at h15
        refine Wo.gh (vle_co (s := 21) (t1 := .bool true) rfl (by simp) (tle_bool (by simpa using knh15)) (by conv => lhs; simp)) ?_
        refine Wo.evs (by conv => lhs; simp) ?_
        refine Wo.nil ?_
        cases h15
        first | rfl | simp
      · rw [if_neg knh15] at h15
        refine Wo.gh (vle_co (s := 21) (t1 := .bool false) rfl (by simp) (tle_bool (by simpa using knh15)) (by conv => lhs; simp)) ?_
        refine Wo.evs (by conv => lhs; simp) ?_
        refine Wo.nil ?_
        cases h15
        first | rfl | simp
    · rintro V rfl
      generalize w14 = x_13 at *
      try dsimp only at h
      refine Wc.ret (res_of (.inr rfl) ?_)
      cases h
      exact ⟨_, _, _, by conv => lhs; simp, by (conv => lhs; simp [cx, ioTab, List.range, List.range.loop]) <;> rfl, by first | rfl | simp⟩
  · rintro ex V ⟨rfl, rfl⟩
    try dsimp only at h
    refine res_of (.inr rfl) ?_
    cases h
    exact ⟨_, _, _, by conv => lhs; simp, by (conv => lhs; simp [cx, ioTab, List.range, List.range.loop]) <;> rfl, by first | rfl | simp⟩
theorem r15_0 {l : (List Int)} : ∀ zs zo, iter (f15_0 l) zs = some zo → Wc cx 21 (.loop L15_0) [(0, .v (ssl eI l)), (3, .v (osl eI true zs.1)), (4, .v (.int .i64 zs.2))] ((QX 0 (fun (y : (List Int)) => [(3, .v (osl eI true y))])) zo) := by
  intro zs0 zo0 zh0
  refine iter_run (f := (f15_0 l)) (P := fun zs zo => Wc cx 21 (.loop L15_0) [(0, .v (ssl eI l)), (3, .v (osl eI true zs.1)), (4, .v (.int .i64 zs.2))] ((QX 0 (fun (y : (List Int)) => [(3, .v (osl eI true y))])) zo)) ?_ zh0
  rintro ⟨out_1, i_2⟩ zo zr h hk hx
  try dsimp only at hk ⊢
  rw [f15_0] at h
  refine Wc.loop ?_
  refine Wc.seq ?_
  refine Wc.seq ?_
  refine Wc.evs (by conv => lhs; simp) ?_
  refine Wo.nil ?_
  by_cases kc3 : i_2 < (l.length : Int)
  · rw [if_pos kc3] at h
    refine Wc.condT' (t := _) (by conv => lhs; simp) (by simpa using kc3) ?_
    refine Wc.seq ?_
    refine Wc.kil (by conv => lhs; simp) ?_
    refine Wc.skip ?_
    refine Wc.seq ?_
    refine Wc.block ?_
    obtain ⟨v_4, h5, h⟩ := bind_some h
    obtain ⟨ga5, gb5, gc5⟩ := ix_some h5
    have gn5 := ix_ne h5
    have gd5 := arr_at (E := eI) (b := false) gc5
    simp at gd5
    obtain ⟨l_6, h7, h⟩ := bind_some h
    have gx7 := appT_arr (E := eI) (b := true) (y := true) h7 (by decide)
    simp at gx7
    refine Wc.evs (by conv => lhs; simp [ga5, gb5, gn5, gd5, gx7]) ?_
    refine Wo.nil ?_
    refine Wc.evs (by conv => lhs; simp) ?_
    refine Wo.nil ?_
    refine Wc.start (V1 := [(0, .v (ssl eI l)), (3, .v (osl eI true l_6)), (4, .v (.int .i64 (w64 (i_2 + 1))))]) ?_ (hk _ (Option.some.inj h).symm)
    first | rfl | simp
  · rw [if_neg kc3] at h
    refine Wc.condF' (t := _) (by conv => lhs; simp) (by simpa using kc3) ?_
    refine Wc.seq ?_
    refine Wc.kil (by conv => lhs; simp) ?_
    refine Wc.exit ?_
    have e0 := hx _ (Option.some.inj h).symm
    subst e0
    exact ⟨rfl, by first | rfl | simp⟩
theorem r15 {l : (List Int)} {r : (List Int)} (h : f15 l = some r) : VJx cx (.ca 15 [(ssl eI l)] (osl eI true r) []) := by
  unfold f15 at h
  refine ca_of rfl rfl (by decide) rfl ?_
  refine Wc.start (V1 := [(0, .v (ssl eI l))]) (by simp) ?_
  refine Wc.seq ?_
  refine Wc.evs (by conv => lhs; simp) ?_
  refine Wo.nil ?_
  refine Wc.seq ?_
  refine Wc.evs (by conv => lhs; simp) ?_
  refine Wo.gh (vle_co (s := 3) (t1 := (osl eI true ([]))) rfl (by simp) (TLe.own (show TLes _ [] from (TLes.refl _)) rfl) (by conv => lhs; simp)) ?_
  refine Wo.nil ?_
  refine Wc.seq ?_
  refine Wc.seq ?_
  refine Wc.evs (by conv => lhs; simp) ?_
  refine Wo.nil ?_
  refine Wc.block ?_
  obtain ⟨w8, h9, h⟩ := bind_some h
  refine Wc.start (V1 := [(0, .v (ssl eI l)), (3, .v (osl eI true ([]))), (4, .v (.int .i64 0))]) (by first | rfl | simp) ?_
  refine Wc.mono (r15_0 _ _ h9) ?_
  generalize w8 = out_10 at *
  rintro ex V ⟨rfl, rfl⟩
  try dsimp only at h
  refine Wc.seq ?_
  refine Wc.evs (by conv => lhs; simp) ?_
  refine Wo.nil ?_
  refine Wc.ret (res_of (.inr rfl) ?_)
  cases h
  exact ⟨_, _, _, by conv => lhs; simp, by (conv => lhs; simp [cx, ioTab, List.range, List.range.loop]) <;> rfl, by first | rfl | simp⟩
theorem r70_0 {l : (List Int)} {x : Int} : ∀ zs zo, iter (f70_0 l x) zs = some zo → Wc cx 18 (.loop L70_0) [(0, .v (ssl eI l)), (1, .v (.int .i64 x)), (5, .v (.int .i64 zs))] ((QO (QX 0 (fun (y : Unit) => [])) (QR (fun (y : Bool) => [(4, .v (.bool y))]))) zo) := by
  intro zs0 zo0 zh0
  refine iter_run (f := (f70_0 l x)) (P := fun zs zo => Wc cx 18 (.loop L70_0) [(0, .v (ssl eI l)), (1, .v (.int .i64 x)), (5, .v (.int .i64 zs))] ((QO (QX 0 (fun (y : Unit) => [])) (QR (fun (y : Bool) => [(4, .v (.bool y))]))) zo)) ?_ zh0
  rintro i_1 zo zr h hk hx
  try dsimp only at hk ⊢
  rw [f70_0] at h
  refine Wc.loop ?_
  refine Wc.seq ?_
  refine Wc.seq ?_
  refine Wc.evs (by conv => lhs; simp) ?_
  refine Wo.nil ?_
  by_cases kc2 : i_1 < (l.length : Int)
  · rw [if_pos kc2] at h
    refine Wc.condT' (t := _) (by conv => lhs; simp) (by simpa using kc2) ?_
    refine Wc.seq ?_
    refine Wc.kil (by conv => lhs; simp) ?_
    refine Wc.skip ?_
    refine Wc.seq ?_
    refine Wc.block ?_
    refine Wc.seq ?_
    obtain ⟨v_3, h4, h⟩ := bind_some h
    obtain ⟨ga4, gb4, gc4⟩ := ix_some h4
    have gn4 := ix_ne h4
    have gd4 := arr_at (E := eI) (b := false) gc4
    simp at gd4
    refine Wc.evs (by conv => lhs; simp [ga4, gb4, gn4, gd4]) ?_
    refine Wo.nil ?_
    by_cases kc5 : v_3 = x
    · rw [if_pos kc5] at h
      refine Wc.condT' (t := _) (by conv => lhs; simp) (by simpa using kc5) ?_
      refine Wc.seq ?_
      refine Wc.kil (by conv => lhs; simp) ?_
      refine Wc.seq ?_
      refine Wc.evs (by conv => lhs; simp) ?_
      refine Wo.nil ?_
      refine Wc.ret ?_
      have e0 := hx _ (Option.some.inj h).symm
      subst e0
      exact ⟨rfl, by first | rfl | simp⟩
    · rw [if_neg kc5] at h
      refine Wc.condF' (t := _) (by conv => lhs; simp) (by simpa using kc5) ?_
      refine Wc.seq ?_
      refine Wc.kil (by conv => lhs; simp) ?_
      refine Wc.skip ?_
      refine Wc.evs (by conv => lhs; simp) ?_
      refine Wo.nil ?_
      refine Wc.start (V1 := [(0, .v (ssl eI l)), (1, .v (.int .i64 x)), (5, .v (.int .i64 (w64 (i_1 + 1))))]) ?_ (hk _ (Option.some.inj h).symm)
      first | rfl | simp
  · rw [if_neg kc2] at h
    refine Wc.condF' (t := _) (by conv => lhs; simp) (by simpa using kc2) ?_
    refine Wc.seq ?_
    refine Wc.kil (by conv => lhs; simp) ?_
    refine Wc.exit ?_
    have e0 := hx _ (Option.some.inj h).symm
    subst e0
    exact ⟨rfl, by first | rfl | simp⟩
theorem r70 {l : (List Int)} {x : Int} {r : Bool} (h : f70 l x = some r) : VJx cx (.ca 70 [(ssl eI l), (.int .i64 x)] (.bool r) []) := by
  unfold f70 at h
  refine ca_of rfl rfl (by decide) rfl ?_
  refine Wc.start (V1 := [(0, .v (ssl eI l)), (1, .v (.int .i64 x))]) (by simp) ?_
  refine Wc.seq ?_
  refine Wc.evs (by conv => lhs; simp) ?_
  refine Wo.nil ?_
  refine Wc.seq ?_
  refine Wc.seq ?_
  refine Wc.evs (by conv => lhs; simp) ?_
  refine Wo.nil ?_
  refine Wc.block ?_
  obtain ⟨w6, h7, h⟩ := bind_some h
  refine Wc.start (V1 := [(0, .v (ssl eI l)), (1, .v (.int .i64 x)), (5, .v (.int .i64 0))]) (by first | rfl | simp) ?_
  refine Wc.mono (r70_0 _ _ h7) ?_
  rcases w6 with ⟨⟩ | x_8
  · rintro ex V ⟨rfl, rfl⟩
    try dsimp only at h
    refine Wc.seq ?_
    refine Wc.evs (by conv => lhs; simp) ?_
    refine Wo.nil ?_
    refine Wc.ret (res_of (.inr rfl) ?_)
    cases h
    exact ⟨_, _, _, by conv => lhs; simp, by (conv => lhs; simp [cx, ioTab, List.range, List.range.loop]) <;> rfl, by first | rfl | simp⟩
  · rintro ex V ⟨rfl, rfl⟩
    try dsimp only at h
    refine res_of (.inr rfl) ?_
    cases h
    exact ⟨_, _, _, by conv => lhs; simp, by (conv => lhs; simp [cx, ioTab, List.range, List.range.loop]) <;> rfl, by first | rfl | simp⟩
theorem r79_0 {c : (List Int)} {set1 : (List Int)} : ∀ zs zo, iter (f79_0 c set1) zs = some zo → Wc cx 38 (.loop L79_0) [(0, .v (ssl eI c)), (1, .v (ssl eI set1)), (6, .v (osl eI true zs.1)), (7, .v (.int .i64 zs.2))] ((QO (QX 0 (fun (y : (List Int)) => [(6, .v (osl eI true y))])) (QR (fun (y : (List Int) × Bool) => [(4, .v (osl eI true y.1)), (5, .v (.bool y.2))]))) zo) := by
  intro zs0 zo0 zh0
  refine iter_run (f := (f79_0 c set1)) (P := fun zs zo => Wc cx 38 (.loop L79_0) [(0, .v (ssl eI c)), (1, .v (ssl eI set1)), (6, .v (osl eI true zs.1)), (7, .v (.int .i64 zs.2))] ((QO (QX 0 (fun (y : (List Int)) => [(6, .v (osl eI true y))])) (QR (fun (y : (List Int) × Bool) => [(4, .v (osl eI true y.1)), (5, .v (.bool y.2))]))) zo)) ?_ zh0
  rintro ⟨out_1, i_2⟩ zo zr h hk hx
  try dsimp only at hk ⊢
  rw [f79_0] at h
  refine Wc.loop ?_
  refine Wc.seq ?_
  refine Wc.seq ?_
  refine Wc.evs (by conv => lhs; simp) ?_
  refine Wo.nil ?_
  by_cases kc3 : i_2 < (c.length : Int)
  · rw [if_pos kc3] at h
    refine Wc.condT' (t := _) (by conv => lhs; simp) (by simpa using kc3) ?_
    refine Wc.seq ?_
    refine Wc.kil (by conv => lhs; simp) ?_
    refine Wc.skip ?_
    refine Wc.seq ?_
    refine Wc.block ?_
    refine Wc.seq ?_
    refine Wc.seq ?_
    obtain ⟨v_4, h5, h⟩ := bind_some h
    obtain ⟨ga5, gb5, gc5⟩ := ix_some h5
    have gn5 := ix_ne h5
    have gd5 := arr_at (E := eI) (b := false) gc5
    simp at gd5
    refine Wc.evs (by conv => lhs; simp [ga5, gb5, gn5, gd5]) ?_
    obtain ⟨o6, h7, h⟩ := bind_some h
    refine Wo.call (by simp) rfl (by (conv => lhs; simp [ga5, gb5, gn5, gd5, cx, ioTab]) <;> rfl) (r70 h7) (by simp) (by simp) (by (conv => lhs; simp [ga5, gb5, gn5, gd5, cx, ioTab]) <;> rfl) (by (conv => lhs; simp [ga5, gb5, gn5, gd5]) <;> rfl) ?_
    refine Wo.nil ?_
    by_cases kc8 : o6 = true
    · rw [if_pos kc8] at h
      refine Wc.condT' (t := _) (by conv => lhs; simp) (by simpa using kc8) ?_
      refine Wc.seq ?_
      refine Wc.kil (by conv => lhs; simp) ?_
      refine Wc.seq ?_
      refine Wc.evs (by conv => lhs; simp) ?_
      refine Wo.nil ?_
      refine Wc.ret ?_
      have e0 := hx _ (Option.some.inj h).symm
      subst e0
      exact ⟨rfl, by first | rfl | simp⟩
    · rw [if_neg kc8] at h
      refine Wc.condF' (t := _) (by conv => lhs; simp) (by simpa using kc8) ?_
      refine Wc.seq ?_
      refine Wc.kil (by conv => lhs; simp) ?_
      refine Wc.skip ?_
      refine Wc.seq ?_
      refine Wc.evs (by conv => lhs; simp [ga5, gb5, gn5, gd5]) ?_
      obtain ⟨o9, h10, h⟩ := bind_some h
      refine Wo.call (by simp) rfl (by (conv => lhs; simp [ga5, gb5, gn5, gd5, cx, ioTab]) <;> rfl) (r70 h10) (by simp) (by simp) (by (conv => lhs; simp [ga5, gb5, gn5, gd5, cx, ioTab]) <;> rfl) (by (conv => lhs; simp [ga5, gb5, gn5, gd5]) <;> rfl) ?_
      refine Wo.evs (by conv => lhs; simp [ga5, gb5, gn5, gd5]) ?_
      refine Wo.nil ?_
      obtain ⟨w11, h12, h⟩ := bind_some h
      refine Wc.mono (Q := (QN (fun (y : (List Int)) => [(0, .v (ssl eI c)), (1, .v (ssl eI set1)), (6, .v (osl eI true y)), (7, .v (.int .i64 i_2))])) w11) ?_ ?_
      · skip
        by_cases kc13 : ¬ (o9 = true)
        · rw [if_pos kc13] at h12
          refine Wc.condT' (t := _) (by conv => lhs; simp) (by simpa using kc13) ?_
          refine Wc.seq ?_
          refine Wc.kil (by conv => lhs; simp) ?_
          obtain ⟨l_14, h15, h12⟩ := bind_some h12
          have gx15 := appT_arr (E := eI) (b := true) (y := true) h15 (by decide)
          simp at gx15
          refine Wc.evs (by conv => lhs; simp [ga5, gb5, gn5, gd5, gx15]) ?_
          refine Wo.nil ?_
          cases h12
          exact ⟨rfl, by first | rfl | simp [ga5, gb5, gn5, gd5, gx15]⟩
        · rw [if_neg kc13] at h12
          refine Wc.condF' (t := _) (by conv => lhs; simp) (by simpa using kc13) ?_
          refine Wc.seq ?_
          refine Wc.kil (by conv => lhs; simp) ?_
          refine Wc.skip ?_
          cases h12
          exact ⟨rfl, by first | rfl | simp [ga5, gb5, gn5, gd5]⟩
      · skip
        generalize w11 = out_16 at *
        rintro ex V ⟨rfl, rfl⟩
        try dsimp only at h
        refine Wc.evs (by conv => lhs; simp) ?_
        refine Wo.nil ?_
        refine Wc.start (V1 := [(0, .v (ssl eI c)), (1, .v (ssl eI set1)), (6, .v (osl eI true out_16)), (7, .v (.int .i64 (w64 (i_2 + 1))))]) ?_ (hk _ (Option.some.inj h).symm)
        first | rfl | simp
  · rw [if_neg kc3] at h
    refine Wc.condF' (t := _) (by conv => lhs; simp) (by simpa using kc3) ?_
    refine Wc.seq ?_
    refine Wc.kil (by conv => lhs; simp) ?_
    refine Wc.exit ?_
    have e0 := hx _ (Option.some.inj h).symm
    subst e0
    exact ⟨rfl, by first | rfl | simp⟩
theorem r79 {c : (List Int)} {set1 : (List Int)} {r : (List Int) × Bool} (h : f79 c set1 = some r) : VJx cx (.ca 79 [(ssl eI c), (ssl eI set1)] (.tup [(osl eI true r.1), (.bool r.2)]) []) := by
  unfold f79 at h
  refine ca_of rfl rfl (by decide) rfl ?_
  refine Wc.start (V1 := [(0, .v (ssl eI c)), (1, .v (ssl eI set1))]) (by simp) ?_
  refine Wc.seq ?_
  refine Wc.evs (by conv => lhs; simp) ?_
  refine Wo.nil ?_
  refine Wc.seq ?_
  refine Wc.evs (by conv => lhs; simp) ?_
  refine Wo.gh (vle_co (s := 6) (t1 := (osl eI true ([]))) rfl (by simp) (TLe.own (show TLes _ [] from (TLes.refl _)) rfl) (by conv => lhs; simp)) ?_
  refine Wo.nil ?_
  refine Wc.seq ?_
  refine Wc.seq ?_
  refine Wc.evs (by conv => lhs; simp) ?_
  refine Wo.nil ?_
  refine Wc.block ?_
  obtain ⟨w17, h18, h⟩ := bind_some h
  refine Wc.start (V1 := [(0, .v (ssl eI c)), (1, .v (ssl eI set1)), (6, .v (osl eI true ([]))), (7, .v (.int .i64 0))]) (by first | rfl | simp) ?_
  refine Wc.mono (r79_0 _ _ h18) ?_
  rcases w17 with out_19 | ⟨x_20, x_21⟩
  · rintro ex V ⟨rfl, rfl⟩
    try dsimp only at h
    refine Wc.seq ?_
    refine Wc.evs (by conv => lhs; simp) ?_
    refine Wo.nil ?_
    refine Wc.ret (res_of (.inr rfl) ?_)
    cases h
    exact ⟨_, _, _, by conv => lhs; simp, by (conv => lhs; simp [cx, ioTab, List.range, List.range.loop]) <;> rfl, by first | rfl | simp⟩
  · rintro ex V ⟨rfl, rfl⟩
    dsimp only at h ⊢
    refine res_of (.inr rfl) ?_
    cases h
    exact ⟨_, _, _, by conv => lhs; simp, by (conv => lhs; simp [cx, ioTab, List.range, List.range.loop]) <;> rfl, by first | rfl | simp⟩
theorem r65_1 {l : (List (List Int))} : ∀ zs zo, iter (f65_1 l) zs = some zo → Wc cx 49 (.loop L65_1) [(0, .v (ssl (eL eI) l)), (6, .v (osl eI true zs.1)), (7, .v (.bool zs.2.1)), (8, .v (.int .i64 zs.2.2))] ((QO (QX 2 (fun (y : (List Int) × Bool) => [(0, .v (ssl (eL eI) l)), (6, .v (osl eI true y.1)), (7, .v (.bool y.2))])) (QR (fun (y : (List Int) × Bool) => [(4, .v (osl eI true y.1)), (5, .v (.bool y.2))]))) zo) := by
  intro zs0 zo0 zh0
  refine iter_run (f := (f65_1 l)) (P := fun zs zo => Wc cx 49 (.loop L65_1) [(0, .v (ssl (eL eI) l)), (6, .v (osl eI true zs.1)), (7, .v (.bool zs.2.1)), (8, .v (.int .i64 zs.2.2))] ((QO (QX 2 (fun (y : (List Int) × Bool) => [(0, .v (ssl (eL eI) l)), (6, .v (osl eI true y.1)), (7, .v (.bool y.2))])) (QR (fun (y : (List Int) × Bool) => [(4, .v (osl eI true y.1)), (5, .v (.bool y.2))]))) zo)) ?_ zh0
  rintro ⟨out_6, more_7, i_8⟩ zo zr h hk hx
  try dsimp only at hk ⊢
  rw [f65_1] at h
  refine Wc.loop ?_
  refine Wc.seq ?_
  refine Wc.seq ?_
  refine Wc.evk 5 (by conv => lhs; simp) ?_
  obtain ⟨w10, h11, h⟩ := bind_some h
  refine Wo.mono (Q := fun V => V = [(0, .v (ssl (eL eI) l)), (6, .v (osl eI true out_6)), (7, .v (.bool more_7)), (8, .v (.int .i64 i_8)), (22, .v (.bool w10))]) ?_ ?_
  · by_cases knh11 : i_8 < (l.length : Int)
    · rw [if_pos knh11] at h11
      refine Wo.gh (vle_co (s := 19) (t1 := .bool true) rfl (by simp) (tle_bool (by simpa using knh11)) (by conv => lhs; simp)) ?_
      refine Wo.evs (by conv => lhs; simp) ?_
      refine Wo.nil ?_
      cases h11
      first | rfl | simp
    · rw [if_neg knh11] at h11
      refine Wo.gh (vle_co (s := 19) (t1 := .bool false) rfl (by simp) (tle_bool (by simpa using knh11)) (by conv => lhs; simp)) ?_
      refine Wo.evs (by conv => lhs; simp) ?_
      refine Wo.nil ?_
      cases h11
      first | rfl | simp
  · rintro V rfl
    generalize w10 = x_9 at *
    try dsimp only at h
    by_cases kc12 : x_9 = true
    · rw [if_pos kc12] at h
      refine Wc.condT' (t := _) (by conv => lhs; simp) (by simpa using kc12) ?_
      refine Wc.seq ?_
      refine Wc.kil (by conv => lhs; simp) ?_
      refine Wc.skip ?_
      refine Wc.seq ?_
      obtain ⟨w13, h14, h⟩ := bind_some h
      refine Wc.mono (Q := (QO (QN (fun (y : (List Int) × Bool) => [(0, .v (ssl (eL eI) l)), (6, .v (osl eI true y.1)), (7, .v (.bool y.2)), (8, .v (.int .i64 i_8))])) (QR (fun (y : (List Int) × Bool) => [(4, .v (osl eI true y.1)), (5, .v (.bool y.2))]))) w13) ?_ ?_
      · skip
        refine Wc.block ?_
        refine Wc.seq ?_
        obtain ⟨v_15, h16, h14⟩ := bind_some h14
        obtain ⟨ga16, gb16, gc16⟩ := ix_some h16
        have gn16 := ix_ne h16
        have gd16 := arr_at (E := (eL eI)) (b := false) gc16
        simp at gd16
        refine Wc.evs (by conv => lhs; simp [ga16, gb16, gn16, gd16]) ?_
        obtain ⟨o17, h18, h14⟩ := bind_some h14
        refine Wo.call (by simp) rfl (by (conv => lhs; simp [ga16, gb16, gn16, gd16, cx, ioTab]) <;> rfl) (r79 h18) (by simp) (by simp) (by (conv => lhs; simp [ga16, gb16, gn16, gd16, cx, ioTab]) <;> rfl) (by (conv => lhs; simp [ga16, gb16, gn16, gd16]) <;> rfl) ?_
        refine Wo.evs (by conv => lhs; simp [ga16, gb16, gn16, gd16]) ?_
        refine Wo.nil ?_
        refine Wc.seq ?_
        refine Wc.seq ?_
        refine Wc.evs (by conv => lhs; simp) ?_
        refine Wo.nil ?_
        by_cases kc19 : o17.2 = true
        · rw [if_pos kc19] at h14
          refine Wc.condT' (t := _) (by conv => lhs; simp) (by simpa using kc19) ?_
          refine Wc.seq ?_
          refine Wc.kil (by conv => lhs; simp) ?_
          refine Wc.exit ?_
          cases h14
          exact ⟨rfl, by first | rfl | simp⟩
        · rw [if_neg kc19] at h14
          refine Wc.condF' (t := _) (by conv => lhs; simp) (by simpa using kc19) ?_
          refine Wc.seq ?_
          refine Wc.kil (by conv => lhs; simp) ?_
          refine Wc.skip ?_
          refine Wc.seq ?_
          refine Wc.seq ?_
          refine Wc.evs (by conv => lhs; simp) ?_
          refine Wo.nil ?_
          by_cases kc20 : (o17.1.length : Int) = 0
          · rw [if_pos kc20] at h14
            refine Wc.condT' (t := _) (by conv => lhs; simp) (by simpa using kc20) ?_
            refine Wc.seq ?_
            refine Wc.kil (by conv => lhs; simp) ?_
            refine Wc.seq ?_
            refine Wc.evs (by conv => lhs; simp) ?_
            refine Wo.nil ?_
            refine Wc.ret ?_
            cases h14
            exact ⟨rfl, by first | rfl | simp⟩
          · rw [if_neg kc20] at h14
            refine Wc.condF' (t := _) (by conv => lhs; simp) (by simpa using kc20) ?_
            refine Wc.seq ?_
            refine Wc.kil (by conv => lhs; simp) ?_
            refine Wc.skip ?_
            refine Wc.seq ?_
            refine Wc.evs (by conv => lhs; simp) ?_
            refine Wo.nil ?_
            obtain ⟨w21, h22, h14⟩ := bind_some h14
            refine Wc.mono (Q := (QN (fun (y : (List Int) × Bool) => [(0, .v (ssl (eL eI) l)), (6, .v (osl eI true y.1)), (7, .v (.bool y.2)), (8, .v (.int .i64 i_8))])) w21) ?_ ?_
            · skip
              by_cases kc23 : (o17.1.length : Int) = 1
              · rw [if_pos kc23] at h22
                refine Wc.condT' (t := _) (by conv => lhs; simp) (by simpa using kc23) ?_
                refine Wc.seq ?_
                refine Wc.kil (by conv => lhs; simp) ?_
                refine Wc.seq ?_
                obtain ⟨v_24, h25, h22⟩ := bind_some h22
                obtain ⟨ga25, gb25, gc25⟩ := ix_some h25
                have gn25 := ix_ne h25
                have gf25 := arr_fit (E := eI) (b := true) (i := (0 : Int).toNat) (l := o17.1) (by omega)
                have gg25_0 := arr_get (E := eI) (b := true) (o := 0) gc25 (by decide)
                simp at gf25 gg25_0
                have gl25 : (0 : Int).toNat < o17.1.length := by omega
                have gk25 : 0 < o17.1.length := by omega
                obtain ⟨l_26, h27, h22⟩ := bind_some h22
                have gx27 := appT_arr (E := eI) (b := true) (y := true) h27 (by decide)
                simp at gx27
                refine Wc.evs (by conv => lhs; simp [-getElem?_pos, List.getElem?_cons_zero, List.getElem?_cons_succ, gb25, gn25, gf25, gg25_0, gl25, gk25, gx27]) ?_
                refine Wo.nil ?_
                refine Wc.evs (by conv => lhs; simp) ?_
                refine Wo.nil ?_
                cases h22
                exact ⟨rfl, by first | rfl | simp⟩
              · rw [if_neg kc23] at h22
                refine Wc.condF' (t := _) (by conv => lhs; simp) (by simpa using kc23) ?_
                refine Wc.seq ?_
                refine Wc.kil (by conv => lhs; simp) ?_
                refine Wc.skip ?_
                cases h22
                exact ⟨rfl, by first | rfl | simp⟩
            · skip
              obtain ⟨out_28, more_29⟩ := w21
              rintro ex V ⟨rfl, rfl⟩
              dsimp only at h14 ⊢
              cases h14
              exact ⟨rfl, by first | rfl | simp⟩
      · skip
        rcases w13 with ⟨out_30, more_31⟩ | ⟨x_32, x_33⟩
        · rintro ex V ⟨rfl, rfl⟩
          dsimp only at h ⊢
          refine Wc.evs (by conv => lhs; simp) ?_
          refine Wo.nil ?_
          refine Wc.start (V1 := [(0, .v (ssl (eL eI) l)), (6, .v (osl eI true out_30)), (7, .v (.bool more_31)), (8, .v (.int .i64 (w64 (i_8 + 1))))]) ?_ (hk _ (Option.some.inj h).symm)
          first | rfl | simp
        · rintro ex V ⟨rfl, rfl⟩
          dsimp only at h ⊢
          have e0 := hx _ (Option.some.inj h).symm
          subst e0
          exact ⟨rfl, by first | rfl | simp⟩
    · rw [if_neg kc12] at h
      refine Wc.condF' (t := _) (by conv => lhs; simp) (by simpa using kc12) ?_
      refine Wc.seq ?_
      refine Wc.kil (by conv => lhs; simp) ?_
      refine Wc.exit ?_
      have e0 := hx _ (Option.some.inj h).symm
      subst e0
      exact ⟨rfl, by first | rfl | simp⟩
theorem r65_0 {l : (List (List Int))} : ∀ zs zo, iter (f65_0 l) zs = some zo → Wc cx 49 (.loop L65_0) [(0, .v (ssl (eL eI) l)), (6, .v (osl eI true zs.1)), (7, .v (.bool zs.2))] ((QO (QX 0 (fun (y : (List Int)) => [(6, .v (osl eI true y))])) (QR (fun (y : (List Int) × Bool) => [(4, .v (osl eI true y.1)), (5, .v (.bool y.2))]))) zo) := by
  intro zs0 zo0 zh0
  refine iter_run (f := (f65_0 l)) (P := fun zs zo => Wc cx 49 (.loop L65_0) [(0, .v (ssl (eL eI) l)), (6, .v (osl eI true zs.1)), (7, .v (.bool zs.2))] ((QO (QX 0 (fun (y : (List Int)) => [(6, .v (osl eI true y))])) (QR (fun (y : (List Int) × Bool) => [(4, .v (osl eI true y.1)), (5, .v (.bool y.2))]))) zo)) ?_ zh0
  rintro ⟨out_3, more_4⟩ zo zr h hk hx
  try dsimp only at hk ⊢
  rw [f65_0] at h
  refine Wc.loop ?_
  refine Wc.seq ?_
  refine Wc.seq ?_
  refine Wc.evs (by conv => lhs; simp) ?_
  refine Wo.nil ?_
  by_cases kc5 : more_4 = true
  · rw [if_pos kc5] at h
    refine Wc.condT' (t := _) (by conv => lhs; simp) (by simpa using kc5) ?_
    refine Wc.seq ?_
    refine Wc.kil (by conv => lhs; simp) ?_
    refine Wc.skip ?_
    refine Wc.block ?_
    refine Wc.seq ?_
    refine Wc.evs (by conv => lhs; simp) ?_
    refine Wo.nil ?_
    refine Wc.seq ?_
    refine Wc.evs (by conv => lhs; simp) ?_
    refine Wo.nil ?_
    refine Wc.block ?_
    obtain ⟨w34, h35, h⟩ := bind_some h
    refine Wc.start (V1 := [(0, .v (ssl (eL eI) l)), (6, .v (osl eI true out_3)), (7, .v (.bool false)), (8, .v (.int .i64 0))]) (by first | rfl | simp) ?_
    refine Wc.mono (r65_1 _ _ h35) ?_
    rcases w34 with ⟨out_36, more_37⟩ | ⟨x_38, x_39⟩
    · rintro ex V ⟨rfl, rfl⟩
      dsimp only at h ⊢
      refine Wc.start (V1 := [(0, .v (ssl (eL eI) l)), (6, .v (osl eI true out_36)), (7, .v (.bool more_37))]) ?_ (hk _ (Option.some.inj h).symm)
      first | rfl | simp
    · rintro ex V ⟨rfl, rfl⟩
      dsimp only at h ⊢
      have e0 := hx _ (Option.some.inj h).symm
      subst e0
      exact ⟨rfl, by first | rfl | simp⟩
  · rw [if_neg kc5] at h
    refine Wc.condF' (t := _) (by conv => lhs; simp) (by simpa using kc5) ?_
    refine Wc.seq ?_
    refine Wc.kil (by conv => lhs; simp) ?_
    refine Wc.exit ?_
    have e0 := hx _ (Option.some.inj h).symm
    subst e0
    exact ⟨rfl, by first | rfl | simp⟩
theorem r65 {l : (List (List Int))} {set1 : (List Int)} {r : (List Int) × Bool} (h : f65 l set1 = some r) : VJx cx (.ca 65 [(ssl (eL eI) l), (ssl eI set1)] (.tup [(osl eI true r.1), (.bool r.2)]) []) := by
  unfold f65 at h
  refine ca_of rfl rfl (by decide) rfl ?_
  refine Wc.start (V1 := [(0, .v (ssl (eL eI) l)), (1, .v (ssl eI set1))]) (by simp) ?_
  refine Wc.seq ?_
  refine Wc.evs (by conv => lhs; simp) ?_
  refine Wo.nil ?_
  refine Wc.seq ?_
  obtain ⟨l_1, h2, h⟩ := bind_some h
  have gx2 := appT_arr2 (E := eI) (b := true) (b' := false) (y := false) h2 (by decide) (arr_sc rfl _)
  simp at gx2
  refine Wc.evs (by conv => lhs; simp [gx2]) ?_
  refine Wo.gh (vle_co (s := 6) (t1 := (osl eI true l_1)) rfl (by simp) (tle_own rfl) (by conv => lhs; simp)) ?_
  refine Wo.nil ?_
  refine Wc.seq ?_
  refine Wc.seq ?_
  refine Wc.evs (by conv => lhs; simp) ?_
  refine Wo.nil ?_
  refine Wc.block ?_
  obtain ⟨w40, h41, h⟩ := bind_some h
  refine Wc.start (V1 := [(0, .v (ssl (eL eI) l)), (6, .v (osl eI true l_1)), (7, .v (.bool true))]) (by first | rfl | simp) ?_
  refine Wc.mono (r65_0 _ _ h41) ?_
  rcases w40 with out_42 | ⟨x_43, x_44⟩
  · rintro ex V ⟨rfl, rfl⟩
    try dsimp only at h
    refine Wc.seq ?_
    refine Wc.evs (by conv => lhs; simp) ?_
    refine Wo.nil ?_
    refine Wc.ret (res_of (.inr rfl) ?_)
    cases h
    exact ⟨_, _, _, by conv => lhs; simp, by (conv => lhs; simp [cx, ioTab, List.range, List.range.loop]) <;> rfl, by first | rfl | simp⟩
  · rintro ex V ⟨rfl, rfl⟩
    dsimp only at h ⊢
    refine res_of (.inr rfl) ?_
    cases h
    exact ⟨_, _, _, by conv => lhs; simp, by (conv => lhs; simp [cx, ioTab, List.range, List.range.loop]) <;> rfl, by first | rfl | simp⟩
theorem r45_0 {n0 : Int} {proof : (List (List Int))} : ∀ zs zo, iter (f45_0 n0 proof) zs = some zo → Wc cx 65 (.loop L45_0) [(0, .v (.int .i64 n0)), (2, .v (ssl (eL eI) proof)), (7, .v (osl (eL eI) false zs.1)), (8, .v (.int .i64 zs.2))] ((QO (QX 0 (fun (y : Unit) => [])) (QR (fun (y : Bool) => [(6, .v (.bool y))]))) zo) := by
  intro zs0 zo0 zh0
  refine iter_run (f := (f45_0 n0 proof)) (P := fun zs zo => Wc cx 65 (.loop L45_0) [(0, .v (.int .i64 n0)), (2, .v (ssl (eL eI) proof)), (7, .v (osl (eL eI) false zs.1)), (8, .v (.int .i64 zs.2))] ((QO (QX 0 (fun (y : Unit) => [])) (QR (fun (y : Bool) => [(6, .v (.bool y))]))) zo)) ?_ zh0
  rintro ⟨x_14, i_15⟩ zo zr h hk hx
  try dsimp only at hk ⊢
  rw [f45_0] at h
  refine Wc.loop ?_
  refine Wc.seq ?_
  refine Wc.seq ?_
  refine Wc.evs (by conv => lhs; simp) ?_
  refine Wo.nil ?_
  by_cases kc16 : i_15 < (proof.length : Int)
  · rw [if_pos kc16] at h
    refine Wc.condT' (t := _) (by conv => lhs; simp) (by simpa using kc16) ?_
    refine Wc.seq ?_
    refine Wc.kil (by conv => lhs; simp) ?_
    refine Wc.skip ?_
    refine Wc.seq ?_
    refine Wc.block ?_
    refine Wc.seq ?_
    refine Wc.seq ?_
    obtain ⟨v_17, h18, h⟩ := bind_some h
    obtain ⟨ga18, gb18, gc18⟩ := ix_some h18
    have gn18 := ix_ne h18
    have gd18 := arr_at (E := (eL eI)) (b := false) gc18
    simp at gd18
    refine Wc.evs (by conv => lhs; simp [ga18, gb18, gn18, gd18]) ?_
    obtain ⟨o19, h20, h⟩ := bind_some h
    refine Wo.call (by simp) rfl (by (conv => lhs; simp [ga18, gb18, gn18, gd18, cx, ioTab]) <;> rfl) (r60 h20) (by simp) (by simp) (by (conv => lhs; simp [ga18, gb18, gn18, gd18, cx, ioTab]) <;> rfl) (by (conv => lhs; simp [ga18, gb18, gn18, gd18]) <;> rfl) ?_
    refine Wo.evs (by conv => lhs; simp [ga18, gb18, gn18, gd18]) ?_
    refine Wo.nil ?_
    by_cases kc21 : ¬ (o19 = true)
    · rw [if_pos kc21] at h
      refine Wc.condT' (t := _) (by conv => lhs; simp) (by simpa using kc21) ?_
      refine Wc.seq ?_
      refine Wc.kil (by conv => lhs; simp) ?_
      refine Wc.seq ?_
      refine Wc.evs (by conv => lhs; simp) ?_
      refine Wo.nil ?_
      refine Wc.ret ?_
      have e0 := hx _ (Option.some.inj h).symm
      subst e0
      exact ⟨rfl, by first | rfl | simp⟩
    · rw [if_neg kc21] at h
      refine Wc.condF' (t := _) (by conv => lhs; simp) (by simpa using kc21) ?_
      refine Wc.seq ?_
      refine Wc.kil (by conv => lhs; simp) ?_
      refine Wc.skip ?_
      refine Wc.seq ?_
      refine Wc.evs (by conv => lhs; simp [ga18, gb18, gn18, gd18]) ?_
      obtain ⟨o22, h23, h⟩ := bind_some h
      refine Wo.call (by simp) rfl (by (conv => lhs; simp [ga18, gb18, gn18, gd18, cx, ioTab]) <;> rfl) (r15 h23) (by simp) (by simp) (by (conv => lhs; simp [ga18, gb18, gn18, gd18, cx, ioTab]) <;> rfl) (by (conv => lhs; simp [ga18, gb18, gn18, gd18]) <;> rfl) ?_
      obtain ⟨o24, h25, h⟩ := bind_some h
      refine Wo.call (by simp) rfl (by (conv => lhs; simp [ga18, gb18, gn18, gd18, cx, ioTab]) <;> rfl) (r65 h25) (by simp) (by simp) (by (conv => lhs; simp [ga18, gb18, gn18, gd18, cx, ioTab]) <;> rfl) (by (conv => lhs; simp [ga18, gb18, gn18, gd18]) <;> rfl) ?_
      refine Wo.evs (by conv => lhs; simp [ga18, gb18, gn18, gd18]) ?_
      refine Wo.nil ?_
      refine Wc.seq ?_
      refine Wc.seq ?_
      refine Wc.evs (by conv => lhs; simp) ?_
      refine Wo.nil ?_
      by_cases kc26 : ¬ (o24.2 = true)
      · rw [if_pos kc26] at h
        refine Wc.condT' (t := _) (by conv => lhs; simp) (by simpa using kc26) ?_
        refine Wc.seq ?_
        refine Wc.kil (by conv => lhs; simp) ?_
        refine Wc.seq ?_
        refine Wc.evs (by conv => lhs; simp) ?_
        refine Wo.nil ?_
        refine Wc.ret ?_
        have e0 := hx _ (Option.some.inj h).symm
        subst e0
        exact ⟨rfl, by first | rfl | simp⟩
      · rw [if_neg kc26] at h
        refine Wc.condF' (t := _) (by conv => lhs; simp) (by simpa using kc26) ?_
        refine Wc.seq ?_
        refine Wc.kil (by conv => lhs; simp) ?_
        refine Wc.skip ?_
        obtain ⟨l_27, h28, h⟩ := bind_some h
        have gx28 := appT_arr (E := (eL eI)) (b := false) (y := true) h28 (by decide)
        simp at gx28
        refine Wc.evs (by conv => lhs; simp [ga18, gb18, gn18, gd18, gx28]) ?_
        refine Wo.nil ?_
        refine Wc.evs (by conv => lhs; simp) ?_
        refine Wo.nil ?_
        refine Wc.start (V1 := [(0, .v (.int .i64 n0)), (2, .v (ssl (eL eI) proof)), (7, .v (osl (eL eI) false l_27)), (8, .v (.int .i64 (w64 (i_15 + 1))))]) ?_ (hk _ (Option.some.inj h).symm)
        first | rfl | simp
  · rw [if_neg kc16] at h
    refine Wc.condF' (t := _) (by conv => lhs; simp) (by simpa using kc16) ?_
    refine Wc.seq ?_
    refine Wc.kil (by conv => lhs; simp) ?_
    refine Wc.exit ?_
    have e0 := hx _ (Option.some.inj h).symm
    subst e0
    exact ⟨rfl, by first | rfl | simp⟩
theorem r45 {n0 : Int} {l : (List (List Int))} {proof : (List (List Int))} {r : Bool} (h : f45 n0 l proof = some r) : VJx cx (.ca 45 [(.int .i64 n0), (ssl (eL eI) l), (ssl (eL eI) proof)] (.bool r) []) := by
  unfold f45 at h
  refine ca_of rfl rfl (by decide) rfl ?_
  refine Wc.start (V1 := [(0, .v (.int .i64 n0)), (1, .v (ssl (eL eI) l)), (2, .v (ssl (eL eI) proof))]) (by simp) ?_
  refine Wc.seq ?_
  refine Wc.evs (by conv => lhs; simp) ?_
  refine Wo.nil ?_
  refine Wc.seq ?_
  refine Wc.seq ?_
  refine Wc.evs (by conv => lhs; simp) ?_
  obtain ⟨o1, h2, h⟩ := bind_some h
  refine Wo.call (by simp) rfl (by (conv => lhs; simp [cx, ioTab]) <;> rfl) (r33 h2) (by simp) (by simp) (by (conv => lhs; simp [cx, ioTab]) <;> rfl) (by (conv => lhs; simp) <;> rfl) ?_
  refine Wo.evk 2 (by conv => lhs; simp) ?_
  obtain ⟨w4, h5, h⟩ := bind_some h
  refine Wo.mono (Q := fun V => V = [(0, .v (.int .i64 n0)), (1, .v (ssl (eL eI) l)), (2, .v (ssl (eL eI) proof)), (29, .v (.bool w4))]) ?_ ?_
  · by_cases knh5 : ¬ (o1 = true)
    · rw [if_pos knh5] at h5
      refine Wo.gh (vle_co (s := 15) (t1 := .bool true) rfl (by simp) (tle_bool (by simpa using knh5)) (by conv => lhs; simp)) ?_
      refine Wo.evs (by conv => lhs; simp) ?_
      refine Wo.nil ?_
      cases h5
      first | rfl | simp
    · rw [if_neg knh5] at h5
      refine Wo.gh (vle_co (s := 15) (t1 := .bool false) rfl (by simp) (tle_bool (by simpa using knh5)) (by conv => lhs; simp)) ?_
      refine Wo.evk 5 (by conv => lhs; simp) ?_
      obtain ⟨w7, h8, h5⟩ := bind_some h5
      refine Wo.mono (Q := fun V => V = [(0, .v (.int .i64 n0)), (1, .v (ssl (eL eI) l)), (2, .v (ssl (eL eI) proof)), (29, .v (.bool w7))]) ?_ ?_
      · by_cases knh8 : (proof.length : Int) = 0
        · rw [if_pos knh8] at h8
          refine Wo.gh (vle_co (s := 20) (t1 := .bool true) rfl (by simp) (tle_bool (by simpa using knh8)) (by conv => lhs; simp)) ?_
          refine Wo.evs (by conv => lhs; simp) ?_
          refine Wo.nil ?_
          cases h8
          first | rfl | simp
        · rw [if_neg knh8] at h8
          refine Wo.gh (vle_co (s := 20) (t1 := .bool false) rfl (by simp) (tle_bool (by simpa using knh8)) (by conv => lhs; simp)) ?_
          obtain ⟨v_9, h10, h8⟩ := bind_some h8
          obtain ⟨ga10, gb10, gc10⟩ := ix_some h10
          have gn10 := ix_ne h10
          have gd10 := arr_at (E := (eL eI)) (b := false) gc10
          simp at gd10
          refine Wo.evs (by conv => lhs; simp [ga10, gb10, gn10, gd10]) ?_
          refine Wo.nil ?_
          cases h8
          first | rfl | simp [ga10, gb10, gn10, gd10]
      · rintro V rfl
        generalize w7 = x_6 at *
        try dsimp only at h5
        cases h5
        first | rfl | simp
  · rintro V rfl
    generalize w4 = x_3 at *
    try dsimp only at h
    by_cases kc11 : x_3 = true
    · rw [if_pos kc11] at h
      refine Wc.condT' (t := _) (by conv => lhs; simp) (by simpa using kc11) ?_
      refine Wc.seq ?_
      refine Wc.kil (by conv => lhs; simp) ?_
      refine Wc.seq ?_
      refine Wc.evs (by conv => lhs; simp) ?_
      refine Wo.nil ?_
      refine Wc.ret (res_of (.inr rfl) ?_)
      cases h
      exact ⟨_, _, _, by conv => lhs; simp, by (conv => lhs; simp [cx, ioTab, List.range, List.range.loop]) <;> rfl, by first | rfl | simp⟩
    · rw [if_neg kc11] at h
      refine Wc.condF' (t := _) (by conv => lhs; simp) (by simpa using kc11) ?_
      refine Wc.seq ?_
      refine Wc.kil (by conv => lhs; simp) ?_
      refine Wc.skip ?_
      refine Wc.seq ?_
      obtain ⟨l_12, h13, h⟩ := bind_some h
      have gx13 := appT_arr (E := (eL eI)) (b := false) (y := false) h13 (by decide)
      simp at gx13
      refine Wc.evs (by conv => lhs; simp [gx13]) ?_
      refine Wo.gh (vle_co (s := 7) (t1 := (osl (eL eI) false l_12)) rfl (by simp) (tle_own rfl) (by conv => lhs; simp)) ?_
      refine Wo.nil ?_
      refine Wc.seq ?_
      refine Wc.seq ?_
      refine Wc.evs (by conv => lhs; simp) ?_
      refine Wo.nil ?_
      refine Wc.block ?_
      obtain ⟨w29, h30, h⟩ := bind_some h
      refine Wc.start (V1 := [(0, .v (.int .i64 n0)), (2, .v (ssl (eL eI) proof)), (7, .v (osl (eL eI) false l_12)), (8, .v (.int .i64 0))]) (by first | rfl | simp) ?_
      refine Wc.mono (r45_0 _ _ h30) ?_
      rcases w29 with ⟨⟩ | x_31
      · rintro ex V ⟨rfl, rfl⟩
        try dsimp only at h
        refine Wc.seq ?_
        refine Wc.evs (by conv => lhs; simp) ?_
        refine Wo.nil ?_
        refine Wc.ret (res_of (.inr rfl) ?_)
        cases h
        exact ⟨_, _, _, by conv => lhs; simp, by (conv => lhs; simp [cx, ioTab, List.range, List.range.loop]) <;> rfl, by first | rfl | simp⟩
      · rintro ex V ⟨rfl, rfl⟩
        try dsimp only at h
        refine res_of (.inr rfl) ?_
        cases h
        exact ⟨_, _, _, by conv => lhs; simp, by (conv => lhs; simp [cx, ioTab, List.range, List.range.loop]) <;> rfl, by first | rfl | simp⟩
theorem r75 {n0 : Int} {low : Int} {high : Int} {r : Bool} (h : f75 n0 low high = some r) : VJx cx (.ca 75 [(.int .i64 n0), (.int .i64 low), (.int .i64 high)] (.bool r) []) := by
  unfold f75 at h
  refine ca_of rfl rfl (by decide) rfl ?_
  refine Wc.start (V1 := [(0, .v (.int .i64 n0)), (1, .v (.int .i64 low)), (2, .v (.int .i64 high))]) (by simp) ?_
  refine Wc.seq ?_
  refine Wc.evs (by conv => lhs; simp) ?_
  refine Wo.nil ?_
  refine Wc.seq ?_
  refine Wc.evk 4 (by conv => lhs; simp) ?_
  obtain ⟨w2, h3, h⟩ := bind_some h
  refine Wo.mono (Q := fun V => V = [(6, .v (.bool w2))]) ?_ ?_
  · by_cases knh3 : low ≤ n0
    · rw [if_pos knh3] at h3
      refine Wo.gh (vle_co (s := 10) (t1 := .bool true) rfl (by simp) (tle_bool (by simpa using knh3)) (by conv => lhs; simp)) ?_
      refine Wo.evs (by conv => lhs; simp) ?_
      refine Wo.nil ?_
      cases h3
      first | rfl | simp
    · rw [if_neg knh3] at h3
      refine Wo.gh (vle_co (s := 10) (t1 := .bool false) rfl (by simp) (tle_bool (by simpa using knh3)) (by conv => lhs; simp)) ?_
      refine Wo.evs (by conv => lhs; simp) ?_
      refine Wo.nil ?_
      cases h3
      first | rfl | simp
  · rintro V rfl
    generalize w2 = x_1 at *
    try dsimp only at h
    refine Wc.ret (res_of (.inr rfl) ?_)
    cases h
    exact ⟨_, _, _, by conv => lhs; simp, by (conv => lhs; simp [cx, ioTab, List.range, List.range.loop]) <;> rfl, by first | rfl | simp⟩
theorem r71_0 {g_f : Nat} {cp_f : List T} {f : (List Int) → Option Bool} (hio_f : cx.io g_f = []) (hp_f : ∀ x0 o, f x0 = some o → VJx cx (.ca g_f ([(ssl eI x0)] ++ cp_f) (.bool o) [])) {s0 : (List (List Int))} : ∀ zs zo, iter (f71_0 s0 f) zs = some zo → Wc cx 19 (.loop L71_0) [(0, .v (ssl (eL eI) s0)), (1, .v (.fn g_f cp_f)), (7, .v (.int .i64 (s0.length : Int))), (8, .v (.int .i64 zs))] ((QO (QX 0 (fun (y : Unit) => [])) (QR (fun (y : Int) => [(4, .v (.int .i64 y))]))) zo) := by
  intro zs0 zo0 zh0
  refine iter_run (f := (f71_0 s0 f)) (P := fun zs zo => Wc cx 19 (.loop L71_0) [(0, .v (ssl (eL eI) s0)), (1, .v (.fn g_f cp_f)), (7, .v (.int .i64 (s0.length : Int))), (8, .v (.int .i64 zs))] ((QO (QX 0 (fun (y : Unit) => [])) (QR (fun (y : Int) => [(4, .v (.int .i64 y))]))) zo)) ?_ zh0
  rintro x_1 zo zr h hk hx
  try dsimp only at hk ⊢
  rw [f71_0] at h
  refine Wc.loop ?_
  refine Wc.seq ?_
  refine Wc.evs (by conv => lhs; simp) ?_
  refine Wo.nil ?_
  refine Wc.seq ?_
  by_cases kc2 : x_1 < (s0.length : Int)
  · rw [if_pos kc2] at h
    refine Wc.condT' (t := _) (by conv => lhs; simp) (by simpa using kc2) ?_
    refine Wc.seq ?_
    refine Wc.kil (by conv => lhs; simp) ?_
    refine Wc.skip ?_
    refine Wc.seq ?_
    refine Wc.block ?_
    refine Wc.seq ?_
    refine Wc.evs (by conv => lhs; simp) ?_
    refine Wo.nil ?_
    refine Wc.seq ?_
    obtain ⟨v_3, h4, h⟩ := bind_some h
    obtain ⟨ga4, gb4, gc4⟩ := ix_some h4
    have gn4 := ix_ne h4
    have gd4 := arr_at (E := (eL eI)) (b := false) gc4
    simp at gd4
    refine Wc.evs (by conv => lhs; simp [ga4, gb4, gn4, gd4]) ?_
    obtain ⟨o5, h6, h⟩ := bind_some h
    refine Wo.call rfl rfl (by (conv => lhs; simp [ga4, gb4, gn4, gd4, hio_f]) <;> rfl) (hp_f v_3 _ h6) (by simp) (by simp) (by (conv => lhs; simp [ga4, gb4, gn4, gd4, hio_f]) <;> rfl) (by (conv => lhs; simp [ga4, gb4, gn4, gd4]) <;> rfl) ?_
    refine Wo.nil ?_
    by_cases kc7 : o5 = true
    · rw [if_pos kc7] at h
      refine Wc.condT' (t := _) (by conv => lhs; simp) (by simpa using kc7) ?_
      refine Wc.seq ?_
      refine Wc.kil (by conv => lhs; simp) ?_
      refine Wc.seq ?_
      refine Wc.evs (by conv => lhs; simp) ?_
      refine Wo.nil ?_
      refine Wc.ret ?_
      have e0 := hx _ (Option.some.inj h).symm
      subst e0
      exact ⟨rfl, by first | rfl | simp⟩
    · rw [if_neg kc7] at h
      refine Wc.condF' (t := _) (by conv => lhs; simp) (by simpa using kc7) ?_
      refine Wc.seq ?_
      refine Wc.kil (by conv => lhs; simp) ?_
      refine Wc.skip ?_
      refine Wc.evs (by conv => lhs; simp) ?_
      refine Wo.nil ?_
      refine Wc.start (V1 := [(0, .v (ssl (eL eI) s0)), (1, .v (.fn g_f cp_f)), (7, .v (.int .i64 (s0.length : Int))), (8, .v (.int .i64 (w64 (x_1 + 1))))]) ?_ (hk _ (Option.some.inj h).symm)
      first | rfl | simp
  · rw [if_neg kc2] at h
    refine Wc.condF' (t := _) (by conv => lhs; simp) (by simpa using kc2) ?_
    refine Wc.seq ?_
    refine Wc.kil (by conv => lhs; simp) ?_
    refine Wc.exit ?_
    have e0 := hx _ (Option.some.inj h).symm
    subst e0
    exact ⟨rfl, by first | rfl | simp⟩
theorem r71 {s0 : (List (List Int))} {g_f : Nat} {cp_f : List T} {f : (List Int) → Option Bool} (hio_f : cx.io g_f = []) (hp_f : ∀ x0 o, f x0 = some o → VJx cx (.ca g_f ([(ssl eI x0)] ++ cp_f) (.bool o) [])) {r : Int} (h : f71 s0 f = some r) : VJx cx (.ca 71 [(ssl (eL eI) s0), (.fn g_f cp_f)] (.int .i64 r) []) := by
  unfold f71 at h
  refine ca_of rfl rfl (by decide) rfl ?_
  refine Wc.start (V1 := [(0, .v (ssl (eL eI) s0)), (1, .v (.fn g_f cp_f))]) (by simp) ?_
  refine Wc.seq ?_
  refine Wc.evs (by conv => lhs; simp) ?_
  refine Wo.nil ?_
  refine Wc.seq ?_
  refine Wc.seq ?_
  refine Wc.evs (by conv => lhs; simp) ?_
  refine Wo.nil ?_
  refine Wc.block ?_
  obtain ⟨w8, h9, h⟩ := bind_some h
  refine Wc.start (V1 := [(0, .v (ssl (eL eI) s0)), (1, .v (.fn g_f cp_f)), (7, .v (.int .i64 (s0.length : Int))), (8, .v (.int .i64 0))]) (by first | rfl | simp) ?_
  refine Wc.mono (r71_0 hio_f hp_f _ _ h9) ?_
  rcases w8 with ⟨⟩ | x_10
  · rintro ex V ⟨rfl, rfl⟩
    try dsimp only at h
    refine Wc.seq ?_
    refine Wc.evs (by conv => lhs; simp) ?_
    refine Wo.nil ?_
    refine Wc.ret (res_of (.inr rfl) ?_)
    cases h
    exact ⟨_, _, _, by conv => lhs; simp, by (conv => lhs; simp [cx, ioTab, List.range, List.range.loop]) <;> rfl, by first | rfl | simp⟩
  · rintro ex V ⟨rfl, rfl⟩
    try dsimp only at h
    refine res_of (.inr rfl) ?_
    cases h
    exact ⟨_, _, _, by conv => lhs; simp, by (conv => lhs; simp [cx, ioTab, List.range, List.range.loop]) <;> rfl, by first | rfl | simp⟩
theorem r53 {s0 : (List (List Int))} {g_f : Nat} {cp_f : List T} {f : (List Int) → Option Bool} (hio_f : cx.io g_f = []) (hp_f : ∀ x0 o, f x0 = some o → VJx cx (.ca g_f ([(ssl eI x0)] ++ cp_f) (.bool o) [])) {r : Bool} (h : f53 s0 f = some r) : VJx cx (.ca 53 [(ssl (eL eI) s0), (.fn g_f cp_f)] (.bool r) []) := by
  unfold f53 at h
  refine ca_of rfl rfl (by decide) rfl ?_
  refine Wc.start (V1 := [(0, .v (ssl (eL eI) s0)), (1, .v (.fn g_f cp_f))]) (by simp) ?_
  refine Wc.seq ?_
  refine Wc.evs (by conv => lhs; simp) ?_
  refine Wo.nil ?_
  refine Wc.seq ?_
  refine Wc.evs (by conv => lhs; simp) ?_
  obtain ⟨o1, h2, h⟩ := bind_some h
  refine Wo.call (by simp) rfl (by (conv => lhs; simp [cx, ioTab]) <;> rfl) (r71 hio_f hp_f h2) (by simp) (by simp) (by (conv => lhs; simp [cx, ioTab]) <;> rfl) (by (conv => lhs; simp) <;> rfl) ?_
  refine Wo.evs (by conv => lhs; simp) ?_
  refine Wo.nil ?_
  refine Wc.ret (res_of (.inr rfl) ?_)
  cases h
  exact ⟨_, _, _, by conv => lhs; simp, by (conv => lhs; simp [cx, ioTab, List.range, List.range.loop]) <;> rfl, by first | rfl | simp⟩
theorem r83_0 {s0 : (List Int)} {v : Int} : ∀ zs zo, iter (f83_0 s0 v) zs = some zo → Wc cx 19 (.loop L83_0) [(0, .v (ssl eI s0)), (1, .v (.int .i64 v)), (7, .v (.int .i64 (s0.length : Int))), (8, .v (.int .i64 zs))] ((QO (QX 0 (fun (y : Unit) => [])) (QR (fun (y : Int) => [(4, .v (.int .i64 y))]))) zo) := by
  intro zs0 zo0 zh0
  refine iter_run (f := (f83_0 s0 v)) (P := fun zs zo => Wc cx 19 (.loop L83_0) [(0, .v (ssl eI s0)), (1, .v (.int .i64 v)), (7, .v (.int .i64 (s0.length : Int))), (8, .v (.int .i64 zs))] ((QO (QX 0 (fun (y : Unit) => [])) (QR (fun (y : Int) => [(4, .v (.int .i64 y))]))) zo)) ?_ zh0
  rintro x_1 zo zr h hk hx
  try dsimp only at hk ⊢
  rw [f83_0] at h
  refine Wc.loop ?_
  refine Wc.seq ?_
  refine Wc.evs (by conv => lhs; simp) ?_
  refine Wo.nil ?_
  refine Wc.seq ?_
  by_cases kc2 : x_1 < (s0.length : Int)
  · rw [if_pos kc2] at h
    refine Wc.condT' (t := _) (by conv => lhs; simp) (by simpa using kc2) ?_
    refine Wc.seq ?_
    refine Wc.kil (by conv => lhs; simp) ?_
    refine Wc.skip ?_
    refine Wc.seq ?_
    refine Wc.block ?_
    refine Wc.seq ?_
    refine Wc.evs (by conv => lhs; simp) ?_
    refine Wo.nil ?_
    refine Wc.seq ?_
    obtain ⟨v_3, h4, h⟩ := bind_some h
    obtain ⟨ga4, gb4, gc4⟩ := ix_some h4
    have gn4 := ix_ne h4
    have gd4 := arr_at (E := eI) (b := false) gc4
    simp at gd4
    refine Wc.evs (by conv => lhs; simp [ga4, gb4, gn4, gd4]) ?_
    refine Wo.nil ?_
    by_cases kc5 : v = v_3
    · rw [if_pos kc5] at h
      refine Wc.condT' (t := _) (by conv => lhs; simp) (by simpa using kc5) ?_
      refine Wc.seq ?_
      refine Wc.kil (by conv => lhs; simp) ?_
      refine Wc.seq ?_
      refine Wc.evs (by conv => lhs; simp) ?_
      refine Wo.nil ?_
      refine Wc.ret ?_
      have e0 := hx _ (Option.some.inj h).symm
      subst e0
      exact ⟨rfl, by first | rfl | simp⟩
    · rw [if_neg kc5] at h
      refine Wc.condF' (t := _) (by conv => lhs; simp) (by simpa using kc5) ?_
      refine Wc.seq ?_
      refine Wc.kil (by conv => lhs; simp) ?_
      refine Wc.skip ?_
      refine Wc.evs (by conv => lhs; simp) ?_
      refine Wo.nil ?_
      refine Wc.start (V1 := [(0, .v (ssl eI s0)), (1, .v (.int .i64 v)), (7, .v (.int .i64 (s0.length : Int))), (8, .v (.int .i64 (w64 (x_1 + 1))))]) ?_ (hk _ (Option.some.inj h).symm)
      first | rfl | simp
  · rw [if_neg kc2] at h
    refine Wc.condF' (t := _) (by conv => lhs; simp) (by simpa using kc2) ?_
    refine Wc.seq ?_
    refine Wc.kil (by conv => lhs; simp) ?_
    refine Wc.exit ?_
    have e0 := hx _ (Option.some.inj h).symm
    subst e0
    exact ⟨rfl, by first | rfl | simp⟩
theorem r83 {s0 : (List Int)} {v : Int} {r : Int} (h : f83 s0 v = some r) : VJx cx (.ca 83 [(ssl eI s0), (.int .i64 v)] (.int .i64 r) []) := by
  unfold f83 at h
  refine ca_of rfl rfl (by decide) rfl ?_
  refine Wc.start (V1 := [(0, .v (ssl eI s0)), (1, .v (.int .i64 v))]) (by simp) ?_
  refine Wc.seq ?_
  refine Wc.evs (by conv => lhs; simp) ?_
  refine Wo.nil ?_
  refine Wc.seq ?_
  refine Wc.seq ?_
  refine Wc.evs (by conv => lhs; simp) ?_
  refine Wo.nil ?_
  refine Wc.block ?_
  obtain ⟨w6, h7, h⟩ := bind_some h
  refine Wc.start (V1 := [(0, .v (ssl eI s0)), (1, .v (.int .i64 v)), (7, .v (.int .i64 (s0.length : Int))), (8, .v (.int .i64 0))]) (by first | rfl | simp) ?_
  refine Wc.mono (r83_0 _ _ h7) ?_
  rcases w6 with ⟨⟩ | x_8
  · rintro ex V ⟨rfl, rfl⟩
    try dsimp only at h
    refine Wc.seq ?_
    refine Wc.evs (by conv => lhs; simp) ?_
    refine Wo.nil ?_
    refine Wc.ret (res_of (.inr rfl) ?_)
    cases h
    exact ⟨_, _, _, by conv => lhs; simp, by (conv => lhs; simp [cx, ioTab, List.range, List.range.loop]) <;> rfl, by first | rfl | simp⟩
  · rintro ex V ⟨rfl, rfl⟩
    try dsimp only at h
    refine res_of (.inr rfl) ?_
    cases h
    exact ⟨_, _, _, by conv => lhs; simp, by (conv => lhs; simp [cx, ioTab, List.range, List.range.loop]) <;> rfl, by first | rfl | simp⟩
theorem r73 {s0 : (List Int)} {v : Int} {r : Bool} (h : f73 s0 v = some r) : VJx cx (.ca 73 [(ssl eI s0), (.int .i64 v)] (.bool r) []) := by
  unfold f73 at h
  refine ca_of rfl rfl (by decide) rfl ?_
  refine Wc.start (V1 := [(0, .v (ssl eI s0)), (1, .v (.int .i64 v))]) (by simp) ?_
  refine Wc.seq ?_
  refine Wc.evs (by conv => lhs; simp) ?_
  refine Wo.nil ?_
  refine Wc.seq ?_
  refine Wc.evs (by conv => lhs; simp) ?_
  obtain ⟨o1, h2, h⟩ := bind_some h
  refine Wo.call (by simp) rfl (by (conv => lhs; simp [cx, ioTab]) <;> rfl) (r83 h2) (by simp) (by simp) (by (conv => lhs; simp [cx, ioTab]) <;> rfl) (by (conv => lhs; simp) <;> rfl) ?_
  refine Wo.evs (by conv => lhs; simp) ?_
  refine Wo.nil ?_
  refine Wc.ret (res_of (.inr rfl) ?_)
  cases h
  exact ⟨_, _, _, by conv => lhs; simp, by (conv => lhs; simp [cx, ioTab, List.range, List.range.loop]) <;> rfl, by first | rfl | simp⟩
theorem r63_0 {n0 : Int} {clause : (List Int)} : ∀ zs zo, iter (f63_0 n0 clause) zs = some zo → Wc cx 40 (.loop L63_0) [(0, .v (.int .i64 n0)), (1, .v (ssl eI clause)), (7, .v (ssl eI clause)), (8, .v (.int .i64 (clause.length : Int))), (9, .v (.int .i64 zs))] ((QO (QX 0 (fun (y : Unit) => [])) (QR (fun (y : Bool) => [(4, .v (.bool y))]))) zo) := by
  intro zs0 zo0 zh0
  refine iter_run (f := (f63_0 n0 clause)) (P := fun zs zo => Wc cx 40 (.loop L63_0) [(0, .v (.int .i64 n0)), (1, .v (ssl eI clause)), (7, .v (ssl eI clause)), (8, .v (.int .i64 (clause.length : Int))), (9, .v (.int .i64 zs))] ((QO (QX 0 (fun (y : Unit) => [])) (QR (fun (y : Bool) => [(4, .v (.bool y))]))) zo)) ?_ zh0
  rintro x_1 zo zr h hk hx
  try dsimp only at hk ⊢
  rw [f63_0] at h
  refine Wc.loop ?_
  refine Wc.seq ?_
  refine Wc.evs (by conv => lhs; simp) ?_
  refine Wo.nil ?_
  refine Wc.seq ?_
  by_cases kc2 : x_1 < (clause.length : Int)
  · rw [if_pos kc2] at h
    refine Wc.condT' (t := _) (by conv => lhs; simp) (by simpa using kc2) ?_
    refine Wc.seq ?_
    refine Wc.kil (by conv => lhs; simp) ?_
    refine Wc.skip ?_
    refine Wc.seq ?_
    refine Wc.block ?_
    refine Wc.seq ?_
    obtain ⟨v_3, h4, h⟩ := bind_some h
    obtain ⟨ga4, gb4, gc4⟩ := ix_some h4
    have gn4 := ix_ne h4
    have gd4 := arr_at (E := eI) (b := false) gc4
    simp at gd4
    refine Wc.evs (by conv => lhs; simp [ga4, gb4, gn4, gd4]) ?_
    refine Wo.nil ?_
    refine Wc.seq ?_
    refine Wc.evk 3 (by conv => lhs; simp) ?_
    obtain ⟨w6, h7, h⟩ := bind_some h
    refine Wo.mono (Q := fun V => V = [(0, .v (.int .i64 n0)), (1, .v (ssl eI clause)), (7, .v (ssl eI clause)), (8, .v (.int .i64 (clause.length : Int))), (9, .v (.int .i64 x_1)), (38, .v (.bool w6))]) ?_ ?_
    · by_cases knh7 : v_3 = 0
      · rw [if_pos knh7] at h7
        refine Wo.gh (vle_co (s := 16) (t1 := .bool true) rfl (by simp) (tle_bool (by simpa using knh7)) (by conv => lhs; simp)) ?_
        refine Wo.evs (by conv => lhs; simp) ?_
        refine Wo.nil ?_
        cases h7
        first | rfl | simp
      · rw [if_neg knh7] at h7
        refine Wo.gh (vle_co (s := 16) (t1 := .bool false) rfl (by simp) (tle_bool (by simpa using knh7)) (by conv => lhs; simp)) ?_
        refine Wo.evs (by conv => lhs; simp) ?_
        obtain ⟨o8, h9, h7⟩ := bind_some h7
        refine Wo.call (by simp) rfl (by (conv => lhs; simp [cx, ioTab]) <;> rfl) (r75 h9) (by simp) (by simp) (by (conv => lhs; simp [cx, ioTab]) <;> rfl) (by (conv => lhs; simp) <;> rfl) ?_
        refine Wo.evk 3 (by conv => lhs; simp) ?_
        obtain ⟨w11, h12, h7⟩ := bind_some h7
        refine Wo.mono (Q := fun V => V = [(0, .v (.int .i64 n0)), (1, .v (ssl eI clause)), (7, .v (ssl eI clause)), (8, .v (.int .i64 (clause.length : Int))), (9, .v (.int .i64 x_1)), (38, .v (.bool w11))]) ?_ ?_
        · by_cases knh12 : ¬ (o8 = true)
          · rw [if_pos knh12] at h12
            refine Wo.gh (vle_co (s := 24) (t1 := .bool true) rfl (by simp) (tle_bool (by simpa using knh12)) (by conv => lhs; simp)) ?_
            refine Wo.evs (by conv => lhs; simp) ?_
            refine Wo.nil ?_
            cases h12
            first | rfl | simp
          · rw [if_neg knh12] at h12
            refine Wo.gh (vle_co (s := 24) (t1 := .bool false) rfl (by simp) (tle_bool (by simpa using knh12)) (by conv => lhs; simp)) ?_
            obtain ⟨l_13, h14, h12⟩ := bind_some h12
            obtain ⟨ga14, gb14, gc14, ge14⟩ := cut_some h14
            simp at ge14
            refine Wo.evs (by conv => lhs; simp [ga14, gb14, gc14, ge14]) ?_
            obtain ⟨o15, h16, h12⟩ := bind_some h12
            refine Wo.call (by simp [ga14, gb14, gc14, ge14]) rfl (by (conv => lhs; simp [ga14, gb14, gc14, ge14, cx, ioTab]) <;> rfl) (r73 h16) (by simp) (by simp) (by (conv => lhs; simp [ga14, gb14, gc14, ge14, cx, ioTab]) <;> rfl) (by (conv => lhs; simp [ga14, gb14, gc14, ge14]) <;> rfl) ?_
            refine Wo.evk 2 (by conv => lhs; simp [ga14, gb14, gc14, ge14]) ?_
            obtain ⟨w18, h19, h12⟩ := bind_some h12
            refine Wo.mono (Q := fun V => V = [(0, .v (.int .i64 n0)), (1, .v (ssl eI clause)), (7, .v (ssl eI clause)), (8, .v (.int .i64 (clause.length : Int))), (9, .v (.int .i64 x_1)), (38, .v (.bool w18))]) ?_ ?_
            · by_cases knh19 : o15 = true
              · rw [if_pos knh19] at h19
                refine Wo.gh (vle_co (s := 31) (t1 := .bool true) rfl (by simp) (tle_bool (by simpa using knh19)) (by conv => lhs; simp)) ?_
                refine Wo.evs (by conv => lhs; simp [ga14, gb14, gc14, ge14]) ?_
                refine Wo.nil ?_
                cases h19
                first | rfl | simp [ga14, gb14, gc14, ge14]
              · rw [if_neg knh19] at h19
                refine Wo.gh (vle_co (s := 31) (t1 := .bool false) rfl (by simp) (tle_bool (by simpa using knh19)) (by conv => lhs; simp)) ?_
                refine Wo.evs (by conv => lhs; simp [ga14, gb14, gc14, ge14]) ?_
                obtain ⟨o20, h21, h19⟩ := bind_some h19
                refine Wo.call (by simp [ga14, gb14, gc14, ge14]) rfl (by (conv => lhs; simp [ga14, gb14, gc14, ge14, cx, ioTab]) <;> rfl) (r73 h21) (by simp) (by simp) (by (conv => lhs; simp [ga14, gb14, gc14, ge14, cx, ioTab]) <;> rfl) (by (conv => lhs; simp [ga14, gb14, gc14, ge14]) <;> rfl) ?_
                refine Wo.evs (by conv => lhs; simp [ga14, gb14, gc14, ge14]) ?_
                refine Wo.nil ?_
                cases h19
                first | rfl | simp [ga14, gb14, gc14, ge14]
            · rintro V rfl
              generalize w18 = x_17 at *
              try dsimp only at h12
              cases h12
              first | rfl | simp [ga14, gb14, gc14, ge14]
        · rintro V rfl
          generalize w11 = x_10 at *
          try dsimp only at h7
          cases h7
          first | rfl | simp
    · rintro V rfl
      generalize w6 = x_5 at *
      try dsimp only at h
      by_cases kc22 : x_5 = true
      · rw [if_pos kc22] at h
        refine Wc.condT' (t := _) (by conv => lhs; simp) (by simpa using kc22) ?_
        refine Wc.seq ?_
        refine Wc.kil (by conv => lhs; simp) ?_
        refine Wc.seq ?_
        refine Wc.evs (by conv => lhs; simp) ?_
        refine Wo.nil ?_
        refine Wc.ret ?_
        have e0 := hx _ (Option.some.inj h).symm
        subst e0
        exact ⟨rfl, by first | rfl | simp⟩
      · rw [if_neg kc22] at h
        refine Wc.condF' (t := _) (by conv => lhs; simp) (by simpa using kc22) ?_
        refine Wc.seq ?_
        refine Wc.kil (by conv => lhs; simp) ?_
        refine Wc.skip ?_
        refine Wc.evs (by conv => lhs; simp) ?_
        refine Wo.nil ?_
        refine Wc.start (V1 := [(0, .v (.int .i64 n0)), (1, .v (ssl eI clause)), (7, .v (ssl eI clause)), (8, .v (.int .i64 (clause.length : Int))), (9, .v (.int .i64 (w64 (x_1 + 1))))]) ?_ (hk _ (Option.some.inj h).symm)
        first | rfl | simp
  · rw [if_neg kc2] at h
    refine Wc.condF' (t := _) (by conv => lhs; simp) (by simpa using kc2) ?_
    refine Wc.seq ?_
    refine Wc.kil (by conv => lhs; simp) ?_
    refine Wc.exit ?_
    have e0 := hx _ (Option.some.inj h).symm
    subst e0
    exact ⟨rfl, by first | rfl | simp⟩
theorem r63 {n0 : Int} {clause : (List Int)} {r : Bool} (h : f63 n0 clause = some r) : VJx cx (.ca 63 [(.int .i64 n0), (ssl eI clause)] (.bool r) []) := by
  unfold f63 at h
  refine ca_of rfl rfl (by decide) rfl ?_
  refine Wc.start (V1 := [(0, .v (.int .i64 n0)), (1, .v (ssl eI clause))]) (by simp) ?_
  refine Wc.seq ?_
  refine Wc.evs (by conv => lhs; simp) ?_
  refine Wo.nil ?_
  refine Wc.seq ?_
  refine Wc.seq ?_
  refine Wc.evs (by conv => lhs; simp) ?_
  refine Wo.nil ?_
  refine Wc.block ?_
  obtain ⟨w23, h24, h⟩ := bind_some h
  refine Wc.start (V1 := [(0, .v (.int .i64 n0)), (1, .v (ssl eI clause)), (7, .v (ssl eI clause)), (8, .v (.int .i64 (clause.length : Int))), (9, .v (.int .i64 0))]) (by first | rfl | simp) ?_
  refine Wc.mono (r63_0 _ _ h24) ?_
  rcases w23 with ⟨⟩ | x_25
  · rintro ex V ⟨rfl, rfl⟩
    try dsimp only at h
    refine Wc.seq ?_
    refine Wc.evs (by conv => lhs; simp) ?_
    refine Wo.nil ?_
    refine Wc.ret (res_of (.inr rfl) ?_)
    cases h
    exact ⟨_, _, _, by conv => lhs; simp, by (conv => lhs; simp [cx, ioTab, List.range, List.range.loop]) <;> rfl, by first | rfl | simp⟩
  · rintro ex V ⟨rfl, rfl⟩
    try dsimp only at h
    refine res_of (.inr rfl) ?_
    cases h
    exact ⟨_, _, _, by conv => lhs; simp, by (conv => lhs; simp [cx, ioTab, List.range, List.range.loop]) <;> rfl, by first | rfl | simp⟩
theorem r76 {clause : (List Int)} {c : Int} {r : Bool} (h : f76 clause c = some r) : VJx cx (.ca 76 [(ssl eI clause), (.ptr false [(.int .i64 c)])] (.bool r) []) := by
  unfold f76 at h
  refine ca_of rfl rfl (by decide) rfl ?_
  refine Wc.start (V1 := [(0, .v (ssl eI clause)), (1, .v (.ptr false [(.int .i64 c)]))]) (by simp) ?_
  refine Wc.seq ?_
  refine Wc.evs (by conv => lhs; simp) ?_
  refine Wo.nil ?_
  refine Wc.seq ?_
  refine Wc.evs (by conv => lhs; simp) ?_
  obtain ⟨o1, h2, h⟩ := bind_some h
  refine Wo.call (by simp) rfl (by (conv => lhs; simp [cx, ioTab]) <;> rfl) (r63 h2) (by simp) (by simp) (by (conv => lhs; simp [cx, ioTab]) <;> rfl) (by (conv => lhs; simp) <;> rfl) ?_
  refine Wo.evs (by conv => lhs; simp) ?_
  refine Wo.nil ?_
  refine Wc.ret (res_of (.inr rfl) ?_)
  cases h
  exact ⟨_, _, _, by conv => lhs; simp, by (conv => lhs; simp [cx, ioTab, List.range, List.range.loop]) <;> rfl, by first | rfl | simp⟩
theorem r62 {n0 : Int} {clauses : (List (List Int))} {r : Bool} (h : f62 n0 clauses = some r) : VJx cx (.ca 62 [(.int .i64 n0), (ssl (eL eI) clauses)] (.bool r) []) := by
  unfold f62 at h
  refine ca_of rfl rfl (by decide) rfl ?_
  refine Wc.start (V1 := [(0, .v (.int .i64 n0)), (1, .v (ssl (eL eI) clauses))]) (by simp) ?_
  refine Wc.seq ?_
  refine Wc.evs (by conv => lhs; simp) ?_
  refine Wo.nil ?_
  refine Wc.seq ?_
  refine Wc.evs (by conv => lhs; simp) ?_
  obtain ⟨o1, h2, h⟩ := bind_some h
  refine Wo.call (by simp) rfl (by (conv => lhs; simp [cx, ioTab]) <;> rfl) (r75 h2) (by simp) (by simp) (by (conv => lhs; simp [cx, ioTab]) <;> rfl) (by (conv => lhs; simp) <;> rfl) ?_
  refine Wo.evk 1 (by conv => lhs; simp) ?_
  obtain ⟨w4, h5, h⟩ := bind_some h
  refine Wo.mono (Q := fun V => V = [(4, .v (.bool w4))]) ?_ ?_
  · by_cases knh5 : o1 = true
    · rw [if_pos knh5] at h5
      refine Wo.gh (vle_co (s := 7) (t1 := .bool true) rfl (by simp) (tle_bool (by simpa using knh5)) (by conv => lhs; simp)) ?_
      refine Wo.evs (by conv => lhs; simp) ?_
      obtain ⟨o6, h7, h5⟩ := bind_some h5
      refine Wo.call (by simp) rfl (by (conv => lhs; simp [cx, ioTab]) <;> rfl) (r53 (g_f := 76) (cp_f := [(.ptr false [(.int .i64 n0)])]) rfl (fun x0 o h => r76 h) h7) (by simp) (by simp) (by (conv => lhs; simp [cx, ioTab]) <;> rfl) (by (conv => lhs; simp) <;> rfl) ?_
      refine Wo.evs (by conv => lhs; simp) ?_
      refine Wo.nil ?_
      cases h5
      first | rfl | simp
    · rw [if_neg knh5] at h5
      refine Wo.gh (vle_co (s := 7) (t1 := .bool false) rfl (by simp) (tle_bool (by simpa using knh5)) (by conv => lhs; simp)) ?_
      refine Wo.evs (by conv => lhs; simp) ?_
      refine Wo.nil ?_
      cases h5
      first | rfl | simp
  · rintro V rfl
    generalize w4 = x_3 at *
    try dsimp only at h
    refine Wc.ret (res_of (.inr rfl) ?_)
    cases h
    exact ⟨_, _, _, by conv => lhs; simp, by (conv => lhs; simp [cx, ioTab, List.range, List.range.loop]) <;> rfl, by first | rfl | simp⟩
theorem r34 {n0 : Int} {clauses : (List (List Int))} {r : Bool} (h : f34 n0 clauses = some r) : VJx cx (.ca 34 [(.int .i64 n0), (ssl (eL eI) clauses)] (.bool r) []) := by
  unfold f34 at h
  refine ca_of rfl rfl (by decide) rfl ?_
  refine Wc.start (V1 := [(0, .v (.int .i64 n0)), (1, .v (ssl (eL eI) clauses))]) (by simp) ?_
  refine Wc.seq ?_
  refine Wc.evs (by conv => lhs; simp) ?_
  refine Wo.nil ?_
  refine Wc.seq ?_
  refine Wc.evk 4 (by conv => lhs; simp) ?_
  obtain ⟨w2, h3, h⟩ := bind_some h
  refine Wo.mono (Q := fun V => V = [(4, .v (.bool w2))]) ?_ ?_
  · by_cases knh3 : (clauses.length : Int) ≤ 400
    · rw [if_pos knh3] at h3
      refine Wo.gh (vle_co (s := 8) (t1 := .bool true) rfl (by simp) (tle_bool (by simpa using knh3)) (by conv => lhs; simp)) ?_
      refine Wo.evs (by conv => lhs; simp) ?_
      obtain ⟨o4, h5, h3⟩ := bind_some h3
      refine Wo.call (by simp) rfl (by (conv => lhs; simp [cx, ioTab]) <;> rfl) (r62 h5) (by simp) (by simp) (by (conv => lhs; simp [cx, ioTab]) <;> rfl) (by (conv => lhs; simp) <;> rfl) ?_
      refine Wo.evs (by conv => lhs; simp) ?_
      refine Wo.nil ?_
      cases h3
      first | rfl | simp
    · rw [if_neg knh3] at h3
      refine Wo.gh (vle_co (s := 8) (t1 := .bool false) rfl (by simp) (tle_bool (by simpa using knh3)) (by conv => lhs; simp)) ?_
      refine Wo.evs (by conv => lhs; simp) ?_
      refine Wo.nil ?_
      cases h3
      first | rfl | simp
  · rintro V rfl
    generalize w2 = x_1 at *
    try dsimp only at h
    refine Wc.ret (res_of (.inr rfl) ?_)
    cases h
    exact ⟨_, _, _, by conv => lhs; simp, by (conv => lhs; simp [cx, ioTab, List.range, List.range.loop]) <;> rfl, by first | rfl | simp⟩
theorem r66 {s0 : (List (List Int))} {r : (List (List Int))} (h : f66 s0 = some r) : VJx cx (.ca 66 [(ssl (eL eI) s0)] (osl (eL eI) false r) []) := by
  unfold f66 at h
  refine ca_clone (X := noExt) (fun _ _ _ _ h => h) (fun _ _ _ _ h => h) rfl (by decide) rfl (cl_eq h) ?_
  refine Wc.start (V1 := [(0, .v (ssl (eL eI) s0))]) (by simp) ?_
  refine Wc.seq ?_
  obtain ⟨l_1, h2, h⟩ := bind_some h
  have gx2 := appT_arr (E := (eL eI)) (b := false) (y := false) h2 (by decide)
  simp at gx2
  refine Wc.evs (by conv => lhs; simp [gx2]) ?_
  refine Wo.gh (vle_co (s := 2) (t1 := (osl (eL eI) false l_1)) rfl (by simp) (tle_own rfl) (by conv => lhs; simp)) ?_
  refine Wo.nil ?_
  refine Wc.ret (res_of (.inr rfl) ?_)
  cases h
  exact ⟨_, _, _, by conv => lhs; simp, by (conv => lhs; simp [cx, ioTab, List.range, List.range.loop]) <;> rfl, by first | rfl | simp [gx2]⟩
theorem r17_0 {literals : (List Int)} : ∀ zs zo, iter (f17_0 literals) zs = some zo → Wc cx 20 (.loop L17_0) [(3, .v (osl eI true zs.1)), (7, .v (ssl eI literals)), (8, .v (.int .i64 (literals.length : Int))), (9, .v (.int .i64 zs.2))] ((QX 0 (fun (y : (List Int)) => [(3, .v (osl eI true y))])) zo) := by
  intro zs0 zo0 zh0
  refine iter_run (f := (f17_0 literals)) (P := fun zs zo => Wc cx 20 (.loop L17_0) [(3, .v (osl eI true zs.1)), (7, .v (ssl eI literals)), (8, .v (.int .i64 (literals.length : Int))), (9, .v (.int .i64 zs.2))] ((QX 0 (fun (y : (List Int)) => [(3, .v (osl eI true y))])) zo)) ?_ zh0
  rintro ⟨out_1, x_2⟩ zo zr h hk hx
  try dsimp only at hk ⊢
  rw [f17_0] at h
  refine Wc.loop ?_
  refine Wc.seq ?_
  refine Wc.evs (by conv => lhs; simp) ?_
  refine Wo.nil ?_
  refine Wc.seq ?_
  by_cases kc3 : x_2 < (literals.length : Int)
  · rw [if_pos kc3] at h
    refine Wc.condT' (t := _) (by conv => lhs; simp) (by simpa using kc3) ?_
    refine Wc.seq ?_
    refine Wc.kil (by conv => lhs; simp) ?_
    refine Wc.skip ?_
    refine Wc.seq ?_
    refine Wc.block ?_
    refine Wc.seq ?_
    obtain ⟨v_4, h5, h⟩ := bind_some h
    obtain ⟨ga5, gb5, gc5⟩ := ix_some h5
    have gn5 := ix_ne h5
    have gd5 := arr_at (E := eI) (b := false) gc5
    simp at gd5
    refine Wc.evs (by conv => lhs; simp [ga5, gb5, gn5, gd5]) ?_
    refine Wo.nil ?_
    obtain ⟨l_6, h7, h⟩ := bind_some h
    have gx7 := appT_arr (E := eI) (b := true) (y := true) h7 (by decide)
    simp at gx7
    refine Wc.evs (by conv => lhs; simp [gx7]) ?_
    refine Wo.nil ?_
    refine Wc.evs (by conv => lhs; simp) ?_
    refine Wo.nil ?_
    refine Wc.start (V1 := [(3, .v (osl eI true l_6)), (7, .v (ssl eI literals)), (8, .v (.int .i64 (literals.length : Int))), (9, .v (.int .i64 (w64 (x_2 + 1))))]) ?_ (hk _ (Option.some.inj h).symm)
    first | rfl | simp
  · rw [if_neg kc3] at h
    refine Wc.condF' (t := _) (by conv => lhs; simp) (by simpa using kc3) ?_
    refine Wc.seq ?_
    refine Wc.kil (by conv => lhs; simp) ?_
    refine Wc.exit ?_
    have e0 := hx _ (Option.some.inj h).symm
    subst e0
    exact ⟨rfl, by first | rfl | simp⟩
theorem r17 {literals : (List Int)} {r : (List Int)} (h : f17 literals = some r) : VJx cx (.ca 17 [(ssl eI literals)] (osl eI true r) []) := by
  unfold f17 at h
  refine ca_of rfl rfl (by decide) rfl ?_
  refine Wc.start (V1 := [(0, .v (ssl eI literals))]) (by simp) ?_
  refine Wc.seq ?_
  refine Wc.evs (by conv => lhs; simp) ?_
  refine Wo.nil ?_
  refine Wc.seq ?_
  refine Wc.evs (by conv => lhs; simp) ?_
  refine Wo.gh (vle_co (s := 3) (t1 := (osl eI true ([]))) rfl (by simp) (TLe.own (show TLes _ [] from (TLes.refl _)) rfl) (by conv => lhs; simp)) ?_
  refine Wo.nil ?_
  refine Wc.seq ?_
  refine Wc.seq ?_
  refine Wc.evs (by conv => lhs; simp) ?_
  refine Wo.nil ?_
  refine Wc.block ?_
  obtain ⟨w8, h9, h⟩ := bind_some h
  refine Wc.start (V1 := [(3, .v (osl eI true ([]))), (7, .v (ssl eI literals)), (8, .v (.int .i64 (literals.length : Int))), (9, .v (.int .i64 0))]) (by first | rfl | simp) ?_
  refine Wc.mono (r17_0 _ _ h9) ?_
  generalize w8 = out_10 at *
  rintro ex V ⟨rfl, rfl⟩
  try dsimp only at h
  refine Wc.seq ?_
  refine Wc.evs (by conv => lhs; simp) ?_
  refine Wo.nil ?_
  refine Wc.ret (res_of (.inr rfl) ?_)
  cases h
  exact ⟨_, _, _, by conv => lhs; simp, by (conv => lhs; simp [cx, ioTab, List.range, List.range.loop]) <;> rfl, by first | rfl | simp⟩
theorem r74_0 {g_f : Nat} {cp_f : List T} {f : Int → Option Bool} (hio_f : cx.io g_f = []) (hp_f : ∀ x0 o, f x0 = some o → VJx cx (.ca g_f ([(.int .i64 x0)] ++ cp_f) (.bool o) [])) {s0 : (List Int)} : ∀ zs zo, iter (f74_0 s0 f) zs = some zo → Wc cx 19 (.loop L74_0) [(0, .v (ssl eI s0)), (1, .v (.fn g_f cp_f)), (7, .v (.int .i64 (s0.length : Int))), (8, .v (.int .i64 zs))] ((QO (QX 0 (fun (y : Unit) => [])) (QR (fun (y : Int) => [(4, .v (.int .i64 y))]))) zo) := by
  intro zs0 zo0 zh0
  refine iter_run (f := (f74_0 s0 f)) (P := fun zs zo => Wc cx 19 (.loop L74_0) [(0, .v (ssl eI s0)), (1, .v (.fn g_f cp_f)), (7, .v (.int .i64 (s0.length : Int))), (8, .v (.int .i64 zs))] ((QO (QX 0 (fun (y : Unit) => [])) (QR (fun (y : Int) => [(4, .v (.int .i64 y))]))) zo)) ?_ zh0
  rintro x_1 zo zr h hk hx
  try dsimp only at hk ⊢
  rw [f74_0] at h
  refine Wc.loop ?_
  refine Wc.seq ?_
  refine Wc.evs (by conv => lhs; simp) ?_
  refine Wo.nil ?_
  refine Wc.seq ?_
  by_cases kc2 : x_1 < (s0.length : Int)
  · rw [if_pos kc2] at h
    refine Wc.condT' (t := _) (by conv => lhs; simp) (by simpa using kc2) ?_
    refine Wc.seq ?_
    refine Wc.kil (by conv => lhs; simp) ?_
    refine Wc.skip ?_
    refine Wc.seq ?_
    refine Wc.block ?_
    refine Wc.seq ?_
    refine Wc.evs (by conv => lhs; simp) ?_
    refine Wo.nil ?_
    refine Wc.seq ?_
    obtain ⟨v_3, h4, h⟩ := bind_some h
    obtain ⟨ga4, gb4, gc4⟩ := ix_some h4
    have gn4 := ix_ne h4
    have gd4 := arr_at (E := eI) (b := false) gc4
    simp at gd4
    refine Wc.evs (by conv => lhs; simp [ga4, gb4, gn4, gd4]) ?_
    obtain ⟨o5, h6, h⟩ := bind_some h
    refine Wo.call rfl rfl (by (conv => lhs; simp [ga4, gb4, gn4, gd4, hio_f]) <;> rfl) (hp_f v_3 _ h6) (by simp) (by simp) (by (conv => lhs; simp [ga4, gb4, gn4, gd4, hio_f]) <;> rfl) (by (conv => lhs; simp [ga4, gb4, gn4, gd4]) <;> rfl) ?_
    refine Wo.nil ?_
    by_cases kc7 : o5 = true
    · rw [if_pos kc7] at h
      refine Wc.condT' (t := _) (by conv => lhs; simp) (by simpa using kc7) ?_
      refine Wc.seq ?_
      refine Wc.kil (by conv => lhs; simp) ?_
      refine Wc.seq ?_
      refine Wc.evs (by conv => lhs; simp) ?_
      refine Wo.nil ?_
      refine Wc.ret ?_
      have e0 := hx _ (Option.some.inj h).symm
      subst e0
      exact ⟨rfl, by first | rfl | simp⟩
    · rw [if_neg kc7] at h
      refine Wc.condF' (t := _) (by conv => lhs; simp) (by simpa using kc7) ?_
      refine Wc.seq ?_
      refine Wc.kil (by conv => lhs; simp) ?_
      refine Wc.skip ?_
      refine Wc.evs (by conv => lhs; simp) ?_
      refine Wo.nil ?_
      refine Wc.start (V1 := [(0, .v (ssl eI s0)), (1, .v (.fn g_f cp_f)), (7, .v (.int .i64 (s0.length : Int))), (8, .v (.int .i64 (w64 (x_1 + 1))))]) ?_ (hk _ (Option.some.inj h).symm)
      first | rfl | simp
  · rw [if_neg kc2] at h
    refine Wc.condF' (t := _) (by conv => lhs; simp) (by simpa using kc2) ?_
    refine Wc.seq ?_
    refine Wc.kil (by conv => lhs; simp) ?_
    refine Wc.exit ?_
    have e0 := hx _ (Option.some.inj h).symm
    subst e0
    exact ⟨rfl, by first | rfl | simp⟩
theorem r74 {s0 : (List Int)} {g_f : Nat} {cp_f : List T} {f : Int → Option Bool} (hio_f : cx.io g_f = []) (hp_f : ∀ x0 o, f x0 = some o → VJx cx (.ca g_f ([(.int .i64 x0)] ++ cp_f) (.bool o) [])) {r : Int} (h : f74 s0 f = some r) : VJx cx (.ca 74 [(ssl eI s0), (.fn g_f cp_f)] (.int .i64 r) []) := by
  unfold f74 at h
  refine ca_of rfl rfl (by decide) rfl ?_
  refine Wc.start (V1 := [(0, .v (ssl eI s0)), (1, .v (.fn g_f cp_f))]) (by simp) ?_
  refine Wc.seq ?_
  refine Wc.evs (by conv => lhs; simp) ?_
  refine Wo.nil ?_
  refine Wc.seq ?_
  refine Wc.seq ?_
  refine Wc.evs (by conv => lhs; simp) ?_
  refine Wo.nil ?_
  refine Wc.block ?_
  obtain ⟨w8, h9, h⟩ := bind_some h
  refine Wc.start (V1 := [(0, .v (ssl eI s0)), (1, .v (.fn g_f cp_f)), (7, .v (.int .i64 (s0.length : Int))), (8, .v (.int .i64 0))]) (by first | rfl | simp) ?_
  refine Wc.mono (r74_0 hio_f hp_f _ _ h9) ?_
  rcases w8 with ⟨⟩ | x_10
  · rintro ex V ⟨rfl, rfl⟩
    try dsimp only at h
    refine Wc.seq ?_
    refine Wc.evs (by conv => lhs; simp) ?_
    refine Wo.nil ?_
    refine Wc.ret (res_of (.inr rfl) ?_)
    cases h
    exact ⟨_, _, _, by conv => lhs; simp, by (conv => lhs; simp [cx, ioTab, List.range, List.range.loop]) <;> rfl, by first | rfl | simp⟩
  · rintro ex V ⟨rfl, rfl⟩
    try dsimp only at h
    refine res_of (.inr rfl) ?_
    cases h
    exact ⟨_, _, _, by conv => lhs; simp, by (conv => lhs; simp [cx, ioTab, List.range, List.range.loop]) <;> rfl, by first | rfl | simp⟩
theorem r57 {s0 : (List Int)} {g_f : Nat} {cp_f : List T} {f : Int → Option Bool} (hio_f : cx.io g_f = []) (hp_f : ∀ x0 o, f x0 = some o → VJx cx (.ca g_f ([(.int .i64 x0)] ++ cp_f) (.bool o) [])) {r : Bool} (h : f57 s0 f = some r) : VJx cx (.ca 57 [(ssl eI s0), (.fn g_f cp_f)] (.bool r) []) := by
  unfold f57 at h
  refine ca_of rfl rfl (by decide) rfl ?_
  refine Wc.start (V1 := [(0, .v (ssl eI s0)), (1, .v (.fn g_f cp_f))]) (by simp) ?_
  refine Wc.seq ?_
  refine Wc.evs (by conv => lhs; simp) ?_
  refine Wo.nil ?_
  refine Wc.seq ?_
  refine Wc.evs (by conv => lhs; simp) ?_
  obtain ⟨o1, h2, h⟩ := bind_some h
  refine Wo.call (by simp) rfl (by (conv => lhs; simp [cx, ioTab]) <;> rfl) (r74 hio_f hp_f h2) (by simp) (by simp) (by (conv => lhs; simp [cx, ioTab]) <;> rfl) (by (conv => lhs; simp) <;> rfl) ?_
  refine Wo.evs (by conv => lhs; simp) ?_
  refine Wo.nil ?_
  refine Wc.ret (res_of (.inr rfl) ?_)
  cases h
  exact ⟨_, _, _, by conv => lhs; simp, by (conv => lhs; simp [cx, ioTab, List.range, List.range.loop]) <;> rfl, by first | rfl | simp⟩
theorem r77 {x : Int} {c : (List Int)} {r : Bool} (h : f77 x c = some r) : VJx cx (.ca 77 [(.int .i64 x), (.ptr false [(ssl eI c)])] (.bool r) []) := by
  unfold f77 at h
  refine ca_of rfl rfl (by decide) rfl ?_
  refine Wc.start (V1 := [(0, .v (.int .i64 x)), (1, .v (.ptr false [(ssl eI c)]))]) (by simp) ?_
  refine Wc.seq ?_
  refine Wc.evs (by conv => lhs; simp) ?_
  refine Wo.nil ?_
  refine Wc.seq ?_
  refine Wc.evs (by conv => lhs; simp) ?_
  obtain ⟨o1, h2, h⟩ := bind_some h
  refine Wo.call (by simp) rfl (by (conv => lhs; simp [cx, ioTab]) <;> rfl) (r73 h2) (by simp) (by simp) (by (conv => lhs; simp [cx, ioTab]) <;> rfl) (by (conv => lhs; simp) <;> rfl) ?_
  refine Wo.evs (by conv => lhs; simp) ?_
  refine Wo.nil ?_
  refine Wc.ret (res_of (.inr rfl) ?_)
  cases h
  exact ⟨_, _, _, by conv => lhs; simp, by (conv => lhs; simp [cx, ioTab, List.range, List.range.loop]) <;> rfl, by first | rfl | simp⟩
theorem r78_0 {a : (List Int)} {b : (List Int)} : ∀ zs zo, iter (f78_0 a b) zs = some zo → Wc cx 25 (.loop L78_0) [(1, .v (ssl eI b)), (5, .v (osl eI true zs.1)), (9, .v (ssl eI a)), (10, .v (.int .i64 (a.length : Int))), (11, .v (.int .i64 zs.2))] ((QX 0 (fun (y : (List Int)) => [(5, .v (osl eI true y))])) zo) := by
  intro zs0 zo0 zh0
  refine iter_run (f := (f78_0 a b)) (P := fun zs zo => Wc cx 25 (.loop L78_0) [(1, .v (ssl eI b)), (5, .v (osl eI true zs.1)), (9, .v (ssl eI a)), (10, .v (.int .i64 (a.length : Int))), (11, .v (.int .i64 zs.2))] ((QX 0 (fun (y : (List Int)) => [(5, .v (osl eI true y))])) zo)) ?_ zh0
  rintro ⟨out_1, x_2⟩ zo zr h hk hx
  try dsimp only at hk ⊢
  rw [f78_0] at h
  refine Wc.loop ?_
  refine Wc.seq ?_
  refine Wc.evs (by conv => lhs; simp) ?_
  refine Wo.nil ?_
  refine Wc.seq ?_
  by_cases kc3 : x_2 < (a.length : Int)
  · rw [if_pos kc3] at h
    refine Wc.condT' (t := _) (by conv => lhs; simp) (by simpa using kc3) ?_
    refine Wc.seq ?_
    refine Wc.kil (by conv => lhs; simp) ?_
    refine Wc.skip ?_
    refine Wc.seq ?_
    refine Wc.block ?_
    refine Wc.seq ?_
    obtain ⟨v_4, h5, h⟩ := bind_some h
    obtain ⟨ga5, gb5, gc5⟩ := ix_some h5
    have gn5 := ix_ne h5
    have gd5 := arr_at (E := eI) (b := false) gc5
    simp at gd5
    refine Wc.evs (by conv => lhs; simp [ga5, gb5, gn5, gd5]) ?_
    refine Wo.nil ?_
    refine Wc.seq ?_
    refine Wc.evs (by conv => lhs; simp) ?_
    obtain ⟨o6, h7, h⟩ := bind_some h
    refine Wo.call (by simp) rfl (by (conv => lhs; simp [cx, ioTab]) <;> rfl) (r73 h7) (by simp) (by simp) (by (conv => lhs; simp [cx, ioTab]) <;> rfl) (by (conv => lhs; simp) <;> rfl) ?_
    refine Wo.evs (by conv => lhs; simp) ?_
    refine Wo.nil ?_
    obtain ⟨w8, h9, h⟩ := bind_some h
    refine Wc.mono (Q := (QN (fun (y : (List Int)) => [(1, .v (ssl eI b)), (5, .v (osl eI true y)), (9, .v (ssl eI a)), (10, .v (.int .i64 (a.length : Int))), (11, .v (.int .i64 x_2))])) w8) ?_ ?_
    · skip
      by_cases kc10 : ¬ (o6 = true)
      · rw [if_pos kc10] at h9
        refine Wc.condT' (t := _) (by conv => lhs; simp) (by simpa using kc10) ?_
        refine Wc.seq ?_
        refine Wc.kil (by conv => lhs; simp) ?_
        obtain ⟨l_11, h12, h9⟩ := bind_some h9
        have gx12 := appT_arr (E := eI) (b := true) (y := true) h12 (by decide)
        simp at gx12
        refine Wc.evs (by conv => lhs; simp [gx12]) ?_
        refine Wo.nil ?_
        cases h9
        exact ⟨rfl, by first | rfl | simp [gx12]⟩
      · rw [if_neg kc10] at h9
        refine Wc.condF' (t := _) (by conv => lhs; simp) (by simpa using kc10) ?_
        refine Wc.seq ?_
        refine Wc.kil (by conv => lhs; simp) ?_
        refine Wc.skip ?_
        cases h9
        exact ⟨rfl, by first | rfl | simp⟩
    · skip
      generalize w8 = out_13 at *
      rintro ex V ⟨rfl, rfl⟩
      try dsimp only at h
      refine Wc.evs (by conv => lhs; simp) ?_
      refine Wo.nil ?_
      refine Wc.start (V1 := [(1, .v (ssl eI b)), (5, .v (osl eI true out_13)), (9, .v (ssl eI a)), (10, .v (.int .i64 (a.length : Int))), (11, .v (.int .i64 (w64 (x_2 + 1))))]) ?_ (hk _ (Option.some.inj h).symm)
      first | rfl | simp
  · rw [if_neg kc3] at h
    refine Wc.condF' (t := _) (by conv => lhs; simp) (by simpa using kc3) ?_
    refine Wc.seq ?_
    refine Wc.kil (by conv => lhs; simp) ?_
    refine Wc.exit ?_
    have e0 := hx _ (Option.some.inj h).symm
    subst e0
    exact ⟨rfl, by first | rfl | simp⟩
theorem r78 {a : (List Int)} {b : (List Int)} {r : (List Int)} (h : f78 a b = some r) : VJx cx (.ca 78 [(ssl eI a), (ssl eI b)] (osl eI true r) []) := by
  unfold f78 at h
  refine ca_of rfl rfl (by decide) rfl ?_
  refine Wc.start (V1 := [(0, .v (ssl eI a)), (1, .v (ssl eI b))]) (by simp) ?_
  refine Wc.seq ?_
  refine Wc.evs (by conv => lhs; simp) ?_
  refine Wo.nil ?_
  refine Wc.seq ?_
  refine Wc.evs (by conv => lhs; simp) ?_
  refine Wo.gh (vle_co (s := 5) (t1 := (osl eI true ([]))) rfl (by simp) (TLe.own (show TLes _ [] from (TLes.refl _)) rfl) (by conv => lhs; simp)) ?_
  refine Wo.nil ?_
  refine Wc.seq ?_
  refine Wc.seq ?_
  refine Wc.evs (by conv => lhs; simp) ?_
  refine Wo.nil ?_
  refine Wc.block ?_
  obtain ⟨w14, h15, h⟩ := bind_some h
  refine Wc.start (V1 := [(1, .v (ssl eI b)), (5, .v (osl eI true ([]))), (9, .v (ssl eI a)), (10, .v (.int .i64 (a.length : Int))), (11, .v (.int .i64 0))]) (by first | rfl | simp) ?_
  refine Wc.mono (r78_0 _ _ h15) ?_
  generalize w14 = out_16 at *
  rintro ex V ⟨rfl, rfl⟩
  try dsimp only at h
  refine Wc.seq ?_
  refine Wc.evs (by conv => lhs; simp) ?_
  refine Wo.nil ?_
  refine Wc.ret (res_of (.inr rfl) ?_)
  cases h
  exact ⟨_, _, _, by conv => lhs; simp, by (conv => lhs; simp [cx, ioTab, List.range, List.range.loop]) <;> rfl, by first | rfl | simp⟩
theorem r64_1 {clauses : (List (List Int))} {out_3 : (List Int)} : ∀ zs zo, iter (f64_1 clauses out_3) zs = some zo → Wc cx 44 (.loop L64_1) [(0, .v (ssl (eL eI) clauses)), (6, .v (.ptr true [(osl eI true out_3)])), (7, .v (.bool false)), (14, .v (ssl (eL eI) clauses)), (15, .v (.int .i64 (clauses.length : Int))), (16, .v (.int .i64 zs))] ((QO (QX 2 (fun (y : (List Int) × Bool) => [(0, .v (ssl (eL eI) clauses)), (6, .v (.ptr true [(osl eI true y.1)])), (7, .v (.bool y.2))])) (QR (fun (y : (List Int) × Bool) => [(4, .v (osl eI true y.1)), (5, .v (.bool y.2)), (6, .v (.ptr true [.und]))]))) zo) := by
  intro zs0 zo0 zh0
  refine iter_run (f := (f64_1 clauses out_3)) (P := fun zs zo => Wc cx 44 (.loop L64_1) [(0, .v (ssl (eL eI) clauses)), (6, .v (.ptr true [(osl eI true out_3)])), (7, .v (.bool false)), (14, .v (ssl (eL eI) clauses)), (15, .v (.int .i64 (clauses.length : Int))), (16, .v (.int .i64 zs))] ((QO (QX 2 (fun (y : (List Int) × Bool) => [(0, .v (ssl (eL eI) clauses)), (6, .v (.ptr true [(osl eI true y.1)])), (7, .v (.bool y.2))])) (QR (fun (y : (List Int) × Bool) => [(4, .v (osl eI true y.1)), (5, .v (.bool y.2)), (6, .v (.ptr true [.und]))]))) zo)) ?_ zh0
  rintro x_4 zo zr h hk hx
  try dsimp only at hk ⊢
  rw [f64_1] at h
  refine Wc.loop ?_
  refine Wc.seq ?_
  refine Wc.evs (by conv => lhs; simp) ?_
  refine Wo.nil ?_
  refine Wc.seq ?_
  by_cases kc5 : x_4 < (clauses.length : Int)
  · rw [if_pos kc5] at h
    refine Wc.condT' (t := _) (by conv => lhs; simp) (by simpa using kc5) ?_
    refine Wc.seq ?_
    refine Wc.kil (by conv => lhs; simp) ?_
    refine Wc.skip ?_
    refine Wc.seq ?_
    obtain ⟨w6, h7, h⟩ := bind_some h
    refine Wc.mono (Q := (QO (QN (fun (y : Unit) => [(0, .v (ssl (eL eI) clauses)), (6, .v (.ptr true [(osl eI true out_3)])), (7, .v (.bool false)), (14, .v (ssl (eL eI) clauses)), (15, .v (.int .i64 (clauses.length : Int))), (16, .v (.int .i64 x_4))])) (QO (QX 2 (fun (y : (List Int) × Bool) => [(0, .v (ssl (eL eI) clauses)), (6, .v (.ptr true [(osl eI true y.1)])), (7, .v (.bool y.2))])) (QR (fun (y : (List Int) × Bool) => [(4, .v (osl eI true y.1)), (5, .v (.bool y.2)), (6, .v (.ptr true [.und]))])))) w6) ?_ ?_
    · skip
      refine Wc.block ?_
      refine Wc.seq ?_
      obtain ⟨v_8, h9, h7⟩ := bind_some h7
      obtain ⟨ga9, gb9, gc9⟩ := ix_some h9
      have gn9 := ix_ne h9
      have gd9 := arr_at (E := (eL eI)) (b := false) gc9
      simp at gd9
      refine Wc.evs (by conv => lhs; simp [ga9, gb9, gn9, gd9]) ?_
      refine Wo.nil ?_
      refine Wc.seq ?_
      refine Wc.seq ?_
      refine Wc.evs (by conv => lhs; simp) ?_
      obtain ⟨o10, h11, h7⟩ := bind_some h7
      refine Wo.call (by simp) rfl (by (conv => lhs; simp [cx, ioTab]) <;> rfl) (r57 (g_f := 77) (cp_f := [(.ptr false [(ssl eI out_3)])]) rfl (fun x0 o h => r77 h) h11) (by simp) (by simp) (by (conv => lhs; simp [cx, ioTab]) <;> rfl) (by (conv => lhs; simp) <;> rfl) ?_
      refine Wo.nil ?_
      by_cases kc12 : o10 = true
      · rw [if_pos kc12] at h7
        refine Wc.condT' (t := _) (by conv => lhs; simp) (by simpa using kc12) ?_
        refine Wc.seq ?_
        refine Wc.kil (by conv => lhs; simp) ?_
        refine Wc.exit ?_
        cases h7
        exact ⟨rfl, by first | rfl | simp⟩
      · rw [if_neg kc12] at h7
        refine Wc.condF' (t := _) (by conv => lhs; simp) (by simpa using kc12) ?_
        refine Wc.seq ?_
        refine Wc.kil (by conv => lhs; simp) ?_
        refine Wc.skip ?_
        refine Wc.seq ?_
        refine Wc.evs (by conv => lhs; simp) ?_
        obtain ⟨o13, h14, h7⟩ := bind_some h7
        refine Wo.call (by simp) rfl (by (conv => lhs; simp [cx, ioTab]) <;> rfl) (r17 h14) (by simp) (by simp) (by (conv => lhs; simp [cx, ioTab]) <;> rfl) (by (conv => lhs; simp) <;> rfl) ?_
        obtain ⟨o15, h16, h7⟩ := bind_some h7
        refine Wo.call (by simp) rfl (by (conv => lhs; simp [cx, ioTab]) <;> rfl) (r78 h16) (by simp) (by simp) (by (conv => lhs; simp [cx, ioTab]) <;> rfl) (by (conv => lhs; simp) <;> rfl) ?_
        refine Wo.evs (by conv => lhs; simp) ?_
        refine Wo.nil ?_
        refine Wc.seq ?_
        refine Wc.seq ?_
        refine Wc.evs (by conv => lhs; simp) ?_
        refine Wo.nil ?_
        by_cases kc17 : (o15.length : Int) = 0
        · rw [if_pos kc17] at h7
          refine Wc.condT' (t := _) (by conv => lhs; simp) (by simpa using kc17) ?_
          refine Wc.seq ?_
          refine Wc.kil (by conv => lhs; simp) ?_
          refine Wc.seq ?_
          refine Wc.evs (by conv => lhs; simp) ?_
          refine Wo.nil ?_
          refine Wc.gh (vle_take (s := 4) (by simp) (by conv => lhs; simp) (by conv => lhs; simp)) ?_
          refine Wc.ret ?_
          cases h7
          exact ⟨rfl, by first | rfl | simp⟩
        · rw [if_neg kc17] at h7
          refine Wc.condF' (t := _) (by conv => lhs; simp) (by simpa using kc17) ?_
          refine Wc.seq ?_
          refine Wc.kil (by conv => lhs; simp) ?_
          refine Wc.skip ?_
          refine Wc.seq ?_
          refine Wc.evs (by conv => lhs; simp) ?_
          refine Wo.nil ?_
          by_cases kc18 : (o15.length : Int) = 1
          · rw [if_pos kc18] at h7
            refine Wc.condT' (t := _) (by conv => lhs; simp) (by simpa using kc18) ?_
            refine Wc.seq ?_
            refine Wc.kil (by conv => lhs; simp) ?_
            refine Wc.seq ?_
            obtain ⟨v_19, h20, h7⟩ := bind_some h7
            obtain ⟨ga20, gb20, gc20⟩ := ix_some h20
            have gn20 := ix_ne h20
            have gf20 := arr_fit (E := eI) (b := true) (i := (0 : Int).toNat) (l := o15) (by omega)
            have gg20_0 := arr_get (E := eI) (b := true) (o := 0) gc20 (by decide)
            simp at gf20 gg20_0
            have gl20 : (0 : Int).toNat < o15.length := by omega
            have gk20 : 0 < o15.length := by omega
            obtain ⟨l_21, h22, h7⟩ := bind_some h7
            have gx22 := appT_arr (E := eI) (b := true) (y := true) h22 (by decide)
            simp at gx22
            refine Wc.evs (by conv => lhs; simp [-getElem?_pos, List.getElem?_cons_zero, List.getElem?_cons_succ, gb20, gn20, gf20, gg20_0, gl20, gk20, gx22]) ?_
            refine Wo.nil ?_
            refine Wc.exit ?_
            cases h7
            exact ⟨rfl, by first | rfl | simp [-getElem?_pos, List.getElem?_cons_zero, List.getElem?_cons_succ, gb20, gn20, gf20, gg20_0, gl20, gk20, gx22]⟩
          · rw [if_neg kc18] at h7
            refine Wc.condF' (t := _) (by conv => lhs; simp) (by simpa using kc18) ?_
            refine Wc.seq ?_
            refine Wc.kil (by conv => lhs; simp) ?_
            refine Wc.skip ?_
            cases h7
            exact ⟨rfl, by first | rfl | simp⟩
    · skip
      rcases w6 with ⟨⟩ | ⟨out_23, found_24⟩ | ⟨x_25, x_26⟩
      · rintro ex V ⟨rfl, rfl⟩
        try dsimp only at h
        refine Wc.evs (by conv => lhs; simp) ?_
        refine Wo.nil ?_
        refine Wc.start (V1 := [(0, .v (ssl (eL eI) clauses)), (6, .v (.ptr true [(osl eI true out_3)])), (7, .v (.bool false)), (14, .v (ssl (eL eI) clauses)), (15, .v (.int .i64 (clauses.length : Int))), (16, .v (.int .i64 (w64 (x_4 + 1))))]) ?_ (hk _ (Option.some.inj h).symm)
        first | rfl | simp
      · rintro ex V ⟨rfl, rfl⟩
        dsimp only at h ⊢
        have e0 := hx _ (Option.some.inj h).symm
        subst e0
        exact ⟨rfl, by first | rfl | simp⟩
      · rintro ex V ⟨rfl, rfl⟩
        dsimp only at h ⊢
        have e0 := hx _ (Option.some.inj h).symm
        subst e0
        exact ⟨rfl, by first | rfl | simp⟩
  · rw [if_neg kc5] at h
    refine Wc.condF' (t := _) (by conv => lhs; simp) (by simpa using kc5) ?_
    refine Wc.seq ?_
    refine Wc.kil (by conv => lhs; simp) ?_
    refine Wc.exit ?_
    have e0 := hx _ (Option.some.inj h).symm
    subst e0
    exact ⟨rfl, by first | rfl | simp⟩
theorem r64_0 {clauses : (List (List Int))} : ∀ zs zo, iter (f64_0 clauses) zs = some zo → Wc cx 44 (.loop L64_0) [(0, .v (ssl (eL eI) clauses)), (6, .v (.ptr true [(osl eI true zs)]))] ((QR (fun (y : (List Int) × Bool) => [(4, .v (osl eI true y.1)), (5, .v (.bool y.2)), (6, .v (.ptr true [.und]))])) zo) := by
  intro zs0 zo0 zh0
  refine iter_run (f := (f64_0 clauses)) (P := fun zs zo => Wc cx 44 (.loop L64_0) [(0, .v (ssl (eL eI) clauses)), (6, .v (.ptr true [(osl eI true zs)]))] ((QR (fun (y : (List Int) × Bool) => [(4, .v (osl eI true y.1)), (5, .v (.bool y.2)), (6, .v (.ptr true [.und]))])) zo)) ?_ zh0
  rintro out_3 zo zr h hk hx
  try dsimp only at hk ⊢
  rw [f64_0] at h
  refine Wc.loop ?_
  refine Wc.block ?_
  refine Wc.seq ?_
  refine Wc.evs (by conv => lhs; simp) ?_
  refine Wo.nil ?_
  refine Wc.seq ?_
  refine Wc.seq ?_
  refine Wc.evs (by conv => lhs; simp) ?_
  refine Wo.nil ?_
  refine Wc.block ?_
  obtain ⟨w27, h28, h⟩ := bind_some h
  refine Wc.start (V1 := [(0, .v (ssl (eL eI) clauses)), (6, .v (.ptr true [(osl eI true out_3)])), (7, .v (.bool false)), (14, .v (ssl (eL eI) clauses)), (15, .v (.int .i64 (clauses.length : Int))), (16, .v (.int .i64 0))]) (by first | rfl | simp) ?_
  refine Wc.mono (r64_1 _ _ h28) ?_
  rcases w27 with ⟨out_29, found_30⟩ | ⟨x_31, x_32⟩
  · rintro ex V ⟨rfl, rfl⟩
    dsimp only at h ⊢
    refine Wc.seq ?_
    refine Wc.evs (by conv => lhs; simp) ?_
    refine Wo.nil ?_
    by_cases kc33 : ¬ (found_30 = true)
    · rw [if_pos kc33] at h
      refine Wc.condT' (t := _) (by conv => lhs; simp) (by simpa using kc33) ?_
      refine Wc.seq ?_
      refine Wc.kil (by conv => lhs; simp) ?_
      refine Wc.seq ?_
      refine Wc.evs (by conv => lhs; simp) ?_
      refine Wo.nil ?_
      refine Wc.gh (vle_take (s := 4) (by simp) (by conv => lhs; simp) (by conv => lhs; simp)) ?_
      refine Wc.ret ?_
      have e0 := hx _ (Option.some.inj h).symm
      subst e0
      exact ⟨rfl, by first | rfl | simp⟩
    · rw [if_neg kc33] at h
      refine Wc.condF' (t := _) (by conv => lhs; simp) (by simpa using kc33) ?_
      refine Wc.seq ?_
      refine Wc.kil (by conv => lhs; simp) ?_
      refine Wc.skip ?_
      refine Wc.start (V1 := [(0, .v (ssl (eL eI) clauses)), (6, .v (.ptr true [(osl eI true out_29)]))]) ?_ (hk _ (Option.some.inj h).symm)
      first | rfl | simp
  · rintro ex V ⟨rfl, rfl⟩
    dsimp only at h ⊢
    have e0 := hx _ (Option.some.inj h).symm
    subst e0
    exact ⟨rfl, by first | rfl | simp⟩
theorem r64 {clauses : (List (List Int))} {start : (List Int)} {r : (List Int) × Bool} (h : f64 clauses start = some r) : VJx cx (.ca 64 [(ssl (eL eI) clauses), (ssl eI start)] (.tup [(osl eI true r.1), (.bool r.2)]) []) := by
  unfold f64 at h
  refine ca_of rfl rfl (by decide) rfl ?_
  refine Wc.start (V1 := [(0, .v (ssl (eL eI) clauses)), (1, .v (ssl eI start))]) (by simp) ?_
  refine Wc.seq ?_
  refine Wc.evs (by conv => lhs; simp) ?_
  refine Wo.nil ?_
  refine Wc.seq ?_
  obtain ⟨l_1, h2, h⟩ := bind_some h
  have gx2 := appT_arr2 (E := eI) (b := true) (b' := false) (y := false) h2 (by decide) (arr_sc rfl _)
  simp at gx2
  refine Wc.evk 4 (by conv => lhs; simp [gx2]) ?_
  refine Wo.gh (vle_co (s := 13) (t1 := (osl eI true l_1)) rfl (by simp) (tle_own rfl) (by conv => lhs; simp)) ?_
  refine Wo.evs (by conv => lhs; simp [gx2]) ?_
  refine Wo.nil ?_
  refine Wc.block ?_
  obtain ⟨w34, h35, h⟩ := bind_some h
  refine Wc.start (V1 := [(0, .v (ssl (eL eI) clauses)), (6, .v (.ptr true [(osl eI true l_1)]))]) (by first | rfl | simp [gx2]) ?_
  refine Wc.mono (r64_0 _ _ h35) ?_
  obtain ⟨x_36, x_37⟩ := w34
  rintro ex V ⟨rfl, rfl⟩
  dsimp only at h ⊢
  refine res_of (.inr rfl) ?_
  cases h
  exact ⟨_, _, _, by conv => lhs; simp, by (conv => lhs; simp [cx, ioTab, List.range, List.range.loop]) <;> rfl, by first | rfl | simp [gx2]⟩
theorem r46_0 {proof : (List (List Int))} : ∀ zs zo, iter (f46_0 proof) zs = some zo → Wc cx 57 (.loop L46_0) [(2, .v (ssl (eL eI) proof)), (7, .v (osl (eL eI) false zs.1)), (29, .v (ssl (eL eI) proof)), (30, .v (.int .i64 (proof.length : Int))), (31, .v (.int .i64 zs.2))] ((QO (QX 0 (fun (y : Unit) => [(2, .v (ssl (eL eI) proof))])) (QR (fun (y : Bool) => [(6, .v (.bool y))]))) zo) := by
  intro zs0 zo0 zh0
  refine iter_run (f := (f46_0 proof)) (P := fun zs zo => Wc cx 57 (.loop L46_0) [(2, .v (ssl (eL eI) proof)), (7, .v (osl (eL eI) false zs.1)), (29, .v (ssl (eL eI) proof)), (30, .v (.int .i64 (proof.length : Int))), (31, .v (.int .i64 zs.2))] ((QO (QX 0 (fun (y : Unit) => [(2, .v (ssl (eL eI) proof))])) (QR (fun (y : Bool) => [(6, .v (.bool y))]))) zo)) ?_ zh0
  rintro ⟨known_14, x_15⟩ zo zr h hk hx
  try dsimp only at hk ⊢
  rw [f46_0] at h
  refine Wc.loop ?_
  refine Wc.seq ?_
  refine Wc.evs (by conv => lhs; simp) ?_
  refine Wo.nil ?_
  refine Wc.seq ?_
  by_cases kc16 : x_15 < (proof.length : Int)
  · rw [if_pos kc16] at h
    refine Wc.condT' (t := _) (by conv => lhs; simp) (by simpa using kc16) ?_
    refine Wc.seq ?_
    refine Wc.kil (by conv => lhs; simp) ?_
    refine Wc.skip ?_
    refine Wc.seq ?_
    refine Wc.block ?_
    refine Wc.seq ?_
    obtain ⟨v_17, h18, h⟩ := bind_some h
    obtain ⟨ga18, gb18, gc18⟩ := ix_some h18
    have gn18 := ix_ne h18
    have gd18 := arr_at (E := (eL eI)) (b := false) gc18
    simp at gd18
    refine Wc.evs (by conv => lhs; simp [ga18, gb18, gn18, gd18]) ?_
    refine Wo.nil ?_
    refine Wc.seq ?_
    refine Wc.seq ?_
    refine Wc.evs (by conv => lhs; simp) ?_
    obtain ⟨o19, h20, h⟩ := bind_some h
    refine Wo.call (by simp) rfl (by (conv => lhs; simp [cx, ioTab]) <;> rfl) (r17 h20) (by simp) (by simp) (by (conv => lhs; simp [cx, ioTab]) <;> rfl) (by (conv => lhs; simp) <;> rfl) ?_
    obtain ⟨o21, h22, h⟩ := bind_some h
    refine Wo.call (by simp) rfl (by (conv => lhs; simp [cx, ioTab]) <;> rfl) (r64 h22) (by simp) (by simp) (by (conv => lhs; simp [cx, ioTab]) <;> rfl) (by (conv => lhs; simp) <;> rfl) ?_
    refine Wo.evs (by conv => lhs; simp) ?_
    refine Wo.nil ?_
    refine Wc.seq ?_
    refine Wc.evs (by conv => lhs; simp) ?_
    refine Wo.nil ?_
    by_cases kc23 : ¬ (o21.2 = true)
    · rw [if_pos kc23] at h
      refine Wc.condT' (t := _) (by conv => lhs; simp) (by simpa using kc23) ?_
      refine Wc.seq ?_
      refine Wc.kil (by conv => lhs; simp) ?_
      refine Wc.seq ?_
      refine Wc.evs (by conv => lhs; simp) ?_
      refine Wo.nil ?_
      refine Wc.ret ?_
      have e0 := hx _ (Option.some.inj h).symm
      subst e0
      exact ⟨rfl, by first | rfl | simp⟩
    · rw [if_neg kc23] at h
      refine Wc.condF' (t := _) (by conv => lhs; simp) (by simpa using kc23) ?_
      refine Wc.seq ?_
      refine Wc.kil (by conv => lhs; simp) ?_
      refine Wc.skip ?_
      obtain ⟨l_24, h25, h⟩ := bind_some h
      have gx25 := appT_arr (E := (eL eI)) (b := false) (y := true) h25 (by decide)
      simp at gx25
      refine Wc.evs (by conv => lhs; simp [gx25]) ?_
      refine Wo.nil ?_
      refine Wc.evs (by conv => lhs; simp) ?_
      refine Wo.nil ?_
      refine Wc.start (V1 := [(2, .v (ssl (eL eI) proof)), (7, .v (osl (eL eI) false l_24)), (29, .v (ssl (eL eI) proof)), (30, .v (.int .i64 (proof.length : Int))), (31, .v (.int .i64 (w64 (x_15 + 1))))]) ?_ (hk _ (Option.some.inj h).symm)
      first | rfl | simp
  · rw [if_neg kc16] at h
    refine Wc.condF' (t := _) (by conv => lhs; simp) (by simpa using kc16) ?_
    refine Wc.seq ?_
    refine Wc.kil (by conv => lhs; simp) ?_
    refine Wc.exit ?_
    have e0 := hx _ (Option.some.inj h).symm
    subst e0
    exact ⟨rfl, by first | rfl | simp⟩
theorem r46 {n0 : Int} {clauses : (List (List Int))} {proof : (List (List Int))} {r : Bool} (h : f46 n0 clauses proof = some r) : VJx cx (.ca 46 [(.int .i64 n0), (ssl (eL eI) clauses), (ssl (eL eI) proof)] (.bool r) []) := by
  unfold f46 at h
  refine ca_of rfl rfl (by decide) rfl ?_
  refine Wc.start (V1 := [(0, .v (.int .i64 n0)), (1, .v (ssl (eL eI) clauses)), (2, .v (ssl (eL eI) proof))]) (by simp) ?_
  refine Wc.seq ?_
  refine Wc.evs (by conv => lhs; simp) ?_
  refine Wo.nil ?_
  refine Wc.seq ?_
  refine Wc.seq ?_
  refine Wc.evs (by conv => lhs; simp) ?_
  obtain ⟨o1, h2, h⟩ := bind_some h
  refine Wo.call (by simp) rfl (by (conv => lhs; simp [cx, ioTab]) <;> rfl) (r34 h2) (by simp) (by simp) (by (conv => lhs; simp [cx, ioTab]) <;> rfl) (by (conv => lhs; simp) <;> rfl) ?_
  refine Wo.evk 2 (by conv => lhs; simp) ?_
  obtain ⟨w4, h5, h⟩ := bind_some h
  refine Wo.mono (Q := fun V => V = [(1, .v (ssl (eL eI) clauses)), (2, .v (ssl (eL eI) proof)), (26, .v (.bool w4))]) ?_ ?_
  · by_cases knh5 : ¬ (o1 = true)
    · rw [if_pos knh5] at h5
      refine Wo.gh (vle_co (s := 16) (t1 := .bool true) rfl (by simp) (tle_bool (by simpa using knh5)) (by conv => lhs; simp)) ?_
      refine Wo.evs (by conv => lhs; simp) ?_
      refine Wo.nil ?_
      cases h5
      first | rfl | simp
    · rw [if_neg knh5] at h5
      refine Wo.gh (vle_co (s := 16) (t1 := .bool false) rfl (by simp) (tle_bool (by simpa using knh5)) (by conv => lhs; simp)) ?_
      refine Wo.evk 5 (by conv => lhs; simp) ?_
      obtain ⟨w7, h8, h5⟩ := bind_some h5
      refine Wo.mono (Q := fun V => V = [(1, .v (ssl (eL eI) clauses)), (2, .v (ssl (eL eI) proof)), (26, .v (.bool w7))]) ?_ ?_
      · by_cases knh8 : (proof.length : Int) = 0
        · rw [if_pos knh8] at h8
          refine Wo.gh (vle_co (s := 21) (t1 := .bool true) rfl (by simp) (tle_bool (by simpa using knh8)) (by conv => lhs; simp)) ?_
          refine Wo.evs (by conv => lhs; simp) ?_
          refine Wo.nil ?_
          cases h8
          first | rfl | simp
        · rw [if_neg knh8] at h8
          refine Wo.gh (vle_co (s := 21) (t1 := .bool false) rfl (by simp) (tle_bool (by simpa using knh8)) (by conv => lhs; simp)) ?_
          refine Wo.evs (by conv => lhs; simp) ?_
          obtain ⟨o9, h10, h8⟩ := bind_some h8
          refine Wo.call (by simp) rfl (by (conv => lhs; simp [cx, ioTab]) <;> rfl) (r62 h10) (by simp) (by simp) (by (conv => lhs; simp [cx, ioTab]) <;> rfl) (by (conv => lhs; simp) <;> rfl) ?_
          refine Wo.evs (by conv => lhs; simp) ?_
          refine Wo.nil ?_
          cases h8
          first | rfl | simp
      · rintro V rfl
        generalize w7 = x_6 at *
        try dsimp only at h5
        cases h5
        first | rfl | simp
  · rintro V rfl
    generalize w4 = x_3 at *
    try dsimp only at h
    by_cases kc11 : x_3 = true
    · rw [if_pos kc11] at h
      refine Wc.condT' (t := _) (by conv => lhs; simp) (by simpa using kc11) ?_
      refine Wc.seq ?_
      refine Wc.kil (by conv => lhs; simp) ?_
      refine Wc.seq ?_
      refine Wc.evs (by conv => lhs; simp) ?_
      refine Wo.nil ?_
      refine Wc.ret (res_of (.inr rfl) ?_)
      cases h
      exact ⟨_, _, _, by conv => lhs; simp, by (conv => lhs; simp [cx, ioTab, List.range, List.range.loop]) <;> rfl, by first | rfl | simp⟩
    · rw [if_neg kc11] at h
      refine Wc.condF' (t := _) (by conv => lhs; simp) (by simpa using kc11) ?_
      refine Wc.seq ?_
      refine Wc.kil (by conv => lhs; simp) ?_
      refine Wc.skip ?_
      refine Wc.seq ?_
      refine Wc.evs (by conv => lhs; simp) ?_
      obtain ⟨o12, h13, h⟩ := bind_some h
      refine Wo.call (by simp) rfl (by (conv => lhs; simp [cx, ioTab]) <;> rfl) (r66 h13) (by simp) (by simp) (by (conv => lhs; simp [cx, ioTab]) <;> rfl) (by (conv => lhs; simp) <;> rfl) ?_
      refine Wo.evs (by conv => lhs; simp) ?_
      refine Wo.nil ?_
      refine Wc.seq ?_
      refine Wc.seq ?_
      refine Wc.evs (by conv => lhs; simp) ?_
      refine Wo.nil ?_
      refine Wc.block ?_
      obtain ⟨w26, h27, h⟩ := bind_some h
      refine Wc.start (V1 := [(2, .v (ssl (eL eI) proof)), (7, .v (osl (eL eI) false o12)), (29, .v (ssl (eL eI) proof)), (30, .v (.int .i64 (proof.length : Int))), (31, .v (.int .i64 0))]) (by first | rfl | simp) ?_
      refine Wc.mono (r46_0 _ _ h27) ?_
      rcases w26 with ⟨⟩ | x_28
      · rintro ex V ⟨rfl, rfl⟩
        try dsimp only at h
        refine Wc.seq ?_
        obtain ⟨v_29, h30, h⟩ := bind_some h
        obtain ⟨ga30, gb30, gc30⟩ := ix_some h30
        have gn30 := ix_ne h30
        have gd30 := arr_at (E := (eL eI)) (b := false) gc30
        simp at gd30
        refine Wc.evs (by conv => lhs; simp [ga30, gb30, gn30, gd30]) ?_
        refine Wo.nil ?_
        refine Wc.ret (res_of (.inr rfl) ?_)
        cases h
        exact ⟨_, _, _, by conv => lhs; simp, by (conv => lhs; simp [cx, ioTab, List.range, List.range.loop]) <;> rfl, by first | rfl | simp [ga30, gb30, gn30, gd30]⟩
      · rintro ex V ⟨rfl, rfl⟩
        try dsimp only at h
        refine res_of (.inr rfl) ?_
        cases h
        exact ⟨_, _, _, by conv => lhs; simp, by (conv => lhs; simp [cx, ioTab, List.range, List.range.loop]) <;> rfl, by first | rfl | simp⟩
theorem r18_0 {a : (List Int)} {b : (List Int)} : ∀ zs zo, iter (f18_0 a b) zs = some zo → Wc cx 26 (.loop L18_0) [(0, .v (ssl eI a)), (1, .v (ssl eI b)), (5, .v (.int .i64 zs))] ((QO (QX 0 (fun (y : Unit) => [])) (QR (fun (y : Bool) => [(4, .v (.bool y))]))) zo) := by
  intro zs0 zo0 zh0
  refine iter_run (f := (f18_0 a b)) (P := fun zs zo => Wc cx 26 (.loop L18_0) [(0, .v (ssl eI a)), (1, .v (ssl eI b)), (5, .v (.int .i64 zs))] ((QO (QX 0 (fun (y : Unit) => [])) (QR (fun (y : Bool) => [(4, .v (.bool y))]))) zo)) ?_ zh0
  rintro i_2 zo zr h hk hx
  try dsimp only at hk ⊢
  rw [f18_0] at h
  refine Wc.loop ?_
  refine Wc.seq ?_
  refine Wc.seq ?_
  refine Wc.evs (by conv => lhs; simp) ?_
  refine Wo.nil ?_
  by_cases kc3 : i_2 < (a.length : Int)
  · rw [if_pos kc3] at h
    refine Wc.condT' (t := _) (by conv => lhs; simp) (by simpa using kc3) ?_
    refine Wc.seq ?_
    refine Wc.kil (by conv => lhs; simp) ?_
    refine Wc.skip ?_
    refine Wc.seq ?_
    refine Wc.block ?_
    refine Wc.seq ?_
    obtain ⟨v_4, h5, h⟩ := bind_some h
    obtain ⟨ga5, gb5, gc5⟩ := ix_some h5
    have gn5 := ix_ne h5
    have gd5 := arr_at (E := eI) (b := false) gc5
    simp at gd5
    obtain ⟨v_6, h7, h⟩ := bind_some h
    obtain ⟨ga7, gb7, gc7⟩ := ix_some h7
    have gn7 := ix_ne h7
    have gd7 := arr_at (E := eI) (b := false) gc7
    simp at gd7
    refine Wc.evs (by conv => lhs; simp [ga5, gb5, gn5, gd5, ga7, gb7, gn7, gd7]) ?_
    refine Wo.nil ?_
    by_cases kc8 : v_4 ≠ v_6
    · rw [if_pos kc8] at h
      refine Wc.condT' (t := _) (by conv => lhs; simp) (by simpa using kc8) ?_
      refine Wc.seq ?_
      refine Wc.kil (by conv => lhs; simp) ?_
      refine Wc.seq ?_
      refine Wc.evs (by conv => lhs; simp) ?_
      refine Wo.nil ?_
      refine Wc.ret ?_
      have e0 := hx _ (Option.some.inj h).symm
      subst e0
      exact ⟨rfl, by first | rfl | simp⟩
    · rw [if_neg kc8] at h
      refine Wc.condF' (t := _) (by conv => lhs; simp) (by simpa using kc8) ?_
      refine Wc.seq ?_
      refine Wc.kil (by conv => lhs; simp) ?_
      refine Wc.skip ?_
      refine Wc.evs (by conv => lhs; simp) ?_
      refine Wo.nil ?_
      refine Wc.start (V1 := [(0, .v (ssl eI a)), (1, .v (ssl eI b)), (5, .v (.int .i64 (w64 (i_2 + 1))))]) ?_ (hk _ (Option.some.inj h).symm)
      first | rfl | simp
  · rw [if_neg kc3] at h
    refine Wc.condF' (t := _) (by conv => lhs; simp) (by simpa using kc3) ?_
    refine Wc.seq ?_
    refine Wc.kil (by conv => lhs; simp) ?_
    refine Wc.exit ?_
    have e0 := hx _ (Option.some.inj h).symm
    subst e0
    exact ⟨rfl, by first | rfl | simp⟩
theorem r18 {a : (List Int)} {b : (List Int)} {r : Bool} (h : f18 a b = some r) : VJx cx (.ca 18 [(ssl eI a), (ssl eI b)] (.bool r) []) := by
  unfold f18 at h
  refine ca_of rfl rfl (by decide) rfl ?_
  refine Wc.start (V1 := [(0, .v (ssl eI a)), (1, .v (ssl eI b))]) (by simp) ?_
  refine Wc.seq ?_
  refine Wc.evs (by conv => lhs; simp) ?_
  refine Wo.nil ?_
  refine Wc.seq ?_
  refine Wc.seq ?_
  refine Wc.evs (by conv => lhs; simp) ?_
  refine Wo.nil ?_
  by_cases kc1 : (a.length : Int) ≠ (b.length : Int)
  · rw [if_pos kc1] at h
    refine Wc.condT' (t := _) (by conv => lhs; simp) (by simpa using kc1) ?_
    refine Wc.seq ?_
    refine Wc.kil (by conv => lhs; simp) ?_
    refine Wc.seq ?_
    refine Wc.evs (by conv => lhs; simp) ?_
    refine Wo.nil ?_
    refine Wc.ret (res_of (.inr rfl) ?_)
    cases h
    exact ⟨_, _, _, by conv => lhs; simp, by (conv => lhs; simp [cx, ioTab, List.range, List.range.loop]) <;> rfl, by first | rfl | simp⟩
  · rw [if_neg kc1] at h
    refine Wc.condF' (t := _) (by conv => lhs; simp) (by simpa using kc1) ?_
    refine Wc.seq ?_
    refine Wc.kil (by conv => lhs; simp) ?_
    refine Wc.skip ?_
    refine Wc.seq ?_
    refine Wc.seq ?_
    refine Wc.evs (by conv => lhs; simp) ?_
    refine Wo.nil ?_
    refine Wc.block ?_
    obtain ⟨w9, h10, h⟩ := bind_some h
    refine Wc.start (V1 := [(0, .v (ssl eI a)), (1, .v (ssl eI b)), (5, .v (.int .i64 0))]) (by first | rfl | simp) ?_
    refine Wc.mono (r18_0 _ _ h10) ?_
    rcases w9 with ⟨⟩ | x_11
    · rintro ex V ⟨rfl, rfl⟩
      try dsimp only at h
      refine Wc.seq ?_
      refine Wc.evs (by conv => lhs; simp) ?_
      refine Wo.nil ?_
      refine Wc.ret (res_of (.inr rfl) ?_)
      cases h
      exact ⟨_, _, _, by conv => lhs; simp, by (conv => lhs; simp [cx, ioTab, List.range, List.range.loop]) <;> rfl, by first | rfl | simp⟩
    · rintro ex V ⟨rfl, rfl⟩
      try dsimp only at h
      refine res_of (.inr rfl) ?_
      cases h
      exact ⟨_, _, _, by conv => lhs; simp, by (conv => lhs; simp [cx, ioTab, List.range, List.range.loop]) <;> rfl, by first | rfl | simp⟩
theorem r30_0 {a : (List (List Int))} {b : (List (List Int))} : ∀ zs zo, iter (f30_0 a b) zs = some zo → Wc cx 27 (.loop L30_0) [(0, .v (ssl (eL eI) a)), (1, .v (ssl (eL eI) b)), (5, .v (.int .i64 zs))] ((QO (QX 0 (fun (y : Unit) => [])) (QR (fun (y : Bool) => [(4, .v (.bool y))]))) zo) := by
  intro zs0 zo0 zh0
  refine iter_run (f := (f30_0 a b)) (P := fun zs zo => Wc cx 27 (.loop L30_0) [(0, .v (ssl (eL eI) a)), (1, .v (ssl (eL eI) b)), (5, .v (.int .i64 zs))] ((QO (QX 0 (fun (y : Unit) => [])) (QR (fun (y : Bool) => [(4, .v (.bool y))]))) zo)) ?_ zh0
  rintro i_2 zo zr h hk hx
  try dsimp only at hk ⊢
  rw [f30_0] at h
  refine Wc.loop ?_
  refine Wc.seq ?_
  refine Wc.seq ?_
  refine Wc.evs (by conv => lhs; simp) ?_
  refine Wo.nil ?_
  by_cases kc3 : i_2 < (a.length : Int)
  · rw [if_pos kc3] at h
    refine Wc.condT' (t := _) (by conv => lhs; simp) (by simpa using kc3) ?_
    refine Wc.seq ?_
    refine Wc.kil (by conv => lhs; simp) ?_
    refine Wc.skip ?_
    refine Wc.seq ?_
    refine Wc.block ?_
    refine Wc.seq ?_
    obtain ⟨v_4, h5, h⟩ := bind_some h
    obtain ⟨ga5, gb5, gc5⟩ := ix_some h5
    have gn5 := ix_ne h5
    have gd5 := arr_at (E := (eL eI)) (b := false) gc5
    simp at gd5
    obtain ⟨v_6, h7, h⟩ := bind_some h
    obtain ⟨ga7, gb7, gc7⟩ := ix_some h7
    have gn7 := ix_ne h7
    have gd7 := arr_at (E := (eL eI)) (b := false) gc7
    simp at gd7
    refine Wc.evs (by conv => lhs; simp [ga5, gb5, gn5, gd5, ga7, gb7, gn7, gd7]) ?_
    obtain ⟨o8, h9, h⟩ := bind_some h
    refine Wo.call (by simp) rfl (by (conv => lhs; simp [ga5, gb5, gn5, gd5, ga7, gb7, gn7, gd7, cx, ioTab]) <;> rfl) (r18 h9) (by simp) (by simp) (by (conv => lhs; simp [ga5, gb5, gn5, gd5, ga7, gb7, gn7, gd7, cx, ioTab]) <;> rfl) (by (conv => lhs; simp [ga5, gb5, gn5, gd5, ga7, gb7, gn7, gd7]) <;> rfl) ?_
    refine Wo.evs (by conv => lhs; simp [ga5, gb5, gn5, gd5, ga7, gb7, gn7, gd7]) ?_
    refine Wo.nil ?_
    by_cases kc10 : ¬ (o8 = true)
    · rw [if_pos kc10] at h
      refine Wc.condT' (t := _) (by conv => lhs; simp) (by simpa using kc10) ?_
      refine Wc.seq ?_
      refine Wc.kil (by conv => lhs; simp) ?_
      refine Wc.seq ?_
      refine Wc.evs (by conv => lhs; simp) ?_
      refine Wo.nil ?_
      refine Wc.ret ?_
      have e0 := hx _ (Option.some.inj h).symm
      subst e0
      exact ⟨rfl, by first | rfl | simp⟩
    · rw [if_neg kc10] at h
      refine Wc.condF' (t := _) (by conv => lhs; simp) (by simpa using kc10) ?_
      refine Wc.seq ?_
      refine Wc.kil (by conv => lhs; simp) ?_
      refine Wc.skip ?_
      refine Wc.evs (by conv => lhs; simp) ?_
      refine Wo.nil ?_
      refine Wc.start (V1 := [(0, .v (ssl (eL eI) a)), (1, .v (ssl (eL eI) b)), (5, .v (.int .i64 (w64 (i_2 + 1))))]) ?_ (hk _ (Option.some.inj h).symm)
      first | rfl | simp
  · rw [if_neg kc3] at h
    refine Wc.condF' (t := _) (by conv => lhs; simp) (by simpa using kc3) ?_
    refine Wc.seq ?_
    refine Wc.kil (by conv => lhs; simp) ?_
    refine Wc.exit ?_
    have e0 := hx _ (Option.some.inj h).symm
    subst e0
    exact ⟨rfl, by first | rfl | simp⟩
theorem r30 {a : (List (List Int))} {b : (List (List Int))} {r : Bool} (h : f30 a b = some r) : VJx cx (.ca 30 [(ssl (eL eI) a), (ssl (eL eI) b)] (.bool r) []) := by
  unfold f30 at h
  refine ca_of rfl rfl (by decide) rfl ?_
  refine Wc.start (V1 := [(0, .v (ssl (eL eI) a)), (1, .v (ssl (eL eI) b))]) (by simp) ?_
  refine Wc.seq ?_
  refine Wc.evs (by conv => lhs; simp) ?_
  refine Wo.nil ?_
  refine Wc.seq ?_
  refine Wc.seq ?_
  refine Wc.evs (by conv => lhs; simp) ?_
  refine Wo.nil ?_
  by_cases kc1 : (a.length : Int) ≠ (b.length : Int)
  · rw [if_pos kc1] at h
    refine Wc.condT' (t := _) (by conv => lhs; simp) (by simpa using kc1) ?_
    refine Wc.seq ?_
    refine Wc.kil (by conv => lhs; simp) ?_
    refine Wc.seq ?_
    refine Wc.evs (by conv => lhs; simp) ?_
    refine Wo.nil ?_
    refine Wc.ret (res_of (.inr rfl) ?_)
    cases h
    exact ⟨_, _, _, by conv => lhs; simp, by (conv => lhs; simp [cx, ioTab, List.range, List.range.loop]) <;> rfl, by first | rfl | simp⟩
  · rw [if_neg kc1] at h
    refine Wc.condF' (t := _) (by conv => lhs; simp) (by simpa using kc1) ?_
    refine Wc.seq ?_
    refine Wc.kil (by conv => lhs; simp) ?_
    refine Wc.skip ?_
    refine Wc.seq ?_
    refine Wc.seq ?_
    refine Wc.evs (by conv => lhs; simp) ?_
    refine Wo.nil ?_
    refine Wc.block ?_
    obtain ⟨w11, h12, h⟩ := bind_some h
    refine Wc.start (V1 := [(0, .v (ssl (eL eI) a)), (1, .v (ssl (eL eI) b)), (5, .v (.int .i64 0))]) (by first | rfl | simp) ?_
    refine Wc.mono (r30_0 _ _ h12) ?_
    rcases w11 with ⟨⟩ | x_13
    · rintro ex V ⟨rfl, rfl⟩
      try dsimp only at h
      refine Wc.seq ?_
      refine Wc.evs (by conv => lhs; simp) ?_
      refine Wo.nil ?_
      refine Wc.ret (res_of (.inr rfl) ?_)
      cases h
      exact ⟨_, _, _, by conv => lhs; simp, by (conv => lhs; simp [cx, ioTab, List.range, List.range.loop]) <;> rfl, by first | rfl | simp⟩
    · rintro ex V ⟨rfl, rfl⟩
      try dsimp only at h
      refine res_of (.inr rfl) ?_
      cases h
      exact ⟨_, _, _, by conv => lhs; simp, by (conv => lhs; simp [cx, ioTab, List.range, List.range.loop]) <;> rfl, by first | rfl | simp⟩
theorem r12 {aN : Int} {aClauses : (List (List Int))} {aProof : (List (List Int))} {r : Bool} (h : f12 aN aClauses aProof = some r) : VJx cx (.ca 12 [(.int .i64 aN), (ssl (eL eI) aClauses), (ssl (eL eI) aProof)] (.bool r) []) := by
  unfold f12 at h
  refine ca_of rfl rfl (by decide) rfl ?_
  refine Wc.start (V1 := [(0, .v (.int .i64 aN)), (1, .v (ssl (eL eI) aClauses)), (2, .v (ssl (eL eI) aProof))]) (by simp) ?_
  refine Wc.seq ?_
  refine Wc.evs (by conv => lhs; simp) ?_
  refine Wo.nil ?_
  refine Wc.seq ?_
  refine Wc.evs (by conv => lhs; simp) ?_
  refine Wo.nil ?_
  refine Wc.seq ?_
  refine Wc.evs (by conv => lhs; simp) ?_
  obtain ⟨o1, h2, h⟩ := bind_some h
  refine Wo.call (by simp) rfl (by (conv => lhs; simp [cx, ioTab]) <;> rfl) (r26 h2) (by simp) (by simp) (by (conv => lhs; simp [cx, ioTab]) <;> rfl) (by (conv => lhs; simp) <;> rfl) ?_
  refine Wo.evs (by conv => lhs; simp) ?_
  refine Wo.nil ?_
  refine Wc.seq ?_
  refine Wc.seq ?_
  refine Wc.evs (by conv => lhs; simp) ?_
  refine Wo.nil ?_
  by_cases kc3 : o1 < 0
  · rw [if_pos kc3] at h
    refine Wc.condT' (t := _) (by conv => lhs; simp) (by simpa using kc3) ?_
    refine Wc.seq ?_
    refine Wc.kil (by conv => lhs; simp) ?_
    refine Wc.seq ?_
    refine Wc.evs (by conv => lhs; simp) ?_
    refine Wo.nil ?_
    refine Wc.ret (res_of (.inr rfl) ?_)
    cases h
    exact ⟨_, _, _, by conv => lhs; simp, by (conv => lhs; simp [cx, ioTab, List.range, List.range.loop]) <;> rfl, by first | rfl | simp⟩
  · rw [if_neg kc3] at h
    refine Wc.condF' (t := _) (by conv => lhs; simp) (by simpa using kc3) ?_
    refine Wc.seq ?_
    refine Wc.kil (by conv => lhs; simp) ?_
    refine Wc.skip ?_
    refine Wc.seq ?_
    refine Wc.evs (by conv => lhs; simp) ?_
    obtain ⟨o4, h5, h⟩ := bind_some h
    refine Wo.call (by simp) rfl (by (conv => lhs; simp [cx, ioTab]) <;> rfl) (r26 h5) (by simp) (by simp) (by (conv => lhs; simp [cx, ioTab]) <;> rfl) (by (conv => lhs; simp) <;> rfl) ?_
    refine Wo.evs (by conv => lhs; simp) ?_
    refine Wo.nil ?_
    refine Wc.seq ?_
    refine Wc.seq ?_
    refine Wc.evs (by conv => lhs; simp) ?_
    refine Wo.nil ?_
    by_cases kc6 : o4 < 0
    · rw [if_pos kc6] at h
      refine Wc.condT' (t := _) (by conv => lhs; simp) (by simpa using kc6) ?_
      refine Wc.seq ?_
      refine Wc.kil (by conv => lhs; simp) ?_
      refine Wc.seq ?_
      refine Wc.evs (by conv => lhs; simp) ?_
      refine Wo.nil ?_
      refine Wc.ret (res_of (.inr rfl) ?_)
      cases h
      exact ⟨_, _, _, by conv => lhs; simp, by (conv => lhs; simp [cx, ioTab, List.range, List.range.loop]) <;> rfl, by first | rfl | simp⟩
    · rw [if_neg kc6] at h
      refine Wc.condF' (t := _) (by conv => lhs; simp) (by simpa using kc6) ?_
      refine Wc.seq ?_
      refine Wc.kil (by conv => lhs; simp) ?_
      refine Wc.skip ?_
      refine Wc.seq ?_
      refine Wc.evs (by conv => lhs; simp) ?_
      obtain ⟨o7, h8, h⟩ := bind_some h
      refine Wo.call (by simp) rfl (by (conv => lhs; simp [cx, ioTab]) <;> rfl) (r28 h8) (by simp) (by simp) (by (conv => lhs; simp [cx, ioTab]) <;> rfl) (by (conv => lhs; simp) <;> rfl) ?_
      refine Wo.evs (by conv => lhs; simp) ?_
      obtain ⟨o9, h10, h⟩ := bind_some h
      refine Wo.call (by simp) rfl (by (conv => lhs; simp [cx, ioTab]) <;> rfl) (r28 h10) (by simp) (by simp) (by (conv => lhs; simp [cx, ioTab]) <;> rfl) (by (conv => lhs; simp) <;> rfl) ?_
      obtain ⟨o11, h12, h⟩ := bind_some h
      refine Wo.call (by simp) rfl (by (conv => lhs; simp [cx, ioTab]) <;> rfl) (r45 h12) (by simp) (by simp) (by (conv => lhs; simp [cx, ioTab]) <;> rfl) (by (conv => lhs; simp) <;> rfl) ?_
      refine Wo.evs (by conv => lhs; simp) ?_
      refine Wo.nil ?_
      refine Wc.seq ?_
      refine Wc.evs (by conv => lhs; simp) ?_
      obtain ⟨o13, h14, h⟩ := bind_some h
      refine Wo.call (by simp) rfl (by (conv => lhs; simp [cx, ioTab]) <;> rfl) (r28 h14) (by simp) (by simp) (by (conv => lhs; simp [cx, ioTab]) <;> rfl) (by (conv => lhs; simp) <;> rfl) ?_
      refine Wo.evs (by conv => lhs; simp) ?_
      refine Wo.nil ?_
      refine Wc.seq ?_
      refine Wc.evs (by conv => lhs; simp) ?_
      obtain ⟨o15, h16, h⟩ := bind_some h
      refine Wo.call (by simp) rfl (by (conv => lhs; simp [cx, ioTab]) <;> rfl) (r28 h16) (by simp) (by simp) (by (conv => lhs; simp [cx, ioTab]) <;> rfl) (by (conv => lhs; simp) <;> rfl) ?_
      refine Wo.evs (by conv => lhs; simp) ?_
      refine Wo.nil ?_
      refine Wc.seq ?_
      refine Wc.evs (by conv => lhs; simp) ?_
      obtain ⟨o17, h18, h⟩ := bind_some h
      refine Wo.call (by simp) rfl (by (conv => lhs; simp [cx, ioTab]) <;> rfl) (r46 h18) (by simp) (by simp) (by (conv => lhs; simp [cx, ioTab]) <;> rfl) (by (conv => lhs; simp) <;> rfl) ?_
      refine Wo.evs (by conv => lhs; simp) ?_
      refine Wo.nil ?_
      refine Wc.seq ?_
      refine Wc.seq ?_
      refine Wc.evs (by conv => lhs; simp) ?_
      refine Wo.nil ?_
      by_cases kc19 : (o17 != o11) = true
      · rw [if_pos kc19] at h
        refine Wc.condT' (t := _) (by conv => lhs; simp) (by simpa using kc19) ?_
        refine Wc.seq ?_
        refine Wc.kil (by conv => lhs; simp) ?_
        refine Wc.seq ?_
        refine Wc.evs (by conv => lhs; simp) ?_
        refine Wo.nil ?_
        refine Wc.ret (res_of (.inr rfl) ?_)
        cases h
        exact ⟨_, _, _, by conv => lhs; simp, by (conv => lhs; simp [cx, ioTab, List.range, List.range.loop]) <;> rfl, by first | rfl | simp⟩
      · rw [if_neg kc19] at h
        refine Wc.condF' (t := _) (by conv => lhs; simp) (by simpa using kc19) ?_
        refine Wc.seq ?_
        refine Wc.kil (by conv => lhs; simp) ?_
        refine Wc.skip ?_
        refine Wc.seq ?_
        refine Wc.seq ?_
        refine Wc.evs (by conv => lhs; simp) ?_
        obtain ⟨o20, h21, h⟩ := bind_some h
        refine Wo.call (by simp) rfl (by (conv => lhs; simp [cx, ioTab]) <;> rfl) (r28 h21) (by simp) (by simp) (by (conv => lhs; simp [cx, ioTab]) <;> rfl) (by (conv => lhs; simp) <;> rfl) ?_
        obtain ⟨o22, h23, h⟩ := bind_some h
        refine Wo.call (by simp) rfl (by (conv => lhs; simp [cx, ioTab]) <;> rfl) (r30 h23) (by simp) (by simp) (by (conv => lhs; simp [cx, ioTab]) <;> rfl) (by (conv => lhs; simp) <;> rfl) ?_
        refine Wo.evs (by conv => lhs; simp) ?_
        refine Wo.nil ?_
        by_cases kc24 : ¬ (o22 = true)
        · rw [if_pos kc24] at h
          refine Wc.condT' (t := _) (by conv => lhs; simp) (by simpa using kc24) ?_
          refine Wc.seq ?_
          refine Wc.kil (by conv => lhs; simp) ?_
          refine Wc.seq ?_
          refine Wc.evs (by conv => lhs; simp) ?_
          refine Wo.nil ?_
          refine Wc.ret (res_of (.inr rfl) ?_)
          cases h
          exact ⟨_, _, _, by conv => lhs; simp, by (conv => lhs; simp [cx, ioTab, List.range, List.range.loop]) <;> rfl, by first | rfl | simp⟩
        · rw [if_neg kc24] at h
          refine Wc.condF' (t := _) (by conv => lhs; simp) (by simpa using kc24) ?_
          refine Wc.seq ?_
          refine Wc.kil (by conv => lhs; simp) ?_
          refine Wc.skip ?_
          refine Wc.seq ?_
          refine Wc.seq ?_
          refine Wc.evs (by conv => lhs; simp) ?_
          obtain ⟨o25, h26, h⟩ := bind_some h
          refine Wo.call (by simp) rfl (by (conv => lhs; simp [cx, ioTab]) <;> rfl) (r28 h26) (by simp) (by simp) (by (conv => lhs; simp [cx, ioTab]) <;> rfl) (by (conv => lhs; simp) <;> rfl) ?_
          obtain ⟨o27, h28, h⟩ := bind_some h
          refine Wo.call (by simp) rfl (by (conv => lhs; simp [cx, ioTab]) <;> rfl) (r30 h28) (by simp) (by simp) (by (conv => lhs; simp [cx, ioTab]) <;> rfl) (by (conv => lhs; simp) <;> rfl) ?_
          refine Wo.evs (by conv => lhs; simp) ?_
          refine Wo.nil ?_
          by_cases kc29 : ¬ (o27 = true)
          · rw [if_pos kc29] at h
            refine Wc.condT' (t := _) (by conv => lhs; simp) (by simpa using kc29) ?_
            refine Wc.seq ?_
            refine Wc.kil (by conv => lhs; simp) ?_
            refine Wc.seq ?_
            refine Wc.evs (by conv => lhs; simp) ?_
            refine Wo.nil ?_
            refine Wc.ret (res_of (.inr rfl) ?_)
            cases h
            exact ⟨_, _, _, by conv => lhs; simp, by (conv => lhs; simp [cx, ioTab, List.range, List.range.loop]) <;> rfl, by first | rfl | simp⟩
          · rw [if_neg kc29] at h
            refine Wc.condF' (t := _) (by conv => lhs; simp) (by simpa using kc29) ?_
            refine Wc.seq ?_
            refine Wc.kil (by conv => lhs; simp) ?_
            refine Wc.skip ?_
            refine Wc.seq ?_
            refine Wc.evs (by conv => lhs; simp) ?_
            refine Wo.nil ?_
            refine Wc.ret (res_of (.inr rfl) ?_)
            cases h
            exact ⟨_, _, _, by conv => lhs; simp, by (conv => lhs; simp [cx, ioTab, List.range, List.range.loop]) <;> rfl, by first | rfl | simp⟩
end
end Go.Proofs.YthfbkecnnllpkaaH
