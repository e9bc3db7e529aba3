/- Runs of the program's functions: printed by tg.py. -/
import Derived.Test.YthfbkecnnllpkaaCx1
import Derived.Test.YthfbkecnnllpkaaHn3
import Derived.Test.YthfbkecnnllpkaaTd1
set_option linter.unusedVariables false
set_option linter.unusedSimpArgs false
set_option maxRecDepth 100000
namespace Go.Proofs.YthfbkecnnllpkaaH
open Go
noncomputable section
theorem r47 {code : (List Int)} {r : Bool} (h : f47 code = some r) : VJx cx (.ca 47 [(ssl eU code)] (.bool r) []) := by
  unfold f47 at h
  refine ca_of rfl rfl (by decide) rfl ?_
  refine Wc.start (V1 := [(0, .v (ssl eU code))]) (by simp) ?_
  refine Wc.seq ?_
  refine Wc.evs (by conv => lhs; simp) ?_
  refine Wo.nil ?_
  refine Wc.seq ?_
  refine Wc.evs (by conv => lhs; simp) ?_
  refine Wo.nil ?_
  refine Wc.ret (res_of (.inr rfl) ?_)
  cases h
  exact ⟨_, _, _, by conv => lhs; simp, by (conv => lhs; simp [cx, ioTab, List.range, List.range.loop]) <;> rfl, by first | rfl | simp⟩
theorem r67_0 {code : (List Int)} : ∀ zs zo, iter (f67_0 code) zs = some zo → Wc cx 32 (.loop L67_0) [(0, .v (ssl eU code)), (3, .v (.int .i64 zs.1)), (4, .v (.int .i64 zs.2))] ((QX 0 (fun (y : Int) => [(0, .v (ssl eU code)), (3, .v (.int .i64 y))])) zo) := by
  intro zs0 zo0 zh0
  refine iter_run (f := (f67_0 code)) (P := fun zs zo => Wc cx 32 (.loop L67_0) [(0, .v (ssl eU code)), (3, .v (.int .i64 zs.1)), (4, .v (.int .i64 zs.2))] ((QX 0 (fun (y : Int) => [(0, .v (ssl eU code)), (3, .v (.int .i64 y))])) zo)) ?_ zh0
  rintro ⟨h_1, i_2⟩ zo zr h hk hx
  try dsimp only at hk ⊢
  rw [f67_0] at h
  refine Wc.loop ?_
  refine Wc.seq ?_
  refine Wc.seq ?_
  refine Wc.evk 5 (by conv => lhs; simp) ?_
  obtain ⟨w4, h5, h⟩ := bind_some h
  refine Wo.mono (Q := fun V => V = [(0, .v (ssl eU code)), (3, .v (.int .i64 h_1)), (4, .v (.int .i64 i_2)), (15, .v (.bool w4))]) ?_ ?_
  · by_cases knh5 : i_2 < (code.length : Int)
    · rw [if_pos knh5] at h5
      refine Wo.gh (vle_co (s := 12) (t1 := .bool true) rfl (by simp) (tle_bool (by simpa using knh5)) (by conv => lhs; simp)) ?_
      refine Wo.evs (by conv => lhs; simp) ?_
      refine Wo.nil ?_
      cases h5
      first | rfl | simp
    · rw [if_neg knh5] at h5
      refine Wo.gh (vle_co (s := 12) (t1 := .bool false) rfl (by simp) (tle_bool (by simpa using knh5)) (by conv => lhs; simp)) ?_
      refine Wo.evs (by conv => lhs; simp) ?_
      refine Wo.nil ?_
      cases h5
      first | rfl | simp
  · rintro V rfl
    generalize w4 = x_3 at *
    try dsimp only at h
    by_cases kc6 : x_3 = true
    · rw [if_pos kc6] at h
      refine Wc.condT' (t := _) (by conv => lhs; simp) (by simpa using kc6) ?_
      refine Wc.seq ?_
      refine Wc.kil (by conv => lhs; simp) ?_
      refine Wc.skip ?_
      refine Wc.seq ?_
      refine Wc.block ?_
      obtain ⟨v_7, h8, h⟩ := bind_some h
      obtain ⟨ga8, gb8, gc8⟩ := ix_some h8
      have gn8 := ix_ne h8
      have gd8 := arr_at (E := eU) (b := false) gc8
      simp at gd8
      refine Wc.evs (by conv => lhs; simp [ga8, gb8, gn8, gd8]) ?_
      refine Wo.nil ?_
      refine Wc.evs (by conv => lhs; simp) ?_
      refine Wo.nil ?_
      refine Wc.start (V1 := [(0, .v (ssl eU code)), (3, .v (.int .i64 (band .i64 (w64 ((w64 ((w64 (h_1 * 131)) + (w64 v_7))) + 7)) 1073741823))), (4, .v (.int .i64 (w64 (i_2 + 1))))]) ?_ (hk _ (Option.some.inj h).symm)
      first | rfl | simp
    · rw [if_neg kc6] at h
      refine Wc.condF' (t := _) (by conv => lhs; simp) (by simpa using kc6) ?_
      refine Wc.seq ?_
      refine Wc.kil (by conv => lhs; simp) ?_
      refine Wc.exit ?_
      have e0 := hx _ (Option.some.inj h).symm
      subst e0
      exact ⟨rfl, by first | rfl | simp⟩
theorem r67 {code : (List Int)} {r : L1Cur} (h : f67 code = some r) : VJx cx (.ca 67 [(ssl eU code)] (.ptr true [(ssl eU r.b), (.int .i64 r.i), (.int .i64 r.h)]) []) := by
  unfold f67 at h
  refine ca_of rfl rfl (by decide) rfl ?_
  refine Wc.start (V1 := [(0, .v (ssl eU code))]) (by simp) ?_
  refine Wc.seq ?_
  refine Wc.evs (by conv => lhs; simp) ?_
  refine Wo.nil ?_
  refine Wc.seq ?_
  refine Wc.evs (by conv => lhs; simp) ?_
  refine Wo.nil ?_
  refine Wc.seq ?_
  refine Wc.seq ?_
  refine Wc.evs (by conv => lhs; simp) ?_
  refine Wo.nil ?_
  refine Wc.block ?_
  obtain ⟨w9, h10, h⟩ := bind_some h
  refine Wc.start (V1 := [(0, .v (ssl eU code)), (3, .v (.int .i64 (w64 (10101 + (code.length : Int))))), (4, .v (.int .i64 0))]) (by first | rfl | simp) ?_
  refine Wc.mono (r67_0 _ _ h10) ?_
  generalize w9 = h_11 at *
  rintro ex V ⟨rfl, rfl⟩
  try dsimp only at h
  refine Wc.seq ?_
  refine Wc.evs (by conv => lhs; simp) ?_
  refine Wo.nil ?_
  refine Wc.ret (res_of (.inr rfl) ?_)
  cases h
  exact ⟨_, _, _, by conv => lhs; simp, by (conv => lhs; simp [cx, ioTab, List.range, List.range.loop]) <;> rfl, by first | rfl | simp⟩
theorem r84 {c : L1Cur} {r : Int × L1Cur} (h : f84 c = some r) : VJx cx (.ca 84 [(.ptr true [(ssl eU c.b), (.int .i64 c.i), (.int .i64 c.h)])] (.int .i64 r.1) [(.ptr true [(ssl eU r.2.b), (.int .i64 r.2.i), (.int .i64 r.2.h)])]) := by
  unfold f84 at h
  refine ca_of rfl rfl (by decide) rfl ?_
  refine Wc.start (V1 := [(0, .v (.ptr true [(ssl eU c.b), (.int .i64 c.i), (.int .i64 c.h)]))]) (by simp) ?_
  refine Wc.seq ?_
  refine Wc.evs (by conv => lhs; simp) ?_
  refine Wo.nil ?_
  refine Wc.seq ?_
  refine Wc.evs (by conv => lhs; simp) ?_
  refine Wo.nil ?_
  refine Wc.seq ?_
  refine Wc.evs (by conv => lhs; simp) ?_
  refine Wo.nil ?_
  refine Wc.seq ?_
  refine Wc.seq ?_
  refine Wc.evs (by conv => lhs; simp) ?_
  refine Wo.nil ?_
  obtain ⟨w1, h2, h⟩ := bind_some h
  refine Wc.mono (Q := (QN (fun (y : Int × Int) => [(0, .v (.ptr true [(ssl eU c.b), (.int .i64 y.1), (.int .i64 (w64 ((w64 (c.h * 6364136223846793005)) + 1442695040888963407)))])), (3, .v (.int .i64 y.2))])) w1) ?_ ?_
  · skip
    by_cases kc3 : c.i < (c.b.length : Int)
    · rw [if_pos kc3] at h2
      refine Wc.condT' (t := _) (by conv => lhs; simp) (by simpa using kc3) ?_
      refine Wc.seq ?_
      refine Wc.kil (by conv => lhs; simp) ?_
      refine Wc.seq ?_
      obtain ⟨v_4, h5, h2⟩ := bind_some h2
      obtain ⟨ga5, gb5, gc5⟩ := ix_some h5
      have gn5 := ix_ne h5
      have gd5 := arr_at (E := eU) (b := false) gc5
      simp at gd5
      refine Wc.evs (by conv => lhs; simp [ga5, gb5, gn5, gd5]) ?_
      refine Wo.nil ?_
      refine Wc.evs (by conv => lhs; simp) ?_
      refine Wo.nil ?_
      cases h2
      exact ⟨rfl, by first | rfl | simp⟩
    · rw [if_neg kc3] at h2
      refine Wc.condF' (t := _) (by conv => lhs; simp) (by simpa using kc3) ?_
      refine Wc.seq ?_
      refine Wc.kil (by conv => lhs; simp) ?_
      refine Wc.skip ?_
      cases h2
      exact ⟨rfl, by first | rfl | simp⟩
  · skip
    obtain ⟨c_6, x_7⟩ := w1
    rintro ex V ⟨rfl, rfl⟩
    dsimp only at h ⊢
    refine Wc.seq ?_
    refine Wc.evs (by conv => lhs; simp) ?_
    refine Wo.nil ?_
    refine Wc.ret (res_of (.inr rfl) ?_)
    cases h
    exact ⟨_, _, _, by conv => lhs; simp, by (conv => lhs; simp [cx, ioTab, List.range, List.range.loop]) <;> rfl, by first | rfl | simp⟩
theorem r80 {c : L1Cur} {n1 : Int} {r : Int × L1Cur} (h : f80 c n1 = some r) : VJx cx (.ca 80 [(.ptr true [(ssl eU c.b), (.int .i64 c.i), (.int .i64 c.h)]), (.int .i64 n1)] (.int .i64 r.1) [(.ptr true [(ssl eU r.2.b), (.int .i64 r.2.i), (.int .i64 r.2.h)])]) := by
  unfold f80 at h
  refine ca_of rfl rfl (by decide) rfl ?_
  refine Wc.start (V1 := [(0, .v (.ptr true [(ssl eU c.b), (.int .i64 c.i), (.int .i64 c.h)])), (1, .v (.int .i64 n1))]) (by simp) ?_
  refine Wc.seq ?_
  refine Wc.evs (by conv => lhs; simp) ?_
  refine Wo.nil ?_
  refine Wc.seq ?_
  refine Wc.seq ?_
  refine Wc.evs (by conv => lhs; simp) ?_
  refine Wo.nil ?_
  by_cases kc1 : n1 ≤ 0
  · rw [if_pos kc1] at h
    refine Wc.condT' (t := _) (by conv => lhs; simp) (by simpa using kc1) ?_
    refine Wc.seq ?_
    refine Wc.kil (by conv => lhs; simp) ?_
    refine Wc.seq ?_
    refine Wc.evs (by conv => lhs; simp) ?_
    refine Wo.nil ?_
    refine Wc.ret (res_of (.inr rfl) ?_)
    cases h
    exact ⟨_, _, _, by conv => lhs; simp, by (conv => lhs; simp [cx, ioTab, List.range, List.range.loop]) <;> rfl, by first | rfl | simp⟩
  · rw [if_neg kc1] at h
    refine Wc.condF' (t := _) (by conv => lhs; simp) (by simpa using kc1) ?_
    refine Wc.seq ?_
    refine Wc.kil (by conv => lhs; simp) ?_
    refine Wc.skip ?_
    refine Wc.seq ?_
    refine Wc.seq ?_
    refine Wc.evs (by conv => lhs; simp) ?_
    refine Wo.nil ?_
    by_cases kc2 : n1 ≤ 256
    · rw [if_pos kc2] at h
      refine Wc.condT' (t := _) (by conv => lhs; simp) (by simpa using kc2) ?_
      refine Wc.seq ?_
      refine Wc.kil (by conv => lhs; simp) ?_
      refine Wc.seq ?_
      refine Wc.evs (by conv => lhs; simp) ?_
      obtain ⟨o3, h4, h⟩ := bind_some h
      refine Wo.call (by simp) rfl (by (conv => lhs; simp [cx, ioTab]) <;> rfl) (r84 h4) (by simp) (by simp) (by (conv => lhs; simp [cx, ioTab]) <;> rfl) (by (conv => lhs; simp) <;> rfl) ?_
      obtain ⟨z_5, h6, h⟩ := bind_some h
      have gz6 := nz_some h6
      refine Wo.evs (by conv => lhs; simp [gz6]) ?_
      refine Wo.nil ?_
      refine Wc.ret (res_of (.inr rfl) ?_)
      cases h
      exact ⟨_, _, _, by conv => lhs; simp, by (conv => lhs; simp [cx, ioTab, List.range, List.range.loop]) <;> rfl, by first | rfl | simp [gz6]⟩
    · rw [if_neg kc2] at h
      refine Wc.condF' (t := _) (by conv => lhs; simp) (by simpa using kc2) ?_
      refine Wc.seq ?_
      refine Wc.kil (by conv => lhs; simp) ?_
      refine Wc.skip ?_
      refine Wc.seq ?_
      refine Wc.evs (by conv => lhs; simp) ?_
      obtain ⟨o7, h8, h⟩ := bind_some h
      refine Wo.call (by simp) rfl (by (conv => lhs; simp [cx, ioTab]) <;> rfl) (r84 h8) (by simp) (by simp) (by (conv => lhs; simp [cx, ioTab]) <;> rfl) (by (conv => lhs; simp) <;> rfl) ?_
      refine Wo.evs (by conv => lhs; simp) ?_
      refine Wo.nil ?_
      refine Wc.seq ?_
      refine Wc.evs (by conv => lhs; simp) ?_
      obtain ⟨o9, h10, h⟩ := bind_some h
      refine Wo.call (by simp) rfl (by (conv => lhs; simp [cx, ioTab]) <;> rfl) (r84 h10) (by simp) (by simp) (by (conv => lhs; simp [cx, ioTab]) <;> rfl) (by (conv => lhs; simp) <;> rfl) ?_
      refine Wo.evs (by conv => lhs; simp) ?_
      refine Wo.nil ?_
      refine Wc.seq ?_
      refine Wc.evs (by conv => lhs; simp) ?_
      obtain ⟨o11, h12, h⟩ := bind_some h
      refine Wo.call (by simp) rfl (by (conv => lhs; simp [cx, ioTab]) <;> rfl) (r84 h12) (by simp) (by simp) (by (conv => lhs; simp [cx, ioTab]) <;> rfl) (by (conv => lhs; simp) <;> rfl) ?_
      refine Wo.evs (by conv => lhs; simp) ?_
      refine Wo.nil ?_
      refine Wc.seq ?_
      refine Wc.evs (by conv => lhs; simp) ?_
      obtain ⟨o13, h14, h⟩ := bind_some h
      refine Wo.call (by simp) rfl (by (conv => lhs; simp [cx, ioTab]) <;> rfl) (r84 h14) (by simp) (by simp) (by (conv => lhs; simp [cx, ioTab]) <;> rfl) (by (conv => lhs; simp) <;> rfl) ?_
      refine Wo.evs (by conv => lhs; simp) ?_
      refine Wo.nil ?_
      refine Wc.seq ?_
      obtain ⟨z_15, h16, h⟩ := bind_some h
      have gz16 := nz_some h16
      refine Wc.evs (by conv => lhs; simp [gz16]) ?_
      refine Wo.nil ?_
      refine Wc.ret (res_of (.inr rfl) ?_)
      cases h
      exact ⟨_, _, _, by conv => lhs; simp, by (conv => lhs; simp [cx, ioTab, List.range, List.range.loop]) <;> rfl, by first | rfl | simp [gz16]⟩
theorem r81 {c : L1Cur} {n1 : Int} {r : Bool × L1Cur} (h : f81 c n1 = some r) : VJx cx (.ca 81 [(.ptr true [(ssl eU c.b), (.int .i64 c.i), (.int .i64 c.h)]), (.int .i64 n1)] (.bool r.1) [(.ptr true [(ssl eU r.2.b), (.int .i64 r.2.i), (.int .i64 r.2.h)])]) := by
  unfold f81 at h
  refine ca_of rfl rfl (by decide) rfl ?_
  refine Wc.start (V1 := [(0, .v (.ptr true [(ssl eU c.b), (.int .i64 c.i), (.int .i64 c.h)])), (1, .v (.int .i64 n1))]) (by simp) ?_
  refine Wc.seq ?_
  refine Wc.evs (by conv => lhs; simp) ?_
  refine Wo.nil ?_
  refine Wc.seq ?_
  refine Wc.evs (by conv => lhs; simp) ?_
  obtain ⟨o1, h2, h⟩ := bind_some h
  refine Wo.call (by simp) rfl (by (conv => lhs; simp [cx, ioTab]) <;> rfl) (r80 h2) (by simp) (by simp) (by (conv => lhs; simp [cx, ioTab]) <;> rfl) (by (conv => lhs; simp) <;> rfl) ?_
  refine Wo.evs (by conv => lhs; simp) ?_
  refine Wo.nil ?_
  refine Wc.ret (res_of (.inr rfl) ?_)
  cases h
  exact ⟨_, _, _, by conv => lhs; simp, by (conv => lhs; simp [cx, ioTab, List.range, List.range.loop]) <;> rfl, by first | rfl | simp⟩
theorem r82 {c : L1Cur} {list : (List Int)} {r : Int × L1Cur} (h : f82 c list = some r) : VJx cx (.ca 82 [(.ptr true [(ssl eU c.b), (.int .i64 c.i), (.int .i64 c.h)]), (ssl eI list)] (.int .i64 r.1) [(.ptr true [(ssl eU r.2.b), (.int .i64 r.2.i), (.int .i64 r.2.h)])]) := by
  unfold f82 at h
  refine ca_of rfl rfl (by decide) rfl ?_
  refine Wc.start (V1 := [(0, .v (.ptr true [(ssl eU c.b), (.int .i64 c.i), (.int .i64 c.h)])), (1, .v (ssl eI list))]) (by simp) ?_
  refine Wc.seq ?_
  refine Wc.evs (by conv => lhs; simp) ?_
  refine Wo.nil ?_
  refine Wc.seq ?_
  refine Wc.evs (by conv => lhs; simp) ?_
  obtain ⟨o1, h2, h⟩ := bind_some h
  refine Wo.call (by simp) rfl (by (conv => lhs; simp [cx, ioTab]) <;> rfl) (r80 h2) (by simp) (by simp) (by (conv => lhs; simp [cx, ioTab]) <;> rfl) (by (conv => lhs; simp) <;> rfl) ?_
  obtain ⟨v_3, h4, h⟩ := bind_some h
  obtain ⟨ga4, gb4, gc4⟩ := ix_some h4
  have gn4 := ix_ne h4
  have gd4 := arr_at (E := eI) (b := false) gc4
  simp at gd4
  refine Wo.evs (by conv => lhs; simp [ga4, gb4, gn4, gd4]) ?_
  refine Wo.nil ?_
  refine Wc.ret (res_of (.inr rfl) ?_)
  cases h
  exact ⟨_, _, _, by conv => lhs; simp, by (conv => lhs; simp [cx, ioTab, List.range, List.range.loop]) <;> rfl, by first | rfl | simp [ga4, gb4, gn4, gd4]⟩
theorem r68_1 {o1 : (Int × L1Cur)} {l_8 : (List (List Int))} {k_9 : Int} : ∀ zs zo, iter (f68_1 o1) zs = some zo → Wc cx 64 (.loop L68_1) [(0, .v (.ptr true [(ssl eU zs.1), (.int .i64 zs.2.1), (.int .i64 zs.2.2.1)])), (4, .v (.int .i64 (w64 (1 + o1.1)))), (5, .v (osl (eL eI) true l_8)), (6, .v (.int .i64 k_9)), (7, .v (osl eI true zs.2.2.2.1)), (8, .v (.int .i64 zs.2.2.2.2))] ((QX 2 (fun (y : (List Int) × Int × Int × (List Int)) => [(0, .v (.ptr true [(ssl eU y.1), (.int .i64 y.2.1), (.int .i64 y.2.2.1)])), (4, .v (.int .i64 (w64 (1 + o1.1)))), (5, .v (osl (eL eI) true l_8)), (6, .v (.int .i64 k_9)), (7, .v (osl eI true y.2.2.2))])) zo) := by
  intro zs0 zo0 zh0
  refine iter_run (f := (f68_1 o1)) (P := fun zs zo => Wc cx 64 (.loop L68_1) [(0, .v (.ptr true [(ssl eU zs.1), (.int .i64 zs.2.1), (.int .i64 zs.2.2.1)])), (4, .v (.int .i64 (w64 (1 + o1.1)))), (5, .v (osl (eL eI) true l_8)), (6, .v (.int .i64 k_9)), (7, .v (osl eI true zs.2.2.2.1)), (8, .v (.int .i64 zs.2.2.2.2))] ((QX 2 (fun (y : (List Int) × Int × Int × (List Int)) => [(0, .v (.ptr true [(ssl eU y.1), (.int .i64 y.2.1), (.int .i64 y.2.2.1)])), (4, .v (.int .i64 (w64 (1 + o1.1)))), (5, .v (osl (eL eI) true l_8)), (6, .v (.int .i64 k_9)), (7, .v (osl eI true y.2.2.2))])) zo)) ?_ zh0
  rintro ⟨c_11, c_12, c_13, x_14, v_15⟩ zo zr h hk hx
  try dsimp only at hk ⊢
  rw [f68_1] at h
  refine Wc.loop ?_
  refine Wc.seq ?_
  refine Wc.seq ?_
  refine Wc.evs (by conv => lhs; simp) ?_
  refine Wo.nil ?_
  by_cases kc16 : v_15 ≤ (w64 (1 + o1.1))
  · rw [if_pos kc16] at h
    refine Wc.condT' (t := _) (by conv => lhs; simp) (by simpa using kc16) ?_
    refine Wc.seq ?_
    refine Wc.kil (by conv => lhs; simp) ?_
    refine Wc.skip ?_
    refine Wc.seq ?_
    refine Wc.block ?_
    refine Wc.seq ?_
    refine Wc.evs (by conv => lhs; simp) ?_
    obtain ⟨o17, h18, h⟩ := bind_some h
    refine Wo.call (by simp) rfl (by (conv => lhs; simp [cx, ioTab]) <;> rfl) (r81 h18) (by simp) (by simp) (by (conv => lhs; simp [cx, ioTab]) <;> rfl) (by (conv => lhs; simp) <;> rfl) ?_
    refine Wo.evk 1 (by conv => lhs; simp) ?_
    obtain ⟨w20, h21, h⟩ := bind_some h
    refine Wo.mono (Q := fun V => V = [(0, .v (.ptr true [(ssl eU o17.2.b), (.int .i64 o17.2.i), (.int .i64 o17.2.h)])), (4, .v (.int .i64 (w64 (1 + o1.1)))), (5, .v (osl (eL eI) true l_8)), (6, .v (.int .i64 k_9)), (7, .v (osl eI true x_14)), (8, .v (.int .i64 v_15)), (31, .v (.bool w20))]) ?_ ?_
    · by_cases knh21 : o17.1 = true
      · rw [if_pos knh21] at h21
        refine Wo.gh (vle_co (s := 27) (t1 := .bool true) rfl (by simp) (tle_bool (by simpa using knh21)) (by conv => lhs; simp)) ?_
        refine Wo.evs (by conv => lhs; simp) ?_
        refine Wo.nil ?_
        cases h21
        first | rfl | simp
      · rw [if_neg knh21] at h21
        refine Wo.gh (vle_co (s := 27) (t1 := .bool false) rfl (by simp) (tle_bool (by simpa using knh21)) (by conv => lhs; simp)) ?_
        refine Wo.evs (by conv => lhs; simp) ?_
        refine Wo.nil ?_
        cases h21
        first | rfl | simp
    · rintro V rfl
      generalize w20 = x_19 at *
      try dsimp only at h
      obtain ⟨w22, h23, h⟩ := bind_some h
      refine Wc.mono (Q := (QN (fun (y : (List Int) × Int × Int × (List Int)) => [(0, .v (.ptr true [(ssl eU y.1), (.int .i64 y.2.1), (.int .i64 y.2.2.1)])), (4, .v (.int .i64 (w64 (1 + o1.1)))), (5, .v (osl (eL eI) true l_8)), (6, .v (.int .i64 k_9)), (7, .v (osl eI true y.2.2.2)), (8, .v (.int .i64 v_15))])) w22) ?_ ?_
      · skip
        by_cases kc24 : x_19 = true
        · rw [if_pos kc24] at h23
          refine Wc.condT' (t := _) (by conv => lhs; simp) (by simpa using kc24) ?_
          refine Wc.seq ?_
          refine Wc.kil (by conv => lhs; simp) ?_
          refine Wc.evs (by conv => lhs; simp) ?_
          obtain ⟨o25, h26, h23⟩ := bind_some h23
          refine Wo.call (by simp) rfl (by (conv => lhs; simp [cx, ioTab]) <;> rfl) (r80 h26) (by simp) (by simp) (by (conv => lhs; simp [cx, ioTab]) <;> rfl) (by (conv => lhs; simp) <;> rfl) ?_
          obtain ⟨l_27, h28, h23⟩ := bind_some h23
          have gx28 := appT_arr (E := eI) (b := true) (y := true) h28 (by decide)
          simp at gx28
          refine Wo.evs (by conv => lhs; simp [gx28]) ?_
          refine Wo.nil ?_
          cases h23
          exact ⟨rfl, by first | rfl | simp [gx28]⟩
        · rw [if_neg kc24] at h23
          refine Wc.condF' (t := _) (by conv => lhs; simp) (by simpa using kc24) ?_
          refine Wc.seq ?_
          refine Wc.kil (by conv => lhs; simp) ?_
          refine Wc.skip ?_
          cases h23
          exact ⟨rfl, by first | rfl | simp⟩
      · skip
        obtain ⟨c_29, c_30, c_31, x_32⟩ := w22
        rintro ex V ⟨rfl, rfl⟩
        dsimp only at h ⊢
        refine Wc.evs (by conv => lhs; simp) ?_
        refine Wo.nil ?_
        refine Wc.start (V1 := [(0, .v (.ptr true [(ssl eU c_29), (.int .i64 c_30), (.int .i64 c_31)])), (4, .v (.int .i64 (w64 (1 + o1.1)))), (5, .v (osl (eL eI) true l_8)), (6, .v (.int .i64 k_9)), (7, .v (osl eI true x_32)), (8, .v (.int .i64 (w64 (v_15 + 1))))]) ?_ (hk _ (Option.some.inj h).symm)
        first | rfl | simp
  · rw [if_neg kc16] at h
    refine Wc.condF' (t := _) (by conv => lhs; simp) (by simpa using kc16) ?_
    refine Wc.seq ?_
    refine Wc.kil (by conv => lhs; simp) ?_
    refine Wc.exit ?_
    have e0 := hx _ (Option.some.inj h).symm
    subst e0
    exact ⟨rfl, by first | rfl | simp⟩
theorem r68_0 {o1 : (Int × L1Cur)} : ∀ zs zo, iter (f68_0 o1) zs = some zo → Wc cx 64 (.loop L68_0) [(0, .v (.ptr true [(ssl eU zs.1), (.int .i64 zs.2.1), (.int .i64 zs.2.2.1)])), (4, .v (.int .i64 (w64 (1 + o1.1)))), (5, .v (osl (eL eI) true zs.2.2.2.1)), (6, .v (.int .i64 zs.2.2.2.2))] ((QX 0 (fun (y : (List Int) × Int × Int × (List (List Int))) => [(0, .v (.ptr true [(ssl eU y.1), (.int .i64 y.2.1), (.int .i64 y.2.2.1)])), (4, .v (.int .i64 (w64 (1 + o1.1)))), (5, .v (osl (eL eI) true y.2.2.2))])) zo) := by
  intro zs0 zo0 zh0
  refine iter_run (f := (f68_0 o1)) (P := fun zs zo => Wc cx 64 (.loop L68_0) [(0, .v (.ptr true [(ssl eU zs.1), (.int .i64 zs.2.1), (.int .i64 zs.2.2.1)])), (4, .v (.int .i64 (w64 (1 + o1.1)))), (5, .v (osl (eL eI) true zs.2.2.2.1)), (6, .v (.int .i64 zs.2.2.2.2))] ((QX 0 (fun (y : (List Int) × Int × Int × (List (List Int))) => [(0, .v (.ptr true [(ssl eU y.1), (.int .i64 y.2.1), (.int .i64 y.2.2.1)])), (4, .v (.int .i64 (w64 (1 + o1.1)))), (5, .v (osl (eL eI) true y.2.2.2))])) zo)) ?_ zh0
  rintro ⟨c_5, c_6, c_7, l_8, k_9⟩ zo zr h hk hx
  try dsimp only at hk ⊢
  rw [f68_0] at h
  refine Wc.loop ?_
  refine Wc.seq ?_
  refine Wc.seq ?_
  refine Wc.evs (by conv => lhs; simp) ?_
  refine Wo.nil ?_
  by_cases kc10 : k_9 > 0
  · rw [if_pos kc10] at h
    refine Wc.condT' (t := _) (by conv => lhs; simp) (by simpa using kc10) ?_
    refine Wc.seq ?_
    refine Wc.kil (by conv => lhs; simp) ?_
    refine Wc.skip ?_
    refine Wc.seq ?_
    refine Wc.block ?_
    refine Wc.seq ?_
    refine Wc.evs (by conv => lhs; simp) ?_
    refine Wo.gh (vle_co (s := 7) (t1 := (osl eI true ([]))) rfl (by simp) (TLe.own (show TLes _ [] from (TLes.refl _)) rfl) (by conv => lhs; simp)) ?_
    refine Wo.nil ?_
    refine Wc.seq ?_
    refine Wc.seq ?_
    refine Wc.evs (by conv => lhs; simp) ?_
    refine Wo.nil ?_
    refine Wc.block ?_
    obtain ⟨w33, h34, h⟩ := bind_some h
    refine Wc.start (V1 := [(0, .v (.ptr true [(ssl eU c_5), (.int .i64 c_6), (.int .i64 c_7)])), (4, .v (.int .i64 (w64 (1 + o1.1)))), (5, .v (osl (eL eI) true l_8)), (6, .v (.int .i64 k_9)), (7, .v (osl eI true ([]))), (8, .v (.int .i64 1))]) (by first | rfl | simp) ?_
    refine Wc.mono (r68_1 _ _ h34) ?_
    obtain ⟨c_35, c_36, c_37, x_38⟩ := w33
    rintro ex V ⟨rfl, rfl⟩
    dsimp only at h ⊢
    obtain ⟨l_39, h40, h⟩ := bind_some h
    have gx40 := appT_arr (E := (eL eI)) (b := true) (y := true) h40 (by decide)
    simp at gx40
    refine Wc.evs (by conv => lhs; simp [gx40]) ?_
    refine Wo.nil ?_
    refine Wc.evs (by conv => lhs; simp) ?_
    refine Wo.nil ?_
    refine Wc.start (V1 := [(0, .v (.ptr true [(ssl eU c_35), (.int .i64 c_36), (.int .i64 c_37)])), (4, .v (.int .i64 (w64 (1 + o1.1)))), (5, .v (osl (eL eI) true l_39)), (6, .v (.int .i64 (w64 (k_9 - 1))))]) ?_ (hk _ (Option.some.inj h).symm)
    first | rfl | simp
  · rw [if_neg kc10] at h
    refine Wc.condF' (t := _) (by conv => lhs; simp) (by simpa using kc10) ?_
    refine Wc.seq ?_
    refine Wc.kil (by conv => lhs; simp) ?_
    refine Wc.exit ?_
    have e0 := hx _ (Option.some.inj h).symm
    subst e0
    exact ⟨rfl, by first | rfl | simp⟩
theorem r68 {c : L1Cur} {r : Int × (List (List Int)) × L1Cur} (h : f68 c = some r) : VJx cx (.ca 68 [(.ptr true [(ssl eU c.b), (.int .i64 c.i), (.int .i64 c.h)])] (.tup [(.int .i64 r.1), (osl (eL eI) true r.2.1)]) [(.ptr true [(ssl eU r.2.2.b), (.int .i64 r.2.2.i), (.int .i64 r.2.2.h)])]) := by
  unfold f68 at h
  refine ca_of rfl rfl (by decide) rfl ?_
  refine Wc.start (V1 := [(0, .v (.ptr true [(ssl eU c.b), (.int .i64 c.i), (.int .i64 c.h)]))]) (by simp) ?_
  refine Wc.seq ?_
  refine Wc.evs (by conv => lhs; simp) ?_
  refine Wo.nil ?_
  refine Wc.seq ?_
  refine Wc.evs (by conv => lhs; simp) ?_
  obtain ⟨o1, h2, h⟩ := bind_some h
  refine Wo.call (by simp) rfl (by (conv => lhs; simp [cx, ioTab]) <;> rfl) (r80 h2) (by simp) (by simp) (by (conv => lhs; simp [cx, ioTab]) <;> rfl) (by (conv => lhs; simp) <;> rfl) ?_
  refine Wo.evs (by conv => lhs; simp) ?_
  refine Wo.nil ?_
  refine Wc.seq ?_
  refine Wc.evs (by conv => lhs; simp) ?_
  refine Wo.gh (vle_co (s := 5) (t1 := (osl (eL eI) true ([]))) rfl (by simp) (TLe.own (show TLes _ [] from (TLes.refl _)) rfl) (by conv => lhs; simp)) ?_
  refine Wo.nil ?_
  refine Wc.seq ?_
  refine Wc.seq ?_
  refine Wc.evs (by conv => lhs; simp) ?_
  obtain ⟨o3, h4, h⟩ := bind_some h
  refine Wo.call (by simp) rfl (by (conv => lhs; simp [cx, ioTab]) <;> rfl) (r80 h4) (by simp) (by simp) (by (conv => lhs; simp [cx, ioTab]) <;> rfl) (by (conv => lhs; simp) <;> rfl) ?_
  refine Wo.evs (by conv => lhs; simp) ?_
  refine Wo.nil ?_
  refine Wc.block ?_
  obtain ⟨w41, h42, h⟩ := bind_some h
  refine Wc.start (V1 := [(0, .v (.ptr true [(ssl eU o3.2.b), (.int .i64 o3.2.i), (.int .i64 o3.2.h)])), (4, .v (.int .i64 (w64 (1 + o1.1)))), (5, .v (osl (eL eI) true ([]))), (6, .v (.int .i64 o3.1))]) (by first | rfl | simp) ?_
  refine Wc.mono (r68_0 _ _ h42) ?_
  obtain ⟨c_43, c_44, c_45, l_46⟩ := w41
  rintro ex V ⟨rfl, rfl⟩
  dsimp only at h ⊢
  refine Wc.seq ?_
  refine Wc.seq ?_
  refine Wc.evk 4 (by conv => lhs; simp) ?_
  obtain ⟨w51, h52, h⟩ := bind_some h
  refine Wo.mono (Q := fun V => V = [(0, .v (.ptr true [(ssl eU w51.1), (.int .i64 w51.2.1), (.int .i64 w51.2.2.1)])), (4, .v (.int .i64 (w64 (1 + o1.1)))), (5, .v (osl (eL eI) true l_46)), (51, .v (.bool w51.2.2.2))]) ?_ ?_
  · by_cases knh52 : (l_46.length : Int) > 0
    · rw [if_pos knh52] at h52
      refine Wo.gh (vle_co (s := 48) (t1 := .bool true) rfl (by simp) (tle_bool (by simpa using knh52)) (by conv => lhs; simp)) ?_
      refine Wo.evs (by conv => lhs; simp) ?_
      obtain ⟨o53, h54, h52⟩ := bind_some h52
      refine Wo.call (by simp) rfl (by (conv => lhs; simp [cx, ioTab]) <;> rfl) (r81 h54) (by simp) (by simp) (by (conv => lhs; simp [cx, ioTab]) <;> rfl) (by (conv => lhs; simp) <;> rfl) ?_
      refine Wo.evs (by conv => lhs; simp) ?_
      refine Wo.nil ?_
      cases h52
      first | rfl | simp
    · rw [if_neg knh52] at h52
      refine Wo.gh (vle_co (s := 48) (t1 := .bool false) rfl (by simp) (tle_bool (by simpa using knh52)) (by conv => lhs; simp)) ?_
      refine Wo.evs (by conv => lhs; simp) ?_
      refine Wo.nil ?_
      cases h52
      first | rfl | simp
  · rintro V rfl
    obtain ⟨c_47, c_48, c_49, x_50⟩ := w51
    dsimp only at h ⊢
    obtain ⟨w55, h56, h⟩ := bind_some h
    refine Wc.mono (Q := (QN (fun (y : (List Int) × Int × Int × (List (List Int))) => [(0, .v (.ptr true [(ssl eU y.1), (.int .i64 y.2.1), (.int .i64 y.2.2.1)])), (4, .v (.int .i64 (w64 (1 + o1.1)))), (5, .v (osl (eL eI) true y.2.2.2))])) w55) ?_ ?_
    · skip
      by_cases kc57 : x_50 = true
      · rw [if_pos kc57] at h56
        refine Wc.condT' (t := _) (by conv => lhs; simp) (by simpa using kc57) ?_
        refine Wc.seq ?_
        refine Wc.kil (by conv => lhs; simp) ?_
        obtain ⟨v_58, h59, h56⟩ := bind_some h56
        obtain ⟨ga59, gb59, gc59⟩ := ix_some h59
        have gn59 := ix_ne h59
        have gf59 := arr_fit (E := (eL eI)) (b := true) (i := (0 : Int).toNat) (l := l_46) (by omega)
        have gg59_0 := arr_get (E := (eL eI)) (b := true) (o := 0) gc59 (by decide)
        simp at gf59 gg59_0
        have gl59 : (0 : Int).toNat < l_46.length := by omega
        have gk59 : 0 < l_46.length := by omega
        refine Wc.evs (by conv => lhs; simp [-getElem?_pos, List.getElem?_cons_zero, List.getElem?_cons_succ, gb59, gn59, gf59, gg59_0, gl59, gk59]) ?_
        refine Wo.gh (vle_co (s := 57) (t1 := (osl eI true ([0, 6, -7, 1, -9223372036854775808]))) rfl (by simp) (TLe.own (show TLes _ [(.int .i64 0), (.int .i64 6), (.int .i64 (-7)), (.int .i64 1), (.int .i64 (-9223372036854775808))] from (TLes.cons (TLe.refl _) (TLes.cons (TLe.refl _) (TLes.cons (TLe.refl _) (TLes.cons (TLe.refl _) (TLes.cons (TLe.refl _) (TLes.refl _))))))) rfl) (by conv => lhs; simp)) ?_
        refine Wo.gh (vle_fz (s := 57) rfl (by simp) (by conv => lhs; simp)) ?_
        obtain ⟨o60, h61, h56⟩ := bind_some h56
        refine Wo.call (by simp) rfl (by (conv => lhs; simp [-getElem?_pos, List.getElem?_cons_zero, List.getElem?_cons_succ, gb59, gn59, gf59, gg59_0, gl59, gk59, cx, ioTab]) <;> rfl) (r82 h61) (by simp) (by simp) (by (conv => lhs; simp [-getElem?_pos, List.getElem?_cons_zero, List.getElem?_cons_succ, gb59, gn59, gf59, gg59_0, gl59, gk59, cx, ioTab]) <;> rfl) (by (conv => lhs; simp [-getElem?_pos, List.getElem?_cons_zero, List.getElem?_cons_succ, gb59, gn59, gf59, gg59_0, gl59, gk59]) <;> rfl) ?_
        obtain ⟨l_62, h63, h56⟩ := bind_some h56
        have gx63 := appT_arr (E := eI) (b := true) (y := true) h63 (by decide)
        simp at gx63
        have gy64 := lay_set (E := (eL eI)) (b := true) (i := (0 : Int).toNat) (l := l_46) l_62 (by omega)
        simp at gy64
        refine Wo.evs (by conv => lhs; simp [-getElem?_pos, List.getElem?_cons_zero, List.getElem?_cons_succ, gb59, gn59, gf59, gg59_0, gl59, gk59, gx63, gy64]) ?_
        refine Wo.nil ?_
        cases h56
        exact ⟨rfl, by first | rfl | simp [-getElem?_pos, List.getElem?_cons_zero, List.getElem?_cons_succ, gb59, gn59, gf59, gg59_0, gl59, gk59, gx63, gy64]⟩
      · rw [if_neg kc57] at h56
        refine Wc.condF' (t := _) (by conv => lhs; simp) (by simpa using kc57) ?_
        refine Wc.seq ?_
        refine Wc.kil (by conv => lhs; simp) ?_
        refine Wc.skip ?_
        cases h56
        exact ⟨rfl, by first | rfl | simp⟩
    · skip
      obtain ⟨c_65, c_66, c_67, l_68⟩ := w55
      rintro ex V ⟨rfl, rfl⟩
      dsimp only at h ⊢
      refine Wc.seq ?_
      refine Wc.evs (by conv => lhs; simp) ?_
      refine Wo.nil ?_
      refine Wc.ret (res_of (.inr rfl) ?_)
      cases h
      exact ⟨_, _, _, by conv => lhs; simp, by (conv => lhs; simp [cx, ioTab, List.range, List.range.loop]) <;> rfl, by first | rfl | simp⟩
theorem r69_0 {n1 : Int} : ∀ zs zo, iter (f69_0 n1) zs = some zo → Wc cx 33 (.loop L69_0) [(0, .v (.ptr true [(ssl eU zs.1), (.int .i64 zs.2.1), (.int .i64 zs.2.2.1)])), (1, .v (.int .i64 n1)), (5, .v (osl eI true zs.2.2.2.1)), (6, .v (.int .i64 zs.2.2.2.2))] ((QX 0 (fun (y : (List Int) × Int × Int × (List Int)) => [(0, .v (.ptr true [(ssl eU y.1), (.int .i64 y.2.1), (.int .i64 y.2.2.1)])), (5, .v (osl eI true y.2.2.2))])) zo) := by
  intro zs0 zo0 zh0
  refine iter_run (f := (f69_0 n1)) (P := fun zs zo => Wc cx 33 (.loop L69_0) [(0, .v (.ptr true [(ssl eU zs.1), (.int .i64 zs.2.1), (.int .i64 zs.2.2.1)])), (1, .v (.int .i64 n1)), (5, .v (osl eI true zs.2.2.2.1)), (6, .v (.int .i64 zs.2.2.2.2))] ((QX 0 (fun (y : (List Int) × Int × Int × (List Int)) => [(0, .v (.ptr true [(ssl eU y.1), (.int .i64 y.2.1), (.int .i64 y.2.2.1)])), (5, .v (osl eI true y.2.2.2))])) zo)) ?_ zh0
  rintro ⟨c_1, c_2, c_3, s_4, v_5⟩ zo zr h hk hx
  try dsimp only at hk ⊢
  rw [f69_0] at h
  refine Wc.loop ?_
  refine Wc.seq ?_
  refine Wc.seq ?_
  refine Wc.evs (by conv => lhs; simp) ?_
  refine Wo.nil ?_
  by_cases kc6 : v_5 ≤ n1
  · rw [if_pos kc6] at h
    refine Wc.condT' (t := _) (by conv => lhs; simp) (by simpa using kc6) ?_
    refine Wc.seq ?_
    refine Wc.kil (by conv => lhs; simp) ?_
    refine Wc.skip ?_
    refine Wc.seq ?_
    refine Wc.block ?_
    refine Wc.seq ?_
    refine Wc.evs (by conv => lhs; simp) ?_
    obtain ⟨o7, h8, h⟩ := bind_some h
    refine Wo.call (by simp) rfl (by (conv => lhs; simp [cx, ioTab]) <;> rfl) (r81 h8) (by simp) (by simp) (by (conv => lhs; simp [cx, ioTab]) <;> rfl) (by (conv => lhs; simp) <;> rfl) ?_
    refine Wo.nil ?_
    obtain ⟨w9, h10, h⟩ := bind_some h
    refine Wc.mono (Q := (QN (fun (y : (List Int) × Int × Int × (List Int)) => [(0, .v (.ptr true [(ssl eU y.1), (.int .i64 y.2.1), (.int .i64 y.2.2.1)])), (1, .v (.int .i64 n1)), (5, .v (osl eI true y.2.2.2)), (6, .v (.int .i64 v_5))])) w9) ?_ ?_
    · skip
      by_cases kc11 : o7.1 = true
      · rw [if_pos kc11] at h10
        refine Wc.condT' (t := _) (by conv => lhs; simp) (by simpa using kc11) ?_
        refine Wc.seq ?_
        refine Wc.kil (by conv => lhs; simp) ?_
        refine Wc.evs (by conv => lhs; simp) ?_
        obtain ⟨o12, h13, h10⟩ := bind_some h10
        refine Wo.call (by simp) rfl (by (conv => lhs; simp [cx, ioTab]) <;> rfl) (r80 h13) (by simp) (by simp) (by (conv => lhs; simp [cx, ioTab]) <;> rfl) (by (conv => lhs; simp) <;> rfl) ?_
        obtain ⟨l_14, h15, h10⟩ := bind_some h10
        have gx15 := appT_arr (E := eI) (b := true) (y := true) h15 (by decide)
        simp at gx15
        refine Wo.evs (by conv => lhs; simp [gx15]) ?_
        refine Wo.nil ?_
        cases h10
        exact ⟨rfl, by first | rfl | simp [gx15]⟩
      · rw [if_neg kc11] at h10
        refine Wc.condF' (t := _) (by conv => lhs; simp) (by simpa using kc11) ?_
        refine Wc.seq ?_
        refine Wc.kil (by conv => lhs; simp) ?_
        refine Wc.skip ?_
        cases h10
        exact ⟨rfl, by first | rfl | simp⟩
    · skip
      obtain ⟨c_16, c_17, c_18, s_19⟩ := w9
      rintro ex V ⟨rfl, rfl⟩
      dsimp only at h ⊢
      refine Wc.evs (by conv => lhs; simp) ?_
      refine Wo.nil ?_
      refine Wc.start (V1 := [(0, .v (.ptr true [(ssl eU c_16), (.int .i64 c_17), (.int .i64 c_18)])), (1, .v (.int .i64 n1)), (5, .v (osl eI true s_19)), (6, .v (.int .i64 (w64 (v_5 + 1))))]) ?_ (hk _ (Option.some.inj h).symm)
      first | rfl | simp
  · rw [if_neg kc6] at h
    refine Wc.condF' (t := _) (by conv => lhs; simp) (by simpa using kc6) ?_
    refine Wc.seq ?_
    refine Wc.kil (by conv => lhs; simp) ?_
    refine Wc.exit ?_
    have e0 := hx _ (Option.some.inj h).symm
    subst e0
    exact ⟨rfl, by first | rfl | simp⟩
theorem r69 {c : L1Cur} {n1 : Int} {r : (List Int) × L1Cur} (h : f69 c n1 = some r) : VJx cx (.ca 69 [(.ptr true [(ssl eU c.b), (.int .i64 c.i), (.int .i64 c.h)]), (.int .i64 n1)] (osl eI true r.1) [(.ptr true [(ssl eU r.2.b), (.int .i64 r.2.i), (.int .i64 r.2.h)])]) := by
  unfold f69 at h
  refine ca_of rfl rfl (by decide) rfl ?_
  refine Wc.start (V1 := [(0, .v (.ptr true [(ssl eU c.b), (.int .i64 c.i), (.int .i64 c.h)])), (1, .v (.int .i64 n1))]) (by simp) ?_
  refine Wc.seq ?_
  refine Wc.evs (by conv => lhs; simp) ?_
  refine Wo.nil ?_
  refine Wc.seq ?_
  refine Wc.evs (by conv => lhs; simp) ?_
  refine Wo.gh (vle_co (s := 5) (t1 := (osl eI true ([]))) rfl (by simp) (TLe.own (show TLes _ [] from (TLes.refl _)) rfl) (by conv => lhs; simp)) ?_
  refine Wo.nil ?_
  refine Wc.seq ?_
  refine Wc.seq ?_
  refine Wc.evs (by conv => lhs; simp) ?_
  refine Wo.nil ?_
  refine Wc.block ?_
  obtain ⟨w20, h21, h⟩ := bind_some h
  refine Wc.start (V1 := [(0, .v (.ptr true [(ssl eU c.b), (.int .i64 c.i), (.int .i64 c.h)])), (1, .v (.int .i64 n1)), (5, .v (osl eI true ([]))), (6, .v (.int .i64 1))]) (by first | rfl | simp) ?_
  refine Wc.mono (r69_0 _ _ h21) ?_
  obtain ⟨c_22, c_23, c_24, s_25⟩ := w20
  rintro ex V ⟨rfl, rfl⟩
  dsimp only at h ⊢
  refine Wc.seq ?_
  refine Wc.seq ?_
  refine Wc.evs (by conv => lhs; simp) ?_
  obtain ⟨o26, h27, h⟩ := bind_some h
  refine Wo.call (by simp) rfl (by (conv => lhs; simp [cx, ioTab]) <;> rfl) (r81 h27) (by simp) (by simp) (by (conv => lhs; simp [cx, ioTab]) <;> rfl) (by (conv => lhs; simp) <;> rfl) ?_
  refine Wo.nil ?_
  by_cases kc28 : o26.1 = true
  · rw [if_pos kc28] at h
    refine Wc.condT' (t := _) (by conv => lhs; simp) (by simpa using kc28) ?_
    refine Wc.seq ?_
    refine Wc.kil (by conv => lhs; simp) ?_
    refine Wc.seq ?_
    refine Wc.evs (by conv => lhs; simp) ?_
    refine Wo.gh (vle_co (s := 28) (t1 := (osl eI true ([0, 7, -7]))) rfl (by simp) (TLe.own (show TLes _ [(.int .i64 0), (.int .i64 7), (.int .i64 (-7))] from (TLes.cons (TLe.refl _) (TLes.cons (TLe.refl _) (TLes.cons (TLe.refl _) (TLes.refl _))))) rfl) (by conv => lhs; simp)) ?_
    refine Wo.gh (vle_fz (s := 28) rfl (by simp) (by conv => lhs; simp)) ?_
    obtain ⟨o29, h30, h⟩ := bind_some h
    refine Wo.call (by simp) rfl (by (conv => lhs; simp [cx, ioTab]) <;> rfl) (r82 h30) (by simp) (by simp) (by (conv => lhs; simp [cx, ioTab]) <;> rfl) (by (conv => lhs; simp) <;> rfl) ?_
    obtain ⟨l_31, h32, h⟩ := bind_some h
    have gx32 := appT_arr (E := eI) (b := true) (y := true) h32 (by decide)
    simp at gx32
    refine Wo.evs (by conv => lhs; simp [gx32]) ?_
    refine Wo.nil ?_
    refine Wc.ret (res_of (.inr rfl) ?_)
    cases h
    exact ⟨_, _, _, by conv => lhs; simp, by (conv => lhs; simp [cx, ioTab, List.range, List.range.loop]) <;> rfl, by first | rfl | simp [gx32]⟩
  · rw [if_neg kc28] at h
    refine Wc.condF' (t := _) (by conv => lhs; simp) (by simpa using kc28) ?_
    refine Wc.seq ?_
    refine Wc.kil (by conv => lhs; simp) ?_
    refine Wc.skip ?_
    refine Wc.seq ?_
    refine Wc.evs (by conv => lhs; simp) ?_
    refine Wo.nil ?_
    refine Wc.ret (res_of (.inr rfl) ?_)
    cases h
    exact ⟨_, _, _, by conv => lhs; simp, by (conv => lhs; simp [cx, ioTab, List.range, List.range.loop]) <;> rfl, by first | rfl | simp⟩
theorem r48 {code : (List Int)} {r : Int × (List (List Int)) × (List Int)} (h : f48 code = some r) : VJx cx (.ca 48 [(ssl eU code)] (.tup [(.int .i64 r.1), (osl (eL eI) true r.2.1), (osl eI true r.2.2)]) []) := by
  unfold f48 at h
  refine ca_of rfl rfl (by decide) rfl ?_
  refine Wc.start (V1 := [(0, .v (ssl eU code))]) (by simp) ?_
  refine Wc.seq ?_
  refine Wc.evs (by conv => lhs; simp) ?_
  refine Wo.nil ?_
  refine Wc.seq ?_
  refine Wc.evs (by conv => lhs; simp) ?_
  obtain ⟨o1, h2, h⟩ := bind_some h
  refine Wo.call (by simp) rfl (by (conv => lhs; simp [cx, ioTab]) <;> rfl) (r67 h2) (by simp) (by simp) (by (conv => lhs; simp [cx, ioTab]) <;> rfl) (by (conv => lhs; simp) <;> rfl) ?_
  refine Wo.evs (by conv => lhs; simp) ?_
  refine Wo.nil ?_
  refine Wc.seq ?_
  refine Wc.evs (by conv => lhs; simp) ?_
  obtain ⟨o3, h4, h⟩ := bind_some h
  refine Wo.call (by simp) rfl (by (conv => lhs; simp [cx, ioTab]) <;> rfl) (r68 h4) (by simp) (by simp) (by (conv => lhs; simp [cx, ioTab]) <;> rfl) (by (conv => lhs; simp) <;> rfl) ?_
  refine Wo.evs (by conv => lhs; simp) ?_
  refine Wo.nil ?_
  refine Wc.seq ?_
  refine Wc.evs (by conv => lhs; simp) ?_
  obtain ⟨o5, h6, h⟩ := bind_some h
  refine Wo.call (by simp) rfl (by (conv => lhs; simp [cx, ioTab]) <;> rfl) (r69 h6) (by simp) (by simp) (by (conv => lhs; simp [cx, ioTab]) <;> rfl) (by (conv => lhs; simp) <;> rfl) ?_
  refine Wo.evs (by conv => lhs; simp) ?_
  refine Wo.nil ?_
  refine Wc.ret (res_of (.inr rfl) ?_)
  cases h
  exact ⟨_, _, _, by conv => lhs; simp, by (conv => lhs; simp [cx, ioTab, List.range, List.range.loop]) <;> rfl, by first | rfl | simp⟩
theorem r50 {code : (List Int)} {r : Int × (List (List Int)) × (List Int)} (h : f50 code = some r) : VJx cx (.ca 50 [(ssl eU code)] (.tup [(.int .i64 r.1), (osl (eL eI) true r.2.1), (osl eI true r.2.2)]) []) := by
  unfold f50 at h
  refine ca_of rfl rfl (by decide) rfl ?_
  refine Wc.start (V1 := [(0, .v (ssl eU code))]) (by simp) ?_
  refine Wc.seq ?_
  refine Wc.evs (by conv => lhs; simp) ?_
  refine Wo.nil ?_
  refine Wc.seq ?_
  refine Wc.evs (by conv => lhs; simp) ?_
  obtain ⟨o1, h2, h⟩ := bind_some h
  refine Wo.call (by simp) rfl (by (conv => lhs; simp [cx, ioTab]) <;> rfl) (r48 h2) (by simp) (by simp) (by (conv => lhs; simp [cx, ioTab]) <;> rfl) (by (conv => lhs; simp) <;> rfl) ?_
  refine Wo.evs (by conv => lhs; simp) ?_
  refine Wo.nil ?_
  refine Wc.ret (res_of (.inr rfl) ?_)
  cases h
  exact ⟨_, _, _, by conv => lhs; simp, by (conv => lhs; simp [cx, ioTab, List.range, List.range.loop]) <;> rfl, by first | rfl | simp⟩
theorem r75 {n0 : Int} {low : Int} {high : Int} {r : Bool} (h : f75 n0 low high = some r) : VJx cx (.ca 75 [(.int .i64 n0), (.int .i64 low), (.int .i64 high)] (.bool r) []) := by
  unfold f75 at h
  refine ca_of rfl rfl (by decide) rfl ?_
  refine Wc.start (V1 := [(0, .v (.int .i64 n0)), (1, .v (.int .i64 low)), (2, .v (.int .i64 high))]) (by simp) ?_
  refine Wc.seq ?_
  refine Wc.evs (by conv => lhs; simp) ?_
  refine Wo.nil ?_
  refine Wc.seq ?_
  refine Wc.evk 4 (by conv => lhs; simp) ?_
  obtain ⟨w2, h3, h⟩ := bind_some h
  refine Wo.mono (Q := fun V => V = [(6, .v (.bool w2))]) ?_ ?_
  · by_cases knh3 : low ≤ n0
    · rw [if_pos knh3] at h3
      refine Wo.gh (vle_co (s := 10) (t1 := .bool true) rfl (by simp) (tle_bool (by simpa using knh3)) (by conv => lhs; simp)) ?_
      refine Wo.evs (by conv => lhs; simp) ?_
      refine Wo.nil ?_
      cases h3
      first | rfl | simp
    · rw [if_neg knh3] at h3
      refine Wo.gh (vle_co (s := 10) (t1 := .bool false) rfl (by simp) (tle_bool (by simpa using knh3)) (by conv => lhs; simp)) ?_
      refine Wo.evs (by conv => lhs; simp) ?_
      refine Wo.nil ?_
      cases h3
      first | rfl | simp
  · rintro V rfl
    generalize w2 = x_1 at *
    try dsimp only at h
    refine Wc.ret (res_of (.inr rfl) ?_)
    cases h
    exact ⟨_, _, _, by conv => lhs; simp, by (conv => lhs; simp [cx, ioTab, List.range, List.range.loop]) <;> rfl, by first | rfl | simp⟩
theorem r71_0 {g_f : Nat} {cp_f : List T} {f : (List Int) → Option Bool} (hio_f : cx.io g_f = []) (hp_f : ∀ x0 o, f x0 = some o → VJx cx (.ca g_f ([(ssl eI x0)] ++ cp_f) (.bool o) [])) {s0 : (List (List Int))} : ∀ zs zo, iter (f71_0 s0 f) zs = some zo → Wc cx 19 (.loop L71_0) [(0, .v (ssl (eL eI) s0)), (1, .v (.fn g_f cp_f)), (7, .v (.int .i64 (s0.length : Int))), (8, .v (.int .i64 zs))] ((QO (QX 0 (fun (y : Unit) => [])) (QR (fun (y : Int) => [(4, .v (.int .i64 y))]))) zo) := by
  intro zs0 zo0 zh0
  refine iter_run (f := (f71_0 s0 f)) (P := fun zs zo => Wc cx 19 (.loop L71_0) [(0, .v (ssl (eL eI) s0)), (1, .v (.fn g_f cp_f)), (7, .v (.int .i64 (s0.length : Int))), (8, .v (.int .i64 zs))] ((QO (QX 0 (fun (y : Unit) => [])) (QR (fun (y : Int) => [(4, .v (.int .i64 y))]))) zo)) ?_ zh0
  rintro x_1 zo zr h hk hx
  try dsimp only at hk ⊢
  rw [f71_0] at h
  refine Wc.loop ?_
  refine Wc.seq ?_
  refine Wc.evs (by conv => lhs; simp) ?_
  refine Wo.nil ?_
  refine Wc.seq ?_
  by_cases kc2 : x_1 < (s0.length : Int)
  · rw [if_pos kc2] at h
    refine Wc.condT' (t := _) (by conv => lhs; simp) (by simpa using kc2) ?_
    refine Wc.seq ?_
    refine Wc.kil (by conv => lhs; simp) ?_
    refine Wc.skip ?_
    refine Wc.seq ?_
    refine Wc.block ?_
    refine Wc.seq ?_
    refine Wc.evs (by conv => lhs; simp) ?_
    refine Wo.nil ?_
    refine Wc.seq ?_
    obtain ⟨v_3, h4, h⟩ := bind_some h
    obtain ⟨ga4, gb4, gc4⟩ := ix_some h4
    have gn4 := ix_ne h4
    have gd4 := arr_at (E := (eL eI)) (b := false) gc4
    simp at gd4
    refine Wc.evs (by conv => lhs; simp [ga4, gb4, gn4, gd4]) ?_
    obtain ⟨o5, h6, h⟩ := bind_some h
    refine Wo.call rfl rfl (by (conv => lhs; simp [ga4, gb4, gn4, gd4, hio_f]) <;> rfl) (hp_f v_3 _ h6) (by simp) (by simp) (by (conv => lhs; simp [ga4, gb4, gn4, gd4, hio_f]) <;> rfl) (by (conv => lhs; simp [ga4, gb4, gn4, gd4]) <;> rfl) ?_
    refine Wo.nil ?_
    by_cases kc7 : o5 = true
    · rw [if_pos kc7] at h
      refine Wc.condT' (t := _) (by conv => lhs; simp) (by simpa using kc7) ?_
      refine Wc.seq ?_
      refine Wc.kil (by conv => lhs; simp) ?_
      refine Wc.seq ?_
      refine Wc.evs (by conv => lhs; simp) ?_
      refine Wo.nil ?_
      refine Wc.ret ?_
      have e0 := hx _ (Option.some.inj h).symm
      subst e0
      exact ⟨rfl, by first | rfl | simp⟩
    · rw [if_neg kc7] at h
      refine Wc.condF' (t := _) (by conv => lhs; simp) (by simpa using kc7) ?_
      refine Wc.seq ?_
      refine Wc.kil (by conv => lhs; simp) ?_
      refine Wc.skip ?_
      refine Wc.evs (by conv => lhs; simp) ?_
      refine Wo.nil ?_
      refine Wc.start (V1 := [(0, .v (ssl (eL eI) s0)), (1, .v (.fn g_f cp_f)), (7, .v (.int .i64 (s0.length : Int))), (8, .v (.int .i64 (w64 (x_1 + 1))))]) ?_ (hk _ (Option.some.inj h).symm)
      first | rfl | simp
  · rw [if_neg kc2] at h
    refine Wc.condF' (t := _) (by conv => lhs; simp) (by simpa using kc2) ?_
    refine Wc.seq ?_
    refine Wc.kil (by conv => lhs; simp) ?_
    refine Wc.exit ?_
    have e0 := hx _ (Option.some.inj h).symm
    subst e0
    exact ⟨rfl, by first | rfl | simp⟩
theorem r71 {s0 : (List (List Int))} {g_f : Nat} {cp_f : List T} {f : (List Int) → Option Bool} (hio_f : cx.io g_f = []) (hp_f : ∀ x0 o, f x0 = some o → VJx cx (.ca g_f ([(ssl eI x0)] ++ cp_f) (.bool o) [])) {r : Int} (h : f71 s0 f = some r) : VJx cx (.ca 71 [(ssl (eL eI) s0), (.fn g_f cp_f)] (.int .i64 r) []) := by
  unfold f71 at h
  refine ca_of rfl rfl (by decide) rfl ?_
  refine Wc.start (V1 := [(0, .v (ssl (eL eI) s0)), (1, .v (.fn g_f cp_f))]) (by simp) ?_
  refine Wc.seq ?_
  refine Wc.evs (by conv => lhs; simp) ?_
  refine Wo.nil ?_
  refine Wc.seq ?_
  refine Wc.seq ?_
  refine Wc.evs (by conv => lhs; simp) ?_
  refine Wo.nil ?_
  refine Wc.block ?_
  obtain ⟨w8, h9, h⟩ := bind_some h
  refine Wc.start (V1 := [(0, .v (ssl (eL eI) s0)), (1, .v (.fn g_f cp_f)), (7, .v (.int .i64 (s0.length : Int))), (8, .v (.int .i64 0))]) (by first | rfl | simp) ?_
  refine Wc.mono (r71_0 hio_f hp_f _ _ h9) ?_
  rcases w8 with ⟨⟩ | x_10
  · rintro ex V ⟨rfl, rfl⟩
    try dsimp only at h
    refine Wc.seq ?_
    refine Wc.evs (by conv => lhs; simp) ?_
    refine Wo.nil ?_
    refine Wc.ret (res_of (.inr rfl) ?_)
    cases h
    exact ⟨_, _, _, by conv => lhs; simp, by (conv => lhs; simp [cx, ioTab, List.range, List.range.loop]) <;> rfl, by first | rfl | simp⟩
  · rintro ex V ⟨rfl, rfl⟩
    try dsimp only at h
    refine res_of (.inr rfl) ?_
    cases h
    exact ⟨_, _, _, by conv => lhs; simp, by (conv => lhs; simp [cx, ioTab, List.range, List.range.loop]) <;> rfl, by first | rfl | simp⟩
theorem r53 {s0 : (List (List Int))} {g_f : Nat} {cp_f : List T} {f : (List Int) → Option Bool} (hio_f : cx.io g_f = []) (hp_f : ∀ x0 o, f x0 = some o → VJx cx (.ca g_f ([(ssl eI x0)] ++ cp_f) (.bool o) [])) {r : Bool} (h : f53 s0 f = some r) : VJx cx (.ca 53 [(ssl (eL eI) s0), (.fn g_f cp_f)] (.bool r) []) := by
  unfold f53 at h
  refine ca_of rfl rfl (by decide) rfl ?_
  refine Wc.start (V1 := [(0, .v (ssl (eL eI) s0)), (1, .v (.fn g_f cp_f))]) (by simp) ?_
  refine Wc.seq ?_
  refine Wc.evs (by conv => lhs; simp) ?_
  refine Wo.nil ?_
  refine Wc.seq ?_
  refine Wc.evs (by conv => lhs; simp) ?_
  obtain ⟨o1, h2, h⟩ := bind_some h
  refine Wo.call (by simp) rfl (by (conv => lhs; simp [cx, ioTab]) <;> rfl) (r71 hio_f hp_f h2) (by simp) (by simp) (by (conv => lhs; simp [cx, ioTab]) <;> rfl) (by (conv => lhs; simp) <;> rfl) ?_
  refine Wo.evs (by conv => lhs; simp) ?_
  refine Wo.nil ?_
  refine Wc.ret (res_of (.inr rfl) ?_)
  cases h
  exact ⟨_, _, _, by conv => lhs; simp, by (conv => lhs; simp [cx, ioTab, List.range, List.range.loop]) <;> rfl, by first | rfl | simp⟩
theorem r83_0 {s0 : (List Int)} {v : Int} : ∀ zs zo, iter (f83_0 s0 v) zs = some zo → Wc cx 19 (.loop L83_0) [(0, .v (ssl eI s0)), (1, .v (.int .i64 v)), (7, .v (.int .i64 (s0.length : Int))), (8, .v (.int .i64 zs))] ((QO (QX 0 (fun (y : Unit) => [])) (QR (fun (y : Int) => [(4, .v (.int .i64 y))]))) zo) := by
  intro zs0 zo0 zh0
  refine iter_run (f := (f83_0 s0 v)) (P := fun zs zo => Wc cx 19 (.loop L83_0) [(0, .v (ssl eI s0)), (1, .v (.int .i64 v)), (7, .v (.int .i64 (s0.length : Int))), (8, .v (.int .i64 zs))] ((QO (QX 0 (fun (y : Unit) => [])) (QR (fun (y : Int) => [(4, .v (.int .i64 y))]))) zo)) ?_ zh0
  rintro x_1 zo zr h hk hx
  try dsimp only at hk ⊢
  rw [f83_0] at h
  refine Wc.loop ?_
  refine Wc.seq ?_
  refine Wc.evs (by conv => lhs; simp) ?_
  refine Wo.nil ?_
  refine Wc.seq ?_
  by_cases kc2 : x_1 < (s0.length : Int)
  · rw [if_pos kc2] at h
    refine Wc.condT' (t := _) (by conv => lhs; simp) (by simpa using kc2) ?_
    refine Wc.seq ?_
    refine Wc.kil (by conv => lhs; simp) ?_
    refine Wc.skip ?_
    refine Wc.seq ?_
    refine Wc.block ?_
    refine Wc.seq ?_
    refine Wc.evs (by conv => lhs; simp) ?_
    refine Wo.nil ?_
    refine Wc.seq ?_
    obtain ⟨v_3, h4, h⟩ := bind_some h
    obtain ⟨ga4, gb4, gc4⟩ := ix_some h4
    have gn4 := ix_ne h4
    have gd4 := arr_at (E := eI) (b := false) gc4
    simp at gd4
    refine Wc.evs (by conv => lhs; simp [ga4, gb4, gn4, gd4]) ?_
    refine Wo.nil ?_
    by_cases kc5 : v = v_3
    · rw [if_pos kc5] at h
      refine Wc.condT' (t := _) (by conv => lhs; simp) (by simpa using kc5) ?_
      refine Wc.seq ?_
      refine Wc.kil (by conv => lhs; simp) ?_
      refine Wc.seq ?_
      refine Wc.evs (by conv => lhs; simp) ?_
      refine Wo.nil ?_
      refine Wc.ret ?_
      have e0 := hx _ (Option.some.inj h).symm
      subst e0
      exact ⟨rfl, by first | rfl | simp⟩
    · rw [if_neg kc5] at h
      refine Wc.condF' (t := _) (by conv => lhs; simp) (by simpa using kc5) ?_
      refine Wc.seq ?_
      refine Wc.kil (by conv => lhs; simp) ?_
      refine Wc.skip ?_
      refine Wc.evs (by conv => lhs; simp) ?_
      refine Wo.nil ?_
      refine Wc.start (V1 := [(0, .v (ssl eI s0)), (1, .v (.int .i64 v)), (7, .v (.int .i64 (s0.length : Int))), (8, .v (.int .i64 (w64 (x_1 + 1))))]) ?_ (hk _ (Option.some.inj h).symm)
      first | rfl | simp
  · rw [if_neg kc2] at h
    refine Wc.condF' (t := _) (by conv => lhs; simp) (by simpa using kc2) ?_
    refine Wc.seq ?_
    refine Wc.kil (by conv => lhs; simp) ?_
    refine Wc.exit ?_
    have e0 := hx _ (Option.some.inj h).symm
    subst e0
    exact ⟨rfl, by first | rfl | simp⟩
theorem r83 {s0 : (List Int)} {v : Int} {r : Int} (h : f83 s0 v = some r) : VJx cx (.ca 83 [(ssl eI s0), (.int .i64 v)] (.int .i64 r) []) := by
  unfold f83 at h
  refine ca_of rfl rfl (by decide) rfl ?_
  refine Wc.start (V1 := [(0, .v (ssl eI s0)), (1, .v (.int .i64 v))]) (by simp) ?_
  refine Wc.seq ?_
  refine Wc.evs (by conv => lhs; simp) ?_
  refine Wo.nil ?_
  refine Wc.seq ?_
  refine Wc.seq ?_
  refine Wc.evs (by conv => lhs; simp) ?_
  refine Wo.nil ?_
  refine Wc.block ?_
  obtain ⟨w6, h7, h⟩ := bind_some h
  refine Wc.start (V1 := [(0, .v (ssl eI s0)), (1, .v (.int .i64 v)), (7, .v (.int .i64 (s0.length : Int))), (8, .v (.int .i64 0))]) (by first | rfl | simp) ?_
  refine Wc.mono (r83_0 _ _ h7) ?_
  rcases w6 with ⟨⟩ | x_8
  · rintro ex V ⟨rfl, rfl⟩
    try dsimp only at h
    refine Wc.seq ?_
    refine Wc.evs (by conv => lhs; simp) ?_
    refine Wo.nil ?_
    refine Wc.ret (res_of (.inr rfl) ?_)
    cases h
    exact ⟨_, _, _, by conv => lhs; simp, by (conv => lhs; simp [cx, ioTab, List.range, List.range.loop]) <;> rfl, by first | rfl | simp⟩
  · rintro ex V ⟨rfl, rfl⟩
    try dsimp only at h
    refine res_of (.inr rfl) ?_
    cases h
    exact ⟨_, _, _, by conv => lhs; simp, by (conv => lhs; simp [cx, ioTab, List.range, List.range.loop]) <;> rfl, by first | rfl | simp⟩
theorem r73 {s0 : (List Int)} {v : Int} {r : Bool} (h : f73 s0 v = some r) : VJx cx (.ca 73 [(ssl eI s0), (.int .i64 v)] (.bool r) []) := by
  unfold f73 at h
  refine ca_of rfl rfl (by decide) rfl ?_
  refine Wc.start (V1 := [(0, .v (ssl eI s0)), (1, .v (.int .i64 v))]) (by simp) ?_
  refine Wc.seq ?_
  refine Wc.evs (by conv => lhs; simp) ?_
  refine Wo.nil ?_
  refine Wc.seq ?_
  refine Wc.evs (by conv => lhs; simp) ?_
  obtain ⟨o1, h2, h⟩ := bind_some h
  refine Wo.call (by simp) rfl (by (conv => lhs; simp [cx, ioTab]) <;> rfl) (r83 h2) (by simp) (by simp) (by (conv => lhs; simp [cx, ioTab]) <;> rfl) (by (conv => lhs; simp) <;> rfl) ?_
  refine Wo.evs (by conv => lhs; simp) ?_
  refine Wo.nil ?_
  refine Wc.ret (res_of (.inr rfl) ?_)
  cases h
  exact ⟨_, _, _, by conv => lhs; simp, by (conv => lhs; simp [cx, ioTab, List.range, List.range.loop]) <;> rfl, by first | rfl | simp⟩
theorem r63_0 {n0 : Int} {clause : (List Int)} : ∀ zs zo, iter (f63_0 n0 clause) zs = some zo → Wc cx 40 (.loop L63_0) [(0, .v (.int .i64 n0)), (1, .v (ssl eI clause)), (7, .v (ssl eI clause)), (8, .v (.int .i64 (clause.length : Int))), (9, .v (.int .i64 zs))] ((QO (QX 0 (fun (y : Unit) => [])) (QR (fun (y : Bool) => [(4, .v (.bool y))]))) zo) := by
  intro zs0 zo0 zh0
  refine iter_run (f := (f63_0 n0 clause)) (P := fun zs zo => Wc cx 40 (.loop L63_0) [(0, .v (.int .i64 n0)), (1, .v (ssl eI clause)), (7, .v (ssl eI clause)), (8, .v (.int .i64 (clause.length : Int))), (9, .v (.int .i64 zs))] ((QO (QX 0 (fun (y : Unit) => [])) (QR (fun (y : Bool) => [(4, .v (.bool y))]))) zo)) ?_ zh0
  rintro x_1 zo zr h hk hx
  try dsimp only at hk ⊢
  rw [f63_0] at h
  refine Wc.loop ?_
  refine Wc.seq ?_
  refine Wc.evs (by conv => lhs; simp) ?_
  refine Wo.nil ?_
  refine Wc.seq ?_
  by_cases kc2 : x_1 < (clause.length : Int)
  · rw [if_pos kc2] at h
    refine Wc.condT' (t := _) (by conv => lhs; simp) (by simpa using kc2) ?_
    refine Wc.seq ?_
    refine Wc.kil (by conv => lhs; simp) ?_
    refine Wc.skip ?_
    refine Wc.seq ?_
    refine Wc.block ?_
    refine Wc.seq ?_
    obtain ⟨v_3, h4, h⟩ := bind_some h
    obtain ⟨ga4, gb4, gc4⟩ := ix_some h4
    have gn4 := ix_ne h4
    have gd4 := arr_at (E := eI) (b := false) gc4
    simp at gd4
    refine Wc.evs (by conv => lhs; simp [ga4, gb4, gn4, gd4]) ?_
    refine Wo.nil ?_
    refine Wc.seq ?_
    refine Wc.evk 3 (by conv => lhs; simp) ?_
    obtain ⟨w6, h7, h⟩ := bind_some h
    refine Wo.mono (Q := fun V => V = [(0, .v (.int .i64 n0)), (1, .v (ssl eI clause)), (7, .v (ssl eI clause)), (8, .v (.int .i64 (clause.length : Int))), (9, .v (.int .i64 x_1)), (38, .v (.bool w6))]) ?_ ?_
    · by_cases knh7 : v_3 = 0
      · rw [if_pos knh7] at h7
        refine Wo.gh (vle_co (s := 16) (t1 := .bool true) rfl (by simp) (tle_bool (by simpa using knh7)) (by conv => lhs; simp)) ?_
        refine Wo.evs (by conv => lhs; simp) ?_
        refine Wo.nil ?_
        cases h7
        first | rfl | simp
      · rw [if_neg knh7] at h7
        refine Wo.gh (vle_co (s := 16) (t1 := .bool false) rfl (by simp) (tle_bool (by simpa using knh7)) (by conv => lhs; simp)) ?_
        refine Wo.evs (by conv => lhs; simp) ?_
        obtain ⟨o8, h9, h7⟩ := bind_some h7
        refine Wo.call (by simp) rfl (by (conv => lhs; simp [cx, ioTab]) <;> rfl) (r75 h9) (by simp) (by simp) (by (conv => lhs; simp [cx, ioTab]) <;> rfl) (by (conv => lhs; simp) <;> rfl) ?_
        refine Wo.evk 3 (by conv => lhs; simp) ?_
        obtain ⟨w11, h12, h7⟩ := bind_some h7
        refine Wo.mono (Q := fun V => V = [(0, .v (.int .i64 n0)), (1, .v (ssl eI clause)), (7, .v (ssl eI clause)), (8, .v (.int .i64 (clause.length : Int))), (9, .v (.int .i64 x_1)), (38, .v (.bool w11))]) ?_ ?_
        · by_cases knh12 : ¬ (o8 = true)
          · rw [if_pos knh12] at h12
            refine Wo.gh (vle_co (s := 24) (t1 := .bool true) rfl (by simp) (tle_bool (by simpa using knh12)) (by conv => lhs; simp)) ?_
            refine Wo.evs (by conv => lhs; simp) ?_
            refine Wo.nil ?_
            cases h12
            first | rfl | simp
          · rw [if_neg knh12] at h12
            refine Wo.gh (vle_co (s := 24) (t1 := .bool false) rfl (by simp) (tle_bool (by simpa using knh12)) (by conv => lhs; simp)) ?_
            obtain ⟨l_13, h14, h12⟩ := bind_some h12
            obtain ⟨ga14, gb14, gc14, ge14⟩ := cut_some h14
            simp at ge14
            refine Wo.evs (by conv => lhs; simp [ga14, gb14, gc14, ge14]) ?_
            obtain ⟨o15, h16, h12⟩ := bind_some h12
            refine Wo.call (by simp [ga14, gb14, gc14, ge14]) rfl (by (conv => lhs; simp [ga14, gb14, gc14, ge14, cx, ioTab]) <;> rfl) (r73 h16) (by simp) (by simp) (by (conv => lhs; simp [ga14, gb14, gc14, ge14, cx, ioTab]) <;> rfl) (by (conv => lhs; simp [ga14, gb14, gc14, ge14]) <;> rfl) ?_
            refine Wo.evk 2 (by conv => lhs; simp [ga14, gb14, gc14, ge14]) ?_
            obtain ⟨w18, h19, h12⟩ := bind_some h12
            refine Wo.mono (Q := fun V => V = [(0, .v (.int .i64 n0)), (1, .v (ssl eI clause)), (7, .v (ssl eI clause)), (8, .v (.int .i64 (clause.length : Int))), (9, .v (.int .i64 x_1)), (38, .v (.bool w18))]) ?_ ?_
            · by_cases knh19 : o15 = true
              · rw [if_pos knh19] at h19
                refine Wo.gh (vle_co (s := 31) (t1 := .bool true) rfl (by simp) (tle_bool (by simpa using knh19)) (by conv => lhs; simp)) ?_
                refine Wo.evs (by conv => lhs; simp [ga14, gb14, gc14, ge14]) ?_
                refine Wo.nil ?_
                cases h19
                first | rfl | simp [ga14, gb14, gc14, ge14]
              · rw [if_neg knh19] at h19
                refine Wo.gh (vle_co (s := 31) (t1 := .bool false) rfl (by simp) (tle_bool (by simpa using knh19)) (by conv => lhs; simp)) ?_
                refine Wo.evs (by conv => lhs; simp [ga14, gb14, gc14, ge14]) ?_
                obtain ⟨o20, h21, h19⟩ := bind_some h19
                refine Wo.call (by simp [ga14, gb14, gc14, ge14]) rfl (by (conv => lhs; simp [ga14, gb14, gc14, ge14, cx, ioTab]) <;> rfl) (r73 h21) (by simp) (by simp) (by (conv => lhs; simp [ga14, gb14, gc14, ge14, cx, ioTab]) <;> rfl) (by (conv => lhs; simp [ga14, gb14, gc14, ge14]) <;> rfl) ?_
                refine Wo.evs (by conv => lhs; simp [ga14, gb14, gc14, ge14]) ?_
                refine Wo.nil ?_
                cases h19
                first | rfl | simp [ga14, gb14, gc14, ge14]
            · rintro V rfl
              generalize w18 = x_17 at *
              try dsimp only at h12
              cases h12
              first | rfl | simp [ga14, gb14, gc14, ge14]
        · rintro V rfl
          generalize w11 = x_10 at *
          try dsimp only at h7
          cases h7
          first | rfl | simp
    · rintro V rfl
      generalize w6 = x_5 at *
      try dsimp only at h
      by_cases kc22 : x_5 = true
      · rw [if_pos kc22] at h
        refine Wc.condT' (t := _) (by conv => lhs; simp) (by simpa using kc22) ?_
        refine Wc.seq ?_
        refine Wc.kil (by conv => lhs; simp) ?_
        refine Wc.seq ?_
        refine Wc.evs (by conv => lhs; simp) ?_
        refine Wo.nil ?_
        refine Wc.ret ?_
        have e0 := hx _ (Option.some.inj h).symm
        subst e0
        exact ⟨rfl, by first | rfl | simp⟩
      · rw [if_neg kc22] at h
        refine Wc.condF' (t := _) (by conv => lhs; simp) (by simpa using kc22) ?_
        refine Wc.seq ?_
        refine Wc.kil (by conv => lhs; simp) ?_
        refine Wc.skip ?_
        refine Wc.evs (by conv => lhs; simp) ?_
        refine Wo.nil ?_
        refine Wc.start (V1 := [(0, .v (.int .i64 n0)), (1, .v (ssl eI clause)), (7, .v (ssl eI clause)), (8, .v (.int .i64 (clause.length : Int))), (9, .v (.int .i64 (w64 (x_1 + 1))))]) ?_ (hk _ (Option.some.inj h).symm)
        first | rfl | simp
  · rw [if_neg kc2] at h
    refine Wc.condF' (t := _) (by conv => lhs; simp) (by simpa using kc2) ?_
    refine Wc.seq ?_
    refine Wc.kil (by conv => lhs; simp) ?_
    refine Wc.exit ?_
    have e0 := hx _ (Option.some.inj h).symm
    subst e0
    exact ⟨rfl, by first | rfl | simp⟩
theorem r63 {n0 : Int} {clause : (List Int)} {r : Bool} (h : f63 n0 clause = some r) : VJx cx (.ca 63 [(.int .i64 n0), (ssl eI clause)] (.bool r) []) := by
  unfold f63 at h
  refine ca_of rfl rfl (by decide) rfl ?_
  refine Wc.start (V1 := [(0, .v (.int .i64 n0)), (1, .v (ssl eI clause))]) (by simp) ?_
  refine Wc.seq ?_
  refine Wc.evs (by conv => lhs; simp) ?_
  refine Wo.nil ?_
  refine Wc.seq ?_
  refine Wc.seq ?_
  refine Wc.evs (by conv => lhs; simp) ?_
  refine Wo.nil ?_
  refine Wc.block ?_
  obtain ⟨w23, h24, h⟩ := bind_some h
  refine Wc.start (V1 := [(0, .v (.int .i64 n0)), (1, .v (ssl eI clause)), (7, .v (ssl eI clause)), (8, .v (.int .i64 (clause.length : Int))), (9, .v (.int .i64 0))]) (by first | rfl | simp) ?_
  refine Wc.mono (r63_0 _ _ h24) ?_
  rcases w23 with ⟨⟩ | x_25
  · rintro ex V ⟨rfl, rfl⟩
    try dsimp only at h
    refine Wc.seq ?_
    refine Wc.evs (by conv => lhs; simp) ?_
    refine Wo.nil ?_
    refine Wc.ret (res_of (.inr rfl) ?_)
    cases h
    exact ⟨_, _, _, by conv => lhs; simp, by (conv => lhs; simp [cx, ioTab, List.range, List.range.loop]) <;> rfl, by first | rfl | simp⟩
  · rintro ex V ⟨rfl, rfl⟩
    try dsimp only at h
    refine res_of (.inr rfl) ?_
    cases h
    exact ⟨_, _, _, by conv => lhs; simp, by (conv => lhs; simp [cx, ioTab, List.range, List.range.loop]) <;> rfl, by first | rfl | simp⟩
theorem r76 {clause : (List Int)} {c : Int} {r : Bool} (h : f76 clause c = some r) : VJx cx (.ca 76 [(ssl eI clause), (.ptr false [(.int .i64 c)])] (.bool r) []) := by
  unfold f76 at h
  refine ca_of rfl rfl (by decide) rfl ?_
  refine Wc.start (V1 := [(0, .v (ssl eI clause)), (1, .v (.ptr false [(.int .i64 c)]))]) (by simp) ?_
  refine Wc.seq ?_
  refine Wc.evs (by conv => lhs; simp) ?_
  refine Wo.nil ?_
  refine Wc.seq ?_
  refine Wc.evs (by conv => lhs; simp) ?_
  obtain ⟨o1, h2, h⟩ := bind_some h
  refine Wo.call (by simp) rfl (by (conv => lhs; simp [cx, ioTab]) <;> rfl) (r63 h2) (by simp) (by simp) (by (conv => lhs; simp [cx, ioTab]) <;> rfl) (by (conv => lhs; simp) <;> rfl) ?_
  refine Wo.evs (by conv => lhs; simp) ?_
  refine Wo.nil ?_
  refine Wc.ret (res_of (.inr rfl) ?_)
  cases h
  exact ⟨_, _, _, by conv => lhs; simp, by (conv => lhs; simp [cx, ioTab, List.range, List.range.loop]) <;> rfl, by first | rfl | simp⟩
theorem r62 {n0 : Int} {clauses : (List (List Int))} {r : Bool} (h : f62 n0 clauses = some r) : VJx cx (.ca 62 [(.int .i64 n0), (ssl (eL eI) clauses)] (.bool r) []) := by
  unfold f62 at h
  refine ca_of rfl rfl (by decide) rfl ?_
  refine Wc.start (V1 := [(0, .v (.int .i64 n0)), (1, .v (ssl (eL eI) clauses))]) (by simp) ?_
  refine Wc.seq ?_
  refine Wc.evs (by conv => lhs; simp) ?_
  refine Wo.nil ?_
  refine Wc.seq ?_
  refine Wc.evs (by conv => lhs; simp) ?_
  obtain ⟨o1, h2, h⟩ := bind_some h
  refine Wo.call (by simp) rfl (by (conv => lhs; simp [cx, ioTab]) <;> rfl) (r75 h2) (by simp) (by simp) (by (conv => lhs; simp [cx, ioTab]) <;> rfl) (by (conv => lhs; simp) <;> rfl) ?_
  refine Wo.evk 1 (by conv => lhs; simp) ?_
  obtain ⟨w4, h5, h⟩ := bind_some h
  refine Wo.mono (Q := fun V => V = [(4, .v (.bool w4))]) ?_ ?_
  · by_cases knh5 : o1 = true
    · rw [if_pos knh5] at h5
      refine Wo.gh (vle_co (s := 7) (t1 := .bool true) rfl (by simp) (tle_bool (by simpa using knh5)) (by conv => lhs; simp)) ?_
      refine Wo.evs (by conv => lhs; simp) ?_
      obtain ⟨o6, h7, h5⟩ := bind_some h5
      refine Wo.call (by simp) rfl (by (conv => lhs; simp [cx, ioTab]) <;> rfl) (r53 (g_f := 76) (cp_f := [(.ptr false [(.int .i64 n0)])]) rfl (fun x0 o h => r76 h) h7) (by simp) (by simp) (by (conv => lhs; simp [cx, ioTab]) <;> rfl) (by (conv => lhs; simp) <;> rfl) ?_
      refine Wo.evs (by conv => lhs; simp) ?_
      refine Wo.nil ?_
      cases h5
      first | rfl | simp
    · rw [if_neg knh5] at h5
      refine Wo.gh (vle_co (s := 7) (t1 := .bool false) rfl (by simp) (tle_bool (by simpa using knh5)) (by conv => lhs; simp)) ?_
      refine Wo.evs (by conv => lhs; simp) ?_
      refine Wo.nil ?_
      cases h5
      first | rfl | simp
  · rintro V rfl
    generalize w4 = x_3 at *
    try dsimp only at h
    refine Wc.ret (res_of (.inr rfl) ?_)
    cases h
    exact ⟨_, _, _, by conv => lhs; simp, by (conv => lhs; simp [cx, ioTab, List.range, List.range.loop]) <;> rfl, by first | rfl | simp⟩
theorem r34 {n0 : Int} {clauses : (List (List Int))} {r : Bool} (h : f34 n0 clauses = some r) : VJx cx (.ca 34 [(.int .i64 n0), (ssl (eL eI) clauses)] (.bool r) []) := by
  unfold f34 at h
  refine ca_of rfl rfl (by decide) rfl ?_
  refine Wc.start (V1 := [(0, .v (.int .i64 n0)), (1, .v (ssl (eL eI) clauses))]) (by simp) ?_
  refine Wc.seq ?_
  refine Wc.evs (by conv => lhs; simp) ?_
  refine Wo.nil ?_
  refine Wc.seq ?_
  refine Wc.evk 4 (by conv => lhs; simp) ?_
  obtain ⟨w2, h3, h⟩ := bind_some h
  refine Wo.mono (Q := fun V => V = [(4, .v (.bool w2))]) ?_ ?_
  · by_cases knh3 : (clauses.length : Int) ≤ 400
    · rw [if_pos knh3] at h3
      refine Wo.gh (vle_co (s := 8) (t1 := .bool true) rfl (by simp) (tle_bool (by simpa using knh3)) (by conv => lhs; simp)) ?_
      refine Wo.evs (by conv => lhs; simp) ?_
      obtain ⟨o4, h5, h3⟩ := bind_some h3
      refine Wo.call (by simp) rfl (by (conv => lhs; simp [cx, ioTab]) <;> rfl) (r62 h5) (by simp) (by simp) (by (conv => lhs; simp [cx, ioTab]) <;> rfl) (by (conv => lhs; simp) <;> rfl) ?_
      refine Wo.evs (by conv => lhs; simp) ?_
      refine Wo.nil ?_
      cases h3
      first | rfl | simp
    · rw [if_neg knh3] at h3
      refine Wo.gh (vle_co (s := 8) (t1 := .bool false) rfl (by simp) (tle_bool (by simpa using knh3)) (by conv => lhs; simp)) ?_
      refine Wo.evs (by conv => lhs; simp) ?_
      refine Wo.nil ?_
      cases h3
      first | rfl | simp
  · rintro V rfl
    generalize w2 = x_1 at *
    try dsimp only at h
    refine Wc.ret (res_of (.inr rfl) ?_)
    cases h
    exact ⟨_, _, _, by conv => lhs; simp, by (conv => lhs; simp [cx, ioTab, List.range, List.range.loop]) <;> rfl, by first | rfl | simp⟩
theorem r17_0 {literals : (List Int)} : ∀ zs zo, iter (f17_0 literals) zs = some zo → Wc cx 20 (.loop L17_0) [(3, .v (osl eI true zs.1)), (7, .v (ssl eI literals)), (8, .v (.int .i64 (literals.length : Int))), (9, .v (.int .i64 zs.2))] ((QX 0 (fun (y : (List Int)) => [(3, .v (osl eI true y))])) zo) := by
  intro zs0 zo0 zh0
  refine iter_run (f := (f17_0 literals)) (P := fun zs zo => Wc cx 20 (.loop L17_0) [(3, .v (osl eI true zs.1)), (7, .v (ssl eI literals)), (8, .v (.int .i64 (literals.length : Int))), (9, .v (.int .i64 zs.2))] ((QX 0 (fun (y : (List Int)) => [(3, .v (osl eI true y))])) zo)) ?_ zh0
  rintro ⟨out_1, x_2⟩ zo zr h hk hx
  try dsimp only at hk ⊢
  rw [f17_0] at h
  refine Wc.loop ?_
  refine Wc.seq ?_
  refine Wc.evs (by conv => lhs; simp) ?_
  refine Wo.nil ?_
  refine Wc.seq ?_
  by_cases kc3 : x_2 < (literals.length : Int)
  · rw [if_pos kc3] at h
    refine Wc.condT' (t := _) (by conv => lhs; simp) (by simpa using kc3) ?_
    refine Wc.seq ?_
    refine Wc.kil (by conv => lhs; simp) ?_
    refine Wc.skip ?_
    refine Wc.seq ?_
    refine Wc.block ?_
    refine Wc.seq ?_
    obtain ⟨v_4, h5, h⟩ := bind_some h
    obtain ⟨ga5, gb5, gc5⟩ := ix_some h5
    have gn5 := ix_ne h5
    have gd5 := arr_at (E := eI) (b := false) gc5
    simp at gd5
    refine Wc.evs (by conv => lhs; simp [ga5, gb5, gn5, gd5]) ?_
    refine Wo.nil ?_
    obtain ⟨l_6, h7, h⟩ := bind_some h
    have gx7 := appT_arr (E := eI) (b := true) (y := true) h7 (by decide)
    simp at gx7
    refine Wc.evs (by conv => lhs; simp [gx7]) ?_
    refine Wo.nil ?_
    refine Wc.evs (by conv => lhs; simp) ?_
    refine Wo.nil ?_
    refine Wc.start (V1 := [(3, .v (osl eI true l_6)), (7, .v (ssl eI literals)), (8, .v (.int .i64 (literals.length : Int))), (9, .v (.int .i64 (w64 (x_2 + 1))))]) ?_ (hk _ (Option.some.inj h).symm)
    first | rfl | simp
  · rw [if_neg kc3] at h
    refine Wc.condF' (t := _) (by conv => lhs; simp) (by simpa using kc3) ?_
    refine Wc.seq ?_
    refine Wc.kil (by conv => lhs; simp) ?_
    refine Wc.exit ?_
    have e0 := hx _ (Option.some.inj h).symm
    subst e0
    exact ⟨rfl, by first | rfl | simp⟩
theorem r17 {literals : (List Int)} {r : (List Int)} (h : f17 literals = some r) : VJx cx (.ca 17 [(ssl eI literals)] (osl eI true r) []) := by
  unfold f17 at h
  refine ca_of rfl rfl (by decide) rfl ?_
  refine Wc.start (V1 := [(0, .v (ssl eI literals))]) (by simp) ?_
  refine Wc.seq ?_
  refine Wc.evs (by conv => lhs; simp) ?_
  refine Wo.nil ?_
  refine Wc.seq ?_
  refine Wc.evs (by conv => lhs; simp) ?_
  refine Wo.gh (vle_co (s := 3) (t1 := (osl eI true ([]))) rfl (by simp) (TLe.own (show TLes _ [] from (TLes.refl _)) rfl) (by conv => lhs; simp)) ?_
  refine Wo.nil ?_
  refine Wc.seq ?_
  refine Wc.seq ?_
  refine Wc.evs (by conv => lhs; simp) ?_
  refine Wo.nil ?_
  refine Wc.block ?_
  obtain ⟨w8, h9, h⟩ := bind_some h
  refine Wc.start (V1 := [(3, .v (osl eI true ([]))), (7, .v (ssl eI literals)), (8, .v (.int .i64 (literals.length : Int))), (9, .v (.int .i64 0))]) (by first | rfl | simp) ?_
  refine Wc.mono (r17_0 _ _ h9) ?_
  generalize w8 = out_10 at *
  rintro ex V ⟨rfl, rfl⟩
  try dsimp only at h
  refine Wc.seq ?_
  refine Wc.evs (by conv => lhs; simp) ?_
  refine Wo.nil ?_
  refine Wc.ret (res_of (.inr rfl) ?_)
  cases h
  exact ⟨_, _, _, by conv => lhs; simp, by (conv => lhs; simp [cx, ioTab, List.range, List.range.loop]) <;> rfl, by first | rfl | simp⟩
theorem r74_0 {g_f : Nat} {cp_f : List T} {f : Int → Option Bool} (hio_f : cx.io g_f = []) (hp_f : ∀ x0 o, f x0 = some o → VJx cx (.ca g_f ([(.int .i64 x0)] ++ cp_f) (.bool o) [])) {s0 : (List Int)} : ∀ zs zo, iter (f74_0 s0 f) zs = some zo → Wc cx 19 (.loop L74_0) [(0, .v (ssl eI s0)), (1, .v (.fn g_f cp_f)), (7, .v (.int .i64 (s0.length : Int))), (8, .v (.int .i64 zs))] ((QO (QX 0 (fun (y : Unit) => [])) (QR (fun (y : Int) => [(4, .v (.int .i64 y))]))) zo) := by
  intro zs0 zo0 zh0
  refine iter_run (f := (f74_0 s0 f)) (P := fun zs zo => Wc cx 19 (.loop L74_0) [(0, .v (ssl eI s0)), (1, .v (.fn g_f cp_f)), (7, .v (.int .i64 (s0.length : Int))), (8, .v (.int .i64 zs))] ((QO (QX 0 (fun (y : Unit) => [])) (QR (fun (y : Int) => [(4, .v (.int .i64 y))]))) zo)) ?_ zh0
  rintro x_1 zo zr h hk hx
  try dsimp only at hk ⊢
  rw [f74_0] at h
  refine Wc.loop ?_
  refine Wc.seq ?_
  refine Wc.evs (by conv => lhs; simp) ?_
  refine Wo.nil ?_
  refine Wc.seq ?_
  by_cases kc2 : x_1 < (s0.length : Int)
  · rw [if_pos kc2] at h
    refine Wc.condT' (t := _) (by conv => lhs; simp) (by simpa using kc2) ?_
    refine Wc.seq ?_
    refine Wc.kil (by conv => lhs; simp) ?_
    refine Wc.skip ?_
    refine Wc.seq ?_
    refine Wc.block ?_
    refine Wc.seq ?_
    refine Wc.evs (by conv => lhs; simp) ?_
    refine Wo.nil ?_
    refine Wc.seq ?_
    obtain ⟨v_3, h4, h⟩ := bind_some h
    obtain ⟨ga4, gb4, gc4⟩ := ix_some h4
    have gn4 := ix_ne h4
    have gd4 := arr_at (E := eI) (b := false) gc4
    simp at gd4
    refine Wc.evs (by conv => lhs; simp [ga4, gb4, gn4, gd4]) ?_
    obtain ⟨o5, h6, h⟩ := bind_some h
    refine Wo.call rfl rfl (by (conv => lhs; simp [ga4, gb4, gn4, gd4, hio_f]) <;> rfl) (hp_f v_3 _ h6) (by simp) (by simp) (by (conv => lhs; simp [ga4, gb4, gn4, gd4, hio_f]) <;> rfl) (by (conv => lhs; simp [ga4, gb4, gn4, gd4]) <;> rfl) ?_
    refine Wo.nil ?_
    by_cases kc7 : o5 = true
    · rw [if_pos kc7] at h
      refine Wc.condT' (t := _) (by conv => lhs; simp) (by simpa using kc7) ?_
      refine Wc.seq ?_
      refine Wc.kil (by conv => lhs; simp) ?_
      refine Wc.seq ?_
      refine Wc.evs (by conv => lhs; simp) ?_
      refine Wo.nil ?_
      refine Wc.ret ?_
      have e0 := hx _ (Option.some.inj h).symm
      subst e0
      exact ⟨rfl, by first | rfl | simp⟩
    · rw [if_neg kc7] at h
      refine Wc.condF' (t := _) (by conv => lhs; simp) (by simpa using kc7) ?_
      refine Wc.seq ?_
      refine Wc.kil (by conv => lhs; simp) ?_
      refine Wc.skip ?_
      refine Wc.evs (by conv => lhs; simp) ?_
      refine Wo.nil ?_
      refine Wc.start (V1 := [(0, .v (ssl eI s0)), (1, .v (.fn g_f cp_f)), (7, .v (.int .i64 (s0.length : Int))), (8, .v (.int .i64 (w64 (x_1 + 1))))]) ?_ (hk _ (Option.some.inj h).symm)
      first | rfl | simp
  · rw [if_neg kc2] at h
    refine Wc.condF' (t := _) (by conv => lhs; simp) (by simpa using kc2) ?_
    refine Wc.seq ?_
    refine Wc.kil (by conv => lhs; simp) ?_
    refine Wc.exit ?_
    have e0 := hx _ (Option.some.inj h).symm
    subst e0
    exact ⟨rfl, by first | rfl | simp⟩
theorem r74 {s0 : (List Int)} {g_f : Nat} {cp_f : List T} {f : Int → Option Bool} (hio_f : cx.io g_f = []) (hp_f : ∀ x0 o, f x0 = some o → VJx cx (.ca g_f ([(.int .i64 x0)] ++ cp_f) (.bool o) [])) {r : Int} (h : f74 s0 f = some r) : VJx cx (.ca 74 [(ssl eI s0), (.fn g_f cp_f)] (.int .i64 r) []) := by
  unfold f74 at h
  refine ca_of rfl rfl (by decide) rfl ?_
  refine Wc.start (V1 := [(0, .v (ssl eI s0)), (1, .v (.fn g_f cp_f))]) (by simp) ?_
  refine Wc.seq ?_
  refine Wc.evs (by conv => lhs; simp) ?_
  refine Wo.nil ?_
  refine Wc.seq ?_
  refine Wc.seq ?_
  refine Wc.evs (by conv => lhs; simp) ?_
  refine Wo.nil ?_
  refine Wc.block ?_
  obtain ⟨w8, h9, h⟩ := bind_some h
  refine Wc.start (V1 := [(0, .v (ssl eI s0)), (1, .v (.fn g_f cp_f)), (7, .v (.int .i64 (s0.length : Int))), (8, .v (.int .i64 0))]) (by first | rfl | simp) ?_
  refine Wc.mono (r74_0 hio_f hp_f _ _ h9) ?_
  rcases w8 with ⟨⟩ | x_10
  · rintro ex V ⟨rfl, rfl⟩
    try dsimp only at h
    refine Wc.seq ?_
    refine Wc.evs (by conv => lhs; simp) ?_
    refine Wo.nil ?_
    refine Wc.ret (res_of (.inr rfl) ?_)
    cases h
    exact ⟨_, _, _, by conv => lhs; simp, by (conv => lhs; simp [cx, ioTab, List.range, List.range.loop]) <;> rfl, by first | rfl | simp⟩
  · rintro ex V ⟨rfl, rfl⟩
    try dsimp only at h
    refine res_of (.inr rfl) ?_
    cases h
    exact ⟨_, _, _, by conv => lhs; simp, by (conv => lhs; simp [cx, ioTab, List.range, List.range.loop]) <;> rfl, by first | rfl | simp⟩
theorem r57 {s0 : (List Int)} {g_f : Nat} {cp_f : List T} {f : Int → Option Bool} (hio_f : cx.io g_f = []) (hp_f : ∀ x0 o, f x0 = some o → VJx cx (.ca g_f ([(.int .i64 x0)] ++ cp_f) (.bool o) [])) {r : Bool} (h : f57 s0 f = some r) : VJx cx (.ca 57 [(ssl eI s0), (.fn g_f cp_f)] (.bool r) []) := by
  unfold f57 at h
  refine ca_of rfl rfl (by decide) rfl ?_
  refine Wc.start (V1 := [(0, .v (ssl eI s0)), (1, .v (.fn g_f cp_f))]) (by simp) ?_
  refine Wc.seq ?_
  refine Wc.evs (by conv => lhs; simp) ?_
  refine Wo.nil ?_
  refine Wc.seq ?_
  refine Wc.evs (by conv => lhs; simp) ?_
  obtain ⟨o1, h2, h⟩ := bind_some h
  refine Wo.call (by simp) rfl (by (conv => lhs; simp [cx, ioTab]) <;> rfl) (r74 hio_f hp_f h2) (by simp) (by simp) (by (conv => lhs; simp [cx, ioTab]) <;> rfl) (by (conv => lhs; simp) <;> rfl) ?_
  refine Wo.evs (by conv => lhs; simp) ?_
  refine Wo.nil ?_
  refine Wc.ret (res_of (.inr rfl) ?_)
  cases h
  exact ⟨_, _, _, by conv => lhs; simp, by (conv => lhs; simp [cx, ioTab, List.range, List.range.loop]) <;> rfl, by first | rfl | simp⟩
theorem r77 {x : Int} {c : (List Int)} {r : Bool} (h : f77 x c = some r) : VJx cx (.ca 77 [(.int .i64 x), (.ptr false [(ssl eI c)])] (.bool r) []) := by
  unfold f77 at h
  refine ca_of rfl rfl (by decide) rfl ?_
  refine Wc.start (V1 := [(0, .v (.int .i64 x)), (1, .v (.ptr false [(ssl eI c)]))]) (by simp) ?_
  refine Wc.seq ?_
  refine Wc.evs (by conv => lhs; simp) ?_
  refine Wo.nil ?_
  refine Wc.seq ?_
  refine Wc.evs (by conv => lhs; simp) ?_
  obtain ⟨o1, h2, h⟩ := bind_some h
  refine Wo.call (by simp) rfl (by (conv => lhs; simp [cx, ioTab]) <;> rfl) (r73 h2) (by simp) (by simp) (by (conv => lhs; simp [cx, ioTab]) <;> rfl) (by (conv => lhs; simp) <;> rfl) ?_
  refine Wo.evs (by conv => lhs; simp) ?_
  refine Wo.nil ?_
  refine Wc.ret (res_of (.inr rfl) ?_)
  cases h
  exact ⟨_, _, _, by conv => lhs; simp, by (conv => lhs; simp [cx, ioTab, List.range, List.range.loop]) <;> rfl, by first | rfl | simp⟩
theorem r78_0 {a : (List Int)} {b : (List Int)} : ∀ zs zo, iter (f78_0 a b) zs = some zo → Wc cx 25 (.loop L78_0) [(1, .v (ssl eI b)), (5, .v (osl eI true zs.1)), (9, .v (ssl eI a)), (10, .v (.int .i64 (a.length : Int))), (11, .v (.int .i64 zs.2))] ((QX 0 (fun (y : (List Int)) => [(5, .v (osl eI true y))])) zo) := by
  intro zs0 zo0 zh0
  refine iter_run (f := (f78_0 a b)) (P := fun zs zo => Wc cx 25 (.loop L78_0) [(1, .v (ssl eI b)), (5, .v (osl eI true zs.1)), (9, .v (ssl eI a)), (10, .v (.int .i64 (a.length : Int))), (11, .v (.int .i64 zs.2))] ((QX 0 (fun (y : (List Int)) => [(5, .v (osl eI true y))])) zo)) ?_ zh0
  rintro ⟨out_1, x_2⟩ zo zr h hk hx
  try dsimp only at hk ⊢
  rw [f78_0] at h
  refine Wc.loop ?_
  refine Wc.seq ?_
  refine Wc.evs (by conv => lhs; simp) ?_
  refine Wo.nil ?_
  refine Wc.seq ?_
  by_cases kc3 : x_2 < (a.length : Int)
  · rw [if_pos kc3] at h
    refine Wc.condT' (t := _) (by conv => lhs; simp) (by simpa using kc3) ?_
    refine Wc.seq ?_
    refine Wc.kil (by conv => lhs; simp) ?_
    refine Wc.skip ?_
    refine Wc.seq ?_
    refine Wc.block ?_
    refine Wc.seq ?_
    obtain ⟨v_4, h5, h⟩ := bind_some h
    obtain ⟨ga5, gb5, gc5⟩ := ix_some h5
    have gn5 := ix_ne h5
    have gd5 := arr_at (E := eI) (b := false) gc5
    simp at gd5
    refine Wc.evs (by conv => lhs; simp [ga5, gb5, gn5, gd5]) ?_
    refine Wo.nil ?_
    refine Wc.seq ?_
    refine Wc.evs (by conv => lhs; simp) ?_
    obtain ⟨o6, h7, h⟩ := bind_some h
    refine Wo.call (by simp) rfl (by (conv => lhs; simp [cx, ioTab]) <;> rfl) (r73 h7) (by simp) (by simp) (by (conv => lhs; simp [cx, ioTab]) <;> rfl) (by (conv => lhs; simp) <;> rfl) ?_
    refine Wo.evs (by conv => lhs; simp) ?_
    refine Wo.nil ?_
    obtain ⟨w8, h9, h⟩ := bind_some h
    refine Wc.mono (Q := (QN (fun (y : (List Int)) => [(1, .v (ssl eI b)), (5, .v (osl eI true y)), (9, .v (ssl eI a)), (10, .v (.int .i64 (a.length : Int))), (11, .v (.int .i64 x_2))])) w8) ?_ ?_
    · skip
      by_cases kc10 : ¬ (o6 = true)
      · rw [if_pos kc10] at h9
        refine Wc.condT' (t := _) (by conv => lhs; simp) (by simpa using kc10) ?_
        refine Wc.seq ?_
        refine Wc.kil (by conv => lhs; simp) ?_
        obtain ⟨l_11, h12, h9⟩ := bind_some h9
        have gx12 := appT_arr (E := eI) (b := true) (y := true) h12 (by decide)
        simp at gx12
        refine Wc.evs (by conv => lhs; simp [gx12]) ?_
        refine Wo.nil ?_
        cases h9
        exact ⟨rfl, by first | rfl | simp [gx12]⟩
      · rw [if_neg kc10] at h9
        refine Wc.condF' (t := _) (by conv => lhs; simp) (by simpa using kc10) ?_
        refine Wc.seq ?_
        refine Wc.kil (by conv => lhs; simp) ?_
        refine Wc.skip ?_
        cases h9
        exact ⟨rfl, by first | rfl | simp⟩
    · skip
      generalize w8 = out_13 at *
      rintro ex V ⟨rfl, rfl⟩
      try dsimp only at h
      refine Wc.evs (by conv => lhs; simp) ?_
      refine Wo.nil ?_
      refine Wc.start (V1 := [(1, .v (ssl eI b)), (5, .v (osl eI true out_13)), (9, .v (ssl eI a)), (10, .v (.int .i64 (a.length : Int))), (11, .v (.int .i64 (w64 (x_2 + 1))))]) ?_ (hk _ (Option.some.inj h).symm)
      first | rfl | simp
  · rw [if_neg kc3] at h
    refine Wc.condF' (t := _) (by conv => lhs; simp) (by simpa using kc3) ?_
    refine Wc.seq ?_
    refine Wc.kil (by conv => lhs; simp) ?_
    refine Wc.exit ?_
    have e0 := hx _ (Option.some.inj h).symm
    subst e0
    exact ⟨rfl, by first | rfl | simp⟩
theorem r78 {a : (List Int)} {b : (List Int)} {r : (List Int)} (h : f78 a b = some r) : VJx cx (.ca 78 [(ssl eI a), (ssl eI b)] (osl eI true r) []) := by
  unfold f78 at h
  refine ca_of rfl rfl (by decide) rfl ?_
  refine Wc.start (V1 := [(0, .v (ssl eI a)), (1, .v (ssl eI b))]) (by simp) ?_
  refine Wc.seq ?_
  refine Wc.evs (by conv => lhs; simp) ?_
  refine Wo.nil ?_
  refine Wc.seq ?_
  refine Wc.evs (by conv => lhs; simp) ?_
  refine Wo.gh (vle_co (s := 5) (t1 := (osl eI true ([]))) rfl (by simp) (TLe.own (show TLes _ [] from (TLes.refl _)) rfl) (by conv => lhs; simp)) ?_
  refine Wo.nil ?_
  refine Wc.seq ?_
  refine Wc.seq ?_
  refine Wc.evs (by conv => lhs; simp) ?_
  refine Wo.nil ?_
  refine Wc.block ?_
  obtain ⟨w14, h15, h⟩ := bind_some h
  refine Wc.start (V1 := [(1, .v (ssl eI b)), (5, .v (osl eI true ([]))), (9, .v (ssl eI a)), (10, .v (.int .i64 (a.length : Int))), (11, .v (.int .i64 0))]) (by first | rfl | simp) ?_
  refine Wc.mono (r78_0 _ _ h15) ?_
  generalize w14 = out_16 at *
  rintro ex V ⟨rfl, rfl⟩
  try dsimp only at h
  refine Wc.seq ?_
  refine Wc.evs (by conv => lhs; simp) ?_
  refine Wo.nil ?_
  refine Wc.ret (res_of (.inr rfl) ?_)
  cases h
  exact ⟨_, _, _, by conv => lhs; simp, by (conv => lhs; simp [cx, ioTab, List.range, List.range.loop]) <;> rfl, by first | rfl | simp⟩
theorem r64_1 {clauses : (List (List Int))} {out_3 : (List Int)} : ∀ zs zo, iter (f64_1 clauses out_3) zs = some zo → Wc cx 44 (.loop L64_1) [(0, .v (ssl (eL eI) clauses)), (6, .v (.ptr true [(osl eI true out_3)])), (7, .v (.bool false)), (14, .v (ssl (eL eI) clauses)), (15, .v (.int .i64 (clauses.length : Int))), (16, .v (.int .i64 zs))] ((QO (QX 2 (fun (y : (List Int) × Bool) => [(0, .v (ssl (eL eI) clauses)), (6, .v (.ptr true [(osl eI true y.1)])), (7, .v (.bool y.2))])) (QR (fun (y : (List Int) × Bool) => [(4, .v (osl eI true y.1)), (5, .v (.bool y.2)), (6, .v (.ptr true [.und]))]))) zo) := by
  intro zs0 zo0 zh0
  refine iter_run (f := (f64_1 clauses out_3)) (P := fun zs zo => Wc cx 44 (.loop L64_1) [(0, .v (ssl (eL eI) clauses)), (6, .v (.ptr true [(osl eI true out_3)])), (7, .v (.bool false)), (14, .v (ssl (eL eI) clauses)), (15, .v (.int .i64 (clauses.length : Int))), (16, .v (.int .i64 zs))] ((QO (QX 2 (fun (y : (List Int) × Bool) => [(0, .v (ssl (eL eI) clauses)), (6, .v (.ptr true [(osl eI true y.1)])), (7, .v (.bool y.2))])) (QR (fun (y : (List Int) × Bool) => [(4, .v (osl eI true y.1)), (5, .v (.bool y.2)), (6, .v (.ptr true [.und]))]))) zo)) ?_ zh0
  rintro x_4 zo zr h hk hx
  try dsimp only at hk ⊢
  rw [f64_1] at h
  refine Wc.loop ?_
  refine Wc.seq ?_
  refine Wc.evs (by conv => lhs; simp) ?_
  refine Wo.nil ?_
  refine Wc.seq ?_
  by_cases kc5 : x_4 < (clauses.length : Int)
  · rw [if_pos kc5] at h
    refine Wc.condT' (t := _) (by conv => lhs; simp) (by simpa using kc5) ?_
    refine Wc.seq ?_
    refine Wc.kil (by conv => lhs; simp) ?_
    refine Wc.skip ?_
    refine Wc.seq ?_
    obtain ⟨w6, h7, h⟩ := bind_some h
    refine Wc.mono (Q := (QO (QN (fun (y : Unit) => [(0, .v (ssl (eL eI) clauses)), (6, .v (.ptr true [(osl eI true out_3)])), (7, .v (.bool false)), (14, .v (ssl (eL eI) clauses)), (15, .v (.int .i64 (clauses.length : Int))), (16, .v (.int .i64 x_4))])) (QO (QX 2 (fun (y : (List Int) × Bool) => [(0, .v (ssl (eL eI) clauses)), (6, .v (.ptr true [(osl eI true y.1)])), (7, .v (.bool y.2))])) (QR (fun (y : (List Int) × Bool) => [(4, .v (osl eI true y.1)), (5, .v (.bool y.2)), (6, .v (.ptr true [.und]))])))) w6) ?_ ?_
    · skip
      refine Wc.block ?_
      refine Wc.seq ?_
      obtain ⟨v_8, h9, h7⟩ := bind_some h7
      obtain ⟨ga9, gb9, gc9⟩ := ix_some h9
      have gn9 := ix_ne h9
      have gd9 := arr_at (E := (eL eI)) (b := false) gc9
      simp at gd9
      refine Wc.evs (by conv => lhs; simp [ga9, gb9, gn9, gd9]) ?_
      refine Wo.nil ?_
      refine Wc.seq ?_
      refine Wc.seq ?_
      refine Wc.evs (by conv => lhs; simp) ?_
      obtain ⟨o10, h11, h7⟩ := bind_some h7
      refine Wo.call (by simp) rfl (by (conv => lhs; simp [cx, ioTab]) <;> rfl) (r57 (g_f := 77) (cp_f := [(.ptr false [(ssl eI out_3)])]) rfl (fun x0 o h => r77 h) h11) (by simp) (by simp) (by (conv => lhs; simp [cx, ioTab]) <;> rfl) (by (conv => lhs; simp) <;> rfl) ?_
      refine Wo.nil ?_
      by_cases kc12 : o10 = true
      · rw [if_pos kc12] at h7
        refine Wc.condT' (t := _) (by conv => lhs; simp) (by simpa using kc12) ?_
        refine Wc.seq ?_
        refine Wc.kil (by conv => lhs; simp) ?_
        refine Wc.exit ?_
        cases h7
        exact ⟨rfl, by first | rfl | simp⟩
      · rw [if_neg kc12] at h7
        refine Wc.condF' (t := _) (by conv => lhs; simp) (by simpa using kc12) ?_
        refine Wc.seq ?_
        refine Wc.kil (by conv => lhs; simp) ?_
        refine Wc.skip ?_
        refine Wc.seq ?_
        refine Wc.evs (by conv => lhs; simp) ?_
        obtain ⟨o13, h14, h7⟩ := bind_some h7
        refine Wo.call (by simp) rfl (by (conv => lhs; simp [cx, ioTab]) <;> rfl) (r17 h14) (by simp) (by simp) (by (conv => lhs; simp [cx, ioTab]) <;> rfl) (by (conv => lhs; simp) <;> rfl) ?_
        obtain ⟨o15, h16, h7⟩ := bind_some h7
        refine Wo.call (by simp) rfl (by (conv => lhs; simp [cx, ioTab]) <;> rfl) (r78 h16) (by simp) (by simp) (by (conv => lhs; simp [cx, ioTab]) <;> rfl) (by (conv => lhs; simp) <;> rfl) ?_
        refine Wo.evs (by conv => lhs; simp) ?_
        refine Wo.nil ?_
        refine Wc.seq ?_
        refine Wc.seq ?_
        refine Wc.evs (by conv => lhs; simp) ?_
        refine Wo.nil ?_
        by_cases kc17 : (o15.length : Int) = 0
        · rw [if_pos kc17] at h7
          refine Wc.condT' (t := _) (by conv => lhs; simp) (by simpa using kc17) ?_
          refine Wc.seq ?_
          refine Wc.kil (by conv => lhs; simp) ?_
          refine Wc.seq ?_
          refine Wc.evs (by conv => lhs; simp) ?_
          refine Wo.nil ?_
          refine Wc.gh (vle_take (s := 4) (by simp) (by conv => lhs; simp) (by conv => lhs; simp)) ?_
          refine Wc.ret ?_
          cases h7
          exact ⟨rfl, by first | rfl | simp⟩
        · rw [if_neg kc17] at h7
          refine Wc.condF' (t := _) (by conv => lhs; simp) (by simpa using kc17) ?_
          refine Wc.seq ?_
          refine Wc.kil (by conv => lhs; simp) ?_
          refine Wc.skip ?_
          refine Wc.seq ?_
          refine Wc.evs (by conv => lhs; simp) ?_
          refine Wo.nil ?_
          by_cases kc18 : (o15.length : Int) = 1
          · rw [if_pos kc18] at h7
            refine Wc.condT' (t := _) (by conv => lhs; simp) (by simpa using kc18) ?_
            refine Wc.seq ?_
            refine Wc.kil (by conv => lhs; simp) ?_
            refine Wc.seq ?_
            obtain ⟨v_19, h20, h7⟩ := bind_some h7
            obtain ⟨ga20, gb20, gc20⟩ := ix_some h20
            have gn20 := ix_ne h20
            have gf20 := arr_fit (E := eI) (b := true) (i := (0 : Int).toNat) (l := o15) (by omega)
            have gg20_0 := arr_get (E := eI) (b := true) (o := 0) gc20 (by decide)
            simp at gf20 gg20_0
            have gl20 : (0 : Int).toNat < o15.length := by omega
            have gk20 : 0 < o15.length := by omega
            obtain ⟨l_21, h22, h7⟩ := bind_some h7
            have gx22 := appT_arr (E := eI) (b := true) (y := true) h22 (by decide)
            simp at gx22
            refine Wc.evs (by conv => lhs; simp [-getElem?_pos, List.getElem?_cons_zero, List.getElem?_cons_succ, gb20, gn20, gf20, gg20_0, gl20, gk20, gx22]) ?_
            refine Wo.nil ?_
            refine Wc.exit ?_
            cases h7
            exact ⟨rfl, by first | rfl | simp [-getElem?_pos, List.getElem?_cons_zero, List.getElem?_cons_succ, gb20, gn20, gf20, gg20_0, gl20, gk20, gx22]⟩
          · rw [if_neg kc18] at h7
            refine Wc.condF' (t := _) (by conv => lhs; simp) (by simpa using kc18) ?_
            refine Wc.seq ?_
            refine Wc.kil (by conv => lhs; simp) ?_
            refine Wc.skip ?_
            cases h7
            exact ⟨rfl, by first | rfl | simp⟩
    · skip
      rcases w6 with ⟨⟩ | ⟨out_23, found_24⟩ | ⟨x_25, x_26⟩
      · rintro ex V ⟨rfl, rfl⟩
        try dsimp only at h
        refine Wc.evs (by conv => lhs; simp) ?_
        refine Wo.nil ?_
        refine Wc.start (V1 := [(0, .v (ssl (eL eI) clauses)), (6, .v (.ptr true [(osl eI true out_3)])), (7, .v (.bool false)), (14, .v (ssl (eL eI) clauses)), (15, .v (.int .i64 (clauses.length : Int))), (16, .v (.int .i64 (w64 (x_4 + 1))))]) ?_ (hk _ (Option.some.inj h).symm)
        first | rfl | simp
      · rintro ex V ⟨rfl, rfl⟩
        dsimp only at h ⊢
        have e0 := hx _ (Option.some.inj h).symm
        subst e0
        exact ⟨rfl, by first | rfl | simp⟩
      · rintro ex V ⟨rfl, rfl⟩
        dsimp only at h ⊢
        have e0 := hx _ (Option.some.inj h).symm
        subst e0
        exact ⟨rfl, by first | rfl | simp⟩
  · rw [if_neg kc5] at h
    refine Wc.condF' (t := _) (by conv => lhs; simp) (by simpa using kc5) ?_
    refine Wc.seq ?_
    refine Wc.kil (by conv => lhs; simp) ?_
    refine Wc.exit ?_
    have e0 := hx _ (Option.some.inj h).symm
    subst e0
    exact ⟨rfl, by first | rfl | simp⟩
theorem r64_0 {clauses : (List (List Int))} : ∀ zs zo, iter (f64_0 clauses) zs = some zo → Wc cx 44 (.loop L64_0) [(0, .v (ssl (eL eI) clauses)), (6, .v (.ptr true [(osl eI true zs)]))] ((QR (fun (y : (List Int) × Bool) => [(4, .v (osl eI true y.1)), (5, .v (.bool y.2)), (6, .v (.ptr true [.und]))])) zo) := by
  intro zs0 zo0 zh0
  refine iter_run (f := (f64_0 clauses)) (P := fun zs zo => Wc cx 44 (.loop L64_0) [(0, .v (ssl (eL eI) clauses)), (6, .v (.ptr true [(osl eI true zs)]))] ((QR (fun (y : (List Int) × Bool) => [(4, .v (osl eI true y.1)), (5, .v (.bool y.2)), (6, .v (.ptr true [.und]))])) zo)) ?_ zh0
  rintro out_3 zo zr h hk hx
  try dsimp only at hk ⊢
  rw [f64_0] at h
  refine Wc.loop ?_
  refine Wc.block ?_
  refine Wc.seq ?_
  refine Wc.evs (by conv => lhs; simp) ?_
  refine Wo.nil ?_
  refine Wc.seq ?_
  refine Wc.seq ?_
  refine Wc.evs (by conv => lhs; simp) ?_
  refine Wo.nil ?_
  refine Wc.block ?_
  obtain ⟨w27, h28, h⟩ := bind_some h
  refine Wc.start (V1 := [(0, .v (ssl (eL eI) clauses)), (6, .v (.ptr true [(osl eI true out_3)])), (7, .v (.bool false)), (14, .v (ssl (eL eI) clauses)), (15, .v (.int .i64 (clauses.length : Int))), (16, .v (.int .i64 0))]) (by first | rfl | simp) ?_
  refine Wc.mono (r64_1 _ _ h28) ?_
  rcases w27 with ⟨out_29, found_30⟩ | ⟨x_31, x_32⟩
  · rintro ex V ⟨rfl, rfl⟩
    dsimp only at h ⊢
    refine Wc.seq ?_
    refine Wc.evs (by conv => lhs; simp) ?_
    refine Wo.nil ?_
    by_cases kc33 : ¬ (found_30 = true)
    · rw [if_pos kc33] at h
      refine Wc.condT' (t := _) (by conv => lhs; simp) (by simpa using kc33) ?_
      refine Wc.seq ?_
      refine Wc.kil (by conv => lhs; simp) ?_
      refine Wc.seq ?_
      refine Wc.evs (by conv => lhs; simp) ?_
      refine Wo.nil ?_
      refine Wc.gh (vle_take (s := 4) (by simp) (by conv => lhs; simp) (by conv => lhs; simp)) ?_
      refine Wc.ret ?_
      have e0 := hx _ (Option.some.inj h).symm
      subst e0
      exact ⟨rfl, by first | rfl | simp⟩
    · rw [if_neg kc33] at h
      refine Wc.condF' (t := _) (by conv => lhs; simp) (by simpa using kc33) ?_
      refine Wc.seq ?_
      refine Wc.kil (by conv => lhs; simp) ?_
      refine Wc.skip ?_
      refine Wc.start (V1 := [(0, .v (ssl (eL eI) clauses)), (6, .v (.ptr true [(osl eI true out_29)]))]) ?_ (hk _ (Option.some.inj h).symm)
      first | rfl | simp
  · rintro ex V ⟨rfl, rfl⟩
    dsimp only at h ⊢
    have e0 := hx _ (Option.some.inj h).symm
    subst e0
    exact ⟨rfl, by first | rfl | simp⟩
theorem r64 {clauses : (List (List Int))} {start : (List Int)} {r : (List Int) × Bool} (h : f64 clauses start = some r) : VJx cx (.ca 64 [(ssl (eL eI) clauses), (ssl eI start)] (.tup [(osl eI true r.1), (.bool r.2)]) []) := by
  unfold f64 at h
  refine ca_of rfl rfl (by decide) rfl ?_
  refine Wc.start (V1 := [(0, .v (ssl (eL eI) clauses)), (1, .v (ssl eI start))]) (by simp) ?_
  refine Wc.seq ?_
  refine Wc.evs (by conv => lhs; simp) ?_
  refine Wo.nil ?_
  refine Wc.seq ?_
  obtain ⟨l_1, h2, h⟩ := bind_some h
  have gx2 := appT_arr2 (E := eI) (b := true) (b' := false) (y := false) h2 (by decide) (arr_sc rfl _)
  simp at gx2
  refine Wc.evk 4 (by conv => lhs; simp [gx2]) ?_
  refine Wo.gh (vle_co (s := 13) (t1 := (osl eI true l_1)) rfl (by simp) (tle_own rfl) (by conv => lhs; simp)) ?_
  refine Wo.evs (by conv => lhs; simp [gx2]) ?_
  refine Wo.nil ?_
  refine Wc.block ?_
  obtain ⟨w34, h35, h⟩ := bind_some h
  refine Wc.start (V1 := [(0, .v (ssl (eL eI) clauses)), (6, .v (.ptr true [(osl eI true l_1)]))]) (by first | rfl | simp [gx2]) ?_
  refine Wc.mono (r64_0 _ _ h35) ?_
  obtain ⟨x_36, x_37⟩ := w34
  rintro ex V ⟨rfl, rfl⟩
  dsimp only at h ⊢
  refine res_of (.inr rfl) ?_
  cases h
  exact ⟨_, _, _, by conv => lhs; simp, by (conv => lhs; simp [cx, ioTab, List.range, List.range.loop]) <;> rfl, by first | rfl | simp [gx2]⟩
theorem r42 {n0 : Int} {clauses : (List (List Int))} {clause : (List Int)} {r : Bool} (h : f42 n0 clauses clause = some r) : VJx cx (.ca 42 [(.int .i64 n0), (ssl (eL eI) clauses), (ssl eI clause)] (.bool r) []) := by
  unfold f42 at h
  refine ca_of rfl rfl (by decide) rfl ?_
  refine Wc.start (V1 := [(0, .v (.int .i64 n0)), (1, .v (ssl (eL eI) clauses)), (2, .v (ssl eI clause))]) (by simp) ?_
  refine Wc.seq ?_
  refine Wc.evs (by conv => lhs; simp) ?_
  refine Wo.nil ?_
  refine Wc.seq ?_
  refine Wc.seq ?_
  refine Wc.evs (by conv => lhs; simp) ?_
  obtain ⟨o1, h2, h⟩ := bind_some h
  refine Wo.call (by simp) rfl (by (conv => lhs; simp [cx, ioTab]) <;> rfl) (r34 h2) (by simp) (by simp) (by (conv => lhs; simp [cx, ioTab]) <;> rfl) (by (conv => lhs; simp) <;> rfl) ?_
  refine Wo.evk 2 (by conv => lhs; simp) ?_
  obtain ⟨w4, h5, h⟩ := bind_some h
  refine Wo.mono (Q := fun V => V = [(1, .v (ssl (eL eI) clauses)), (2, .v (ssl eI clause)), (18, .v (.bool w4))]) ?_ ?_
  · by_cases knh5 : ¬ (o1 = true)
    · rw [if_pos knh5] at h5
      refine Wo.gh (vle_co (s := 13) (t1 := .bool true) rfl (by simp) (tle_bool (by simpa using knh5)) (by conv => lhs; simp)) ?_
      refine Wo.evs (by conv => lhs; simp) ?_
      refine Wo.nil ?_
      cases h5
      first | rfl | simp
    · rw [if_neg knh5] at h5
      refine Wo.gh (vle_co (s := 13) (t1 := .bool false) rfl (by simp) (tle_bool (by simpa using knh5)) (by conv => lhs; simp)) ?_
      refine Wo.evs (by conv => lhs; simp) ?_
      obtain ⟨o6, h7, h5⟩ := bind_some h5
      refine Wo.call (by simp) rfl (by (conv => lhs; simp [cx, ioTab]) <;> rfl) (r63 h7) (by simp) (by simp) (by (conv => lhs; simp [cx, ioTab]) <;> rfl) (by (conv => lhs; simp) <;> rfl) ?_
      refine Wo.evs (by conv => lhs; simp) ?_
      refine Wo.nil ?_
      cases h5
      first | rfl | simp
  · rintro V rfl
    generalize w4 = x_3 at *
    try dsimp only at h
    by_cases kc8 : x_3 = true
    · rw [if_pos kc8] at h
      refine Wc.condT' (t := _) (by conv => lhs; simp) (by simpa using kc8) ?_
      refine Wc.seq ?_
      refine Wc.kil (by conv => lhs; simp) ?_
      refine Wc.seq ?_
      refine Wc.evs (by conv => lhs; simp) ?_
      refine Wo.nil ?_
      refine Wc.ret (res_of (.inr rfl) ?_)
      cases h
      exact ⟨_, _, _, by conv => lhs; simp, by (conv => lhs; simp [cx, ioTab, List.range, List.range.loop]) <;> rfl, by first | rfl | simp⟩
    · rw [if_neg kc8] at h
      refine Wc.condF' (t := _) (by conv => lhs; simp) (by simpa using kc8) ?_
      refine Wc.seq ?_
      refine Wc.kil (by conv => lhs; simp) ?_
      refine Wc.skip ?_
      refine Wc.seq ?_
      refine Wc.evs (by conv => lhs; simp) ?_
      obtain ⟨o9, h10, h⟩ := bind_some h
      refine Wo.call (by simp) rfl (by (conv => lhs; simp [cx, ioTab]) <;> rfl) (r17 h10) (by simp) (by simp) (by (conv => lhs; simp [cx, ioTab]) <;> rfl) (by (conv => lhs; simp) <;> rfl) ?_
      obtain ⟨o11, h12, h⟩ := bind_some h
      refine Wo.call (by simp) rfl (by (conv => lhs; simp [cx, ioTab]) <;> rfl) (r64 h12) (by simp) (by simp) (by (conv => lhs; simp [cx, ioTab]) <;> rfl) (by (conv => lhs; simp) <;> rfl) ?_
      refine Wo.evs (by conv => lhs; simp) ?_
      refine Wo.nil ?_
      refine Wc.seq ?_
      refine Wc.evs (by conv => lhs; simp) ?_
      refine Wo.nil ?_
      refine Wc.ret (res_of (.inr rfl) ?_)
      cases h
      exact ⟨_, _, _, by conv => lhs; simp, by (conv => lhs; simp [cx, ioTab, List.range, List.range.loop]) <;> rfl, by first | rfl | simp⟩
theorem r61 {x : Int} {low : Int} {high : Int} {r : Bool} (h : f61 x low high = some r) : VJx cx (.ca 61 [(.int .i64 x), (.int .i64 low), (.int .i64 high)] (.bool r) []) := by
  unfold f61 at h
  refine ca_of rfl rfl (by decide) rfl ?_
  refine Wc.start (V1 := [(0, .v (.int .i64 x)), (1, .v (.int .i64 low)), (2, .v (.int .i64 high))]) (by simp) ?_
  refine Wc.seq ?_
  refine Wc.evs (by conv => lhs; simp) ?_
  refine Wo.nil ?_
  refine Wc.seq ?_
  refine Wc.evk 4 (by conv => lhs; simp) ?_
  obtain ⟨w2, h3, h⟩ := bind_some h
  refine Wo.mono (Q := fun V => V = [(6, .v (.bool w2))]) ?_ ?_
  · by_cases knh3 : x ≥ low
    · rw [if_pos knh3] at h3
      refine Wo.gh (vle_co (s := 10) (t1 := .bool true) rfl (by simp) (tle_bool (by simpa using knh3)) (by conv => lhs; simp)) ?_
      refine Wo.evs (by conv => lhs; simp) ?_
      refine Wo.nil ?_
      cases h3
      first | rfl | simp
    · rw [if_neg knh3] at h3
      refine Wo.gh (vle_co (s := 10) (t1 := .bool false) rfl (by simp) (tle_bool (by simpa using knh3)) (by conv => lhs; simp)) ?_
      refine Wo.evs (by conv => lhs; simp) ?_
      refine Wo.nil ?_
      cases h3
      first | rfl | simp
  · rintro V rfl
    generalize w2 = x_1 at *
    try dsimp only at h
    refine Wc.ret (res_of (.inr rfl) ?_)
    cases h
    exact ⟨_, _, _, by conv => lhs; simp, by (conv => lhs; simp [cx, ioTab, List.range, List.range.loop]) <;> rfl, by first | rfl | simp⟩
theorem r60_1 {n0 : Int} {c : (List Int)} {i_1 : Int} : ∀ zs zo, iter (f60_1 c i_1) zs = some zo → Wc cx 68 (.loop L60_1) [(0, .v (.int .i64 n0)), (1, .v (ssl eI c)), (5, .v (.int .i64 i_1)), (7, .v (.int .i64 zs))] ((QO (QX 2 (fun (y : Unit) => [(0, .v (.int .i64 n0)), (1, .v (ssl eI c)), (5, .v (.int .i64 i_1))])) (QR (fun (y : Bool) => [(4, .v (.bool y))]))) zo) := by
  intro zs0 zo0 zh0
  refine iter_run (f := (f60_1 c i_1)) (P := fun zs zo => Wc cx 68 (.loop L60_1) [(0, .v (.int .i64 n0)), (1, .v (ssl eI c)), (5, .v (.int .i64 i_1)), (7, .v (.int .i64 zs))] ((QO (QX 2 (fun (y : Unit) => [(0, .v (.int .i64 n0)), (1, .v (ssl eI c)), (5, .v (.int .i64 i_1))])) (QR (fun (y : Bool) => [(4, .v (.bool y))]))) zo)) ?_ zh0
  rintro k_15 zo zr h hk hx
  try dsimp only at hk ⊢
  rw [f60_1] at h
  refine Wc.loop ?_
  refine Wc.seq ?_
  refine Wc.seq ?_
  refine Wc.evs (by conv => lhs; simp) ?_
  refine Wo.nil ?_
  by_cases kc16 : k_15 < i_1
  · rw [if_pos kc16] at h
    refine Wc.condT' (t := _) (by conv => lhs; simp) (by simpa using kc16) ?_
    refine Wc.seq ?_
    refine Wc.kil (by conv => lhs; simp) ?_
    refine Wc.skip ?_
    refine Wc.seq ?_
    refine Wc.block ?_
    refine Wc.seq ?_
    obtain ⟨v_17, h18, h⟩ := bind_some h
    obtain ⟨ga18, gb18, gc18⟩ := ix_some h18
    have gn18 := ix_ne h18
    have gd18 := arr_at (E := eI) (b := false) gc18
    simp at gd18
    obtain ⟨v_19, h20, h⟩ := bind_some h
    obtain ⟨ga20, gb20, gc20⟩ := ix_some h20
    have gn20 := ix_ne h20
    have gd20 := arr_at (E := eI) (b := false) gc20
    simp at gd20
    refine Wc.evk 10 (by conv => lhs; simp [ga18, gb18, gn18, gd18, ga20, gb20, gn20, gd20]) ?_
    obtain ⟨w22, h23, h⟩ := bind_some h
    refine Wo.mono (Q := fun V => V = [(0, .v (.int .i64 n0)), (1, .v (ssl eI c)), (5, .v (.int .i64 i_1)), (7, .v (.int .i64 k_15)), (67, .v (.bool w22))]) ?_ ?_
    · by_cases knh23 : v_17 = v_19
      · rw [if_pos knh23] at h23
        refine Wo.gh (vle_co (s := 56) (t1 := .bool true) rfl (by simp) (tle_bool (by simpa using knh23)) (by conv => lhs; simp)) ?_
        refine Wo.evs (by conv => lhs; simp [ga18, gb18, gn18, gd18, ga20, gb20, gn20, gd20]) ?_
        refine Wo.nil ?_
        cases h23
        first | rfl | simp [ga18, gb18, gn18, gd18, ga20, gb20, gn20, gd20]
      · rw [if_neg knh23] at h23
        refine Wo.gh (vle_co (s := 56) (t1 := .bool false) rfl (by simp) (tle_bool (by simpa using knh23)) (by conv => lhs; simp)) ?_
        refine Wo.evs (by conv => lhs; simp [ga18, gb18, gn18, gd18, ga20, gb20, gn20, gd20]) ?_
        refine Wo.nil ?_
        cases h23
        first | rfl | simp [ga18, gb18, gn18, gd18, ga20, gb20, gn20, gd20]
    · rintro V rfl
      generalize w22 = x_21 at *
      try dsimp only at h
      by_cases kc24 : x_21 = true
      · rw [if_pos kc24] at h
        refine Wc.condT' (t := _) (by conv => lhs; simp) (by simpa using kc24) ?_
        refine Wc.seq ?_
        refine Wc.kil (by conv => lhs; simp) ?_
        refine Wc.seq ?_
        refine Wc.evs (by conv => lhs; simp) ?_
        refine Wo.nil ?_
        refine Wc.ret ?_
        have e0 := hx _ (Option.some.inj h).symm
        subst e0
        exact ⟨rfl, by first | rfl | simp⟩
      · rw [if_neg kc24] at h
        refine Wc.condF' (t := _) (by conv => lhs; simp) (by simpa using kc24) ?_
        refine Wc.seq ?_
        refine Wc.kil (by conv => lhs; simp) ?_
        refine Wc.skip ?_
        refine Wc.evs (by conv => lhs; simp) ?_
        refine Wo.nil ?_
        refine Wc.start (V1 := [(0, .v (.int .i64 n0)), (1, .v (ssl eI c)), (5, .v (.int .i64 i_1)), (7, .v (.int .i64 (w64 (k_15 + 1))))]) ?_ (hk _ (Option.some.inj h).symm)
        first | rfl | simp
  · rw [if_neg kc16] at h
    refine Wc.condF' (t := _) (by conv => lhs; simp) (by simpa using kc16) ?_
    refine Wc.seq ?_
    refine Wc.kil (by conv => lhs; simp) ?_
    refine Wc.exit ?_
    have e0 := hx _ (Option.some.inj h).symm
    subst e0
    exact ⟨rfl, by first | rfl | simp⟩
theorem r60_0 {n0 : Int} {c : (List Int)} : ∀ zs zo, iter (f60_0 n0 c) zs = some zo → Wc cx 68 (.loop L60_0) [(0, .v (.int .i64 n0)), (1, .v (ssl eI c)), (5, .v (.int .i64 zs))] ((QO (QX 0 (fun (y : Unit) => [])) (QR (fun (y : Bool) => [(4, .v (.bool y))]))) zo) := by
  intro zs0 zo0 zh0
  refine iter_run (f := (f60_0 n0 c)) (P := fun zs zo => Wc cx 68 (.loop L60_0) [(0, .v (.int .i64 n0)), (1, .v (ssl eI c)), (5, .v (.int .i64 zs))] ((QO (QX 0 (fun (y : Unit) => [])) (QR (fun (y : Bool) => [(4, .v (.bool y))]))) zo)) ?_ zh0
  rintro i_1 zo zr h hk hx
  try dsimp only at hk ⊢
  rw [f60_0] at h
  refine Wc.loop ?_
  refine Wc.seq ?_
  refine Wc.seq ?_
  refine Wc.evs (by conv => lhs; simp) ?_
  refine Wo.nil ?_
  by_cases kc2 : i_1 < (c.length : Int)
  · rw [if_pos kc2] at h
    refine Wc.condT' (t := _) (by conv => lhs; simp) (by simpa using kc2) ?_
    refine Wc.seq ?_
    refine Wc.kil (by conv => lhs; simp) ?_
    refine Wc.skip ?_
    refine Wc.seq ?_
    refine Wc.block ?_
    refine Wc.seq ?_
    obtain ⟨v_3, h4, h⟩ := bind_some h
    obtain ⟨ga4, gb4, gc4⟩ := ix_some h4
    have gn4 := ix_ne h4
    have gd4 := arr_at (E := eI) (b := false) gc4
    simp at gd4
    refine Wc.evs (by conv => lhs; simp [ga4, gb4, gn4, gd4]) ?_
    refine Wo.nil ?_
    refine Wc.seq ?_
    refine Wc.seq ?_
    refine Wc.evk 6 (by conv => lhs; simp [ga4, gb4, gn4, gd4]) ?_
    obtain ⟨w6, h7, h⟩ := bind_some h
    refine Wo.mono (Q := fun V => V = [(0, .v (.int .i64 n0)), (1, .v (ssl eI c)), (5, .v (.int .i64 i_1)), (6, .v (.int .i64 (if 0 > v_3 then 0 else v_3))), (32, .v (.bool w6))]) ?_ ?_
    · by_cases knh7 : v_3 < 0
      · rw [if_pos knh7] at h7
        refine Wo.gh (vle_co (s := 24) (t1 := .bool true) rfl (by simp) (tle_bool (by simpa using knh7)) (by conv => lhs; simp)) ?_
        refine Wo.evs (by conv => lhs; simp [ga4, gb4, gn4, gd4]) ?_
        refine Wo.nil ?_
        cases h7
        first | rfl | simp [ga4, gb4, gn4, gd4]
      · rw [if_neg knh7] at h7
        refine Wo.gh (vle_co (s := 24) (t1 := .bool false) rfl (by simp) (tle_bool (by simpa using knh7)) (by conv => lhs; simp)) ?_
        refine Wo.evs (by conv => lhs; simp [ga4, gb4, gn4, gd4]) ?_
        refine Wo.nil ?_
        cases h7
        first | rfl | simp [ga4, gb4, gn4, gd4]
    · rintro V rfl
      generalize w6 = x_5 at *
      try dsimp only at h
      obtain ⟨w8, h9, h⟩ := bind_some h
      refine Wc.mono (Q := (QN (fun (y : Int) => [(0, .v (.int .i64 n0)), (1, .v (ssl eI c)), (5, .v (.int .i64 i_1)), (6, .v (.int .i64 y))])) w8) ?_ ?_
      · skip
        by_cases kc10 : x_5 = true
        · rw [if_pos kc10] at h9
          refine Wc.condT' (t := _) (by conv => lhs; simp) (by simpa using kc10) ?_
          refine Wc.seq ?_
          refine Wc.kil (by conv => lhs; simp) ?_
          refine Wc.evs (by conv => lhs; simp [ga4, gb4, gn4, gd4]) ?_
          refine Wo.nil ?_
          cases h9
          exact ⟨rfl, by first | rfl | simp [ga4, gb4, gn4, gd4]⟩
        · rw [if_neg kc10] at h9
          refine Wc.condF' (t := _) (by conv => lhs; simp) (by simpa using kc10) ?_
          refine Wc.seq ?_
          refine Wc.kil (by conv => lhs; simp) ?_
          refine Wc.skip ?_
          cases h9
          exact ⟨rfl, by first | rfl | simp [ga4, gb4, gn4, gd4]⟩
      · skip
        generalize w8 = v_11 at *
        rintro ex V ⟨rfl, rfl⟩
        try dsimp only at h
        refine Wc.seq ?_
        refine Wc.seq ?_
        refine Wc.evs (by conv => lhs; simp) ?_
        obtain ⟨o12, h13, h⟩ := bind_some h
        refine Wo.call (by simp) rfl (by (conv => lhs; simp [cx, ioTab]) <;> rfl) (r61 h13) (by simp) (by simp) (by (conv => lhs; simp [cx, ioTab]) <;> rfl) (by (conv => lhs; simp) <;> rfl) ?_
        refine Wo.evs (by conv => lhs; simp) ?_
        refine Wo.nil ?_
        by_cases kc14 : ¬ (o12 = true)
        · rw [if_pos kc14] at h
          refine Wc.condT' (t := _) (by conv => lhs; simp) (by simpa using kc14) ?_
          refine Wc.seq ?_
          refine Wc.kil (by conv => lhs; simp) ?_
          refine Wc.seq ?_
          refine Wc.evs (by conv => lhs; simp) ?_
          refine Wo.nil ?_
          refine Wc.ret ?_
          have e0 := hx _ (Option.some.inj h).symm
          subst e0
          exact ⟨rfl, by first | rfl | simp⟩
        · rw [if_neg kc14] at h
          refine Wc.condF' (t := _) (by conv => lhs; simp) (by simpa using kc14) ?_
          refine Wc.seq ?_
          refine Wc.kil (by conv => lhs; simp) ?_
          refine Wc.skip ?_
          refine Wc.seq ?_
          refine Wc.evs (by conv => lhs; simp) ?_
          refine Wo.nil ?_
          refine Wc.block ?_
          obtain ⟨w25, h26, h⟩ := bind_some h
          refine Wc.start (V1 := [(0, .v (.int .i64 n0)), (1, .v (ssl eI c)), (5, .v (.int .i64 i_1)), (7, .v (.int .i64 0))]) (by first | rfl | simp) ?_
          refine Wc.mono (r60_1 _ _ h26) ?_
          rcases w25 with ⟨⟩ | x_27
          · rintro ex V ⟨rfl, rfl⟩
            try dsimp only at h
            refine Wc.evs (by conv => lhs; simp) ?_
            refine Wo.nil ?_
            refine Wc.start (V1 := [(0, .v (.int .i64 n0)), (1, .v (ssl eI c)), (5, .v (.int .i64 (w64 (i_1 + 1))))]) ?_ (hk _ (Option.some.inj h).symm)
            first | rfl | simp
          · rintro ex V ⟨rfl, rfl⟩
            try dsimp only at h
            have e0 := hx _ (Option.some.inj h).symm
            subst e0
            exact ⟨rfl, by first | rfl | simp⟩
  · rw [if_neg kc2] at h
    refine Wc.condF' (t := _) (by conv => lhs; simp) (by simpa using kc2) ?_
    refine Wc.seq ?_
    refine Wc.kil (by conv => lhs; simp) ?_
    refine Wc.exit ?_
    have e0 := hx _ (Option.some.inj h).symm
    subst e0
    exact ⟨rfl, by first | rfl | simp⟩
theorem r60 {n0 : Int} {c : (List Int)} {r : Bool} (h : f60 n0 c = some r) : VJx cx (.ca 60 [(.int .i64 n0), (ssl eI c)] (.bool r) []) := by
  unfold f60 at h
  refine ca_of rfl rfl (by decide) rfl ?_
  refine Wc.start (V1 := [(0, .v (.int .i64 n0)), (1, .v (ssl eI c))]) (by simp) ?_
  refine Wc.seq ?_
  refine Wc.evs (by conv => lhs; simp) ?_
  refine Wo.nil ?_
  refine Wc.seq ?_
  refine Wc.seq ?_
  refine Wc.evs (by conv => lhs; simp) ?_
  refine Wo.nil ?_
  refine Wc.block ?_
  obtain ⟨w28, h29, h⟩ := bind_some h
  refine Wc.start (V1 := [(0, .v (.int .i64 n0)), (1, .v (ssl eI c)), (5, .v (.int .i64 0))]) (by first | rfl | simp) ?_
  refine Wc.mono (r60_0 _ _ h29) ?_
  rcases w28 with ⟨⟩ | x_30
  · rintro ex V ⟨rfl, rfl⟩
    try dsimp only at h
    refine Wc.seq ?_
    refine Wc.evs (by conv => lhs; simp) ?_
    refine Wo.nil ?_
    refine Wc.ret (res_of (.inr rfl) ?_)
    cases h
    exact ⟨_, _, _, by conv => lhs; simp, by (conv => lhs; simp [cx, ioTab, List.range, List.range.loop]) <;> rfl, by first | rfl | simp⟩
  · rintro ex V ⟨rfl, rfl⟩
    try dsimp only at h
    refine res_of (.inr rfl) ?_
    cases h
    exact ⟨_, _, _, by conv => lhs; simp, by (conv => lhs; simp [cx, ioTab, List.range, List.range.loop]) <;> rfl, by first | rfl | simp⟩
theorem r33_0 {n0 : Int} {l : (List (List Int))} : ∀ zs zo, iter (f33_0 n0 l) zs = some zo → Wc cx 26 (.loop L33_0) [(0, .v (.int .i64 n0)), (1, .v (ssl (eL eI) l)), (5, .v (.int .i64 zs))] ((QO (QX 0 (fun (y : Unit) => [(0, .v (.int .i64 n0)), (1, .v (ssl (eL eI) l))])) (QR (fun (y : Bool) => [(4, .v (.bool y))]))) zo) := by
  intro zs0 zo0 zh0
  refine iter_run (f := (f33_0 n0 l)) (P := fun zs zo => Wc cx 26 (.loop L33_0) [(0, .v (.int .i64 n0)), (1, .v (ssl (eL eI) l)), (5, .v (.int .i64 zs))] ((QO (QX 0 (fun (y : Unit) => [(0, .v (.int .i64 n0)), (1, .v (ssl (eL eI) l))])) (QR (fun (y : Bool) => [(4, .v (.bool y))]))) zo)) ?_ zh0
  rintro i_1 zo zr h hk hx
  try dsimp only at hk ⊢
  rw [f33_0] at h
  refine Wc.loop ?_
  refine Wc.seq ?_
  refine Wc.seq ?_
  refine Wc.evs (by conv => lhs; simp) ?_
  refine Wo.nil ?_
  by_cases kc2 : i_1 < (l.length : Int)
  · rw [if_pos kc2] at h
    refine Wc.condT' (t := _) (by conv => lhs; simp) (by simpa using kc2) ?_
    refine Wc.seq ?_
    refine Wc.kil (by conv => lhs; simp) ?_
    refine Wc.skip ?_
    refine Wc.seq ?_
    refine Wc.block ?_
    refine Wc.seq ?_
    obtain ⟨v_3, h4, h⟩ := bind_some h
    obtain ⟨ga4, gb4, gc4⟩ := ix_some h4
    have gn4 := ix_ne h4
    have gd4 := arr_at (E := (eL eI)) (b := false) gc4
    simp at gd4
    refine Wc.evs (by conv => lhs; simp [ga4, gb4, gn4, gd4]) ?_
    obtain ⟨o5, h6, h⟩ := bind_some h
    refine Wo.call (by simp) rfl (by (conv => lhs; simp [ga4, gb4, gn4, gd4, cx, ioTab]) <;> rfl) (r60 h6) (by simp) (by simp) (by (conv => lhs; simp [ga4, gb4, gn4, gd4, cx, ioTab]) <;> rfl) (by (conv => lhs; simp [ga4, gb4, gn4, gd4]) <;> rfl) ?_
    refine Wo.evs (by conv => lhs; simp [ga4, gb4, gn4, gd4]) ?_
    refine Wo.nil ?_
    by_cases kc7 : ¬ (o5 = true)
    · rw [if_pos kc7] at h
      refine Wc.condT' (t := _) (by conv => lhs; simp) (by simpa using kc7) ?_
      refine Wc.seq ?_
      refine Wc.kil (by conv => lhs; simp) ?_
      refine Wc.seq ?_
      refine Wc.evs (by conv => lhs; simp) ?_
      refine Wo.nil ?_
      refine Wc.ret ?_
      have e0 := hx _ (Option.some.inj h).symm
      subst e0
      exact ⟨rfl, by first | rfl | simp⟩
    · rw [if_neg kc7] at h
      refine Wc.condF' (t := _) (by conv => lhs; simp) (by simpa using kc7) ?_
      refine Wc.seq ?_
      refine Wc.kil (by conv => lhs; simp) ?_
      refine Wc.skip ?_
      refine Wc.evs (by conv => lhs; simp) ?_
      refine Wo.nil ?_
      refine Wc.start (V1 := [(0, .v (.int .i64 n0)), (1, .v (ssl (eL eI) l)), (5, .v (.int .i64 (w64 (i_1 + 1))))]) ?_ (hk _ (Option.some.inj h).symm)
      first | rfl | simp
  · rw [if_neg kc2] at h
    refine Wc.condF' (t := _) (by conv => lhs; simp) (by simpa using kc2) ?_
    refine Wc.seq ?_
    refine Wc.kil (by conv => lhs; simp) ?_
    refine Wc.exit ?_
    have e0 := hx _ (Option.some.inj h).symm
    subst e0
    exact ⟨rfl, by first | rfl | simp⟩
theorem r33 {n0 : Int} {l : (List (List Int))} {r : Bool} (h : f33 n0 l = some r) : VJx cx (.ca 33 [(.int .i64 n0), (ssl (eL eI) l)] (.bool r) []) := by
  unfold f33 at h
  refine ca_of rfl rfl (by decide) rfl ?_
  refine Wc.start (V1 := [(0, .v (.int .i64 n0)), (1, .v (ssl (eL eI) l))]) (by simp) ?_
  refine Wc.seq ?_
  refine Wc.evs (by conv => lhs; simp) ?_
  refine Wo.nil ?_
  refine Wc.seq ?_
  refine Wc.seq ?_
  refine Wc.evs (by conv => lhs; simp) ?_
  refine Wo.nil ?_
  refine Wc.block ?_
  obtain ⟨w8, h9, h⟩ := bind_some h
  refine Wc.start (V1 := [(0, .v (.int .i64 n0)), (1, .v (ssl (eL eI) l)), (5, .v (.int .i64 0))]) (by first | rfl | simp) ?_
  refine Wc.mono (r33_0 _ _ h9) ?_
  rcases w8 with ⟨⟩ | x_10
  · rintro ex V ⟨rfl, rfl⟩
    try dsimp only at h
    refine Wc.seq ?_
    refine Wc.evs (by conv => lhs; simp) ?_
    obtain ⟨o11, h12, h⟩ := bind_some h
    refine Wo.call (by simp) rfl (by (conv => lhs; simp [cx, ioTab]) <;> rfl) (r61 h12) (by simp) (by simp) (by (conv => lhs; simp [cx, ioTab]) <;> rfl) (by (conv => lhs; simp) <;> rfl) ?_
    refine Wo.evk 1 (by conv => lhs; simp) ?_
    obtain ⟨w14, h15, h⟩ := bind_some h
    refine Wo.mono (Q := fun V => V = [(4, .v (.bool w14))]) ?_ ?_
    · by_cases knh15 : o11 = true
      · rw [if_pos knh15] at h15
        refine Wo.gh (vle_co (s := 21) (t1 := .bool true) rfl (by simp) (tle_bool (by simpa using knh15)) (by conv => lhs; simp)) ?_
        refine Wo.evs (by conv => lhs; simp) ?_
        refine Wo.nil ?_
        cases h15
        first | rfl | simp
      · rw [if_neg knh15] at h15
        refine Wo.gh (vle_co (s := 21) (t1 := .bool false) rfl (by simp) (tle_bool (by simpa using knh15)) (by conv => lhs; simp)) ?_
        refine Wo.evs (by conv => lhs; simp) ?_
        refine Wo.nil ?_
        cases h15
        first | rfl | simp
    · rintro V rfl
      generalize w14 = x_13 at *
      try dsimp only at h
      refine Wc.ret (res_of (.inr rfl) ?_)
      cases h
      exact ⟨_, _, _, by conv => lhs; simp, by (conv => lhs; simp [cx, ioTab, List.range, List.range.loop]) <;> rfl, by first | rfl | simp⟩
  · rintro ex V ⟨rfl, rfl⟩
    try dsimp only at h
    refine res_of (.inr rfl) ?_
    cases h
    exact ⟨_, _, _, by conv => lhs; simp, by (conv => lhs; simp [cx, ioTab, List.range, List.range.loop]) <;> rfl, by first | rfl | simp⟩
theorem r15_0 {l : (List Int)} : ∀ zs zo, iter (f15_0 l) zs = some zo → Wc cx 21 (.loop L15_0) [(0, .v (ssl eI l)), (3, .v (osl eI true zs.1)), (4, .v (.int .i64 zs.2))] ((QX 0 (fun (y : (List Int)) => [(3, .v (osl eI true y))])) zo) := by
  intro zs0 zo0 zh0
  refine iter_run (f := (f15_0 l)) (P := fun zs zo => Wc cx 21 (.loop L15_0) [(0, .v (ssl eI l)), (3, .v (osl eI true zs.1)), (4, .v (.int .i64 zs.2))] ((QX 0 (fun (y : (List Int)) => [(3, .v (osl eI true y))])) zo)) ?_ zh0
  rintro ⟨out_1, i_2⟩ zo zr h hk hx
  try dsimp only at hk ⊢
  rw [f15_0] at h
  refine Wc.loop ?_
  refine Wc.seq ?_
  refine Wc.seq ?_
  refine Wc.evs (by conv => lhs; simp) ?_
  refine Wo.nil ?_
  by_cases kc3 : i_2 < (l.length : Int)
  · rw [if_pos kc3] at h
    refine Wc.condT' (t := _) (by conv => lhs; simp) (by simpa using kc3) ?_
    refine Wc.seq ?_
    refine Wc.kil (by conv => lhs; simp) ?_
    refine Wc.skip ?_
    refine Wc.seq ?_
    refine Wc.block ?_
    obtain ⟨v_4, h5, h⟩ := bind_some h
    obtain ⟨ga5, gb5, gc5⟩ := ix_some h5
    have gn5 := ix_ne h5
    have gd5 := arr_at (E := eI) (b := false) gc5
    simp at gd5
    obtain ⟨l_6, h7, h⟩ := bind_some h
    have gx7 := appT_arr (E := eI) (b := true) (y := true) h7 (by decide)
    simp at gx7
    refine Wc.evs (by conv => lhs; simp [ga5, gb5, gn5, gd5, gx7]) ?_
    refine Wo.nil ?_
    refine Wc.evs (by conv => lhs; simp) ?_
    refine Wo.nil ?_
    refine Wc.start (V1 := [(0, .v (ssl eI l)), (3, .v (osl eI true l_6)), (4, .v (.int .i64 (w64 (i_2 + 1))))]) ?_ (hk _ (Option.some.inj h).symm)
    first | rfl | simp
  · rw [if_neg kc3] at h
    refine Wc.condF' (t := _) (by conv => lhs; simp) (by simpa using kc3) ?_
    refine Wc.seq ?_
    refine Wc.kil (by conv => lhs; simp) ?_
    refine Wc.exit ?_
    have e0 := hx _ (Option.some.inj h).symm
    subst e0
    exact ⟨rfl, by first | rfl | simp⟩
theorem r15 {l : (List Int)} {r : (List Int)} (h : f15 l = some r) : VJx cx (.ca 15 [(ssl eI l)] (osl eI true r) []) := by
  unfold f15 at h
  refine ca_of rfl rfl (by decide) rfl ?_
  refine Wc.start (V1 := [(0, .v (ssl eI l))]) (by simp) ?_
  refine Wc.seq ?_
  refine Wc.evs (by conv => lhs; simp) ?_
  refine Wo.nil ?_
  refine Wc.seq ?_
  refine Wc.evs (by conv => lhs; simp) ?_
  refine Wo.gh (vle_co (s := 3) (t1 := (osl eI true ([]))) rfl (by simp) (TLe.own (show TLes _ [] from (TLes.refl _)) rfl) (by conv => lhs; simp)) ?_
  refine Wo.nil ?_
  refine Wc.seq ?_
  refine Wc.seq ?_
  refine Wc.evs (by conv => lhs; simp) ?_
  refine Wo.nil ?_
  refine Wc.block ?_
  obtain ⟨w8, h9, h⟩ := bind_some h
  refine Wc.start (V1 := [(0, .v (ssl eI l)), (3, .v (osl eI true ([]))), (4, .v (.int .i64 0))]) (by first | rfl | simp) ?_
  refine Wc.mono (r15_0 _ _ h9) ?_
  generalize w8 = out_10 at *
  rintro ex V ⟨rfl, rfl⟩
  try dsimp only at h
  refine Wc.seq ?_
  refine Wc.evs (by conv => lhs; simp) ?_
  refine Wo.nil ?_
  refine Wc.ret (res_of (.inr rfl) ?_)
  cases h
  exact ⟨_, _, _, by conv => lhs; simp, by (conv => lhs; simp [cx, ioTab, List.range, List.range.loop]) <;> rfl, by first | rfl | simp⟩
theorem r70_0 {l : (List Int)} {x : Int} : ∀ zs zo, iter (f70_0 l x) zs = some zo → Wc cx 18 (.loop L70_0) [(0, .v (ssl eI l)), (1, .v (.int .i64 x)), (5, .v (.int .i64 zs))] ((QO (QX 0 (fun (y : Unit) => [])) (QR (fun (y : Bool) => [(4, .v (.bool y))]))) zo) := by
  intro zs0 zo0 zh0
  refine iter_run (f := (f70_0 l x)) (P := fun zs zo => Wc cx 18 (.loop L70_0) [(0, .v (ssl eI l)), (1, .v (.int .i64 x)), (5, .v (.int .i64 zs))] ((QO (QX 0 (fun (y : Unit) => [])) (QR (fun (y : Bool) => [(4, .v (.bool y))]))) zo)) ?_ zh0
  rintro i_1 zo zr h hk hx
  try dsimp only at hk ⊢
  rw [f70_0] at h
  refine Wc.loop ?_
  refine Wc.seq ?_
  refine Wc.seq ?_
  refine Wc.evs (by conv => lhs; simp) ?_
  refine Wo.nil ?_
  by_cases kc2 : i_1 < (l.length : Int)
  · rw [if_pos kc2] at h
    refine Wc.condT' (t := _) (by conv => lhs; simp) (by simpa using kc2) ?_
    refine Wc.seq ?_
    refine Wc.kil (by conv => lhs; simp) ?_
    refine Wc.skip ?_
    refine Wc.seq ?_
    refine Wc.block ?_
    refine Wc.seq ?_
    obtain ⟨v_3, h4, h⟩ := bind_some h
    obtain ⟨ga4, gb4, gc4⟩ := ix_some h4
    have gn4 := ix_ne h4
    have gd4 := arr_at (E := eI) (b := false) gc4
    simp at gd4
    refine Wc.evs (by conv => lhs; simp [ga4, gb4, gn4, gd4]) ?_
    refine Wo.nil ?_
    by_cases kc5 : v_3 = x
    · rw [if_pos kc5] at h
      refine Wc.condT' (t := _) (by conv => lhs; simp) (by simpa using kc5) ?_
      refine Wc.seq ?_
      refine Wc.kil (by conv => lhs; simp) ?_
      refine Wc.seq ?_
      refine Wc.evs (by conv => lhs; simp) ?_
      refine Wo.nil ?_
      refine Wc.ret ?_
      have e0 := hx _ (Option.some.inj h).symm
      subst e0
      exact ⟨rfl, by first | rfl | simp⟩
    · rw [if_neg kc5] at h
      refine Wc.condF' (t := _) (by conv => lhs; simp) (by simpa using kc5) ?_
      refine Wc.seq ?_
      refine Wc.kil (by conv => lhs; simp) ?_
      refine Wc.skip ?_
      refine Wc.evs (by conv => lhs; simp) ?_
      refine Wo.nil ?_
      refine Wc.start (V1 := [(0, .v (ssl eI l)), (1, .v (.int .i64 x)), (5, .v (.int .i64 (w64 (i_1 + 1))))]) ?_ (hk _ (Option.some.inj h).symm)
      first | rfl | simp
  · rw [if_neg kc2] at h
    refine Wc.condF' (t := _) (by conv => lhs; simp) (by simpa using kc2) ?_
    refine Wc.seq ?_
    refine Wc.kil (by conv => lhs; simp) ?_
    refine Wc.exit ?_
    have e0 := hx _ (Option.some.inj h).symm
    subst e0
    exact ⟨rfl, by first | rfl | simp⟩
theorem r70 {l : (List Int)} {x : Int} {r : Bool} (h : f70 l x = some r) : VJx cx (.ca 70 [(ssl eI l), (.int .i64 x)] (.bool r) []) := by
  unfold f70 at h
  refine ca_of rfl rfl (by decide) rfl ?_
  refine Wc.start (V1 := [(0, .v (ssl eI l)), (1, .v (.int .i64 x))]) (by simp) ?_
  refine Wc.seq ?_
  refine Wc.evs (by conv => lhs; simp) ?_
  refine Wo.nil ?_
  refine Wc.seq ?_
  refine Wc.seq ?_
  refine Wc.evs (by conv => lhs; simp) ?_
  refine Wo.nil ?_
  refine Wc.block ?_
  obtain ⟨w6, h7, h⟩ := bind_some h
  refine Wc.start (V1 := [(0, .v (ssl eI l)), (1, .v (.int .i64 x)), (5, .v (.int .i64 0))]) (by first | rfl | simp) ?_
  refine Wc.mono (r70_0 _ _ h7) ?_
  rcases w6 with ⟨⟩ | x_8
  · rintro ex V ⟨rfl, rfl⟩
    try dsimp only at h
    refine Wc.seq ?_
    refine Wc.evs (by conv => lhs; simp) ?_
    refine Wo.nil ?_
    refine Wc.ret (res_of (.inr rfl) ?_)
    cases h
    exact ⟨_, _, _, by conv => lhs; simp, by (conv => lhs; simp [cx, ioTab, List.range, List.range.loop]) <;> rfl, by first | rfl | simp⟩
  · rintro ex V ⟨rfl, rfl⟩
    try dsimp only at h
    refine res_of (.inr rfl) ?_
    cases h
    exact ⟨_, _, _, by conv => lhs; simp, by (conv => lhs; simp [cx, ioTab, List.range, List.range.loop]) <;> rfl, by first | rfl | simp⟩
theorem r79_0 {c : (List Int)} {set1 : (List Int)} : ∀ zs zo, iter (f79_0 c set1) zs = some zo → Wc cx 38 (.loop L79_0) [(0, .v (ssl eI c)), (1, .v (ssl eI set1)), (6, .v (osl eI true zs.1)), (7, .v (.int .i64 zs.2))] ((QO (QX 0 (fun (y : (List Int)) => [(6, .v (osl eI true y))])) (QR (fun (y : (List Int) × Bool) => [(4, .v (osl eI true y.1)), (5, .v (.bool y.2))]))) zo) := by
  intro zs0 zo0 zh0
  refine iter_run (f := (f79_0 c set1)) (P := fun zs zo => Wc cx 38 (.loop L79_0) [(0, .v (ssl eI c)), (1, .v (ssl eI set1)), (6, .v (osl eI true zs.1)), (7, .v (.int .i64 zs.2))] ((QO (QX 0 (fun (y : (List Int)) => [(6, .v (osl eI true y))])) (QR (fun (y : (List Int) × Bool) => [(4, .v (osl eI true y.1)), (5, .v (.bool y.2))]))) zo)) ?_ zh0
  rintro ⟨out_1, i_2⟩ zo zr h hk hx
  try dsimp only at hk ⊢
  rw [f79_0] at h
  refine Wc.loop ?_
  refine Wc.seq ?_
  refine Wc.seq ?_
  refine Wc.evs (by conv => lhs; simp) ?_
  refine Wo.nil ?_
  by_cases kc3 : i_2 < (c.length : Int)
  · rw [if_pos kc3] at h
    refine Wc.condT' (t := _) (by conv => lhs; simp) (by simpa using kc3) ?_
    refine Wc.seq ?_
    refine Wc.kil (by conv => lhs; simp) ?_
    refine Wc.skip ?_
    refine Wc.seq ?_
    refine Wc.block ?_
    refine Wc.seq ?_
    refine Wc.seq ?_
    obtain ⟨v_4, h5, h⟩ := bind_some h
    obtain ⟨ga5, gb5, gc5⟩ := ix_some h5
    have gn5 := ix_ne h5
    have gd5 := arr_at (E := eI) (b := false) gc5
    simp at gd5
    refine Wc.evs (by conv => lhs; simp [ga5, gb5, gn5, gd5]) ?_
    obtain ⟨o6, h7, h⟩ := bind_some h
    refine Wo.call (by simp) rfl (by (conv => lhs; simp [ga5, gb5, gn5, gd5, cx, ioTab]) <;> rfl) (r70 h7) (by simp) (by simp) (by (conv => lhs; simp [ga5, gb5, gn5, gd5, cx, ioTab]) <;> rfl) (by (conv => lhs; simp [ga5, gb5, gn5, gd5]) <;> rfl) ?_
    refine Wo.nil ?_
    by_cases kc8 : o6 = true
    · rw [if_pos kc8] at h
      refine Wc.condT' (t := _) (by conv => lhs; simp) (by simpa using kc8) ?_
      refine Wc.seq ?_
      refine Wc.kil (by conv => lhs; simp) ?_
      refine Wc.seq ?_
      refine Wc.evs (by conv => lhs; simp) ?_
      refine Wo.nil ?_
      refine Wc.ret ?_
      have e0 := hx _ (Option.some.inj h).symm
      subst e0
      exact ⟨rfl, by first | rfl | simp⟩
    · rw [if_neg kc8] at h
      refine Wc.condF' (t := _) (by conv => lhs; simp) (by simpa using kc8) ?_
      refine Wc.seq ?_
      refine Wc.kil (by conv => lhs; simp) ?_
      refine Wc.skip ?_
      refine Wc.seq ?_
      refine Wc.evs (by conv => lhs; simp [ga5, gb5, gn5, gd5]) ?_
      obtain ⟨o9, h10, h⟩ := bind_some h
      refine Wo.call (by simp) rfl (by (conv => lhs; simp [ga5, gb5, gn5, gd5, cx, ioTab]) <;> rfl) (r70 h10) (by simp) (by simp) (by (conv => lhs; simp [ga5, gb5, gn5, gd5, cx, ioTab]) <;> rfl) (by (conv => lhs; simp [ga5, gb5, gn5, gd5]) <;> rfl) ?_
      refine Wo.evs (by conv => lhs; simp [ga5, gb5, gn5, gd5]) ?_
      refine Wo.nil ?_
      obtain ⟨w11, h12, h⟩ := bind_some h
      refine Wc.mono (Q := (QN (fun (y : (List Int)) => [(0, .v (ssl eI c)), (1, .v (ssl eI set1)), (6, .v (osl eI true y)), (7, .v (.int .i64 i_2))])) w11) ?_ ?_
      · skip
        by_cases kc13 : ¬ (o9 = true)
        · rw [if_pos kc13] at h12
          refine Wc.condT' (t := _) (by conv => lhs; simp) (by simpa using kc13) ?_
          refine Wc.seq ?_
          refine Wc.kil (by conv => lhs; simp) ?_
          obtain ⟨l_14, h15, h12⟩ := bind_some h12
          have gx15 := appT_arr (E := eI) (b := true) (y := true) h15 (by decide)
          simp at gx15
          refine Wc.evs (by conv => lhs; simp [ga5, gb5, gn5, gd5, gx15]) ?_
          refine Wo.nil ?_
          cases h12
          exact ⟨rfl, by first | rfl | simp [ga5, gb5, gn5, gd5, gx15]⟩
        · rw [if_neg kc13] at h12
          refine Wc.condF' (t := _) (by conv => lhs; simp) (by simpa using kc13) ?_
          refine Wc.seq ?_
          refine Wc.kil (by conv => lhs; simp) ?_
          refine Wc.skip ?_
          cases h12
          exact ⟨rfl, by first | rfl | simp [ga5, gb5, gn5, gd5]⟩
      · skip
        generalize w11 = out_16 at *
        rintro ex V ⟨rfl, rfl⟩
        try dsimp only at h
        refine Wc.evs (by conv => lhs; simp) ?_
        refine Wo.nil ?_
        refine Wc.start (V1 := [(0, .v (ssl eI c)), (1, .v (ssl eI set1)), (6, .v (osl eI true out_16)), (7, .v (.int .i64 (w64 (i_2 + 1))))]) ?_ (hk _ (Option.some.inj h).symm)
        first | rfl | simp
  · rw [if_neg kc3] at h
    refine Wc.condF' (t := _) (by conv => lhs; simp) (by simpa using kc3) ?_
    refine Wc.seq ?_
    refine Wc.kil (by conv => lhs; simp) ?_
    refine Wc.exit ?_
    have e0 := hx _ (Option.some.inj h).symm
    subst e0
    exact ⟨rfl, by first | rfl | simp⟩
theorem r79 {c : (List Int)} {set1 : (List Int)} {r : (List Int) × Bool} (h : f79 c set1 = some r) : VJx cx (.ca 79 [(ssl eI c), (ssl eI set1)] (.tup [(osl eI true r.1), (.bool r.2)]) []) := by
  unfold f79 at h
  refine ca_of rfl rfl (by decide) rfl ?_
  refine Wc.start (V1 := [(0, .v (ssl eI c)), (1, .v (ssl eI set1))]) (by simp) ?_
  refine Wc.seq ?_
  refine Wc.evs (by conv => lhs; simp) ?_
  refine Wo.nil ?_
  refine Wc.seq ?_
  refine Wc.evs (by conv => lhs; simp) ?_
  refine Wo.gh (vle_co (s := 6) (t1 := (osl eI true ([]))) rfl (by simp) (TLe.own (show TLes _ [] from (TLes.refl _)) rfl) (by conv => lhs; simp)) ?_
  refine Wo.nil ?_
  refine Wc.seq ?_
  refine Wc.seq ?_
  refine Wc.evs (by conv => lhs; simp) ?_
  refine Wo.nil ?_
  refine Wc.block ?_
  obtain ⟨w17, h18, h⟩ := bind_some h
  refine Wc.start (V1 := [(0, .v (ssl eI c)), (1, .v (ssl eI set1)), (6, .v (osl eI true ([]))), (7, .v (.int .i64 0))]) (by first | rfl | simp) ?_
  refine Wc.mono (r79_0 _ _ h18) ?_
  rcases w17 with out_19 | ⟨x_20, x_21⟩
  · rintro ex V ⟨rfl, rfl⟩
    try dsimp only at h
    refine Wc.seq ?_
    refine Wc.evs (by conv => lhs; simp) ?_
    refine Wo.nil ?_
    refine Wc.ret (res_of (.inr rfl) ?_)
    cases h
    exact ⟨_, _, _, by conv => lhs; simp, by (conv => lhs; simp [cx, ioTab, List.range, List.range.loop]) <;> rfl, by first | rfl | simp⟩
  · rintro ex V ⟨rfl, rfl⟩
    dsimp only at h ⊢
    refine res_of (.inr rfl) ?_
    cases h
    exact ⟨_, _, _, by conv => lhs; simp, by (conv => lhs; simp [cx, ioTab, List.range, List.range.loop]) <;> rfl, by first | rfl | simp⟩
theorem r65_1 {l : (List (List Int))} : ∀ zs zo, iter (f65_1 l) zs = some zo → Wc cx 49 (.loop L65_1) [(0, .v (ssl (eL eI) l)), (6, .v (osl eI true zs.1)), (7, .v (.bool zs.2.1)), (8, .v (.int .i64 zs.2.2))] ((QO (QX 2 (fun (y : (List Int) × Bool) => [(0, .v (ssl (eL eI) l)), (6, .v (osl eI true y.1)), (7, .v (.bool y.2))])) (QR (fun (y : (List Int) × Bool) => [(4, .v (osl eI true y.1)), (5, .v (.bool y.2))]))) zo) := by
  intro zs0 zo0 zh0
  refine iter_run (f := (f65_1 l)) (P := fun zs zo => Wc cx 49 (.loop L65_1) [(0, .v (ssl (eL eI) l)), (6, .v (osl eI true zs.1)), (7, .v (.bool zs.2.1)), (8, .v (.int .i64 zs.2.2))] ((QO (QX 2 (fun (y : (List Int) × Bool) => [(0, .v (ssl (eL eI) l)), (6, .v (osl eI true y.1)), (7, .v (.bool y.2))])) (QR (fun (y : (List Int) × Bool) => [(4, .v (osl eI true y.1)), (5, .v (.bool y.2))]))) zo)) ?_ zh0
  rintro ⟨out_6, more_7, i_8⟩ zo zr h hk hx
  try dsimp only at hk ⊢
  rw [f65_1] at h
  refine Wc.loop ?_
  refine Wc.seq ?_
  refine Wc.seq ?_
  refine Wc.evk 5 (by conv => lhs; simp) ?_
  obtain ⟨w10, h11, h⟩ := bind_some h
  refine Wo.mono (Q := fun V => V = [(0, .v (ssl (eL eI) l)), (6, .v (osl eI true out_6)), (7, .v (.bool more_7)), (8, .v (.int .i64 i_8)), (22, .v (.bool w10))]) ?_ ?_
  · by_cases knh11 : i_8 < (l.length : Int)
    · rw [if_pos knh11] at h11
      refine Wo.gh (vle_co (s := 19) (t1 := .bool true) rfl (by simp) (tle_bool (by simpa using knh11)) (by conv => lhs; simp)) ?_
      refine Wo.evs (by conv => lhs; simp) ?_
      refine Wo.nil ?_
      cases h11
      first | rfl | simp
    · rw [if_neg knh11] at h11
      refine Wo.gh (vle_co (s := 19) (t1 := .bool false) rfl (by simp) (tle_bool (by simpa using knh11)) (by conv => lhs; simp)) ?_
      refine Wo.evs (by conv => lhs; simp) ?_
      refine Wo.nil ?_
      cases h11
      first | rfl | simp
  · rintro V rfl
    generalize w10 = x_9 at *
    try dsimp only at h
    by_cases kc12 : x_9 = true
    · rw [if_pos kc12] at h
      refine Wc.condT' (t := _) (by conv => lhs; simp) (by simpa using kc12) ?_
      refine Wc.seq ?_
      refine Wc.kil (by conv => lhs; simp) ?_
      refine Wc.skip ?_
      refine Wc.seq ?_
      obtain ⟨w13, h14, h⟩ := bind_some h
      refine Wc.mono (Q := (QO (QN (fun (y : (List Int) × Bool) => [(0, .v (ssl (eL eI) l)), (6, .v (osl eI true y.1)), (7, .v (.bool y.2)), (8, .v (.int .i64 i_8))])) (QR (fun (y : (List Int) × Bool) => [(4, .v (osl eI true y.1)), (5, .v (.bool y.2))]))) w13) ?_ ?_
      · skip
        refine Wc.block ?_
        refine Wc.seq ?_
        obtain ⟨v_15, h16, h14⟩ := bind_some h14
        obtain ⟨ga16, gb16, gc16⟩ := ix_some h16
        have gn16 := ix_ne h16
        have gd16 := arr_at (E := (eL eI)) (b := false) gc16
        simp at gd16
        refine Wc.evs (by conv => lhs; simp [ga16, gb16, gn16, gd16]) ?_
        obtain ⟨o17, h18, h14⟩ := bind_some h14
        refine Wo.call (by simp) rfl (by (conv => lhs; simp [ga16, gb16, gn16, gd16, cx, ioTab]) <;> rfl) (r79 h18) (by simp) (by simp) (by (conv => lhs; simp [ga16, gb16, gn16, gd16, cx, ioTab]) <;> rfl) (by (conv => lhs; simp [ga16, gb16, gn16, gd16]) <;> rfl) ?_
        refine Wo.evs (by conv => lhs; simp [ga16, gb16, gn16, gd16]) ?_
        refine Wo.nil ?_
        refine Wc.seq ?_
        refine Wc.seq ?_
        refine Wc.evs (by conv => lhs; simp) ?_
        refine Wo.nil ?_
        by_cases kc19 : o17.2 = true
        · rw [if_pos kc19] at h14
          refine Wc.condT' (t := _) (by conv => lhs; simp) (by simpa using kc19) ?_
          refine Wc.seq ?_
          refine Wc.kil (by conv => lhs; simp) ?_
          refine Wc.exit ?_
          cases h14
          exact ⟨rfl, by first | rfl | simp⟩
        · rw [if_neg kc19] at h14
          refine Wc.condF' (t := _) (by conv => lhs; simp) (by simpa using kc19) ?_
          refine Wc.seq ?_
          refine Wc.kil (by conv => lhs; simp) ?_
          refine Wc.skip ?_
          refine Wc.seq ?_
          refine Wc.seq ?_
          refine Wc.evs (by conv => lhs; simp) ?_
          refine Wo.nil ?_
          by_cases kc20 : (o17.1.length : Int) = 0
          · rw [if_pos kc20] at h14
            refine Wc.condT' (t := _) (by conv => lhs; simp) (by simpa using kc20) ?_
            refine Wc.seq ?_
            refine Wc.kil (by conv => lhs; simp) ?_
            refine Wc.seq ?_
            refine Wc.evs (by conv => lhs; simp) ?_
            refine Wo.nil ?_
            refine Wc.ret ?_
            cases h14
            exact ⟨rfl, by first | rfl | simp⟩
          · rw [if_neg kc20] at h14
            refine Wc.condF' (t := _) (by conv => lhs; simp) (by simpa using kc20) ?_
            refine Wc.seq ?_
            refine Wc.kil (by conv => lhs; simp) ?_
            refine Wc.skip ?_
            refine Wc.seq ?_
            refine Wc.evs (by conv => lhs; simp) ?_
            refine Wo.nil ?_
            obtain ⟨w21, h22, h14⟩ := bind_some h14
            refine Wc.mono (Q := (QN (fun (y : (List Int) × Bool) => [(0, .v (ssl (eL eI) l)), (6, .v (osl eI true y.1)), (7, .v (.bool y.2)), (8, .v (.int .i64 i_8))])) w21) ?_ ?_
            · skip
              by_cases kc23 : (o17.1.length : Int) = 1
              · rw [if_pos kc23] at h22
                refine Wc.condT' (t := _) (by conv => lhs; simp) (by simpa using kc23) ?_
                refine Wc.seq ?_
                refine Wc.kil (by conv => lhs; simp) ?_
                refine Wc.seq ?_
                obtain ⟨v_24, h25, h22⟩ := bind_some h22
                obtain ⟨ga25, gb25, gc25⟩ := ix_some h25
                have gn25 := ix_ne h25
                have gf25 := arr_fit (E := eI) (b := true) (i := (0 : Int).toNat) (l := o17.1) (by omega)
                have gg25_0 := arr_get (E := eI) (b := true) (o := 0) gc25 (by decide)
                simp at gf25 gg25_0
                have gl25 : (0 : Int).toNat < o17.1.length := by omega
                have gk25 : 0 < o17.1.length := by omega
                obtain ⟨l_26, h27, h22⟩ := bind_some h22
                have gx27 := appT_arr (E := eI) (b := true) (y := true) h27 (by decide)
                simp at gx27
                refine Wc.evs (by conv => lhs; simp [-getElem?_pos, List.getElem?_cons_zero, List.getElem?_cons_succ, gb25, gn25, gf25, gg25_0, gl25, gk25, gx27]) ?_
                refine Wo.nil ?_
                refine Wc.evs (by conv => lhs; simp) ?_
                refine Wo.nil ?_
                cases h22
                exact ⟨rfl, by first | rfl | simp⟩
              · rw [if_neg kc23] at h22
                refine Wc.condF' (t := _) (by conv => lhs; simp) (by simpa using kc23) ?_
                refine Wc.seq ?_
                refine Wc.kil (by conv => lhs; simp) ?_
                refine Wc.skip ?_
                cases h22
                exact ⟨rfl, by first | rfl | simp⟩
            · skip
              obtain ⟨out_28, more_29⟩ := w21
              rintro ex V ⟨rfl, rfl⟩
              dsimp only at h14 ⊢
              cases h14
              exact ⟨rfl, by first | rfl | simp⟩
      · skip
        rcases w13 with ⟨out_30, more_31⟩ | ⟨x_32, x_33⟩
        · rintro ex V ⟨rfl, rfl⟩
          dsimp only at h ⊢
          refine Wc.evs (by conv => lhs; simp) ?_
          refine Wo.nil ?_
          refine Wc.start (V1 := [(0, .v (ssl (eL eI) l)), (6, .v (osl eI true out_30)), (7, .v (.bool more_31)), (8, .v (.int .i64 (w64 (i_8 + 1))))]) ?_ (hk _ (Option.some.inj h).symm)
          first | rfl | simp
        · rintro ex V ⟨rfl, rfl⟩
          dsimp only at h ⊢
          have e0 := hx _ (Option.some.inj h).symm
          subst e0
          exact ⟨rfl, by first | rfl | simp⟩
    · rw [if_neg kc12] at h
      refine Wc.condF' (t := _) (by conv => lhs; simp) (by simpa using kc12) ?_
      refine Wc.seq ?_
      refine Wc.kil (by conv => lhs; simp) ?_
      refine Wc.exit ?_
      have e0 := hx _ (Option.some.inj h).symm
      subst e0
      exact ⟨rfl, by first | rfl | simp⟩
theorem r65_0 {l : (List (List Int))} : ∀ zs zo, iter (f65_0 l) zs = some zo → Wc cx 49 (.loop L65_0) [(0, .v (ssl (eL eI) l)), (6, .v (osl eI true zs.1)), (7, .v (.bool zs.2))] ((QO (QX 0 (fun (y : (List Int)) => [(6, .v (osl eI true y))])) (QR (fun (y : (List Int) × Bool) => [(4, .v (osl eI true y.1)), (5, .v (.bool y.2))]))) zo) := by
  intro zs0 zo0 zh0
  refine iter_run (f := (f65_0 l)) (P := fun zs zo => Wc cx 49 (.loop L65_0) [(0, .v (ssl (eL eI) l)), (6, .v (osl eI true zs.1)), (7, .v (.bool zs.2))] ((QO (QX 0 (fun (y : (List Int)) => [(6, .v (osl eI true y))])) (QR (fun (y : (List Int) × Bool) => [(4, .v (osl eI true y.1)), (5, .v (.bool y.2))]))) zo)) ?_ zh0
  rintro ⟨out_3, more_4⟩ zo zr h hk hx
  try dsimp only at hk ⊢
  rw [f65_0] at h
  refine Wc.loop ?_
  refine Wc.seq ?_
  refine Wc.seq ?_
  refine Wc.evs (by conv => lhs; simp) ?_
  refine Wo.nil ?_
  by_cases kc5 : more_4 = true
  · rw [if_pos kc5] at h
    refine Wc.condT' (t := _) (by conv => lhs; simp) (by simpa using kc5) ?_
    refine Wc.seq ?_
    refine Wc.kil (by conv => lhs; simp) ?_
    refine Wc.skip ?_
    refine Wc.block ?_
    refine Wc.seq ?_
    refine Wc.evs (by conv => lhs; simp) ?_
    refine Wo.nil ?_
    refine Wc.seq ?_
    refine Wc.evs (by conv => lhs; simp) ?_
    refine Wo.nil ?_
    refine Wc.block ?_
    obtain ⟨w34, h35, h⟩ := bind_some h
    refine Wc.start (V1 := [(0, .v (ssl (eL eI) l)), (6, .v (osl eI true out_3)), (7, .v (.bool false)), (8, .v (.int .i64 0))]) (by first | rfl | simp) ?_
    refine Wc.mono (r65_1 _ _ h35) ?_
    rcases w34 with ⟨out_36, more_37⟩ | ⟨x_38, x_39⟩
    · rintro ex V ⟨rfl, rfl⟩
      dsimp only at h ⊢
      refine Wc.start (V1 := [(0, .v (ssl (eL eI) l)), (6, .v (osl eI true out_36)), (7, .v (.bool more_37))]) ?_ (hk _ (Option.some.inj h).symm)
      first | rfl | simp
    · rintro ex V ⟨rfl, rfl⟩
      dsimp only at h ⊢
      have e0 := hx _ (Option.some.inj h).symm
      subst e0
      exact ⟨rfl, by first | rfl | simp⟩
  · rw [if_neg kc5] at h
    refine Wc.condF' (t := _) (by conv => lhs; simp) (by simpa using kc5) ?_
    refine Wc.seq ?_
    refine Wc.kil (by conv => lhs; simp) ?_
    refine Wc.exit ?_
    have e0 := hx _ (Option.some.inj h).symm
    subst e0
    exact ⟨rfl, by first | rfl | simp⟩
theorem r65 {l : (List (List Int))} {set1 : (List Int)} {r : (List Int) × Bool} (h : f65 l set1 = some r) : VJx cx (.ca 65 [(ssl (eL eI) l), (ssl eI set1)] (.tup [(osl eI true r.1), (.bool r.2)]) []) := by
  unfold f65 at h
  refine ca_of rfl rfl (by decide) rfl ?_
  refine Wc.start (V1 := [(0, .v (ssl (eL eI) l)), (1, .v (ssl eI set1))]) (by simp) ?_
  refine Wc.seq ?_
  refine Wc.evs (by conv => lhs; simp) ?_
  refine Wo.nil ?_
  refine Wc.seq ?_
  obtain ⟨l_1, h2, h⟩ := bind_some h
  have gx2 := appT_arr2 (E := eI) (b := true) (b' := false) (y := false) h2 (by decide) (arr_sc rfl _)
  simp at gx2
  refine Wc.evs (by conv => lhs; simp [gx2]) ?_
  refine Wo.gh (vle_co (s := 6) (t1 := (osl eI true l_1)) rfl (by simp) (tle_own rfl) (by conv => lhs; simp)) ?_
  refine Wo.nil ?_
  refine Wc.seq ?_
  refine Wc.seq ?_
  refine Wc.evs (by conv => lhs; simp) ?_
  refine Wo.nil ?_
  refine Wc.block ?_
  obtain ⟨w40, h41, h⟩ := bind_some h
  refine Wc.start (V1 := [(0, .v (ssl (eL eI) l)), (6, .v (osl eI true l_1)), (7, .v (.bool true))]) (by first | rfl | simp) ?_
  refine Wc.mono (r65_0 _ _ h41) ?_
  rcases w40 with out_42 | ⟨x_43, x_44⟩
  · rintro ex V ⟨rfl, rfl⟩
    try dsimp only at h
    refine Wc.seq ?_
    refine Wc.evs (by conv => lhs; simp) ?_
    refine Wo.nil ?_
    refine Wc.ret (res_of (.inr rfl) ?_)
    cases h
    exact ⟨_, _, _, by conv => lhs; simp, by (conv => lhs; simp [cx, ioTab, List.range, List.range.loop]) <;> rfl, by first | rfl | simp⟩
  · rintro ex V ⟨rfl, rfl⟩
    dsimp only at h ⊢
    refine res_of (.inr rfl) ?_
    cases h
    exact ⟨_, _, _, by conv => lhs; simp, by (conv => lhs; simp [cx, ioTab, List.range, List.range.loop]) <;> rfl, by first | rfl | simp⟩
theorem r43 {n0 : Int} {l : (List (List Int))} {set2 : (List Int)} {r : (List Int) × Bool} (h : f43 n0 l set2 = some r) : VJx cx (.ca 43 [(.int .i64 n0), (ssl (eL eI) l), (ssl eI set2)] (.tup [(osl eI true r.1), (.bool r.2)]) []) := by
  unfold f43 at h
  refine ca_of rfl rfl (by decide) rfl ?_
  refine Wc.start (V1 := [(0, .v (.int .i64 n0)), (1, .v (ssl (eL eI) l)), (2, .v (ssl eI set2))]) (by simp) ?_
  refine Wc.seq ?_
  refine Wc.evs (by conv => lhs; simp) ?_
  refine Wo.nil ?_
  refine Wc.seq ?_
  refine Wc.seq ?_
  refine Wc.evs (by conv => lhs; simp) ?_
  obtain ⟨o1, h2, h⟩ := bind_some h
  refine Wo.call (by simp) rfl (by (conv => lhs; simp [cx, ioTab]) <;> rfl) (r33 h2) (by simp) (by simp) (by (conv => lhs; simp [cx, ioTab]) <;> rfl) (by (conv => lhs; simp) <;> rfl) ?_
  refine Wo.evk 2 (by conv => lhs; simp) ?_
  obtain ⟨w4, h5, h⟩ := bind_some h
  refine Wo.mono (Q := fun V => V = [(1, .v (ssl (eL eI) l)), (2, .v (ssl eI set2)), (19, .v (.bool w4))]) ?_ ?_
  · by_cases knh5 : ¬ (o1 = true)
    · rw [if_pos knh5] at h5
      refine Wo.gh (vle_co (s := 14) (t1 := .bool true) rfl (by simp) (tle_bool (by simpa using knh5)) (by conv => lhs; simp)) ?_
      refine Wo.evs (by conv => lhs; simp) ?_
      refine Wo.nil ?_
      cases h5
      first | rfl | simp
    · rw [if_neg knh5] at h5
      refine Wo.gh (vle_co (s := 14) (t1 := .bool false) rfl (by simp) (tle_bool (by simpa using knh5)) (by conv => lhs; simp)) ?_
      refine Wo.evs (by conv => lhs; simp) ?_
      obtain ⟨o6, h7, h5⟩ := bind_some h5
      refine Wo.call (by simp) rfl (by (conv => lhs; simp [cx, ioTab]) <;> rfl) (r60 h7) (by simp) (by simp) (by (conv => lhs; simp [cx, ioTab]) <;> rfl) (by (conv => lhs; simp) <;> rfl) ?_
      refine Wo.evs (by conv => lhs; simp) ?_
      refine Wo.nil ?_
      cases h5
      first | rfl | simp
  · rintro V rfl
    generalize w4 = x_3 at *
    try dsimp only at h
    by_cases kc8 : x_3 = true
    · rw [if_pos kc8] at h
      refine Wc.condT' (t := _) (by conv => lhs; simp) (by simpa using kc8) ?_
      refine Wc.seq ?_
      refine Wc.kil (by conv => lhs; simp) ?_
      refine Wc.seq ?_
      obtain ⟨l_9, h10, h⟩ := bind_some h
      have gx10 := appT_arr2 (E := eI) (b := true) (b' := false) (y := false) h10 (by decide) (arr_sc rfl _)
      simp at gx10
      refine Wc.evs (by conv => lhs; simp [gx10]) ?_
      refine Wo.gh (vle_co (s := 6) (t1 := (osl eI true l_9)) rfl (by simp) (tle_own rfl) (by conv => lhs; simp)) ?_
      refine Wo.nil ?_
      refine Wc.ret (res_of (.inr rfl) ?_)
      cases h
      exact ⟨_, _, _, by conv => lhs; simp, by (conv => lhs; simp [cx, ioTab, List.range, List.range.loop]) <;> rfl, by first | rfl | simp [gx10]⟩
    · rw [if_neg kc8] at h
      refine Wc.condF' (t := _) (by conv => lhs; simp) (by simpa using kc8) ?_
      refine Wc.seq ?_
      refine Wc.kil (by conv => lhs; simp) ?_
      refine Wc.skip ?_
      refine Wc.seq ?_
      refine Wc.evs (by conv => lhs; simp) ?_
      obtain ⟨o11, h12, h⟩ := bind_some h
      refine Wo.call (by simp) rfl (by (conv => lhs; simp [cx, ioTab]) <;> rfl) (r65 h12) (by simp) (by simp) (by (conv => lhs; simp [cx, ioTab]) <;> rfl) (by (conv => lhs; simp) <;> rfl) ?_
      refine Wo.evs (by conv => lhs; simp) ?_
      refine Wo.nil ?_
      refine Wc.seq ?_
      refine Wc.evs (by conv => lhs; simp) ?_
      refine Wo.nil ?_
      refine Wc.ret (res_of (.inr rfl) ?_)
      cases h
      exact ⟨_, _, _, by conv => lhs; simp, by (conv => lhs; simp [cx, ioTab, List.range, List.range.loop]) <;> rfl, by first | rfl | simp⟩
theorem r41 {n0 : Int} {l : (List (List Int))} {c : (List Int)} {r : Bool} (h : f41 n0 l c = some r) : VJx cx (.ca 41 [(.int .i64 n0), (ssl (eL eI) l), (ssl eI c)] (.bool r) []) := by
  unfold f41 at h
  refine ca_of rfl rfl (by decide) rfl ?_
  refine Wc.start (V1 := [(0, .v (.int .i64 n0)), (1, .v (ssl (eL eI) l)), (2, .v (ssl eI c))]) (by simp) ?_
  refine Wc.seq ?_
  refine Wc.evs (by conv => lhs; simp) ?_
  refine Wo.nil ?_
  refine Wc.seq ?_
  refine Wc.seq ?_
  refine Wc.evs (by conv => lhs; simp) ?_
  obtain ⟨o1, h2, h⟩ := bind_some h
  refine Wo.call (by simp) rfl (by (conv => lhs; simp [cx, ioTab]) <;> rfl) (r33 h2) (by simp) (by simp) (by (conv => lhs; simp [cx, ioTab]) <;> rfl) (by (conv => lhs; simp) <;> rfl) ?_
  refine Wo.evk 2 (by conv => lhs; simp) ?_
  obtain ⟨w4, h5, h⟩ := bind_some h
  refine Wo.mono (Q := fun V => V = [(0, .v (.int .i64 n0)), (1, .v (ssl (eL eI) l)), (2, .v (ssl eI c)), (18, .v (.bool w4))]) ?_ ?_
  · by_cases knh5 : ¬ (o1 = true)
    · rw [if_pos knh5] at h5
      refine Wo.gh (vle_co (s := 13) (t1 := .bool true) rfl (by simp) (tle_bool (by simpa using knh5)) (by conv => lhs; simp)) ?_
      refine Wo.evs (by conv => lhs; simp) ?_
      refine Wo.nil ?_
      cases h5
      first | rfl | simp
    · rw [if_neg knh5] at h5
      refine Wo.gh (vle_co (s := 13) (t1 := .bool false) rfl (by simp) (tle_bool (by simpa using knh5)) (by conv => lhs; simp)) ?_
      refine Wo.evs (by conv => lhs; simp) ?_
      obtain ⟨o6, h7, h5⟩ := bind_some h5
      refine Wo.call (by simp) rfl (by (conv => lhs; simp [cx, ioTab]) <;> rfl) (r60 h7) (by simp) (by simp) (by (conv => lhs; simp [cx, ioTab]) <;> rfl) (by (conv => lhs; simp) <;> rfl) ?_
      refine Wo.evs (by conv => lhs; simp) ?_
      refine Wo.nil ?_
      cases h5
      first | rfl | simp
  · rintro V rfl
    generalize w4 = x_3 at *
    try dsimp only at h
    by_cases kc8 : x_3 = true
    · rw [if_pos kc8] at h
      refine Wc.condT' (t := _) (by conv => lhs; simp) (by simpa using kc8) ?_
      refine Wc.seq ?_
      refine Wc.kil (by conv => lhs; simp) ?_
      refine Wc.seq ?_
      refine Wc.evs (by conv => lhs; simp) ?_
      refine Wo.nil ?_
      refine Wc.ret (res_of (.inr rfl) ?_)
      cases h
      exact ⟨_, _, _, by conv => lhs; simp, by (conv => lhs; simp [cx, ioTab, List.range, List.range.loop]) <;> rfl, by first | rfl | simp⟩
    · rw [if_neg kc8] at h
      refine Wc.condF' (t := _) (by conv => lhs; simp) (by simpa using kc8) ?_
      refine Wc.seq ?_
      refine Wc.kil (by conv => lhs; simp) ?_
      refine Wc.skip ?_
      refine Wc.seq ?_
      refine Wc.evs (by conv => lhs; simp) ?_
      obtain ⟨o9, h10, h⟩ := bind_some h
      refine Wo.call (by simp) rfl (by (conv => lhs; simp [cx, ioTab]) <;> rfl) (r15 h10) (by simp) (by simp) (by (conv => lhs; simp [cx, ioTab]) <;> rfl) (by (conv => lhs; simp) <;> rfl) ?_
      obtain ⟨o11, h12, h⟩ := bind_some h
      refine Wo.call (by simp) rfl (by (conv => lhs; simp [cx, ioTab]) <;> rfl) (r43 h12) (by simp) (by simp) (by (conv => lhs; simp [cx, ioTab]) <;> rfl) (by (conv => lhs; simp) <;> rfl) ?_
      refine Wo.evs (by conv => lhs; simp) ?_
      refine Wo.nil ?_
      refine Wc.seq ?_
      refine Wc.evs (by conv => lhs; simp) ?_
      refine Wo.nil ?_
      refine Wc.ret (res_of (.inr rfl) ?_)
      cases h
      exact ⟨_, _, _, by conv => lhs; simp, by (conv => lhs; simp [cx, ioTab, List.range, List.range.loop]) <;> rfl, by first | rfl | simp⟩
theorem r31_1 {l : (List (List Int))} {m : (List Bool)} {i_1 : Int} : ∀ zs zo, iter (f31_1 l m i_1) zs = some zo → Wc cx 71 (.loop L31_1) [(0, .v (ssl (eL eI) l)), (1, .v (ssl eB m)), (5, .v (.int .i64 i_1)), (6, .v (.bool zs.1)), (7, .v (.int .i64 zs.2))] ((QX 2 (fun (y : Bool) => [(0, .v (ssl (eL eI) l)), (1, .v (ssl eB m)), (5, .v (.int .i64 i_1)), (6, .v (.bool y))])) zo) := by
  intro zs0 zo0 zh0
  refine iter_run (f := (f31_1 l m i_1)) (P := fun zs zo => Wc cx 71 (.loop L31_1) [(0, .v (ssl (eL eI) l)), (1, .v (ssl eB m)), (5, .v (.int .i64 i_1)), (6, .v (.bool zs.1)), (7, .v (.int .i64 zs.2))] ((QX 2 (fun (y : Bool) => [(0, .v (ssl (eL eI) l)), (1, .v (ssl eB m)), (5, .v (.int .i64 i_1)), (6, .v (.bool y))])) zo)) ?_ zh0
  rintro ⟨is_3, k_4⟩ zo zr h hk hx
  try dsimp only at hk ⊢
  rw [f31_1] at h
  refine Wc.loop ?_
  refine Wc.seq ?_
  refine Wc.seq ?_
  obtain ⟨v_5, h6, h⟩ := bind_some h
  obtain ⟨ga6, gb6, gc6⟩ := ix_some h6
  have gn6 := ix_ne h6
  have gd6 := arr_at (E := (eL eI)) (b := false) gc6
  simp at gd6
  refine Wc.evs (by conv => lhs; simp [ga6, gb6, gn6, gd6]) ?_
  refine Wo.nil ?_
  by_cases kc7 : k_4 < (v_5.length : Int)
  · rw [if_pos kc7] at h
    refine Wc.condT' (t := _) (by conv => lhs; simp) (by simpa using kc7) ?_
    refine Wc.seq ?_
    refine Wc.kil (by conv => lhs; simp) ?_
    refine Wc.skip ?_
    refine Wc.seq ?_
    refine Wc.block ?_
    refine Wc.seq ?_
    obtain ⟨v_8, h9, h⟩ := bind_some h
    obtain ⟨ga9, gb9, gc9⟩ := ix_some h9
    have gn9 := ix_ne h9
    have gd9 := arr_at (E := eI) (b := false) gc9
    simp at gd9
    refine Wc.evs (by conv => lhs; simp [ga6, gb6, gn6, gd6, ga9, gb9, gn9, gd9]) ?_
    refine Wo.nil ?_
    refine Wc.evk 2 (by conv => lhs; simp) ?_
    obtain ⟨w11, h12, h⟩ := bind_some h
    refine Wo.mono (Q := fun V => V = [(0, .v (ssl (eL eI) l)), (1, .v (ssl eB m)), (5, .v (.int .i64 i_1)), (6, .v (.bool w11)), (7, .v (.int .i64 k_4))]) ?_ ?_
    · by_cases knh12 : is_3 = true
      · rw [if_pos knh12] at h12
        refine Wo.gh (vle_co (s := 32) (t1 := .bool true) rfl (by simp) (tle_bool (by simpa using knh12)) (by conv => lhs; simp)) ?_
        refine Wo.evs (by conv => lhs; simp) ?_
        refine Wo.nil ?_
        cases h12
        first | rfl | simp
      · rw [if_neg knh12] at h12
        refine Wo.gh (vle_co (s := 32) (t1 := .bool false) rfl (by simp) (tle_bool (by simpa using knh12)) (by conv => lhs; simp)) ?_
        refine Wo.evk 3 (by conv => lhs; simp) ?_
        obtain ⟨w14, h15, h12⟩ := bind_some h12
        refine Wo.mono (Q := fun V => V = [(0, .v (ssl (eL eI) l)), (1, .v (ssl eB m)), (5, .v (.int .i64 i_1)), (6, .v (.bool w14)), (7, .v (.int .i64 k_4))]) ?_ ?_
        · by_cases knh15 : v_8 > 0
          · rw [if_pos knh15] at h15
            refine Wo.gh (vle_co (s := 35) (t1 := .bool true) rfl (by simp) (tle_bool (by simpa using knh15)) (by conv => lhs; simp)) ?_
            refine Wo.evk 6 (by conv => lhs; simp) ?_
            obtain ⟨w17, h18, h15⟩ := bind_some h15
            refine Wo.mono (Q := fun V => V = [(0, .v (ssl (eL eI) l)), (1, .v (ssl eB m)), (5, .v (.int .i64 i_1)), (6, .v (.bool w17)), (7, .v (.int .i64 k_4))]) ?_ ?_
            · by_cases knh18 : v_8 ≤ (m.length : Int)
              · rw [if_pos knh18] at h18
                refine Wo.gh (vle_co (s := 41) (t1 := .bool true) rfl (by simp) (tle_bool (by simpa using knh18)) (by conv => lhs; simp)) ?_
                obtain ⟨v_19, h20, h18⟩ := bind_some h18
                obtain ⟨ga20, gb20, gc20⟩ := ix_some h20
                have gn20 := ix_ne h20
                have gd20 := arr_at (E := eB) (b := false) gc20
                simp at gd20
                refine Wo.evk 8 (by conv => lhs; simp [ga20, gb20, gn20, gd20]) ?_
                obtain ⟨w22, h23, h18⟩ := bind_some h18
                refine Wo.mono (Q := fun V => V = [(0, .v (ssl (eL eI) l)), (1, .v (ssl eB m)), (5, .v (.int .i64 i_1)), (6, .v (.bool w22)), (7, .v (.int .i64 k_4))]) ?_ ?_
                · by_cases knh23 : v_19 = true
                  · rw [if_pos knh23] at h23
                    refine Wo.gh (vle_co (s := 49) (t1 := .bool true) rfl (by simp) (tle_bool (by simpa using knh23)) (by conv => lhs; simp)) ?_
                    refine Wo.evs (by conv => lhs; simp [ga20, gb20, gn20, gd20]) ?_
                    refine Wo.nil ?_
                    cases h23
                    first | rfl | simp [ga20, gb20, gn20, gd20]
                  · rw [if_neg knh23] at h23
                    refine Wo.gh (vle_co (s := 49) (t1 := .bool false) rfl (by simp) (tle_bool (by simpa using knh23)) (by conv => lhs; simp)) ?_
                    refine Wo.evk 3 (by conv => lhs; simp [ga20, gb20, gn20, gd20]) ?_
                    obtain ⟨w25, h26, h23⟩ := bind_some h23
                    refine Wo.mono (Q := fun V => V = [(0, .v (ssl (eL eI) l)), (1, .v (ssl eB m)), (5, .v (.int .i64 i_1)), (6, .v (.bool w25)), (7, .v (.int .i64 k_4))]) ?_ ?_
                    · by_cases knh26 : v_8 < 0
                      · rw [if_pos knh26] at h26
                        refine Wo.gh (vle_co (s := 52) (t1 := .bool true) rfl (by simp) (tle_bool (by simpa using knh26)) (by conv => lhs; simp)) ?_
                        refine Wo.evk 7 (by conv => lhs; simp [ga20, gb20, gn20, gd20]) ?_
                        obtain ⟨w28, h29, h26⟩ := bind_some h26
                        refine Wo.mono (Q := fun V => V = [(0, .v (ssl (eL eI) l)), (1, .v (ssl eB m)), (5, .v (.int .i64 i_1)), (6, .v (.bool w28)), (7, .v (.int .i64 k_4))]) ?_ ?_
                        · by_cases knh29 : v_8 ≥ (w64 (-(m.length : Int)))
                          · rw [if_pos knh29] at h29
                            refine Wo.gh (vle_co (s := 59) (t1 := .bool true) rfl (by simp) (tle_bool (by simpa using knh29)) (by conv => lhs; simp)) ?_
                            obtain ⟨v_30, h31, h29⟩ := bind_some h29
                            obtain ⟨ga31, gb31, gc31⟩ := ix_some h31
                            have gn31 := ix_ne h31
                            have gd31 := arr_at (E := eB) (b := false) gc31
                            simp at gd31
                            refine Wo.evs (by conv => lhs; simp [ga20, gb20, gn20, gd20, ga31, gb31, gn31, gd31]) ?_
                            refine Wo.nil ?_
                            cases h29
                            first | rfl | simp [ga20, gb20, gn20, gd20, ga31, gb31, gn31, gd31]
                          · rw [if_neg knh29] at h29
                            refine Wo.gh (vle_co (s := 59) (t1 := .bool false) rfl (by simp) (tle_bool (by simpa using knh29)) (by conv => lhs; simp)) ?_
                            refine Wo.evs (by conv => lhs; simp [ga20, gb20, gn20, gd20]) ?_
                            refine Wo.nil ?_
                            cases h29
                            first | rfl | simp [ga20, gb20, gn20, gd20]
                        · rintro V rfl
                          generalize w28 = is_27 at *
                          try dsimp only at h26
                          cases h26
                          first | rfl | simp [ga20, gb20, gn20, gd20]
                      · rw [if_neg knh26] at h26
                        refine Wo.gh (vle_co (s := 52) (t1 := .bool false) rfl (by simp) (tle_bool (by simpa using knh26)) (by conv => lhs; simp)) ?_
                        refine Wo.evs (by conv => lhs; simp [ga20, gb20, gn20, gd20]) ?_
                        refine Wo.nil ?_
                        cases h26
                        first | rfl | simp [ga20, gb20, gn20, gd20]
                    · rintro V rfl
                      generalize w25 = is_24 at *
                      try dsimp only at h23
                      cases h23
                      first | rfl | simp [ga20, gb20, gn20, gd20]
                · rintro V rfl
                  generalize w22 = is_21 at *
                  try dsimp only at h18
                  cases h18
                  first | rfl | simp [ga20, gb20, gn20, gd20]
              · rw [if_neg knh18] at h18
                refine Wo.gh (vle_co (s := 41) (t1 := .bool false) rfl (by simp) (tle_bool (by simpa using knh18)) (by conv => lhs; simp)) ?_
                refine Wo.evk 11 (by conv => lhs; simp) ?_
                obtain ⟨w33, h34, h18⟩ := bind_some h18
                refine Wo.mono (Q := fun V => V = [(0, .v (ssl (eL eI) l)), (1, .v (ssl eB m)), (5, .v (.int .i64 i_1)), (6, .v (.bool w33)), (7, .v (.int .i64 k_4))]) ?_ ?_
                · by_cases knh34 : v_8 < 0
                  · rw [if_pos knh34] at h34
                    refine Wo.gh (vle_co (s := 52) (t1 := .bool true) rfl (by simp) (tle_bool (by simpa using knh34)) (by conv => lhs; simp)) ?_
                    refine Wo.evk 7 (by conv => lhs; simp) ?_
                    obtain ⟨w36, h37, h34⟩ := bind_some h34
                    refine Wo.mono (Q := fun V => V = [(0, .v (ssl (eL eI) l)), (1, .v (ssl eB m)), (5, .v (.int .i64 i_1)), (6, .v (.bool w36)), (7, .v (.int .i64 k_4))]) ?_ ?_
                    · by_cases knh37 : v_8 ≥ (w64 (-(m.length : Int)))
                      · rw [if_pos knh37] at h37
                        refine Wo.gh (vle_co (s := 59) (t1 := .bool true) rfl (by simp) (tle_bool (by simpa using knh37)) (by conv => lhs; simp)) ?_
                        obtain ⟨v_38, h39, h37⟩ := bind_some h37
                        obtain ⟨ga39, gb39, gc39⟩ := ix_some h39
                        have gn39 := ix_ne h39
                        have gd39 := arr_at (E := eB) (b := false) gc39
                        simp at gd39
                        refine Wo.evs (by conv => lhs; simp [ga39, gb39, gn39, gd39]) ?_
                        refine Wo.nil ?_
                        cases h37
                        first | rfl | simp [ga39, gb39, gn39, gd39]
                      · rw [if_neg knh37] at h37
                        refine Wo.gh (vle_co (s := 59) (t1 := .bool false) rfl (by simp) (tle_bool (by simpa using knh37)) (by conv => lhs; simp)) ?_
                        refine Wo.evs (by conv => lhs; simp) ?_
                        refine Wo.nil ?_
                        cases h37
                        first | rfl | simp
                    · rintro V rfl
                      generalize w36 = is_35 at *
                      try dsimp only at h34
                      cases h34
                      first | rfl | simp
                  · rw [if_neg knh34] at h34
                    refine Wo.gh (vle_co (s := 52) (t1 := .bool false) rfl (by simp) (tle_bool (by simpa using knh34)) (by conv => lhs; simp)) ?_
                    refine Wo.evs (by conv => lhs; simp) ?_
                    refine Wo.nil ?_
                    cases h34
                    first | rfl | simp
                · rintro V rfl
                  generalize w33 = is_32 at *
                  try dsimp only at h18
                  cases h18
                  first | rfl | simp
            · rintro V rfl
              generalize w17 = is_16 at *
              try dsimp only at h15
              cases h15
              first | rfl | simp
          · rw [if_neg knh15] at h15
            refine Wo.gh (vle_co (s := 35) (t1 := .bool false) rfl (by simp) (tle_bool (by simpa using knh15)) (by conv => lhs; simp)) ?_
            refine Wo.evk 17 (by conv => lhs; simp) ?_
            obtain ⟨w41, h42, h15⟩ := bind_some h15
            refine Wo.mono (Q := fun V => V = [(0, .v (ssl (eL eI) l)), (1, .v (ssl eB m)), (5, .v (.int .i64 i_1)), (6, .v (.bool w41)), (7, .v (.int .i64 k_4))]) ?_ ?_
            · by_cases knh42 : v_8 < 0
              · rw [if_pos knh42] at h42
                refine Wo.gh (vle_co (s := 52) (t1 := .bool true) rfl (by simp) (tle_bool (by simpa using knh42)) (by conv => lhs; simp)) ?_
                refine Wo.evk 7 (by conv => lhs; simp) ?_
                obtain ⟨w44, h45, h42⟩ := bind_some h42
                refine Wo.mono (Q := fun V => V = [(0, .v (ssl (eL eI) l)), (1, .v (ssl eB m)), (5, .v (.int .i64 i_1)), (6, .v (.bool w44)), (7, .v (.int .i64 k_4))]) ?_ ?_
                · by_cases knh45 : v_8 ≥ (w64 (-(m.length : Int)))
                  · rw [if_pos knh45] at h45
                    refine Wo.gh (vle_co (s := 59) (t1 := .bool true) rfl (by simp) (tle_bool (by simpa using knh45)) (by conv => lhs; simp)) ?_
                    obtain ⟨v_46, h47, h45⟩ := bind_some h45
                    obtain ⟨ga47, gb47, gc47⟩ := ix_some h47
                    have gn47 := ix_ne h47
                    have gd47 := arr_at (E := eB) (b := false) gc47
                    simp at gd47
                    refine Wo.evs (by conv => lhs; simp [ga47, gb47, gn47, gd47]) ?_
                    refine Wo.nil ?_
                    cases h45
                    first | rfl | simp [ga47, gb47, gn47, gd47]
                  · rw [if_neg knh45] at h45
                    refine Wo.gh (vle_co (s := 59) (t1 := .bool false) rfl (by simp) (tle_bool (by simpa using knh45)) (by conv => lhs; simp)) ?_
                    refine Wo.evs (by conv => lhs; simp) ?_
                    refine Wo.nil ?_
                    cases h45
                    first | rfl | simp
                · rintro V rfl
                  generalize w44 = is_43 at *
                  try dsimp only at h42
                  cases h42
                  first | rfl | simp
              · rw [if_neg knh42] at h42
                refine Wo.gh (vle_co (s := 52) (t1 := .bool false) rfl (by simp) (tle_bool (by simpa using knh42)) (by conv => lhs; simp)) ?_
                refine Wo.evs (by conv => lhs; simp) ?_
                refine Wo.nil ?_
                cases h42
                first | rfl | simp
            · rintro V rfl
              generalize w41 = is_40 at *
              try dsimp only at h15
              cases h15
              first | rfl | simp
        · rintro V rfl
          generalize w14 = is_13 at *
          try dsimp only at h12
          cases h12
          first | rfl | simp
    · rintro V rfl
      generalize w11 = is_10 at *
      try dsimp only at h
      refine Wc.evs (by conv => lhs; simp) ?_
      refine Wo.nil ?_
      refine Wc.start (V1 := [(0, .v (ssl (eL eI) l)), (1, .v (ssl eB m)), (5, .v (.int .i64 i_1)), (6, .v (.bool is_10)), (7, .v (.int .i64 (w64 (k_4 + 1))))]) ?_ (hk _ (Option.some.inj h).symm)
      first | rfl | simp
  · rw [if_neg kc7] at h
    refine Wc.condF' (t := _) (by conv => lhs; simp) (by simpa using kc7) ?_
    refine Wc.seq ?_
    refine Wc.kil (by conv => lhs; simp) ?_
    refine Wc.exit ?_
    have e0 := hx _ (Option.some.inj h).symm
    subst e0
    exact ⟨rfl, by first | rfl | simp [ga6, gb6, gn6, gd6]⟩
theorem r31_0 {l : (List (List Int))} {m : (List Bool)} : ∀ zs zo, iter (f31_0 l m) zs = some zo → Wc cx 71 (.loop L31_0) [(0, .v (ssl (eL eI) l)), (1, .v (ssl eB m)), (5, .v (.int .i64 zs))] ((QO (QX 0 (fun (y : Unit) => [])) (QR (fun (y : Bool) => [(4, .v (.bool y))]))) zo) := by
  intro zs0 zo0 zh0
  refine iter_run (f := (f31_0 l m)) (P := fun zs zo => Wc cx 71 (.loop L31_0) [(0, .v (ssl (eL eI) l)), (1, .v (ssl eB m)), (5, .v (.int .i64 zs))] ((QO (QX 0 (fun (y : Unit) => [])) (QR (fun (y : Bool) => [(4, .v (.bool y))]))) zo)) ?_ zh0
  rintro i_1 zo zr h hk hx
  try dsimp only at hk ⊢
  rw [f31_0] at h
  refine Wc.loop ?_
  refine Wc.seq ?_
  refine Wc.seq ?_
  refine Wc.evs (by conv => lhs; simp) ?_
  refine Wo.nil ?_
  by_cases kc2 : i_1 < (l.length : Int)
  · rw [if_pos kc2] at h
    refine Wc.condT' (t := _) (by conv => lhs; simp) (by simpa using kc2) ?_
    refine Wc.seq ?_
    refine Wc.kil (by conv => lhs; simp) ?_
    refine Wc.skip ?_
    refine Wc.seq ?_
    refine Wc.block ?_
    refine Wc.seq ?_
    refine Wc.evs (by conv => lhs; simp) ?_
    refine Wo.nil ?_
    refine Wc.seq ?_
    refine Wc.seq ?_
    refine Wc.evs (by conv => lhs; simp) ?_
    refine Wo.nil ?_
    refine Wc.block ?_
    obtain ⟨w48, h49, h⟩ := bind_some h
    refine Wc.start (V1 := [(0, .v (ssl (eL eI) l)), (1, .v (ssl eB m)), (5, .v (.int .i64 i_1)), (6, .v (.bool false)), (7, .v (.int .i64 0))]) (by first | rfl | simp) ?_
    refine Wc.mono (r31_1 _ _ h49) ?_
    generalize w48 = is_50 at *
    rintro ex V ⟨rfl, rfl⟩
    try dsimp only at h
    refine Wc.seq ?_
    refine Wc.evs (by conv => lhs; simp) ?_
    refine Wo.nil ?_
    by_cases kc51 : ¬ (is_50 = true)
    · rw [if_pos kc51] at h
      refine Wc.condT' (t := _) (by conv => lhs; simp) (by simpa using kc51) ?_
      refine Wc.seq ?_
      refine Wc.kil (by conv => lhs; simp) ?_
      refine Wc.seq ?_
      refine Wc.evs (by conv => lhs; simp) ?_
      refine Wo.nil ?_
      refine Wc.ret ?_
      have e0 := hx _ (Option.some.inj h).symm
      subst e0
      exact ⟨rfl, by first | rfl | simp⟩
    · rw [if_neg kc51] at h
      refine Wc.condF' (t := _) (by conv => lhs; simp) (by simpa using kc51) ?_
      refine Wc.seq ?_
      refine Wc.kil (by conv => lhs; simp) ?_
      refine Wc.skip ?_
      refine Wc.evs (by conv => lhs; simp) ?_
      refine Wo.nil ?_
      refine Wc.start (V1 := [(0, .v (ssl (eL eI) l)), (1, .v (ssl eB m)), (5, .v (.int .i64 (w64 (i_1 + 1))))]) ?_ (hk _ (Option.some.inj h).symm)
      first | rfl | simp
  · rw [if_neg kc2] at h
    refine Wc.condF' (t := _) (by conv => lhs; simp) (by simpa using kc2) ?_
    refine Wc.seq ?_
    refine Wc.kil (by conv => lhs; simp) ?_
    refine Wc.exit ?_
    have e0 := hx _ (Option.some.inj h).symm
    subst e0
    exact ⟨rfl, by first | rfl | simp⟩
theorem r31 {l : (List (List Int))} {m : (List Bool)} {r : Bool} (h : f31 l m = some r) : VJx cx (.ca 31 [(ssl (eL eI) l), (ssl eB m)] (.bool r) []) := by
  unfold f31 at h
  refine ca_of rfl rfl (by decide) rfl ?_
  refine Wc.start (V1 := [(0, .v (ssl (eL eI) l)), (1, .v (ssl eB m))]) (by simp) ?_
  refine Wc.seq ?_
  refine Wc.evs (by conv => lhs; simp) ?_
  refine Wo.nil ?_
  refine Wc.seq ?_
  refine Wc.seq ?_
  refine Wc.evs (by conv => lhs; simp) ?_
  refine Wo.nil ?_
  refine Wc.block ?_
  obtain ⟨w52, h53, h⟩ := bind_some h
  refine Wc.start (V1 := [(0, .v (ssl (eL eI) l)), (1, .v (ssl eB m)), (5, .v (.int .i64 0))]) (by first | rfl | simp) ?_
  refine Wc.mono (r31_0 _ _ h53) ?_
  rcases w52 with ⟨⟩ | x_54
  · rintro ex V ⟨rfl, rfl⟩
    try dsimp only at h
    refine Wc.seq ?_
    refine Wc.evs (by conv => lhs; simp) ?_
    refine Wo.nil ?_
    refine Wc.ret (res_of (.inr rfl) ?_)
    cases h
    exact ⟨_, _, _, by conv => lhs; simp, by (conv => lhs; simp [cx, ioTab, List.range, List.range.loop]) <;> rfl, by first | rfl | simp⟩
  · rintro ex V ⟨rfl, rfl⟩
    try dsimp only at h
    refine res_of (.inr rfl) ?_
    cases h
    exact ⟨_, _, _, by conv => lhs; simp, by (conv => lhs; simp [cx, ioTab, List.range, List.range.loop]) <;> rfl, by first | rfl | simp⟩
theorem r14_1 {o4 : (Int × (List (List Int)) × (List Int))} {k_16 : Int} : ∀ zs zo, iter (f14_1 o4 k_16) zs = some zo → Wc cx 69 (.loop L14_1) [(3, .v (.int .i64 o4.1)), (4, .v (osl (eL eI) true o4.2.1)), (5, .v (ssl eI o4.2.2)), (7, .v (.int .i64 k_16)), (8, .v (osl eB true zs.1)), (9, .v (.int .i64 zs.2))] ((QX 2 (fun (y : (List Bool)) => [(3, .v (.int .i64 o4.1)), (4, .v (osl (eL eI) true o4.2.1)), (5, .v (ssl eI o4.2.2)), (7, .v (.int .i64 k_16)), (8, .v (osl eB true y))])) zo) := by
  intro zs0 zo0 zh0
  refine iter_run (f := (f14_1 o4 k_16)) (P := fun zs zo => Wc cx 69 (.loop L14_1) [(3, .v (.int .i64 o4.1)), (4, .v (osl (eL eI) true o4.2.1)), (5, .v (ssl eI o4.2.2)), (7, .v (.int .i64 k_16)), (8, .v (osl eB true zs.1)), (9, .v (.int .i64 zs.2))] ((QX 2 (fun (y : (List Bool)) => [(3, .v (.int .i64 o4.1)), (4, .v (osl (eL eI) true o4.2.1)), (5, .v (ssl eI o4.2.2)), (7, .v (.int .i64 k_16)), (8, .v (osl eB true y))])) zo)) ?_ zh0
  rintro ⟨m_22, v_23⟩ zo zr h hk hx
  try dsimp only at hk ⊢
  rw [f14_1] at h
  refine Wc.loop ?_
  refine Wc.seq ?_
  refine Wc.seq ?_
  refine Wc.evs (by conv => lhs; simp) ?_
  refine Wo.nil ?_
  by_cases kc24 : v_23 < o4.1
  · rw [if_pos kc24] at h
    refine Wc.condT' (t := _) (by conv => lhs; simp) (by simpa using kc24) ?_
    refine Wc.seq ?_
    refine Wc.kil (by conv => lhs; simp) ?_
    refine Wc.skip ?_
    refine Wc.seq ?_
    refine Wc.block ?_
    obtain ⟨z_25, h26, h⟩ := bind_some h
    have gz26 := nn_some h26
    obtain ⟨v_27, h28, h⟩ := bind_some h
    obtain ⟨ga28, gb28, gc28⟩ := ix_some h28
    have gn28 := ix_ne h28
    have gf28 := arr_fit (E := eB) (b := true) (i := v_23.toNat) (l := m_22) (by omega)
    have gg28_0 := arr_get (E := eB) (b := true) (o := 0) gc28 (by decide)
    simp at gf28 gg28_0
    have gl28 : v_23.toNat < m_22.length := by omega
    have gy29 := lay_set (E := eB) (b := true) (i := v_23.toNat) (l := m_22) (decide ((band .i64 (sshr .i64 k_16 v_23) 1) = 1)) (by omega)
    simp at gy29
    refine Wc.evs (by conv => lhs; simp [gz26, -getElem?_pos, List.getElem?_cons_zero, List.getElem?_cons_succ, ga28, gb28, gn28, gf28, gg28_0, gl28, gy29]) ?_
    refine Wo.nil ?_
    refine Wc.evs (by conv => lhs; simp) ?_
    refine Wo.nil ?_
    refine Wc.start (V1 := [(3, .v (.int .i64 o4.1)), (4, .v (osl (eL eI) true o4.2.1)), (5, .v (ssl eI o4.2.2)), (7, .v (.int .i64 k_16)), (8, .v (osl eB true (m_22.set v_23.toNat (decide ((band .i64 (sshr .i64 k_16 v_23) 1) = 1))))), (9, .v (.int .i64 (w64 (v_23 + 1))))]) ?_ (hk _ (Option.some.inj h).symm)
    first | rfl | simp
  · rw [if_neg kc24] at h
    refine Wc.condF' (t := _) (by conv => lhs; simp) (by simpa using kc24) ?_
    refine Wc.seq ?_
    refine Wc.kil (by conv => lhs; simp) ?_
    refine Wc.exit ?_
    have e0 := hx _ (Option.some.inj h).symm
    subst e0
    exact ⟨rfl, by first | rfl | simp⟩
theorem r14_0 {o4 : (Int × (List (List Int)) × (List Int))} : ∀ zs zo, iter (f14_0 o4) zs = some zo → Wc cx 69 (.loop L14_0) [(3, .v (.int .i64 o4.1)), (4, .v (osl (eL eI) true o4.2.1)), (5, .v (ssl eI o4.2.2)), (7, .v (.int .i64 zs))] ((QO (QX 0 (fun (y : Unit) => [])) (QR (fun (y : Bool) => [(2, .v (.bool y))]))) zo) := by
  intro zs0 zo0 zh0
  refine iter_run (f := (f14_0 o4)) (P := fun zs zo => Wc cx 69 (.loop L14_0) [(3, .v (.int .i64 o4.1)), (4, .v (osl (eL eI) true o4.2.1)), (5, .v (ssl eI o4.2.2)), (7, .v (.int .i64 zs))] ((QO (QX 0 (fun (y : Unit) => [])) (QR (fun (y : Bool) => [(2, .v (.bool y))]))) zo)) ?_ zh0
  rintro k_16 zo zr h hk hx
  try dsimp only at hk ⊢
  rw [f14_0] at h
  refine Wc.loop ?_
  refine Wc.seq ?_
  refine Wc.seq ?_
  obtain ⟨z_17, h18, h⟩ := bind_some h
  have gz18 := nn_some h18
  refine Wc.evs (by conv => lhs; simp [gz18]) ?_
  refine Wo.nil ?_
  by_cases kc19 : k_16 < (sshl .i64 1 o4.1)
  · rw [if_pos kc19] at h
    refine Wc.condT' (t := _) (by conv => lhs; simp) (by simpa using kc19) ?_
    refine Wc.seq ?_
    refine Wc.kil (by conv => lhs; simp) ?_
    refine Wc.skip ?_
    refine Wc.seq ?_
    refine Wc.block ?_
    refine Wc.seq ?_
    obtain ⟨l_20, h21, h⟩ := bind_some h
    obtain ⟨gm21, gp21, gq21, gr21⟩ := mkl_some h21
    have gx21 := rep_arr (E := eB) (b := true) gr21
    simp at gx21
    rw [Int.one_mul] at gp21
    refine Wc.evs (by conv => lhs; simp [gm21, gp21, gq21, gx21]) ?_
    refine Wo.gh (vle_co (s := 8) (t1 := (osl eB true l_20)) rfl (by simp) (tle_own rfl) (by conv => lhs; simp)) ?_
    refine Wo.nil ?_
    refine Wc.seq ?_
    refine Wc.seq ?_
    refine Wc.evs (by conv => lhs; simp) ?_
    refine Wo.nil ?_
    refine Wc.block ?_
    obtain ⟨w30, h31, h⟩ := bind_some h
    refine Wc.start (V1 := [(3, .v (.int .i64 o4.1)), (4, .v (osl (eL eI) true o4.2.1)), (5, .v (ssl eI o4.2.2)), (7, .v (.int .i64 k_16)), (8, .v (osl eB true l_20)), (9, .v (.int .i64 0))]) (by first | rfl | simp) ?_
    refine Wc.mono (r14_1 _ _ h31) ?_
    generalize w30 = m_32 at *
    rintro ex V ⟨rfl, rfl⟩
    try dsimp only at h
    refine Wc.seq ?_
    refine Wc.evs (by conv => lhs; simp) ?_
    obtain ⟨o33, h34, h⟩ := bind_some h
    refine Wo.call (by simp) rfl (by (conv => lhs; simp [cx, ioTab]) <;> rfl) (r31 h34) (by simp) (by simp) (by (conv => lhs; simp [cx, ioTab]) <;> rfl) (by (conv => lhs; simp) <;> rfl) ?_
    refine Wo.evk 1 (by conv => lhs; simp) ?_
    obtain ⟨w36, h37, h⟩ := bind_some h
    refine Wo.mono (Q := fun V => V = [(3, .v (.int .i64 o4.1)), (4, .v (osl (eL eI) true o4.2.1)), (5, .v (ssl eI o4.2.2)), (7, .v (.int .i64 k_16)), (68, .v (.bool w36))]) ?_ ?_
    · by_cases knh37 : o33 = true
      · rw [if_pos knh37] at h37
        refine Wo.gh (vle_co (s := 62) (t1 := .bool true) rfl (by simp) (tle_bool (by simpa using knh37)) (by conv => lhs; simp)) ?_
        refine Wo.evs (by conv => lhs; simp) ?_
        refine Wo.gh (vle_co (s := 64) (t1 := (osl (eL eI) false ([o4.2.2]))) rfl (by simp) (TLe.own (show TLes _ [(ssl eI o4.2.2)] from (TLes.cons (TLe.refl _) (TLes.refl _))) rfl) (by conv => lhs; simp)) ?_
        obtain ⟨o38, h39, h37⟩ := bind_some h37
        refine Wo.call (by simp) rfl (by (conv => lhs; simp [cx, ioTab]) <;> rfl) (r31 h39) (by simp) (by simp) (by (conv => lhs; simp [cx, ioTab]) <;> rfl) (by (conv => lhs; simp) <;> rfl) ?_
        refine Wo.evs (by conv => lhs; simp) ?_
        refine Wo.nil ?_
        cases h37
        first | rfl | simp
      · rw [if_neg knh37] at h37
        refine Wo.gh (vle_co (s := 62) (t1 := .bool false) rfl (by simp) (tle_bool (by simpa using knh37)) (by conv => lhs; simp)) ?_
        refine Wo.evs (by conv => lhs; simp) ?_
        refine Wo.nil ?_
        cases h37
        first | rfl | simp
    · rintro V rfl
      generalize w36 = x_35 at *
      try dsimp only at h
      by_cases kc40 : x_35 = true
      · rw [if_pos kc40] at h
        refine Wc.condT' (t := _) (by conv => lhs; simp) (by simpa using kc40) ?_
        refine Wc.seq ?_
        refine Wc.kil (by conv => lhs; simp) ?_
        refine Wc.seq ?_
        refine Wc.evs (by conv => lhs; simp) ?_
        refine Wo.nil ?_
        refine Wc.ret ?_
        have e0 := hx _ (Option.some.inj h).symm
        subst e0
        exact ⟨rfl, by first | rfl | simp⟩
      · rw [if_neg kc40] at h
        refine Wc.condF' (t := _) (by conv => lhs; simp) (by simpa using kc40) ?_
        refine Wc.seq ?_
        refine Wc.kil (by conv => lhs; simp) ?_
        refine Wc.skip ?_
        refine Wc.evs (by conv => lhs; simp) ?_
        refine Wo.nil ?_
        refine Wc.start (V1 := [(3, .v (.int .i64 o4.1)), (4, .v (osl (eL eI) true o4.2.1)), (5, .v (ssl eI o4.2.2)), (7, .v (.int .i64 (w64 (k_16 + 1))))]) ?_ (hk _ (Option.some.inj h).symm)
        first | rfl | simp
  · rw [if_neg kc19] at h
    refine Wc.condF' (t := _) (by conv => lhs; simp) (by simpa using kc19) ?_
    refine Wc.seq ?_
    refine Wc.kil (by conv => lhs; simp) ?_
    refine Wc.exit ?_
    have e0 := hx _ (Option.some.inj h).symm
    subst e0
    exact ⟨rfl, by first | rfl | simp [gz18]⟩
theorem r14 {code : (List Int)} {r : Bool} (h : f14 code = some r) : VJx cx (.ca 14 [(ssl eU code)] (.bool r) []) := by
  unfold f14 at h
  refine ca_of rfl rfl (by decide) rfl ?_
  refine Wc.start (V1 := [(0, .v (ssl eU code))]) (by simp) ?_
  refine Wc.seq ?_
  refine Wc.evs (by conv => lhs; simp) ?_
  refine Wo.nil ?_
  refine Wc.seq ?_
  refine Wc.seq ?_
  refine Wc.evs (by conv => lhs; simp) ?_
  obtain ⟨o1, h2, h⟩ := bind_some h
  refine Wo.call (by simp) rfl (by (conv => lhs; simp [cx, ioTab]) <;> rfl) (r47 h2) (by simp) (by simp) (by (conv => lhs; simp [cx, ioTab]) <;> rfl) (by (conv => lhs; simp) <;> rfl) ?_
  refine Wo.nil ?_
  by_cases kc3 : o1 = true
  · rw [if_pos kc3] at h
    refine Wc.condT' (t := _) (by conv => lhs; simp) (by simpa using kc3) ?_
    refine Wc.seq ?_
    refine Wc.kil (by conv => lhs; simp) ?_
    refine Wc.seq ?_
    refine Wc.evs (by conv => lhs; simp) ?_
    refine Wo.nil ?_
    refine Wc.ret (res_of (.inr rfl) ?_)
    cases h
    exact ⟨_, _, _, by conv => lhs; simp, by (conv => lhs; simp [cx, ioTab, List.range, List.range.loop]) <;> rfl, by first | rfl | simp⟩
  · rw [if_neg kc3] at h
    refine Wc.condF' (t := _) (by conv => lhs; simp) (by simpa using kc3) ?_
    refine Wc.seq ?_
    refine Wc.kil (by conv => lhs; simp) ?_
    refine Wc.skip ?_
    refine Wc.seq ?_
    refine Wc.evs (by conv => lhs; simp) ?_
    obtain ⟨o4, h5, h⟩ := bind_some h
    refine Wo.call (by simp) rfl (by (conv => lhs; simp [cx, ioTab]) <;> rfl) (r50 h5) (by simp) (by simp) (by (conv => lhs; simp [cx, ioTab]) <;> rfl) (by (conv => lhs; simp) <;> rfl) ?_
    refine Wo.evs (by conv => lhs; simp) ?_
    refine Wo.gh (vle_fz (s := 5) rfl (by simp) (by conv => lhs; simp)) ?_
    refine Wo.nil ?_
    refine Wc.seq ?_
    refine Wc.evs (by conv => lhs; simp) ?_
    obtain ⟨o6, h7, h⟩ := bind_some h
    refine Wo.call (by simp) rfl (by (conv => lhs; simp [cx, ioTab]) <;> rfl) (r42 h7) (by simp) (by simp) (by (conv => lhs; simp [cx, ioTab]) <;> rfl) (by (conv => lhs; simp) <;> rfl) ?_
    refine Wo.evs (by conv => lhs; simp) ?_
    refine Wo.nil ?_
    refine Wc.seq ?_
    refine Wc.seq ?_
    refine Wc.evs (by conv => lhs; simp) ?_
    obtain ⟨o8, h9, h⟩ := bind_some h
    refine Wo.call (by simp) rfl (by (conv => lhs; simp [cx, ioTab]) <;> rfl) (r41 h9) (by simp) (by simp) (by (conv => lhs; simp [cx, ioTab]) <;> rfl) (by (conv => lhs; simp) <;> rfl) ?_
    refine Wo.evk 2 (by conv => lhs; simp) ?_
    obtain ⟨w11, h12, h⟩ := bind_some h
    refine Wo.mono (Q := fun V => V = [(3, .v (.int .i64 o4.1)), (4, .v (osl (eL eI) true o4.2.1)), (5, .v (ssl eI o4.2.2)), (6, .v (.bool o6)), (31, .v (.bool w11))]) ?_ ?_
    · by_cases knh12 : (o6 != o8) = true
      · rw [if_pos knh12] at h12
        refine Wo.gh (vle_co (s := 28) (t1 := .bool true) rfl (by simp) (tle_bool (by simpa using knh12)) (by conv => lhs; simp)) ?_
        refine Wo.evs (by conv => lhs; simp) ?_
        refine Wo.nil ?_
        cases h12
        first | rfl | simp
      · rw [if_neg knh12] at h12
        refine Wo.gh (vle_co (s := 28) (t1 := .bool false) rfl (by simp) (tle_bool (by simpa using knh12)) (by conv => lhs; simp)) ?_
        refine Wo.evs (by conv => lhs; simp) ?_
        refine Wo.nil ?_
        cases h12
        first | rfl | simp
    · rintro V rfl
      generalize w11 = x_10 at *
      try dsimp only at h
      by_cases kc13 : x_10 = true
      · rw [if_pos kc13] at h
        refine Wc.condT' (t := _) (by conv => lhs; simp) (by simpa using kc13) ?_
        refine Wc.seq ?_
        refine Wc.kil (by conv => lhs; simp) ?_
        refine Wc.seq ?_
        refine Wc.evs (by conv => lhs; simp) ?_
        obtain ⟨o14, h15, h⟩ := bind_some h
        refine Wo.call (by simp) rfl (by (conv => lhs; simp [cx, ioTab]) <;> rfl) (r41 h15) (by simp) (by simp) (by (conv => lhs; simp [cx, ioTab]) <;> rfl) (by (conv => lhs; simp) <;> rfl) ?_
        refine Wo.evs (by conv => lhs; simp) ?_
        refine Wo.nil ?_
        refine Wc.ret (res_of (.inr rfl) ?_)
        cases h
        exact ⟨_, _, _, by conv => lhs; simp, by (conv => lhs; simp [cx, ioTab, List.range, List.range.loop]) <;> rfl, by first | rfl | simp⟩
      · rw [if_neg kc13] at h
        refine Wc.condF' (t := _) (by conv => lhs; simp) (by simpa using kc13) ?_
        refine Wc.seq ?_
        refine Wc.kil (by conv => lhs; simp) ?_
        refine Wc.skip ?_
        refine Wc.seq ?_
        refine Wc.seq ?_
        refine Wc.evs (by conv => lhs; simp) ?_
        refine Wo.nil ?_
        refine Wc.block ?_
        obtain ⟨w41, h42, h⟩ := bind_some h
        refine Wc.start (V1 := [(3, .v (.int .i64 o4.1)), (4, .v (osl (eL eI) true o4.2.1)), (5, .v (ssl eI o4.2.2)), (7, .v (.int .i64 0))]) (by first | rfl | simp) ?_
        refine Wc.mono (r14_0 _ _ h42) ?_
        rcases w41 with ⟨⟩ | x_43
        · rintro ex V ⟨rfl, rfl⟩
          try dsimp only at h
          refine Wc.seq ?_
          refine Wc.evs (by conv => lhs; simp) ?_
          refine Wo.nil ?_
          refine Wc.ret (res_of (.inr rfl) ?_)
          cases h
          exact ⟨_, _, _, by conv => lhs; simp, by (conv => lhs; simp [cx, ioTab, List.range, List.range.loop]) <;> rfl, by first | rfl | simp⟩
        · rintro ex V ⟨rfl, rfl⟩
          try dsimp only at h
          refine res_of (.inr rfl) ?_
          cases h
          exact ⟨_, _, _, by conv => lhs; simp, by (conv => lhs; simp [cx, ioTab, List.range, List.range.loop]) <;> rfl, by first | rfl | simp⟩
end
end Go.Proofs.YthfbkecnnllpkaaH
