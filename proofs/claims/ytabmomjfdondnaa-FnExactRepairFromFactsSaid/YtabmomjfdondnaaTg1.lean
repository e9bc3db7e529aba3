/- Runs of the program's functions: printed by tg.py. -/
import Derived.Test.YtabmomjfdondnaaCx1
import Derived.Test.YtabmomjfdondnaaHn7
import Derived.Test.YtabmomjfdondnaaTd1
set_option linter.unusedVariables false
set_option linter.unusedSimpArgs false
set_option maxRecDepth 100000
namespace Go.Proofs.YtabmomjfdondnaaH
open Go
noncomputable section
theorem r109 {a : Relation} {left : Int} {r : Int} (h : f109 a left = some r) : VJx cx (.ca 109 [(.agg [(.str a.Name), (.int .i64 a.Arity), (.int .i64 a.KeyLength)]), (.int .i64 left)] (.int .i64 r) []) := by
  unfold f109 at h
  refine ca_of rfl rfl (by decide) rfl ?_
  refine Wc.start (V1 := [(0, .v (.agg [(.str a.Name), (.int .i64 a.Arity), (.int .i64 a.KeyLength)])), (1, .v (.int .i64 left))]) (by simp) ?_
  refine Wc.seq ?_
  refine Wc.evs (by conv => lhs; simp) ?_
  refine Wo.nil ?_
  refine Wc.seq ?_
  refine Wc.evs (by conv => lhs; simp) ?_
  refine Wo.nil ?_
  refine Wc.seq ?_
  refine Wc.seq ?_
  refine Wc.evs (by conv => lhs; simp) ?_
  refine Wo.nil ?_
  by_cases kc1 : (w64 (left - (a.Name.length : Int))) < 0
  · rw [if_pos kc1] at h
    refine Wc.condT' (t := _) (by conv => lhs; simp) (by simpa using kc1) ?_
    refine Wc.seq ?_
    refine Wc.kil (by conv => lhs; simp) ?_
    refine Wc.seq ?_
    refine Wc.evs (by conv => lhs; simp) ?_
    refine Wo.nil ?_
    refine Wc.ret (res_of (.inr rfl) ?_)
    cases h
    exact ⟨_, _, _, by conv => lhs; simp, by (conv => lhs; simp [cx, ioTab, List.range, List.range.loop]) <;> rfl, by first | rfl | simp⟩
  · rw [if_neg kc1] at h
    refine Wc.condF' (t := _) (by conv => lhs; simp) (by simpa using kc1) ?_
    refine Wc.seq ?_
    refine Wc.kil (by conv => lhs; simp) ?_
    refine Wc.skip ?_
    refine Wc.seq ?_
    refine Wc.evs (by conv => lhs; simp) ?_
    refine Wo.nil ?_
    refine Wc.ret (res_of (.inr rfl) ?_)
    cases h
    exact ⟨_, _, _, by conv => lhs; simp, by (conv => lhs; simp [cx, ioTab, List.range, List.range.loop]) <;> rfl, by first | rfl | simp⟩
theorem r47_0 {a : (List Relation)} : ∀ zs zo, iter (f47_0 a) zs = some zo → Wc cx 27 (.loop L47_0) [(0, .v (ssl eRelation a)), (1, .v (.int .i64 zs.1)), (5, .v (.int .i64 zs.2))] ((QO (QX 0 (fun (y : Int) => [(1, .v (.int .i64 y))])) (QR (fun (y : Int) => [(4, .v (.int .i64 y))]))) zo) := by
  intro zs0 zo0 zh0
  refine iter_run (f := (f47_0 a)) (P := fun zs zo => Wc cx 27 (.loop L47_0) [(0, .v (ssl eRelation a)), (1, .v (.int .i64 zs.1)), (5, .v (.int .i64 zs.2))] ((QO (QX 0 (fun (y : Int) => [(1, .v (.int .i64 y))])) (QR (fun (y : Int) => [(4, .v (.int .i64 y))]))) zo)) ?_ zh0
  rintro ⟨left_2, i_3⟩ zo zr h hk hx
  try dsimp only at hk ⊢
  rw [f47_0] at h
  refine Wc.loop ?_
  refine Wc.seq ?_
  refine Wc.seq ?_
  refine Wc.evs (by conv => lhs; simp) ?_
  refine Wo.nil ?_
  by_cases kc4 : i_3 < (a.length : Int)
  · rw [if_pos kc4] at h
    refine Wc.condT' (t := _) (by conv => lhs; simp) (by simpa using kc4) ?_
    refine Wc.seq ?_
    refine Wc.kil (by conv => lhs; simp) ?_
    refine Wc.skip ?_
    refine Wc.seq ?_
    refine Wc.block ?_
    refine Wc.seq ?_
    obtain ⟨v_5, h6, h⟩ := bind_some h
    obtain ⟨ga6, gb6, gc6⟩ := ix_some h6
    have gn6 := ix_ne h6
    have gd6 := arr_at (E := eRelation) (b := false) gc6
    simp at gd6
    refine Wc.evs (by conv => lhs; simp [ga6, gb6, gn6, gd6]) ?_
    obtain ⟨o7, h8, h⟩ := bind_some h
    refine Wo.call (by simp) rfl (by (conv => lhs; simp [ga6, gb6, gn6, gd6, cx, ioTab]) <;> rfl) (r109 h8) (by simp) (by simp) (by (conv => lhs; simp [ga6, gb6, gn6, gd6, cx, ioTab]) <;> rfl) (by (conv => lhs; simp [ga6, gb6, gn6, gd6]) <;> rfl) ?_
    refine Wo.evs (by conv => lhs; simp [ga6, gb6, gn6, gd6]) ?_
    refine Wo.nil ?_
    refine Wc.seq ?_
    refine Wc.evs (by conv => lhs; simp) ?_
    refine Wo.nil ?_
    by_cases kc9 : o7 < 0
    · rw [if_pos kc9] at h
      refine Wc.condT' (t := _) (by conv => lhs; simp) (by simpa using kc9) ?_
      refine Wc.seq ?_
      refine Wc.kil (by conv => lhs; simp) ?_
      refine Wc.seq ?_
      refine Wc.evs (by conv => lhs; simp) ?_
      refine Wo.nil ?_
      refine Wc.ret ?_
      have e0 := hx _ (Option.some.inj h).symm
      subst e0
      exact ⟨rfl, by first | rfl | simp⟩
    · rw [if_neg kc9] at h
      refine Wc.condF' (t := _) (by conv => lhs; simp) (by simpa using kc9) ?_
      refine Wc.seq ?_
      refine Wc.kil (by conv => lhs; simp) ?_
      refine Wc.skip ?_
      refine Wc.evs (by conv => lhs; simp) ?_
      refine Wo.nil ?_
      refine Wc.start (V1 := [(0, .v (ssl eRelation a)), (1, .v (.int .i64 o7)), (5, .v (.int .i64 (w64 (i_3 + 1))))]) ?_ (hk _ (Option.some.inj h).symm)
      first | rfl | simp
  · rw [if_neg kc4] at h
    refine Wc.condF' (t := _) (by conv => lhs; simp) (by simpa using kc4) ?_
    refine Wc.seq ?_
    refine Wc.kil (by conv => lhs; simp) ?_
    refine Wc.exit ?_
    have e0 := hx _ (Option.some.inj h).symm
    subst e0
    exact ⟨rfl, by first | rfl | simp⟩
theorem r47 {a : (List Relation)} {left : Int} {r : Int} (h : f47 a left = some r) : VJx cx (.ca 47 [(ssl eRelation a), (.int .i64 left)] (.int .i64 r) []) := by
  unfold f47 at h
  refine ca_of rfl rfl (by decide) rfl ?_
  refine Wc.start (V1 := [(0, .v (ssl eRelation a)), (1, .v (.int .i64 left))]) (by simp) ?_
  refine Wc.seq ?_
  refine Wc.evs (by conv => lhs; simp) ?_
  refine Wo.nil ?_
  refine Wc.seq ?_
  refine Wc.evs (by conv => lhs; simp) ?_
  refine Wo.nil ?_
  refine Wc.seq ?_
  refine Wc.seq ?_
  refine Wc.evs (by conv => lhs; simp) ?_
  refine Wo.nil ?_
  by_cases kc1 : (w64 (left - (a.length : Int))) < 0
  · rw [if_pos kc1] at h
    refine Wc.condT' (t := _) (by conv => lhs; simp) (by simpa using kc1) ?_
    refine Wc.seq ?_
    refine Wc.kil (by conv => lhs; simp) ?_
    refine Wc.seq ?_
    refine Wc.evs (by conv => lhs; simp) ?_
    refine Wo.nil ?_
    refine Wc.ret (res_of (.inr rfl) ?_)
    cases h
    exact ⟨_, _, _, by conv => lhs; simp, by (conv => lhs; simp [cx, ioTab, List.range, List.range.loop]) <;> rfl, by first | rfl | simp⟩
  · rw [if_neg kc1] at h
    refine Wc.condF' (t := _) (by conv => lhs; simp) (by simpa using kc1) ?_
    refine Wc.seq ?_
    refine Wc.kil (by conv => lhs; simp) ?_
    refine Wc.skip ?_
    refine Wc.seq ?_
    refine Wc.seq ?_
    refine Wc.evs (by conv => lhs; simp) ?_
    refine Wo.nil ?_
    refine Wc.block ?_
    obtain ⟨w10, h11, h⟩ := bind_some h
    refine Wc.start (V1 := [(0, .v (ssl eRelation a)), (1, .v (.int .i64 (w64 (left - (a.length : Int))))), (5, .v (.int .i64 0))]) (by first | rfl | simp) ?_
    refine Wc.mono (r47_0 _ _ h11) ?_
    rcases w10 with left_12 | x_13
    · rintro ex V ⟨rfl, rfl⟩
      try dsimp only at h
      refine Wc.seq ?_
      refine Wc.evs (by conv => lhs; simp) ?_
      refine Wo.nil ?_
      refine Wc.ret (res_of (.inr rfl) ?_)
      cases h
      exact ⟨_, _, _, by conv => lhs; simp, by (conv => lhs; simp [cx, ioTab, List.range, List.range.loop]) <;> rfl, by first | rfl | simp⟩
    · rintro ex V ⟨rfl, rfl⟩
      try dsimp only at h
      refine res_of (.inr rfl) ?_
      cases h
      exact ⟨_, _, _, by conv => lhs; simp, by (conv => lhs; simp [cx, ioTab, List.range, List.range.loop]) <;> rfl, by first | rfl | simp⟩
theorem r64 {a : (List Int)} {left : Int} {r : Int} (h : f64 a left = some r) : VJx cx (.ca 64 [(ssl eI a), (.int .i64 left)] (.int .i64 r) []) := by
  unfold f64 at h
  refine ca_of rfl rfl (by decide) rfl ?_
  refine Wc.start (V1 := [(0, .v (ssl eI a)), (1, .v (.int .i64 left))]) (by simp) ?_
  refine Wc.seq ?_
  refine Wc.evs (by conv => lhs; simp) ?_
  refine Wo.nil ?_
  refine Wc.seq ?_
  refine Wc.evs (by conv => lhs; simp) ?_
  refine Wo.nil ?_
  refine Wc.seq ?_
  refine Wc.seq ?_
  refine Wc.evs (by conv => lhs; simp) ?_
  refine Wo.nil ?_
  by_cases kc1 : (w64 (left - (a.length : Int))) < 0
  · rw [if_pos kc1] at h
    refine Wc.condT' (t := _) (by conv => lhs; simp) (by simpa using kc1) ?_
    refine Wc.seq ?_
    refine Wc.kil (by conv => lhs; simp) ?_
    refine Wc.seq ?_
    refine Wc.evs (by conv => lhs; simp) ?_
    refine Wo.nil ?_
    refine Wc.ret (res_of (.inr rfl) ?_)
    cases h
    exact ⟨_, _, _, by conv => lhs; simp, by (conv => lhs; simp [cx, ioTab, List.range, List.range.loop]) <;> rfl, by first | rfl | simp⟩
  · rw [if_neg kc1] at h
    refine Wc.condF' (t := _) (by conv => lhs; simp) (by simpa using kc1) ?_
    refine Wc.seq ?_
    refine Wc.kil (by conv => lhs; simp) ?_
    refine Wc.skip ?_
    refine Wc.seq ?_
    refine Wc.evs (by conv => lhs; simp) ?_
    refine Wo.nil ?_
    refine Wc.ret (res_of (.inr rfl) ?_)
    cases h
    exact ⟨_, _, _, by conv => lhs; simp, by (conv => lhs; simp [cx, ioTab, List.range, List.range.loop]) <;> rfl, by first | rfl | simp⟩
theorem r155 {a : Fact} {left : Int} {r : Int} (h : f155 a left = some r) : VJx cx (.ca 155 [(.agg [(.int .i64 a.Relation), (ssl eI a.Values)]), (.int .i64 left)] (.int .i64 r) []) := by
  unfold f155 at h
  refine ca_of rfl rfl (by decide) rfl ?_
  refine Wc.start (V1 := [(0, .v (.agg [(.int .i64 a.Relation), (ssl eI a.Values)])), (1, .v (.int .i64 left))]) (by simp) ?_
  refine Wc.seq ?_
  refine Wc.evs (by conv => lhs; simp) ?_
  refine Wo.nil ?_
  refine Wc.seq ?_
  refine Wc.evs (by conv => lhs; simp) ?_
  obtain ⟨o1, h2, h⟩ := bind_some h
  refine Wo.call (by simp) rfl (by (conv => lhs; simp [cx, ioTab]) <;> rfl) (r64 h2) (by simp) (by simp) (by (conv => lhs; simp [cx, ioTab]) <;> rfl) (by (conv => lhs; simp) <;> rfl) ?_
  refine Wo.evs (by conv => lhs; simp) ?_
  refine Wo.nil ?_
  refine Wc.seq ?_
  refine Wc.seq ?_
  refine Wc.evs (by conv => lhs; simp) ?_
  refine Wo.nil ?_
  by_cases kc3 : o1 < 0
  · rw [if_pos kc3] at h
    refine Wc.condT' (t := _) (by conv => lhs; simp) (by simpa using kc3) ?_
    refine Wc.seq ?_
    refine Wc.kil (by conv => lhs; simp) ?_
    refine Wc.seq ?_
    refine Wc.evs (by conv => lhs; simp) ?_
    refine Wo.nil ?_
    refine Wc.ret (res_of (.inr rfl) ?_)
    cases h
    exact ⟨_, _, _, by conv => lhs; simp, by (conv => lhs; simp [cx, ioTab, List.range, List.range.loop]) <;> rfl, by first | rfl | simp⟩
  · rw [if_neg kc3] at h
    refine Wc.condF' (t := _) (by conv => lhs; simp) (by simpa using kc3) ?_
    refine Wc.seq ?_
    refine Wc.kil (by conv => lhs; simp) ?_
    refine Wc.skip ?_
    refine Wc.seq ?_
    refine Wc.evs (by conv => lhs; simp) ?_
    refine Wo.nil ?_
    refine Wc.ret (res_of (.inr rfl) ?_)
    cases h
    exact ⟨_, _, _, by conv => lhs; simp, by (conv => lhs; simp [cx, ioTab, List.range, List.range.loop]) <;> rfl, by first | rfl | simp⟩
theorem r95_0 {a : (List Fact)} : ∀ zs zo, iter (f95_0 a) zs = some zo → Wc cx 27 (.loop L95_0) [(0, .v (ssl eFact a)), (1, .v (.int .i64 zs.1)), (5, .v (.int .i64 zs.2))] ((QO (QX 0 (fun (y : Int) => [(1, .v (.int .i64 y))])) (QR (fun (y : Int) => [(4, .v (.int .i64 y))]))) zo) := by
  intro zs0 zo0 zh0
  refine iter_run (f := (f95_0 a)) (P := fun zs zo => Wc cx 27 (.loop L95_0) [(0, .v (ssl eFact a)), (1, .v (.int .i64 zs.1)), (5, .v (.int .i64 zs.2))] ((QO (QX 0 (fun (y : Int) => [(1, .v (.int .i64 y))])) (QR (fun (y : Int) => [(4, .v (.int .i64 y))]))) zo)) ?_ zh0
  rintro ⟨left_2, i_3⟩ zo zr h hk hx
  try dsimp only at hk ⊢
  rw [f95_0] at h
  refine Wc.loop ?_
  refine Wc.seq ?_
  refine Wc.seq ?_
  refine Wc.evs (by conv => lhs; simp) ?_
  refine Wo.nil ?_
  by_cases kc4 : i_3 < (a.length : Int)
  · rw [if_pos kc4] at h
    refine Wc.condT' (t := _) (by conv => lhs; simp) (by simpa using kc4) ?_
    refine Wc.seq ?_
    refine Wc.kil (by conv => lhs; simp) ?_
    refine Wc.skip ?_
    refine Wc.seq ?_
    refine Wc.block ?_
    refine Wc.seq ?_
    obtain ⟨v_5, h6, h⟩ := bind_some h
    obtain ⟨ga6, gb6, gc6⟩ := ix_some h6
    have gn6 := ix_ne h6
    have gd6 := arr_at (E := eFact) (b := false) gc6
    simp at gd6
    refine Wc.evs (by conv => lhs; simp [ga6, gb6, gn6, gd6]) ?_
    obtain ⟨o7, h8, h⟩ := bind_some h
    refine Wo.call (by simp) rfl (by (conv => lhs; simp [ga6, gb6, gn6, gd6, cx, ioTab]) <;> rfl) (r155 h8) (by simp) (by simp) (by (conv => lhs; simp [ga6, gb6, gn6, gd6, cx, ioTab]) <;> rfl) (by (conv => lhs; simp [ga6, gb6, gn6, gd6]) <;> rfl) ?_
    refine Wo.evs (by conv => lhs; simp [ga6, gb6, gn6, gd6]) ?_
    refine Wo.nil ?_
    refine Wc.seq ?_
    refine Wc.evs (by conv => lhs; simp) ?_
    refine Wo.nil ?_
    by_cases kc9 : o7 < 0
    · rw [if_pos kc9] at h
      refine Wc.condT' (t := _) (by conv => lhs; simp) (by simpa using kc9) ?_
      refine Wc.seq ?_
      refine Wc.kil (by conv => lhs; simp) ?_
      refine Wc.seq ?_
      refine Wc.evs (by conv => lhs; simp) ?_
      refine Wo.nil ?_
      refine Wc.ret ?_
      have e0 := hx _ (Option.some.inj h).symm
      subst e0
      exact ⟨rfl, by first | rfl | simp⟩
    · rw [if_neg kc9] at h
      refine Wc.condF' (t := _) (by conv => lhs; simp) (by simpa using kc9) ?_
      refine Wc.seq ?_
      refine Wc.kil (by conv => lhs; simp) ?_
      refine Wc.skip ?_
      refine Wc.evs (by conv => lhs; simp) ?_
      refine Wo.nil ?_
      refine Wc.start (V1 := [(0, .v (ssl eFact a)), (1, .v (.int .i64 o7)), (5, .v (.int .i64 (w64 (i_3 + 1))))]) ?_ (hk _ (Option.some.inj h).symm)
      first | rfl | simp
  · rw [if_neg kc4] at h
    refine Wc.condF' (t := _) (by conv => lhs; simp) (by simpa using kc4) ?_
    refine Wc.seq ?_
    refine Wc.kil (by conv => lhs; simp) ?_
    refine Wc.exit ?_
    have e0 := hx _ (Option.some.inj h).symm
    subst e0
    exact ⟨rfl, by first | rfl | simp⟩
theorem r95 {a : (List Fact)} {left : Int} {r : Int} (h : f95 a left = some r) : VJx cx (.ca 95 [(ssl eFact a), (.int .i64 left)] (.int .i64 r) []) := by
  unfold f95 at h
  refine ca_of rfl rfl (by decide) rfl ?_
  refine Wc.start (V1 := [(0, .v (ssl eFact a)), (1, .v (.int .i64 left))]) (by simp) ?_
  refine Wc.seq ?_
  refine Wc.evs (by conv => lhs; simp) ?_
  refine Wo.nil ?_
  refine Wc.seq ?_
  refine Wc.evs (by conv => lhs; simp) ?_
  refine Wo.nil ?_
  refine Wc.seq ?_
  refine Wc.seq ?_
  refine Wc.evs (by conv => lhs; simp) ?_
  refine Wo.nil ?_
  by_cases kc1 : (w64 (left - (a.length : Int))) < 0
  · rw [if_pos kc1] at h
    refine Wc.condT' (t := _) (by conv => lhs; simp) (by simpa using kc1) ?_
    refine Wc.seq ?_
    refine Wc.kil (by conv => lhs; simp) ?_
    refine Wc.seq ?_
    refine Wc.evs (by conv => lhs; simp) ?_
    refine Wo.nil ?_
    refine Wc.ret (res_of (.inr rfl) ?_)
    cases h
    exact ⟨_, _, _, by conv => lhs; simp, by (conv => lhs; simp [cx, ioTab, List.range, List.range.loop]) <;> rfl, by first | rfl | simp⟩
  · rw [if_neg kc1] at h
    refine Wc.condF' (t := _) (by conv => lhs; simp) (by simpa using kc1) ?_
    refine Wc.seq ?_
    refine Wc.kil (by conv => lhs; simp) ?_
    refine Wc.skip ?_
    refine Wc.seq ?_
    refine Wc.seq ?_
    refine Wc.evs (by conv => lhs; simp) ?_
    refine Wo.nil ?_
    refine Wc.block ?_
    obtain ⟨w10, h11, h⟩ := bind_some h
    refine Wc.start (V1 := [(0, .v (ssl eFact a)), (1, .v (.int .i64 (w64 (left - (a.length : Int))))), (5, .v (.int .i64 0))]) (by first | rfl | simp) ?_
    refine Wc.mono (r95_0 _ _ h11) ?_
    rcases w10 with left_12 | x_13
    · rintro ex V ⟨rfl, rfl⟩
      try dsimp only at h
      refine Wc.seq ?_
      refine Wc.evs (by conv => lhs; simp) ?_
      refine Wo.nil ?_
      refine Wc.ret (res_of (.inr rfl) ?_)
      cases h
      exact ⟨_, _, _, by conv => lhs; simp, by (conv => lhs; simp [cx, ioTab, List.range, List.range.loop]) <;> rfl, by first | rfl | simp⟩
    · rintro ex V ⟨rfl, rfl⟩
      try dsimp only at h
      refine res_of (.inr rfl) ?_
      cases h
      exact ⟨_, _, _, by conv => lhs; simp, by (conv => lhs; simp [cx, ioTab, List.range, List.range.loop]) <;> rfl, by first | rfl | simp⟩
theorem r37 {a : Database} {left : Int} {r : Int} (h : f37 a left = some r) : VJx cx (.ca 37 [(.agg [(ssl eRelation a.Relations), (ssl eFact a.Facts)]), (.int .i64 left)] (.int .i64 r) []) := by
  unfold f37 at h
  refine ca_of rfl rfl (by decide) rfl ?_
  refine Wc.start (V1 := [(0, .v (.agg [(ssl eRelation a.Relations), (ssl eFact a.Facts)])), (1, .v (.int .i64 left))]) (by simp) ?_
  refine Wc.seq ?_
  refine Wc.evs (by conv => lhs; simp) ?_
  refine Wo.nil ?_
  refine Wc.seq ?_
  refine Wc.evs (by conv => lhs; simp) ?_
  obtain ⟨o1, h2, h⟩ := bind_some h
  refine Wo.call (by simp) rfl (by (conv => lhs; simp [cx, ioTab]) <;> rfl) (r47 h2) (by simp) (by simp) (by (conv => lhs; simp [cx, ioTab]) <;> rfl) (by (conv => lhs; simp) <;> rfl) ?_
  refine Wo.evs (by conv => lhs; simp) ?_
  refine Wo.nil ?_
  refine Wc.seq ?_
  refine Wc.seq ?_
  refine Wc.evs (by conv => lhs; simp) ?_
  refine Wo.nil ?_
  by_cases kc3 : o1 < 0
  · rw [if_pos kc3] at h
    refine Wc.condT' (t := _) (by conv => lhs; simp) (by simpa using kc3) ?_
    refine Wc.seq ?_
    refine Wc.kil (by conv => lhs; simp) ?_
    refine Wc.seq ?_
    refine Wc.evs (by conv => lhs; simp) ?_
    refine Wo.nil ?_
    refine Wc.ret (res_of (.inr rfl) ?_)
    cases h
    exact ⟨_, _, _, by conv => lhs; simp, by (conv => lhs; simp [cx, ioTab, List.range, List.range.loop]) <;> rfl, by first | rfl | simp⟩
  · rw [if_neg kc3] at h
    refine Wc.condF' (t := _) (by conv => lhs; simp) (by simpa using kc3) ?_
    refine Wc.seq ?_
    refine Wc.kil (by conv => lhs; simp) ?_
    refine Wc.skip ?_
    refine Wc.seq ?_
    refine Wc.evs (by conv => lhs; simp) ?_
    obtain ⟨o4, h5, h⟩ := bind_some h
    refine Wo.call (by simp) rfl (by (conv => lhs; simp [cx, ioTab]) <;> rfl) (r95 h5) (by simp) (by simp) (by (conv => lhs; simp [cx, ioTab]) <;> rfl) (by (conv => lhs; simp) <;> rfl) ?_
    refine Wo.evs (by conv => lhs; simp) ?_
    refine Wo.nil ?_
    refine Wc.seq ?_
    refine Wc.seq ?_
    refine Wc.evs (by conv => lhs; simp) ?_
    refine Wo.nil ?_
    by_cases kc6 : o4 < 0
    · rw [if_pos kc6] at h
      refine Wc.condT' (t := _) (by conv => lhs; simp) (by simpa using kc6) ?_
      refine Wc.seq ?_
      refine Wc.kil (by conv => lhs; simp) ?_
      refine Wc.seq ?_
      refine Wc.evs (by conv => lhs; simp) ?_
      refine Wo.nil ?_
      refine Wc.ret (res_of (.inr rfl) ?_)
      cases h
      exact ⟨_, _, _, by conv => lhs; simp, by (conv => lhs; simp [cx, ioTab, List.range, List.range.loop]) <;> rfl, by first | rfl | simp⟩
    · rw [if_neg kc6] at h
      refine Wc.condF' (t := _) (by conv => lhs; simp) (by simpa using kc6) ?_
      refine Wc.seq ?_
      refine Wc.kil (by conv => lhs; simp) ?_
      refine Wc.skip ?_
      refine Wc.seq ?_
      refine Wc.evs (by conv => lhs; simp) ?_
      refine Wo.nil ?_
      refine Wc.ret (res_of (.inr rfl) ?_)
      cases h
      exact ⟨_, _, _, by conv => lhs; simp, by (conv => lhs; simp [cx, ioTab, List.range, List.range.loop]) <;> rfl, by first | rfl | simp⟩
theorem r114 {a : Relation} {r : Relation} (h : f114 a = some r) : VJx cx (.ca 114 [(.agg [(.str a.Name), (.int .i64 a.Arity), (.int .i64 a.KeyLength)])] (.agg [(.str r.Name), (.int .i64 r.Arity), (.int .i64 r.KeyLength)]) []) := by
  unfold f114 at h
  refine ca_of rfl rfl (by decide) rfl ?_
  refine Wc.start (V1 := [(0, .v (.agg [(.str a.Name), (.int .i64 a.Arity), (.int .i64 a.KeyLength)]))]) (by simp) ?_
  refine Wc.seq ?_
  refine Wc.evs (by conv => lhs; simp) ?_
  refine Wo.nil ?_
  refine Wc.seq ?_
  refine Wc.evs (by conv => lhs; simp) ?_
  refine Wo.nil ?_
  refine Wc.seq ?_
  refine Wc.evs (by conv => lhs; simp) ?_
  refine Wo.nil ?_
  refine Wc.seq ?_
  refine Wc.evs (by conv => lhs; simp) ?_
  refine Wo.nil ?_
  refine Wc.seq ?_
  refine Wc.evs (by conv => lhs; simp) ?_
  refine Wo.nil ?_
  refine Wc.seq ?_
  refine Wc.evs (by conv => lhs; simp) ?_
  refine Wo.nil ?_
  refine Wc.ret (res_of (.inr rfl) ?_)
  cases h
  exact ⟨_, _, _, by conv => lhs; simp, by (conv => lhs; simp [cx, ioTab, List.range, List.range.loop]) <;> rfl, by first | rfl | simp⟩
theorem r50_0 {a : (List Relation)} : ∀ zs zo, iter (f50_0 a) zs = some zo → Wc cx 23 (.loop L50_0) [(0, .v (ssl eRelation a)), (3, .v (osl eRelation true zs.1)), (4, .v (.int .i64 zs.2))] ((QX 0 (fun (y : (List Relation)) => [(3, .v (osl eRelation true y))])) zo) := by
  intro zs0 zo0 zh0
  refine iter_run (f := (f50_0 a)) (P := fun zs zo => Wc cx 23 (.loop L50_0) [(0, .v (ssl eRelation a)), (3, .v (osl eRelation true zs.1)), (4, .v (.int .i64 zs.2))] ((QX 0 (fun (y : (List Relation)) => [(3, .v (osl eRelation true y))])) zo)) ?_ zh0
  rintro ⟨out_3, i_4⟩ zo zr h hk hx
  try dsimp only at hk ⊢
  rw [f50_0] at h
  refine Wc.loop ?_
  refine Wc.seq ?_
  refine Wc.seq ?_
  refine Wc.evs (by conv => lhs; simp) ?_
  refine Wo.nil ?_
  by_cases kc5 : i_4 < (a.length : Int)
  · rw [if_pos kc5] at h
    refine Wc.condT' (t := _) (by conv => lhs; simp) (by simpa using kc5) ?_
    refine Wc.seq ?_
    refine Wc.kil (by conv => lhs; simp) ?_
    refine Wc.skip ?_
    refine Wc.seq ?_
    refine Wc.block ?_
    obtain ⟨v_6, h7, h⟩ := bind_some h
    obtain ⟨ga7, gb7, gc7⟩ := ix_some h7
    have gn7 := ix_ne h7
    have gd7 := arr_at (E := eRelation) (b := false) gc7
    simp at gd7
    refine Wc.evs (by conv => lhs; simp [ga7, gb7, gn7, gd7]) ?_
    obtain ⟨o8, h9, h⟩ := bind_some h
    refine Wo.call (by simp) rfl (by (conv => lhs; simp [ga7, gb7, gn7, gd7, cx, ioTab]) <;> rfl) (r114 h9) (by simp) (by simp) (by (conv => lhs; simp [ga7, gb7, gn7, gd7, cx, ioTab]) <;> rfl) (by (conv => lhs; simp [ga7, gb7, gn7, gd7]) <;> rfl) ?_
    obtain ⟨v_10, h11, h⟩ := bind_some h
    obtain ⟨ga11, gb11, gc11⟩ := ix_some h11
    have gn11 := ix_ne h11
    have gf11 := arr_fit (E := eRelation) (b := true) (i := i_4.toNat) (l := out_3) (by omega)
    have gg11_0 := arr_get (E := eRelation) (b := true) (o := 0) gc11 (by decide)
    have gg11_1 := arr_get (E := eRelation) (b := true) (o := 1) gc11 (by decide)
    have gg11_2 := arr_get (E := eRelation) (b := true) (o := 2) gc11 (by decide)
    have gd11 := arr_at (E := eRelation) (b := true) gc11
    simp at gf11 gg11_0 gg11_1 gg11_2 gd11
    have gl11 : i_4.toNat < out_3.length := by omega
    have gy12 := lay_set (E := eRelation) (b := true) (i := i_4.toNat) (l := out_3) o8 (by omega)
    simp at gy12
    refine Wo.evs (by conv => lhs; simp [ga7, gb7, gn7, gd7, -getElem?_pos, List.getElem?_cons_zero, List.getElem?_cons_succ, ga11, gb11, gn11, gf11, gg11_0, gg11_1, gg11_2, gd11, gl11, gy12]) ?_
    refine Wo.nil ?_
    refine Wc.evs (by conv => lhs; simp) ?_
    refine Wo.nil ?_
    refine Wc.start (V1 := [(0, .v (ssl eRelation a)), (3, .v (osl eRelation true (out_3.set i_4.toNat o8))), (4, .v (.int .i64 (w64 (i_4 + 1))))]) ?_ (hk _ (Option.some.inj h).symm)
    first | rfl | simp
  · rw [if_neg kc5] at h
    refine Wc.condF' (t := _) (by conv => lhs; simp) (by simpa using kc5) ?_
    refine Wc.seq ?_
    refine Wc.kil (by conv => lhs; simp) ?_
    refine Wc.exit ?_
    have e0 := hx _ (Option.some.inj h).symm
    subst e0
    exact ⟨rfl, by first | rfl | simp⟩
theorem r50 {a : (List Relation)} {r : (List Relation)} (h : f50 a = some r) : VJx cx (.ca 50 [(ssl eRelation a)] (osl eRelation true r) []) := by
  unfold f50 at h
  refine ca_of rfl rfl (by decide) rfl ?_
  refine Wc.start (V1 := [(0, .v (ssl eRelation a))]) (by simp) ?_
  refine Wc.seq ?_
  refine Wc.evs (by conv => lhs; simp) ?_
  refine Wo.nil ?_
  refine Wc.seq ?_
  obtain ⟨l_1, h2, h⟩ := bind_some h
  obtain ⟨gm2, gp2, gq2, gr2⟩ := mkl_some h2
  have gx2 := rep_arr (E := eRelation) (b := true) gr2
  simp at gx2
  refine Wc.evs (by conv => lhs; simp [gm2, gp2, gq2, gx2]) ?_
  refine Wo.gh (vle_co (s := 3) (t1 := (osl eRelation true l_1)) rfl (by simp) (tle_own rfl) (by conv => lhs; simp)) ?_
  refine Wo.nil ?_
  refine Wc.seq ?_
  refine Wc.seq ?_
  refine Wc.evs (by conv => lhs; simp) ?_
  refine Wo.nil ?_
  refine Wc.block ?_
  obtain ⟨w13, h14, h⟩ := bind_some h
  refine Wc.start (V1 := [(0, .v (ssl eRelation a)), (3, .v (osl eRelation true l_1)), (4, .v (.int .i64 0))]) (by first | rfl | simp) ?_
  refine Wc.mono (r50_0 _ _ h14) ?_
  generalize w13 = out_15 at *
  rintro ex V ⟨rfl, rfl⟩
  try dsimp only at h
  refine Wc.seq ?_
  refine Wc.evs (by conv => lhs; simp) ?_
  refine Wo.nil ?_
  refine Wc.ret (res_of (.inr rfl) ?_)
  cases h
  exact ⟨_, _, _, by conv => lhs; simp, by (conv => lhs; simp [cx, ioTab, List.range, List.range.loop]) <;> rfl, by first | rfl | simp⟩
theorem r40_0 {a : (List Int)} : ∀ zs zo, iter (f40_0 a) zs = some zo → Wc cx 22 (.loop L40_0) [(0, .v (ssl eI a)), (3, .v (osl eI true zs.1)), (4, .v (.int .i64 zs.2))] ((QX 0 (fun (y : (List Int)) => [(3, .v (osl eI true y))])) zo) := by
  intro zs0 zo0 zh0
  refine iter_run (f := (f40_0 a)) (P := fun zs zo => Wc cx 22 (.loop L40_0) [(0, .v (ssl eI a)), (3, .v (osl eI true zs.1)), (4, .v (.int .i64 zs.2))] ((QX 0 (fun (y : (List Int)) => [(3, .v (osl eI true y))])) zo)) ?_ zh0
  rintro ⟨out_3, i_4⟩ zo zr h hk hx
  try dsimp only at hk ⊢
  rw [f40_0] at h
  refine Wc.loop ?_
  refine Wc.seq ?_
  refine Wc.seq ?_
  refine Wc.evs (by conv => lhs; simp) ?_
  refine Wo.nil ?_
  by_cases kc5 : i_4 < (a.length : Int)
  · rw [if_pos kc5] at h
    refine Wc.condT' (t := _) (by conv => lhs; simp) (by simpa using kc5) ?_
    refine Wc.seq ?_
    refine Wc.kil (by conv => lhs; simp) ?_
    refine Wc.skip ?_
    refine Wc.seq ?_
    refine Wc.block ?_
    obtain ⟨v_6, h7, h⟩ := bind_some h
    obtain ⟨ga7, gb7, gc7⟩ := ix_some h7
    have gn7 := ix_ne h7
    have gd7 := arr_at (E := eI) (b := false) gc7
    simp at gd7
    obtain ⟨v_8, h9, h⟩ := bind_some h
    obtain ⟨ga9, gb9, gc9⟩ := ix_some h9
    have gn9 := ix_ne h9
    have gf9 := arr_fit (E := eI) (b := true) (i := i_4.toNat) (l := out_3) (by omega)
    have gg9_0 := arr_get (E := eI) (b := true) (o := 0) gc9 (by decide)
    simp at gf9 gg9_0
    have gl9 : i_4.toNat < out_3.length := by omega
    have gy10 := lay_set (E := eI) (b := true) (i := i_4.toNat) (l := out_3) v_6 (by omega)
    simp at gy10
    refine Wc.evs (by conv => lhs; simp [ga7, gb7, gn7, gd7, -getElem?_pos, List.getElem?_cons_zero, List.getElem?_cons_succ, ga9, gb9, gn9, gf9, gg9_0, gl9, gy10]) ?_
    refine Wo.nil ?_
    refine Wc.evs (by conv => lhs; simp) ?_
    refine Wo.nil ?_
    refine Wc.start (V1 := [(0, .v (ssl eI a)), (3, .v (osl eI true (out_3.set i_4.toNat v_6))), (4, .v (.int .i64 (w64 (i_4 + 1))))]) ?_ (hk _ (Option.some.inj h).symm)
    first | rfl | simp
  · rw [if_neg kc5] at h
    refine Wc.condF' (t := _) (by conv => lhs; simp) (by simpa using kc5) ?_
    refine Wc.seq ?_
    refine Wc.kil (by conv => lhs; simp) ?_
    refine Wc.exit ?_
    have e0 := hx _ (Option.some.inj h).symm
    subst e0
    exact ⟨rfl, by first | rfl | simp⟩
theorem r40 {a : (List Int)} {r : (List Int)} (h : f40 a = some r) : VJx cx (.ca 40 [(ssl eI a)] (osl eI true r) []) := by
  unfold f40 at h
  refine ca_of rfl rfl (by decide) rfl ?_
  refine Wc.start (V1 := [(0, .v (ssl eI a))]) (by simp) ?_
  refine Wc.seq ?_
  refine Wc.evs (by conv => lhs; simp) ?_
  refine Wo.nil ?_
  refine Wc.seq ?_
  obtain ⟨l_1, h2, h⟩ := bind_some h
  obtain ⟨gm2, gp2, gq2, gr2⟩ := mkl_some h2
  have gx2 := rep_arr (E := eI) (b := true) gr2
  simp at gx2
  refine Wc.evs (by conv => lhs; simp [gm2, gp2, gq2, gx2]) ?_
  refine Wo.gh (vle_co (s := 3) (t1 := (osl eI true l_1)) rfl (by simp) (tle_own rfl) (by conv => lhs; simp)) ?_
  refine Wo.nil ?_
  refine Wc.seq ?_
  refine Wc.seq ?_
  refine Wc.evs (by conv => lhs; simp) ?_
  refine Wo.nil ?_
  refine Wc.block ?_
  obtain ⟨w11, h12, h⟩ := bind_some h
  refine Wc.start (V1 := [(0, .v (ssl eI a)), (3, .v (osl eI true l_1)), (4, .v (.int .i64 0))]) (by first | rfl | simp) ?_
  refine Wc.mono (r40_0 _ _ h12) ?_
  generalize w11 = out_13 at *
  rintro ex V ⟨rfl, rfl⟩
  try dsimp only at h
  refine Wc.seq ?_
  refine Wc.evs (by conv => lhs; simp) ?_
  refine Wo.nil ?_
  refine Wc.ret (res_of (.inr rfl) ?_)
  cases h
  exact ⟨_, _, _, by conv => lhs; simp, by (conv => lhs; simp [cx, ioTab, List.range, List.range.loop]) <;> rfl, by first | rfl | simp⟩
theorem r157 {a : Fact} {r : Fact} (h : f157 a = some r) : VJx cx (.ca 157 [(.agg [(.int .i64 a.Relation), (ssl eI a.Values)])] (.agg [(.int .i64 r.Relation), (osl eI true r.Values)]) []) := by
  unfold f157 at h
  refine ca_of rfl rfl (by decide) rfl ?_
  refine Wc.start (V1 := [(0, .v (.agg [(.int .i64 a.Relation), (ssl eI a.Values)]))]) (by simp) ?_
  refine Wc.seq ?_
  refine Wc.evs (by conv => lhs; simp) ?_
  refine Wo.gh (vle_co (s := 2) (t1 := (.ptr true [(.int .i64 0), (osl eI true ([]))])) rfl (by simp) (TLe.ptr (TLes.cons (TLe.refl _) (TLes.cons (TLe.nil rfl (by decide)) (TLes.refl _)))) (by conv => lhs; simp)) ?_
  refine Wo.nil ?_
  refine Wc.seq ?_
  refine Wc.evs (by conv => lhs; simp) ?_
  refine Wo.gh (vle_co (s := 3) (t1 := (.ptr true [(.int .i64 0), (osl eI true ([]))])) rfl (by simp) (TLe.ptr (TLes.cons (TLe.refl _) (TLes.cons (TLe.nil rfl (by decide)) (TLes.refl _)))) (by conv => lhs; simp)) ?_
  refine Wo.nil ?_
  refine Wc.seq ?_
  refine Wc.evs (by conv => lhs; simp) ?_
  refine Wo.nil ?_
  refine Wc.seq ?_
  refine Wc.evs (by conv => lhs; simp) ?_
  obtain ⟨o1, h2, h⟩ := bind_some h
  refine Wo.call (by simp) rfl (by (conv => lhs; simp [cx, ioTab]) <;> rfl) (r40 h2) (by simp) (by simp) (by (conv => lhs; simp [cx, ioTab]) <;> rfl) (by (conv => lhs; simp) <;> rfl) ?_
  refine Wo.evs (by conv => lhs; simp) ?_
  refine Wo.nil ?_
  refine Wc.seq ?_
  refine Wc.evs (by conv => lhs; simp) ?_
  refine Wo.nil ?_
  refine Wc.ret (res_of (.inr rfl) ?_)
  cases h
  exact ⟨_, _, _, by conv => lhs; simp, by (conv => lhs; simp [cx, ioTab, List.range, List.range.loop]) <;> rfl, by first | rfl | simp⟩
theorem r100_0 {a : (List Fact)} : ∀ zs zo, iter (f100_0 a) zs = some zo → Wc cx 23 (.loop L100_0) [(0, .v (ssl eFact a)), (3, .v (osl eFact true zs.1)), (4, .v (.int .i64 zs.2))] ((QX 0 (fun (y : (List Fact)) => [(3, .v (osl eFact true y))])) zo) := by
  intro zs0 zo0 zh0
  refine iter_run (f := (f100_0 a)) (P := fun zs zo => Wc cx 23 (.loop L100_0) [(0, .v (ssl eFact a)), (3, .v (osl eFact true zs.1)), (4, .v (.int .i64 zs.2))] ((QX 0 (fun (y : (List Fact)) => [(3, .v (osl eFact true y))])) zo)) ?_ zh0
  rintro ⟨out_3, i_4⟩ zo zr h hk hx
  try dsimp only at hk ⊢
  rw [f100_0] at h
  refine Wc.loop ?_
  refine Wc.seq ?_
  refine Wc.seq ?_
  refine Wc.evs (by conv => lhs; simp) ?_
  refine Wo.nil ?_
  by_cases kc5 : i_4 < (a.length : Int)
  · rw [if_pos kc5] at h
    refine Wc.condT' (t := _) (by conv => lhs; simp) (by simpa using kc5) ?_
    refine Wc.seq ?_
    refine Wc.kil (by conv => lhs; simp) ?_
    refine Wc.skip ?_
    refine Wc.seq ?_
    refine Wc.block ?_
    obtain ⟨v_6, h7, h⟩ := bind_some h
    obtain ⟨ga7, gb7, gc7⟩ := ix_some h7
    have gn7 := ix_ne h7
    have gd7 := arr_at (E := eFact) (b := false) gc7
    simp at gd7
    refine Wc.evs (by conv => lhs; simp [ga7, gb7, gn7, gd7]) ?_
    obtain ⟨o8, h9, h⟩ := bind_some h
    refine Wo.call (by simp) rfl (by (conv => lhs; simp [ga7, gb7, gn7, gd7, cx, ioTab]) <;> rfl) (r157 h9) (by simp) (by simp) (by (conv => lhs; simp [ga7, gb7, gn7, gd7, cx, ioTab]) <;> rfl) (by (conv => lhs; simp [ga7, gb7, gn7, gd7]) <;> rfl) ?_
    obtain ⟨v_10, h11, h⟩ := bind_some h
    obtain ⟨ga11, gb11, gc11⟩ := ix_some h11
    have gn11 := ix_ne h11
    have gf11 := arr_fit (E := eFact) (b := true) (i := i_4.toNat) (l := out_3) (by omega)
    have gg11_0 := arr_get (E := eFact) (b := true) (o := 0) gc11 (by decide)
    have gg11_1 := arr_get (E := eFact) (b := true) (o := 1) gc11 (by decide)
    have gd11 := arr_at (E := eFact) (b := true) gc11
    simp at gf11 gg11_0 gg11_1 gd11
    have gl11 : i_4.toNat < out_3.length := by omega
    have gy12 := lay_set (E := eFact) (b := true) (i := i_4.toNat) (l := out_3) o8 (by omega)
    simp at gy12
    refine Wo.evs (by conv => lhs; simp [ga7, gb7, gn7, gd7, -getElem?_pos, List.getElem?_cons_zero, List.getElem?_cons_succ, ga11, gb11, gn11, gf11, gg11_0, gg11_1, gd11, gl11, gy12]) ?_
    refine Wo.nil ?_
    refine Wc.evs (by conv => lhs; simp) ?_
    refine Wo.nil ?_
    refine Wc.start (V1 := [(0, .v (ssl eFact a)), (3, .v (osl eFact true (out_3.set i_4.toNat o8))), (4, .v (.int .i64 (w64 (i_4 + 1))))]) ?_ (hk _ (Option.some.inj h).symm)
    first | rfl | simp
  · rw [if_neg kc5] at h
    refine Wc.condF' (t := _) (by conv => lhs; simp) (by simpa using kc5) ?_
    refine Wc.seq ?_
    refine Wc.kil (by conv => lhs; simp) ?_
    refine Wc.exit ?_
    have e0 := hx _ (Option.some.inj h).symm
    subst e0
    exact ⟨rfl, by first | rfl | simp⟩
theorem r100 {a : (List Fact)} {r : (List Fact)} (h : f100 a = some r) : VJx cx (.ca 100 [(ssl eFact a)] (osl eFact true r) []) := by
  unfold f100 at h
  refine ca_of rfl rfl (by decide) rfl ?_
  refine Wc.start (V1 := [(0, .v (ssl eFact a))]) (by simp) ?_
  refine Wc.seq ?_
  refine Wc.evs (by conv => lhs; simp) ?_
  refine Wo.nil ?_
  refine Wc.seq ?_
  obtain ⟨l_1, h2, h⟩ := bind_some h
  obtain ⟨gm2, gp2, gq2, gr2⟩ := mkl_some h2
  try simp at gr2
  refine Wc.evs (by conv => lhs; simp [gm2, gp2, gq2]) ?_
  refine Wo.gh (vle_co (s := 3) (t1 := (osl eFact true l_1)) rfl (by simp) (TLe.own0 (tles_rep (E := eFact) (b := true) gr2 (show TLes _ [(.int .i64 0), (osl eI true ([]))] from (TLes.cons (TLe.refl _) (TLes.cons (TLe.nil rfl (by decide)) (TLes.refl _)))))) (by conv => lhs; simp)) ?_
  refine Wo.nil ?_
  refine Wc.seq ?_
  refine Wc.seq ?_
  refine Wc.evs (by conv => lhs; simp) ?_
  refine Wo.nil ?_
  refine Wc.block ?_
  obtain ⟨w13, h14, h⟩ := bind_some h
  refine Wc.start (V1 := [(0, .v (ssl eFact a)), (3, .v (osl eFact true l_1)), (4, .v (.int .i64 0))]) (by first | rfl | simp) ?_
  refine Wc.mono (r100_0 _ _ h14) ?_
  generalize w13 = out_15 at *
  rintro ex V ⟨rfl, rfl⟩
  try dsimp only at h
  refine Wc.seq ?_
  refine Wc.evs (by conv => lhs; simp) ?_
  refine Wo.nil ?_
  refine Wc.ret (res_of (.inr rfl) ?_)
  cases h
  exact ⟨_, _, _, by conv => lhs; simp, by (conv => lhs; simp [cx, ioTab, List.range, List.range.loop]) <;> rfl, by first | rfl | simp⟩
theorem r39 {a : Database} {r : Database} (h : f39 a = some r) : VJx cx (.ca 39 [(.agg [(ssl eRelation a.Relations), (ssl eFact a.Facts)])] (.agg [(osl eRelation true r.Relations), (osl eFact true r.Facts)]) []) := by
  unfold f39 at h
  refine ca_of rfl rfl (by decide) rfl ?_
  refine Wc.start (V1 := [(0, .v (.agg [(ssl eRelation a.Relations), (ssl eFact a.Facts)]))]) (by simp) ?_
  refine Wc.seq ?_
  refine Wc.evs (by conv => lhs; simp) ?_
  refine Wo.gh (vle_co (s := 2) (t1 := (.ptr true [(osl eRelation true ([])), (osl eFact true ([]))])) rfl (by simp) (TLe.ptr (TLes.cons (TLe.nil rfl (by decide)) (TLes.cons (TLe.nil rfl (by decide)) (TLes.refl _)))) (by conv => lhs; simp)) ?_
  refine Wo.nil ?_
  refine Wc.seq ?_
  refine Wc.evs (by conv => lhs; simp) ?_
  refine Wo.gh (vle_co (s := 3) (t1 := (.ptr true [(osl eRelation true ([])), (osl eFact true ([]))])) rfl (by simp) (TLe.ptr (TLes.cons (TLe.nil rfl (by decide)) (TLes.cons (TLe.nil rfl (by decide)) (TLes.refl _)))) (by conv => lhs; simp)) ?_
  refine Wo.nil ?_
  refine Wc.seq ?_
  refine Wc.evs (by conv => lhs; simp) ?_
  obtain ⟨o1, h2, h⟩ := bind_some h
  refine Wo.call (by simp) rfl (by (conv => lhs; simp [cx, ioTab]) <;> rfl) (r50 h2) (by simp) (by simp) (by (conv => lhs; simp [cx, ioTab]) <;> rfl) (by (conv => lhs; simp) <;> rfl) ?_
  refine Wo.evs (by conv => lhs; simp) ?_
  refine Wo.nil ?_
  refine Wc.seq ?_
  refine Wc.evs (by conv => lhs; simp) ?_
  obtain ⟨o3, h4, h⟩ := bind_some h
  refine Wo.call (by simp) rfl (by (conv => lhs; simp [cx, ioTab]) <;> rfl) (r100 h4) (by simp) (by simp) (by (conv => lhs; simp [cx, ioTab]) <;> rfl) (by (conv => lhs; simp) <;> rfl) ?_
  refine Wo.evs (by conv => lhs; simp) ?_
  refine Wo.nil ?_
  refine Wc.seq ?_
  refine Wc.evs (by conv => lhs; simp) ?_
  refine Wo.nil ?_
  refine Wc.ret (res_of (.inr rfl) ?_)
  cases h
  exact ⟨_, _, _, by conv => lhs; simp, by (conv => lhs; simp [cx, ioTab, List.range, List.range.loop]) <;> rfl, by first | rfl | simp⟩
theorem r71 {x : Int} {low : Int} {high : Int} {r : Bool} (h : f71 x low high = some r) : VJx cx (.ca 71 [(.int .i64 x), (.int .i64 low), (.int .i64 high)] (.bool r) []) := by
  unfold f71 at h
  refine ca_of rfl rfl (by decide) rfl ?_
  refine Wc.start (V1 := [(0, .v (.int .i64 x)), (1, .v (.int .i64 low)), (2, .v (.int .i64 high))]) (by simp) ?_
  refine Wc.seq ?_
  refine Wc.evs (by conv => lhs; simp) ?_
  refine Wo.nil ?_
  refine Wc.seq ?_
  refine Wc.evk 4 (by conv => lhs; simp) ?_
  obtain ⟨w2, h3, h⟩ := bind_some h
  refine Wo.mono (Q := fun V => V = [(6, .v (.bool w2))]) ?_ ?_
  · by_cases knh3 : x ≥ low
    · rw [if_pos knh3] at h3
      refine Wo.gh (vle_co (s := 10) (t1 := .bool true) rfl (by simp) (tle_bool (by simpa using knh3)) (by conv => lhs; simp)) ?_
      refine Wo.evs (by conv => lhs; simp) ?_
      refine Wo.nil ?_
      cases h3
      first | rfl | simp
    · rw [if_neg knh3] at h3
      refine Wo.gh (vle_co (s := 10) (t1 := .bool false) rfl (by simp) (tle_bool (by simpa using knh3)) (by conv => lhs; simp)) ?_
      refine Wo.evs (by conv => lhs; simp) ?_
      refine Wo.nil ?_
      cases h3
      first | rfl | simp
  · rintro V rfl
    generalize w2 = x_1 at *
    try dsimp only at h
    refine Wc.ret (res_of (.inr rfl) ?_)
    cases h
    exact ⟨_, _, _, by conv => lhs; simp, by (conv => lhs; simp [cx, ioTab, List.range, List.range.loop]) <;> rfl, by first | rfl | simp⟩
theorem r154 {s0 : Relation} {r : Bool} (h : f154 s0 = some r) : VJx cx (.ca 154 [(.agg [(.str s0.Name), (.int .i64 s0.Arity), (.int .i64 s0.KeyLength)])] (.bool r) []) := by
  unfold f154 at h
  refine ca_of rfl rfl (by decide) rfl ?_
  refine Wc.start (V1 := [(0, .v (.agg [(.str s0.Name), (.int .i64 s0.Arity), (.int .i64 s0.KeyLength)]))]) (by simp) ?_
  refine Wc.seq ?_
  refine Wc.evs (by conv => lhs; simp) ?_
  refine Wo.nil ?_
  refine Wc.seq ?_
  refine Wc.evk 5 (by conv => lhs; simp) ?_
  obtain ⟨w2, h3, h⟩ := bind_some h
  refine Wo.mono (Q := fun V => V = [(2, .v (.bool w2))]) ?_ ?_
  · by_cases knh3 : (s0.Name.length : Int) = 1
    · rw [if_pos knh3] at h3
      refine Wo.gh (vle_co (s := 7) (t1 := .bool true) rfl (by simp) (tle_bool (by simpa using knh3)) (by conv => lhs; simp)) ?_
      obtain ⟨c_4, h5, h3⟩ := bind_some h3
      obtain ⟨ga5, gb5, gc5⟩ := ix_some h5
      have gq5 : s0.Name[(0 : Nat)]? = some c_4 := gc5
      refine Wo.evk 6 (by conv => lhs; simp [ga5, gb5, gc5, gq5]) ?_
      obtain ⟨w7, h8, h3⟩ := bind_some h3
      refine Wo.mono (Q := fun V => V = [(2, .v (.bool w7))]) ?_ ?_
      · by_cases knh8 : (c_4.toNat : Int) ≥ 97
        · rw [if_pos knh8] at h8
          refine Wo.gh (vle_co (s := 13) (t1 := .bool true) rfl (by simp) (tle_bool (by simpa using knh8)) (by conv => lhs; simp)) ?_
          refine Wo.evk 6 (by conv => lhs; simp [ga5, gb5, gc5, gq5]) ?_
          obtain ⟨w10, h11, h8⟩ := bind_some h8
          refine Wo.mono (Q := fun V => V = [(2, .v (.bool w10))]) ?_ ?_
          · by_cases knh11 : (c_4.toNat : Int) ≤ 122
            · rw [if_pos knh11] at h11
              refine Wo.gh (vle_co (s := 19) (t1 := .bool true) rfl (by simp) (tle_bool (by simpa using knh11)) (by conv => lhs; simp)) ?_
              refine Wo.evs (by conv => lhs; simp [ga5, gb5, gc5, gq5]) ?_
              obtain ⟨o12, h13, h11⟩ := bind_some h11
              refine Wo.call (by simp [ga5, gb5, gc5, gq5]) rfl (by (conv => lhs; simp [ga5, gb5, gc5, gq5, cx, ioTab]) <;> rfl) (r71 h13) (by simp) (by simp) (by (conv => lhs; simp [ga5, gb5, gc5, gq5, cx, ioTab]) <;> rfl) (by (conv => lhs; simp [ga5, gb5, gc5, gq5]) <;> rfl) ?_
              refine Wo.evk 2 (by conv => lhs; simp [ga5, gb5, gc5, gq5]) ?_
              obtain ⟨w15, h16, h11⟩ := bind_some h11
              refine Wo.mono (Q := fun V => V = [(2, .v (.bool w15))]) ?_ ?_
              · by_cases knh16 : o12 = true
                · rw [if_pos knh16] at h16
                  refine Wo.gh (vle_co (s := 24) (t1 := .bool true) rfl (by simp) (tle_bool (by simpa using knh16)) (by conv => lhs; simp)) ?_
                  refine Wo.evs (by conv => lhs; simp [ga5, gb5, gc5, gq5]) ?_
                  obtain ⟨o17, h18, h16⟩ := bind_some h16
                  refine Wo.call (by simp [ga5, gb5, gc5, gq5]) rfl (by (conv => lhs; simp [ga5, gb5, gc5, gq5, cx, ioTab]) <;> rfl) (r71 h18) (by simp) (by simp) (by (conv => lhs; simp [ga5, gb5, gc5, gq5, cx, ioTab]) <;> rfl) (by (conv => lhs; simp [ga5, gb5, gc5, gq5]) <;> rfl) ?_
                  refine Wo.evs (by conv => lhs; simp [ga5, gb5, gc5, gq5]) ?_
                  refine Wo.nil ?_
                  cases h16
                  first | rfl | simp [ga5, gb5, gc5, gq5]
                · rw [if_neg knh16] at h16
                  refine Wo.gh (vle_co (s := 24) (t1 := .bool false) rfl (by simp) (tle_bool (by simpa using knh16)) (by conv => lhs; simp)) ?_
                  refine Wo.evs (by conv => lhs; simp [ga5, gb5, gc5, gq5]) ?_
                  refine Wo.nil ?_
                  cases h16
                  first | rfl | simp [ga5, gb5, gc5, gq5]
              · rintro V rfl
                generalize w15 = x_14 at *
                try dsimp only at h11
                cases h11
                first | rfl | simp [ga5, gb5, gc5, gq5]
            · rw [if_neg knh11] at h11
              refine Wo.gh (vle_co (s := 19) (t1 := .bool false) rfl (by simp) (tle_bool (by simpa using knh11)) (by conv => lhs; simp)) ?_
              refine Wo.evs (by conv => lhs; simp [ga5, gb5, gc5, gq5]) ?_
              refine Wo.nil ?_
              cases h11
              first | rfl | simp [ga5, gb5, gc5, gq5]
          · rintro V rfl
            generalize w10 = x_9 at *
            try dsimp only at h8
            cases h8
            first | rfl | simp [ga5, gb5, gc5, gq5]
        · rw [if_neg knh8] at h8
          refine Wo.gh (vle_co (s := 13) (t1 := .bool false) rfl (by simp) (tle_bool (by simpa using knh8)) (by conv => lhs; simp)) ?_
          refine Wo.evs (by conv => lhs; simp [ga5, gb5, gc5, gq5]) ?_
          refine Wo.nil ?_
          cases h8
          first | rfl | simp [ga5, gb5, gc5, gq5]
      · rintro V rfl
        generalize w7 = x_6 at *
        try dsimp only at h3
        cases h3
        first | rfl | simp [ga5, gb5, gc5, gq5]
    · rw [if_neg knh3] at h3
      refine Wo.gh (vle_co (s := 7) (t1 := .bool false) rfl (by simp) (tle_bool (by simpa using knh3)) (by conv => lhs; simp)) ?_
      refine Wo.evs (by conv => lhs; simp) ?_
      refine Wo.nil ?_
      cases h3
      first | rfl | simp
  · rintro V rfl
    generalize w2 = x_1 at *
    try dsimp only at h
    refine Wc.ret (res_of (.inr rfl) ?_)
    cases h
    exact ⟨_, _, _, by conv => lhs; simp, by (conv => lhs; simp [cx, ioTab, List.range, List.range.loop]) <;> rfl, by first | rfl | simp⟩
theorem r94_0 {l : (List Relation)} : ∀ zs zo, iter (f94_0 l) zs = some zo → Wc cx 37 (.loop L94_0) [(0, .v (ssl eRelation l)), (3, .v (.int .i64 zs))] ((QO (QX 0 (fun (y : Unit) => [(0, .v (ssl eRelation l))])) (QR (fun (y : Bool) => [(2, .v (.bool y))]))) zo) := by
  intro zs0 zo0 zh0
  refine iter_run (f := (f94_0 l)) (P := fun zs zo => Wc cx 37 (.loop L94_0) [(0, .v (ssl eRelation l)), (3, .v (.int .i64 zs))] ((QO (QX 0 (fun (y : Unit) => [(0, .v (ssl eRelation l))])) (QR (fun (y : Bool) => [(2, .v (.bool y))]))) zo)) ?_ zh0
  rintro i_1 zo zr h hk hx
  try dsimp only at hk ⊢
  rw [f94_0] at h
  refine Wc.loop ?_
  refine Wc.seq ?_
  refine Wc.seq ?_
  refine Wc.evs (by conv => lhs; simp) ?_
  refine Wo.nil ?_
  by_cases kc2 : i_1 < (l.length : Int)
  · rw [if_pos kc2] at h
    refine Wc.condT' (t := _) (by conv => lhs; simp) (by simpa using kc2) ?_
    refine Wc.seq ?_
    refine Wc.kil (by conv => lhs; simp) ?_
    refine Wc.skip ?_
    refine Wc.seq ?_
    refine Wc.block ?_
    refine Wc.seq ?_
    obtain ⟨v_3, h4, h⟩ := bind_some h
    obtain ⟨ga4, gb4, gc4⟩ := ix_some h4
    have gn4 := ix_ne h4
    have gd4 := arr_at (E := eRelation) (b := false) gc4
    simp at gd4
    refine Wc.evs (by conv => lhs; simp [ga4, gb4, gn4, gd4]) ?_
    obtain ⟨o5, h6, h⟩ := bind_some h
    refine Wo.call (by simp) rfl (by (conv => lhs; simp [ga4, gb4, gn4, gd4, cx, ioTab]) <;> rfl) (r154 h6) (by simp) (by simp) (by (conv => lhs; simp [ga4, gb4, gn4, gd4, cx, ioTab]) <;> rfl) (by (conv => lhs; simp [ga4, gb4, gn4, gd4]) <;> rfl) ?_
    refine Wo.evk 2 (by conv => lhs; simp [ga4, gb4, gn4, gd4]) ?_
    obtain ⟨w8, h9, h⟩ := bind_some h
    refine Wo.mono (Q := fun V => V = [(0, .v (ssl eRelation l)), (3, .v (.int .i64 i_1)), (33, .v (.bool w8))]) ?_ ?_
    · by_cases knh9 : ¬ (o5 = true)
      · rw [if_pos knh9] at h9
        refine Wo.gh (vle_co (s := 16) (t1 := .bool true) rfl (by simp) (tle_bool (by simpa using knh9)) (by conv => lhs; simp)) ?_
        refine Wo.evs (by conv => lhs; simp [ga4, gb4, gn4, gd4]) ?_
        refine Wo.nil ?_
        cases h9
        first | rfl | simp [ga4, gb4, gn4, gd4]
      · rw [if_neg knh9] at h9
        refine Wo.gh (vle_co (s := 16) (t1 := .bool false) rfl (by simp) (tle_bool (by simpa using knh9)) (by conv => lhs; simp)) ?_
        refine Wo.evk 3 (by conv => lhs; simp [ga4, gb4, gn4, gd4]) ?_
        obtain ⟨w11, h12, h9⟩ := bind_some h9
        refine Wo.mono (Q := fun V => V = [(0, .v (ssl eRelation l)), (3, .v (.int .i64 i_1)), (33, .v (.bool w11))]) ?_ ?_
        · by_cases knh12 : i_1 > 0
          · rw [if_pos knh12] at h12
            refine Wo.gh (vle_co (s := 19) (t1 := .bool true) rfl (by simp) (tle_bool (by simpa using knh12)) (by conv => lhs; simp)) ?_
            obtain ⟨v_13, h14, h12⟩ := bind_some h12
            obtain ⟨ga14, gb14, gc14⟩ := ix_some h14
            have gn14 := ix_ne h14
            have gd14 := arr_at (E := eRelation) (b := false) gc14
            simp at gd14
            refine Wo.evs (by conv => lhs; simp [ga4, gb4, gn4, gd4, ga14, gb14, gn14, gd14]) ?_
            refine Wo.nil ?_
            cases h12
            first | rfl | simp [ga4, gb4, gn4, gd4, ga14, gb14, gn14, gd14]
          · rw [if_neg knh12] at h12
            refine Wo.gh (vle_co (s := 19) (t1 := .bool false) rfl (by simp) (tle_bool (by simpa using knh12)) (by conv => lhs; simp)) ?_
            refine Wo.evs (by conv => lhs; simp [ga4, gb4, gn4, gd4]) ?_
            refine Wo.nil ?_
            cases h12
            first | rfl | simp [ga4, gb4, gn4, gd4]
        · rintro V rfl
          generalize w11 = x_10 at *
          try dsimp only at h9
          cases h9
          first | rfl | simp [ga4, gb4, gn4, gd4]
    · rintro V rfl
      generalize w8 = x_7 at *
      try dsimp only at h
      by_cases kc15 : x_7 = true
      · rw [if_pos kc15] at h
        refine Wc.condT' (t := _) (by conv => lhs; simp) (by simpa using kc15) ?_
        refine Wc.seq ?_
        refine Wc.kil (by conv => lhs; simp) ?_
        refine Wc.seq ?_
        refine Wc.evs (by conv => lhs; simp) ?_
        refine Wo.nil ?_
        refine Wc.ret ?_
        have e0 := hx _ (Option.some.inj h).symm
        subst e0
        exact ⟨rfl, by first | rfl | simp⟩
      · rw [if_neg kc15] at h
        refine Wc.condF' (t := _) (by conv => lhs; simp) (by simpa using kc15) ?_
        refine Wc.seq ?_
        refine Wc.kil (by conv => lhs; simp) ?_
        refine Wc.skip ?_
        refine Wc.evs (by conv => lhs; simp) ?_
        refine Wo.nil ?_
        refine Wc.start (V1 := [(0, .v (ssl eRelation l)), (3, .v (.int .i64 (w64 (i_1 + 1))))]) ?_ (hk _ (Option.some.inj h).symm)
        first | rfl | simp
  · rw [if_neg kc2] at h
    refine Wc.condF' (t := _) (by conv => lhs; simp) (by simpa using kc2) ?_
    refine Wc.seq ?_
    refine Wc.kil (by conv => lhs; simp) ?_
    refine Wc.exit ?_
    have e0 := hx _ (Option.some.inj h).symm
    subst e0
    exact ⟨rfl, by first | rfl | simp⟩
theorem r94 {l : (List Relation)} {r : Bool} (h : f94 l = some r) : VJx cx (.ca 94 [(ssl eRelation l)] (.bool r) []) := by
  unfold f94 at h
  refine ca_of rfl rfl (by decide) rfl ?_
  refine Wc.start (V1 := [(0, .v (ssl eRelation l))]) (by simp) ?_
  refine Wc.seq ?_
  refine Wc.evs (by conv => lhs; simp) ?_
  refine Wo.nil ?_
  refine Wc.seq ?_
  refine Wc.seq ?_
  refine Wc.evs (by conv => lhs; simp) ?_
  refine Wo.nil ?_
  refine Wc.block ?_
  obtain ⟨w16, h17, h⟩ := bind_some h
  refine Wc.start (V1 := [(0, .v (ssl eRelation l)), (3, .v (.int .i64 0))]) (by first | rfl | simp) ?_
  refine Wc.mono (r94_0 _ _ h17) ?_
  rcases w16 with ⟨⟩ | x_18
  · rintro ex V ⟨rfl, rfl⟩
    try dsimp only at h
    refine Wc.seq ?_
    refine Wc.evs (by conv => lhs; simp) ?_
    refine Wo.nil ?_
    refine Wc.ret (res_of (.inr rfl) ?_)
    cases h
    exact ⟨_, _, _, by conv => lhs; simp, by (conv => lhs; simp [cx, ioTab, List.range, List.range.loop]) <;> rfl, by first | rfl | simp⟩
  · rintro ex V ⟨rfl, rfl⟩
    try dsimp only at h
    refine res_of (.inr rfl) ?_
    cases h
    exact ⟨_, _, _, by conv => lhs; simp, by (conv => lhs; simp [cx, ioTab, List.range, List.range.loop]) <;> rfl, by first | rfl | simp⟩
theorem r92_0 {f : Fact} : ∀ zs zo, iter (f92_0 f) zs = some zo → Wc cx 44 (.loop L92_0) [(3, .v (.ptr true [(.int .i64 f.Relation), (ssl eI f.Values)])), (5, .v (.int .i64 zs))] ((QO (QX 0 (fun (y : Unit) => [])) (QR (fun (y : Bool) => [(4, .v (.bool y))]))) zo) := by
  intro zs0 zo0 zh0
  refine iter_run (f := (f92_0 f)) (P := fun zs zo => Wc cx 44 (.loop L92_0) [(3, .v (.ptr true [(.int .i64 f.Relation), (ssl eI f.Values)])), (5, .v (.int .i64 zs))] ((QO (QX 0 (fun (y : Unit) => [])) (QR (fun (y : Bool) => [(4, .v (.bool y))]))) zo)) ?_ zh0
  rintro i_14 zo zr h hk hx
  try dsimp only at hk ⊢
  rw [f92_0] at h
  refine Wc.loop ?_
  refine Wc.seq ?_
  refine Wc.seq ?_
  refine Wc.evs (by conv => lhs; simp) ?_
  refine Wo.nil ?_
  by_cases kc15 : i_14 < (f.Values.length : Int)
  · rw [if_pos kc15] at h
    refine Wc.condT' (t := _) (by conv => lhs; simp) (by simpa using kc15) ?_
    refine Wc.seq ?_
    refine Wc.kil (by conv => lhs; simp) ?_
    refine Wc.skip ?_
    refine Wc.seq ?_
    refine Wc.block ?_
    refine Wc.seq ?_
    obtain ⟨v_16, h17, h⟩ := bind_some h
    obtain ⟨ga17, gb17, gc17⟩ := ix_some h17
    have gn17 := ix_ne h17
    have gd17 := arr_at (E := eI) (b := false) gc17
    simp at gd17
    refine Wc.evs (by conv => lhs; simp [ga17, gb17, gn17, gd17]) ?_
    obtain ⟨o18, h19, h⟩ := bind_some h
    refine Wo.call (by simp) rfl (by (conv => lhs; simp [ga17, gb17, gn17, gd17, cx, ioTab]) <;> rfl) (r71 h19) (by simp) (by simp) (by (conv => lhs; simp [ga17, gb17, gn17, gd17, cx, ioTab]) <;> rfl) (by (conv => lhs; simp [ga17, gb17, gn17, gd17]) <;> rfl) ?_
    refine Wo.evs (by conv => lhs; simp [ga17, gb17, gn17, gd17]) ?_
    refine Wo.nil ?_
    by_cases kc20 : ¬ (o18 = true)
    · rw [if_pos kc20] at h
      refine Wc.condT' (t := _) (by conv => lhs; simp) (by simpa using kc20) ?_
      refine Wc.seq ?_
      refine Wc.kil (by conv => lhs; simp) ?_
      refine Wc.seq ?_
      refine Wc.evs (by conv => lhs; simp) ?_
      refine Wo.nil ?_
      refine Wc.ret ?_
      have e0 := hx _ (Option.some.inj h).symm
      subst e0
      exact ⟨rfl, by first | rfl | simp⟩
    · rw [if_neg kc20] at h
      refine Wc.condF' (t := _) (by conv => lhs; simp) (by simpa using kc20) ?_
      refine Wc.seq ?_
      refine Wc.kil (by conv => lhs; simp) ?_
      refine Wc.skip ?_
      refine Wc.evs (by conv => lhs; simp) ?_
      refine Wo.nil ?_
      refine Wc.start (V1 := [(3, .v (.ptr true [(.int .i64 f.Relation), (ssl eI f.Values)])), (5, .v (.int .i64 (w64 (i_14 + 1))))]) ?_ (hk _ (Option.some.inj h).symm)
      first | rfl | simp
  · rw [if_neg kc15] at h
    refine Wc.condF' (t := _) (by conv => lhs; simp) (by simpa using kc15) ?_
    refine Wc.seq ?_
    refine Wc.kil (by conv => lhs; simp) ?_
    refine Wc.exit ?_
    have e0 := hx _ (Option.some.inj h).symm
    subst e0
    exact ⟨rfl, by first | rfl | simp⟩
theorem r92 {l : (List Relation)} {f : Fact} {r : Bool} (h : f92 l f = some r) : VJx cx (.ca 92 [(ssl eRelation l), (.agg [(.int .i64 f.Relation), (ssl eI f.Values)])] (.bool r) []) := by
  unfold f92 at h
  refine ca_of rfl rfl (by decide) rfl ?_
  refine Wc.start (V1 := [(0, .v (ssl eRelation l)), (1, .v (.agg [(.int .i64 f.Relation), (ssl eI f.Values)]))]) (by simp) ?_
  refine Wc.seq ?_
  refine Wc.evs (by conv => lhs; simp) ?_
  refine Wo.nil ?_
  refine Wc.seq ?_
  refine Wc.seq ?_
  refine Wc.evs (by conv => lhs; simp) ?_
  obtain ⟨o1, h2, h⟩ := bind_some h
  refine Wo.call (by simp) rfl (by (conv => lhs; simp [cx, ioTab]) <;> rfl) (r94 h2) (by simp) (by simp) (by (conv => lhs; simp [cx, ioTab]) <;> rfl) (by (conv => lhs; simp) <;> rfl) ?_
  refine Wo.evk 2 (by conv => lhs; simp) ?_
  obtain ⟨w4, h5, h⟩ := bind_some h
  refine Wo.mono (Q := fun V => V = [(3, .v (.ptr true [(.int .i64 f.Relation), (ssl eI f.Values)])), (29, .v (.bool w4))]) ?_ ?_
  · by_cases knh5 : ¬ (o1 = true)
    · rw [if_pos knh5] at h5
      refine Wo.gh (vle_co (s := 9) (t1 := .bool true) rfl (by simp) (tle_bool (by simpa using knh5)) (by conv => lhs; simp)) ?_
      refine Wo.evs (by conv => lhs; simp) ?_
      refine Wo.nil ?_
      cases h5
      first | rfl | simp
    · rw [if_neg knh5] at h5
      refine Wo.gh (vle_co (s := 9) (t1 := .bool false) rfl (by simp) (tle_bool (by simpa using knh5)) (by conv => lhs; simp)) ?_
      refine Wo.evs (by conv => lhs; simp) ?_
      obtain ⟨o6, h7, h5⟩ := bind_some h5
      refine Wo.call (by simp) rfl (by (conv => lhs; simp [cx, ioTab]) <;> rfl) (r71 h7) (by simp) (by simp) (by (conv => lhs; simp [cx, ioTab]) <;> rfl) (by (conv => lhs; simp) <;> rfl) ?_
      refine Wo.evk 3 (by conv => lhs; simp) ?_
      obtain ⟨w9, h10, h5⟩ := bind_some h5
      refine Wo.mono (Q := fun V => V = [(3, .v (.ptr true [(.int .i64 f.Relation), (ssl eI f.Values)])), (29, .v (.bool w9))]) ?_ ?_
      · by_cases knh10 : ¬ (o6 = true)
        · rw [if_pos knh10] at h10
          refine Wo.gh (vle_co (s := 18) (t1 := .bool true) rfl (by simp) (tle_bool (by simpa using knh10)) (by conv => lhs; simp)) ?_
          refine Wo.evs (by conv => lhs; simp) ?_
          refine Wo.nil ?_
          cases h10
          first | rfl | simp
        · rw [if_neg knh10] at h10
          refine Wo.gh (vle_co (s := 18) (t1 := .bool false) rfl (by simp) (tle_bool (by simpa using knh10)) (by conv => lhs; simp)) ?_
          obtain ⟨v_11, h12, h10⟩ := bind_some h10
          obtain ⟨ga12, gb12, gc12⟩ := ix_some h12
          have gn12 := ix_ne h12
          have gd12 := arr_at (E := eRelation) (b := false) gc12
          simp at gd12
          refine Wo.evs (by conv => lhs; simp [ga12, gb12, gn12, gd12]) ?_
          refine Wo.nil ?_
          cases h10
          first | rfl | simp [ga12, gb12, gn12, gd12]
      · rintro V rfl
        generalize w9 = x_8 at *
        try dsimp only at h5
        cases h5
        first | rfl | simp
  · rintro V rfl
    generalize w4 = x_3 at *
    try dsimp only at h
    by_cases kc13 : x_3 = true
    · rw [if_pos kc13] at h
      refine Wc.condT' (t := _) (by conv => lhs; simp) (by simpa using kc13) ?_
      refine Wc.seq ?_
      refine Wc.kil (by conv => lhs; simp) ?_
      refine Wc.seq ?_
      refine Wc.evs (by conv => lhs; simp) ?_
      refine Wo.nil ?_
      refine Wc.ret (res_of (.inr rfl) ?_)
      cases h
      exact ⟨_, _, _, by conv => lhs; simp, by (conv => lhs; simp [cx, ioTab, List.range, List.range.loop]) <;> rfl, by first | rfl | simp⟩
    · rw [if_neg kc13] at h
      refine Wc.condF' (t := _) (by conv => lhs; simp) (by simpa using kc13) ?_
      refine Wc.seq ?_
      refine Wc.kil (by conv => lhs; simp) ?_
      refine Wc.skip ?_
      refine Wc.seq ?_
      refine Wc.seq ?_
      refine Wc.evs (by conv => lhs; simp) ?_
      refine Wo.nil ?_
      refine Wc.block ?_
      obtain ⟨w21, h22, h⟩ := bind_some h
      refine Wc.start (V1 := [(3, .v (.ptr true [(.int .i64 f.Relation), (ssl eI f.Values)])), (5, .v (.int .i64 0))]) (by first | rfl | simp) ?_
      refine Wc.mono (r92_0 _ _ h22) ?_
      rcases w21 with ⟨⟩ | x_23
      · rintro ex V ⟨rfl, rfl⟩
        try dsimp only at h
        refine Wc.seq ?_
        refine Wc.evs (by conv => lhs; simp) ?_
        refine Wo.nil ?_
        refine Wc.ret (res_of (.inr rfl) ?_)
        cases h
        exact ⟨_, _, _, by conv => lhs; simp, by (conv => lhs; simp [cx, ioTab, List.range, List.range.loop]) <;> rfl, by first | rfl | simp⟩
      · rintro ex V ⟨rfl, rfl⟩
        try dsimp only at h
        refine res_of (.inr rfl) ?_
        cases h
        exact ⟨_, _, _, by conv => lhs; simp, by (conv => lhs; simp [cx, ioTab, List.range, List.range.loop]) <;> rfl, by first | rfl | simp⟩
theorem r153_0 {a : (List Int)} {b : (List Int)} : ∀ zs zo, iter (f153_0 a b) zs = some zo → Wc cx 46 (.loop L153_0) [(0, .v (ssl eI a)), (1, .v (ssl eI b)), (5, .v (.int .i64 zs))] ((QO (QX 0 (fun (y : Unit) => [(0, .v (ssl eI a)), (1, .v (ssl eI b))])) (QR (fun (y : Int) => [(4, .v (.int .i64 y))]))) zo) := by
  intro zs0 zo0 zh0
  refine iter_run (f := (f153_0 a b)) (P := fun zs zo => Wc cx 46 (.loop L153_0) [(0, .v (ssl eI a)), (1, .v (ssl eI b)), (5, .v (.int .i64 zs))] ((QO (QX 0 (fun (y : Unit) => [(0, .v (ssl eI a)), (1, .v (ssl eI b))])) (QR (fun (y : Int) => [(4, .v (.int .i64 y))]))) zo)) ?_ zh0
  rintro i_1 zo zr h hk hx
  try dsimp only at hk ⊢
  rw [f153_0] at h
  refine Wc.loop ?_
  refine Wc.seq ?_
  refine Wc.seq ?_
  refine Wc.evk 5 (by conv => lhs; simp) ?_
  obtain ⟨w3, h4, h⟩ := bind_some h
  refine Wo.mono (Q := fun V => V = [(0, .v (ssl eI a)), (1, .v (ssl eI b)), (5, .v (.int .i64 i_1)), (15, .v (.bool w3))]) ?_ ?_
  · by_cases knh4 : i_1 < (a.length : Int)
    · rw [if_pos knh4] at h4
      refine Wo.gh (vle_co (s := 10) (t1 := .bool true) rfl (by simp) (tle_bool (by simpa using knh4)) (by conv => lhs; simp)) ?_
      refine Wo.evs (by conv => lhs; simp) ?_
      refine Wo.nil ?_
      cases h4
      first | rfl | simp
    · rw [if_neg knh4] at h4
      refine Wo.gh (vle_co (s := 10) (t1 := .bool false) rfl (by simp) (tle_bool (by simpa using knh4)) (by conv => lhs; simp)) ?_
      refine Wo.evs (by conv => lhs; simp) ?_
      refine Wo.nil ?_
      cases h4
      first | rfl | simp
  · rintro V rfl
    generalize w3 = x_2 at *
    try dsimp only at h
    by_cases kc5 : x_2 = true
    · rw [if_pos kc5] at h
      refine Wc.condT' (t := _) (by conv => lhs; simp) (by simpa using kc5) ?_
      refine Wc.seq ?_
      refine Wc.kil (by conv => lhs; simp) ?_
      refine Wc.skip ?_
      refine Wc.seq ?_
      refine Wc.block ?_
      refine Wc.seq ?_
      refine Wc.seq ?_
      obtain ⟨v_6, h7, h⟩ := bind_some h
      obtain ⟨ga7, gb7, gc7⟩ := ix_some h7
      have gn7 := ix_ne h7
      have gd7 := arr_at (E := eI) (b := false) gc7
      simp at gd7
      obtain ⟨v_8, h9, h⟩ := bind_some h
      obtain ⟨ga9, gb9, gc9⟩ := ix_some h9
      have gn9 := ix_ne h9
      have gd9 := arr_at (E := eI) (b := false) gc9
      simp at gd9
      refine Wc.evs (by conv => lhs; simp [ga7, gb7, gn7, gd7, ga9, gb9, gn9, gd9]) ?_
      refine Wo.nil ?_
      by_cases kc10 : v_6 < v_8
      · rw [if_pos kc10] at h
        refine Wc.condT' (t := _) (by conv => lhs; simp) (by simpa using kc10) ?_
        refine Wc.seq ?_
        refine Wc.kil (by conv => lhs; simp) ?_
        refine Wc.seq ?_
        refine Wc.evs (by conv => lhs; simp) ?_
        refine Wo.nil ?_
        refine Wc.ret ?_
        have e0 := hx _ (Option.some.inj h).symm
        subst e0
        exact ⟨rfl, by first | rfl | simp⟩
      · rw [if_neg kc10] at h
        refine Wc.condF' (t := _) (by conv => lhs; simp) (by simpa using kc10) ?_
        refine Wc.seq ?_
        refine Wc.kil (by conv => lhs; simp) ?_
        refine Wc.skip ?_
        refine Wc.seq ?_
        refine Wc.evs (by conv => lhs; simp [ga7, gb7, gn7, gd7, ga9, gb9, gn9, gd9]) ?_
        refine Wo.nil ?_
        by_cases kc11 : v_6 > v_8
        · rw [if_pos kc11] at h
          refine Wc.condT' (t := _) (by conv => lhs; simp) (by simpa using kc11) ?_
          refine Wc.seq ?_
          refine Wc.kil (by conv => lhs; simp) ?_
          refine Wc.seq ?_
          refine Wc.evs (by conv => lhs; simp) ?_
          refine Wo.nil ?_
          refine Wc.ret ?_
          have e0 := hx _ (Option.some.inj h).symm
          subst e0
          exact ⟨rfl, by first | rfl | simp⟩
        · rw [if_neg kc11] at h
          refine Wc.condF' (t := _) (by conv => lhs; simp) (by simpa using kc11) ?_
          refine Wc.seq ?_
          refine Wc.kil (by conv => lhs; simp) ?_
          refine Wc.skip ?_
          refine Wc.evs (by conv => lhs; simp) ?_
          refine Wo.nil ?_
          refine Wc.start (V1 := [(0, .v (ssl eI a)), (1, .v (ssl eI b)), (5, .v (.int .i64 (w64 (i_1 + 1))))]) ?_ (hk _ (Option.some.inj h).symm)
          first | rfl | simp
    · rw [if_neg kc5] at h
      refine Wc.condF' (t := _) (by conv => lhs; simp) (by simpa using kc5) ?_
      refine Wc.seq ?_
      refine Wc.kil (by conv => lhs; simp) ?_
      refine Wc.exit ?_
      have e0 := hx _ (Option.some.inj h).symm
      subst e0
      exact ⟨rfl, by first | rfl | simp⟩
theorem r153 {a : (List Int)} {b : (List Int)} {r : Int} (h : f153 a b = some r) : VJx cx (.ca 153 [(ssl eI a), (ssl eI b)] (.int .i64 r) []) := by
  unfold f153 at h
  refine ca_of rfl rfl (by decide) rfl ?_
  refine Wc.start (V1 := [(0, .v (ssl eI a)), (1, .v (ssl eI b))]) (by simp) ?_
  refine Wc.seq ?_
  refine Wc.evs (by conv => lhs; simp) ?_
  refine Wo.nil ?_
  refine Wc.seq ?_
  refine Wc.seq ?_
  refine Wc.evs (by conv => lhs; simp) ?_
  refine Wo.nil ?_
  refine Wc.block ?_
  obtain ⟨w12, h13, h⟩ := bind_some h
  refine Wc.start (V1 := [(0, .v (ssl eI a)), (1, .v (ssl eI b)), (5, .v (.int .i64 0))]) (by first | rfl | simp) ?_
  refine Wc.mono (r153_0 _ _ h13) ?_
  rcases w12 with ⟨⟩ | x_14
  · rintro ex V ⟨rfl, rfl⟩
    try dsimp only at h
    refine Wc.seq ?_
    refine Wc.seq ?_
    refine Wc.evs (by conv => lhs; simp) ?_
    refine Wo.nil ?_
    by_cases kc15 : (a.length : Int) < (b.length : Int)
    · rw [if_pos kc15] at h
      refine Wc.condT' (t := _) (by conv => lhs; simp) (by simpa using kc15) ?_
      refine Wc.seq ?_
      refine Wc.kil (by conv => lhs; simp) ?_
      refine Wc.seq ?_
      refine Wc.evs (by conv => lhs; simp) ?_
      refine Wo.nil ?_
      refine Wc.ret (res_of (.inr rfl) ?_)
      cases h
      exact ⟨_, _, _, by conv => lhs; simp, by (conv => lhs; simp [cx, ioTab, List.range, List.range.loop]) <;> rfl, by first | rfl | simp⟩
    · rw [if_neg kc15] at h
      refine Wc.condF' (t := _) (by conv => lhs; simp) (by simpa using kc15) ?_
      refine Wc.seq ?_
      refine Wc.kil (by conv => lhs; simp) ?_
      refine Wc.skip ?_
      refine Wc.seq ?_
      refine Wc.seq ?_
      refine Wc.evs (by conv => lhs; simp) ?_
      refine Wo.nil ?_
      by_cases kc16 : (a.length : Int) > (b.length : Int)
      · rw [if_pos kc16] at h
        refine Wc.condT' (t := _) (by conv => lhs; simp) (by simpa using kc16) ?_
        refine Wc.seq ?_
        refine Wc.kil (by conv => lhs; simp) ?_
        refine Wc.seq ?_
        refine Wc.evs (by conv => lhs; simp) ?_
        refine Wo.nil ?_
        refine Wc.ret (res_of (.inr rfl) ?_)
        cases h
        exact ⟨_, _, _, by conv => lhs; simp, by (conv => lhs; simp [cx, ioTab, List.range, List.range.loop]) <;> rfl, by first | rfl | simp⟩
      · rw [if_neg kc16] at h
        refine Wc.condF' (t := _) (by conv => lhs; simp) (by simpa using kc16) ?_
        refine Wc.seq ?_
        refine Wc.kil (by conv => lhs; simp) ?_
        refine Wc.skip ?_
        refine Wc.seq ?_
        refine Wc.evs (by conv => lhs; simp) ?_
        refine Wo.nil ?_
        refine Wc.ret (res_of (.inr rfl) ?_)
        cases h
        exact ⟨_, _, _, by conv => lhs; simp, by (conv => lhs; simp [cx, ioTab, List.range, List.range.loop]) <;> rfl, by first | rfl | simp⟩
  · rintro ex V ⟨rfl, rfl⟩
    try dsimp only at h
    refine res_of (.inr rfl) ?_
    cases h
    exact ⟨_, _, _, by conv => lhs; simp, by (conv => lhs; simp [cx, ioTab, List.range, List.range.loop]) <;> rfl, by first | rfl | simp⟩
theorem r93 {a : Fact} {b : Fact} {r : Int} (h : f93 a b = some r) : VJx cx (.ca 93 [(.agg [(.int .i64 a.Relation), (ssl eI a.Values)]), (.agg [(.int .i64 b.Relation), (ssl eI b.Values)])] (.int .i64 r) []) := by
  unfold f93 at h
  refine ca_of rfl rfl (by decide) rfl ?_
  refine Wc.start (V1 := [(0, .v (.agg [(.int .i64 a.Relation), (ssl eI a.Values)])), (1, .v (.agg [(.int .i64 b.Relation), (ssl eI b.Values)]))]) (by simp) ?_
  refine Wc.seq ?_
  refine Wc.evs (by conv => lhs; simp) ?_
  refine Wo.nil ?_
  refine Wc.seq ?_
  refine Wc.seq ?_
  refine Wc.evs (by conv => lhs; simp) ?_
  refine Wo.nil ?_
  by_cases kc1 : a.Relation < b.Relation
  · rw [if_pos kc1] at h
    refine Wc.condT' (t := _) (by conv => lhs; simp) (by simpa using kc1) ?_
    refine Wc.seq ?_
    refine Wc.kil (by conv => lhs; simp) ?_
    refine Wc.seq ?_
    refine Wc.evs (by conv => lhs; simp) ?_
    refine Wo.nil ?_
    refine Wc.ret (res_of (.inr rfl) ?_)
    cases h
    exact ⟨_, _, _, by conv => lhs; simp, by (conv => lhs; simp [cx, ioTab, List.range, List.range.loop]) <;> rfl, by first | rfl | simp⟩
  · rw [if_neg kc1] at h
    refine Wc.condF' (t := _) (by conv => lhs; simp) (by simpa using kc1) ?_
    refine Wc.seq ?_
    refine Wc.kil (by conv => lhs; simp) ?_
    refine Wc.skip ?_
    refine Wc.seq ?_
    refine Wc.seq ?_
    refine Wc.evs (by conv => lhs; simp) ?_
    refine Wo.nil ?_
    by_cases kc2 : a.Relation > b.Relation
    · rw [if_pos kc2] at h
      refine Wc.condT' (t := _) (by conv => lhs; simp) (by simpa using kc2) ?_
      refine Wc.seq ?_
      refine Wc.kil (by conv => lhs; simp) ?_
      refine Wc.seq ?_
      refine Wc.evs (by conv => lhs; simp) ?_
      refine Wo.nil ?_
      refine Wc.ret (res_of (.inr rfl) ?_)
      cases h
      exact ⟨_, _, _, by conv => lhs; simp, by (conv => lhs; simp [cx, ioTab, List.range, List.range.loop]) <;> rfl, by first | rfl | simp⟩
    · rw [if_neg kc2] at h
      refine Wc.condF' (t := _) (by conv => lhs; simp) (by simpa using kc2) ?_
      refine Wc.seq ?_
      refine Wc.kil (by conv => lhs; simp) ?_
      refine Wc.skip ?_
      refine Wc.seq ?_
      refine Wc.evs (by conv => lhs; simp) ?_
      obtain ⟨o3, h4, h⟩ := bind_some h
      refine Wo.call (by simp) rfl (by (conv => lhs; simp [cx, ioTab]) <;> rfl) (r153 h4) (by simp) (by simp) (by (conv => lhs; simp [cx, ioTab]) <;> rfl) (by (conv => lhs; simp) <;> rfl) ?_
      refine Wo.evs (by conv => lhs; simp) ?_
      refine Wo.nil ?_
      refine Wc.ret (res_of (.inr rfl) ?_)
      cases h
      exact ⟨_, _, _, by conv => lhs; simp, by (conv => lhs; simp [cx, ioTab, List.range, List.range.loop]) <;> rfl, by first | rfl | simp⟩
theorem r36_0 {d : Database} : ∀ zs zo, iter (f36_0 d) zs = some zo → Wc cx 48 (.loop L36_0) [(1, .v (.ptr true [(ssl eRelation d.Relations), (ssl eFact d.Facts)])), (3, .v (.int .i64 zs))] ((QO (QX 0 (fun (y : Unit) => [(1, .v (.ptr true [(ssl eRelation d.Relations), (ssl eFact d.Facts)]))])) (QR (fun (y : Bool) => [(2, .v (.bool y))]))) zo) := by
  intro zs0 zo0 zh0
  refine iter_run (f := (f36_0 d)) (P := fun zs zo => Wc cx 48 (.loop L36_0) [(1, .v (.ptr true [(ssl eRelation d.Relations), (ssl eFact d.Facts)])), (3, .v (.int .i64 zs))] ((QO (QX 0 (fun (y : Unit) => [(1, .v (.ptr true [(ssl eRelation d.Relations), (ssl eFact d.Facts)]))])) (QR (fun (y : Bool) => [(2, .v (.bool y))]))) zo)) ?_ zh0
  rintro i_1 zo zr h hk hx
  try dsimp only at hk ⊢
  rw [f36_0] at h
  refine Wc.loop ?_
  refine Wc.seq ?_
  refine Wc.seq ?_
  refine Wc.evs (by conv => lhs; simp) ?_
  refine Wo.nil ?_
  by_cases kc2 : i_1 < (d.Facts.length : Int)
  · rw [if_pos kc2] at h
    refine Wc.condT' (t := _) (by conv => lhs; simp) (by simpa using kc2) ?_
    refine Wc.seq ?_
    refine Wc.kil (by conv => lhs; simp) ?_
    refine Wc.skip ?_
    refine Wc.seq ?_
    refine Wc.block ?_
    refine Wc.seq ?_
    obtain ⟨v_3, h4, h⟩ := bind_some h
    obtain ⟨ga4, gb4, gc4⟩ := ix_some h4
    have gn4 := ix_ne h4
    have gd4 := arr_at (E := eFact) (b := false) gc4
    simp at gd4
    refine Wc.evs (by conv => lhs; simp [ga4, gb4, gn4, gd4]) ?_
    obtain ⟨o5, h6, h⟩ := bind_some h
    refine Wo.call (by simp) rfl (by (conv => lhs; simp [ga4, gb4, gn4, gd4, cx, ioTab]) <;> rfl) (r92 h6) (by simp) (by simp) (by (conv => lhs; simp [ga4, gb4, gn4, gd4, cx, ioTab]) <;> rfl) (by (conv => lhs; simp [ga4, gb4, gn4, gd4]) <;> rfl) ?_
    refine Wo.evk 2 (by conv => lhs; simp [ga4, gb4, gn4, gd4]) ?_
    obtain ⟨w8, h9, h⟩ := bind_some h
    refine Wo.mono (Q := fun V => V = [(1, .v (.ptr true [(ssl eRelation d.Relations), (ssl eFact d.Facts)])), (3, .v (.int .i64 i_1)), (38, .v (.bool w8))]) ?_ ?_
    · by_cases knh9 : ¬ (o5 = true)
      · rw [if_pos knh9] at h9
        refine Wo.gh (vle_co (s := 20) (t1 := .bool true) rfl (by simp) (tle_bool (by simpa using knh9)) (by conv => lhs; simp)) ?_
        refine Wo.evs (by conv => lhs; simp [ga4, gb4, gn4, gd4]) ?_
        refine Wo.nil ?_
        cases h9
        first | rfl | simp [ga4, gb4, gn4, gd4]
      · rw [if_neg knh9] at h9
        refine Wo.gh (vle_co (s := 20) (t1 := .bool false) rfl (by simp) (tle_bool (by simpa using knh9)) (by conv => lhs; simp)) ?_
        refine Wo.evk 3 (by conv => lhs; simp [ga4, gb4, gn4, gd4]) ?_
        obtain ⟨w11, h12, h9⟩ := bind_some h9
        refine Wo.mono (Q := fun V => V = [(1, .v (.ptr true [(ssl eRelation d.Relations), (ssl eFact d.Facts)])), (3, .v (.int .i64 i_1)), (38, .v (.bool w11))]) ?_ ?_
        · by_cases knh12 : i_1 > 0
          · rw [if_pos knh12] at h12
            refine Wo.gh (vle_co (s := 23) (t1 := .bool true) rfl (by simp) (tle_bool (by simpa using knh12)) (by conv => lhs; simp)) ?_
            obtain ⟨v_13, h14, h12⟩ := bind_some h12
            obtain ⟨ga14, gb14, gc14⟩ := ix_some h14
            have gn14 := ix_ne h14
            have gd14 := arr_at (E := eFact) (b := false) gc14
            simp at gd14
            refine Wo.evs (by conv => lhs; simp [ga4, gb4, gn4, gd4, ga14, gb14, gn14, gd14]) ?_
            obtain ⟨o15, h16, h12⟩ := bind_some h12
            refine Wo.call (by simp [ga4, gb4, gn4, gd4, ga14, gb14, gn14, gd14]) rfl (by (conv => lhs; simp [ga4, gb4, gn4, gd4, ga14, gb14, gn14, gd14, cx, ioTab]) <;> rfl) (r93 h16) (by simp) (by simp) (by (conv => lhs; simp [ga4, gb4, gn4, gd4, ga14, gb14, gn14, gd14, cx, ioTab]) <;> rfl) (by (conv => lhs; simp [ga4, gb4, gn4, gd4, ga14, gb14, gn14, gd14]) <;> rfl) ?_
            refine Wo.evs (by conv => lhs; simp [ga4, gb4, gn4, gd4, ga14, gb14, gn14, gd14]) ?_
            refine Wo.nil ?_
            cases h12
            first | rfl | simp [ga4, gb4, gn4, gd4, ga14, gb14, gn14, gd14]
          · rw [if_neg knh12] at h12
            refine Wo.gh (vle_co (s := 23) (t1 := .bool false) rfl (by simp) (tle_bool (by simpa using knh12)) (by conv => lhs; simp)) ?_
            refine Wo.evs (by conv => lhs; simp [ga4, gb4, gn4, gd4]) ?_
            refine Wo.nil ?_
            cases h12
            first | rfl | simp [ga4, gb4, gn4, gd4]
        · rintro V rfl
          generalize w11 = x_10 at *
          try dsimp only at h9
          cases h9
          first | rfl | simp [ga4, gb4, gn4, gd4]
    · rintro V rfl
      generalize w8 = x_7 at *
      try dsimp only at h
      by_cases kc17 : x_7 = true
      · rw [if_pos kc17] at h
        refine Wc.condT' (t := _) (by conv => lhs; simp) (by simpa using kc17) ?_
        refine Wc.seq ?_
        refine Wc.kil (by conv => lhs; simp) ?_
        refine Wc.seq ?_
        refine Wc.evs (by conv => lhs; simp) ?_
        refine Wo.nil ?_
        refine Wc.ret ?_
        have e0 := hx _ (Option.some.inj h).symm
        subst e0
        exact ⟨rfl, by first | rfl | simp⟩
      · rw [if_neg kc17] at h
        refine Wc.condF' (t := _) (by conv => lhs; simp) (by simpa using kc17) ?_
        refine Wc.seq ?_
        refine Wc.kil (by conv => lhs; simp) ?_
        refine Wc.skip ?_
        refine Wc.evs (by conv => lhs; simp) ?_
        refine Wo.nil ?_
        refine Wc.start (V1 := [(1, .v (.ptr true [(ssl eRelation d.Relations), (ssl eFact d.Facts)])), (3, .v (.int .i64 (w64 (i_1 + 1))))]) ?_ (hk _ (Option.some.inj h).symm)
        first | rfl | simp
  · rw [if_neg kc2] at h
    refine Wc.condF' (t := _) (by conv => lhs; simp) (by simpa using kc2) ?_
    refine Wc.seq ?_
    refine Wc.kil (by conv => lhs; simp) ?_
    refine Wc.exit ?_
    have e0 := hx _ (Option.some.inj h).symm
    subst e0
    exact ⟨rfl, by first | rfl | simp⟩
theorem r36 {d : Database} {r : Bool} (h : f36 d = some r) : VJx cx (.ca 36 [(.agg [(ssl eRelation d.Relations), (ssl eFact d.Facts)])] (.bool r) []) := by
  unfold f36 at h
  refine ca_of rfl rfl (by decide) rfl ?_
  refine Wc.start (V1 := [(0, .v (.agg [(ssl eRelation d.Relations), (ssl eFact d.Facts)]))]) (by simp) ?_
  refine Wc.seq ?_
  refine Wc.evs (by conv => lhs; simp) ?_
  refine Wo.nil ?_
  refine Wc.seq ?_
  refine Wc.seq ?_
  refine Wc.evs (by conv => lhs; simp) ?_
  refine Wo.nil ?_
  refine Wc.block ?_
  obtain ⟨w18, h19, h⟩ := bind_some h
  refine Wc.start (V1 := [(1, .v (.ptr true [(ssl eRelation d.Relations), (ssl eFact d.Facts)])), (3, .v (.int .i64 0))]) (by first | rfl | simp) ?_
  refine Wc.mono (r36_0 _ _ h19) ?_
  rcases w18 with ⟨⟩ | x_20
  · rintro ex V ⟨rfl, rfl⟩
    try dsimp only at h
    refine Wc.seq ?_
    refine Wc.evs (by conv => lhs; simp) ?_
    obtain ⟨o21, h22, h⟩ := bind_some h
    refine Wo.call (by simp) rfl (by (conv => lhs; simp [cx, ioTab]) <;> rfl) (r94 h22) (by simp) (by simp) (by (conv => lhs; simp [cx, ioTab]) <;> rfl) (by (conv => lhs; simp) <;> rfl) ?_
    refine Wo.evk 1 (by conv => lhs; simp) ?_
    obtain ⟨w24, h25, h⟩ := bind_some h
    refine Wo.mono (Q := fun V => V = [(2, .v (.bool w24))]) ?_ ?_
    · by_cases knh25 : o21 = true
      · rw [if_pos knh25] at h25
        refine Wo.gh (vle_co (s := 42) (t1 := .bool true) rfl (by simp) (tle_bool (by simpa using knh25)) (by conv => lhs; simp)) ?_
        refine Wo.evs (by conv => lhs; simp) ?_
        refine Wo.nil ?_
        cases h25
        first | rfl | simp
      · rw [if_neg knh25] at h25
        refine Wo.gh (vle_co (s := 42) (t1 := .bool false) rfl (by simp) (tle_bool (by simpa using knh25)) (by conv => lhs; simp)) ?_
        refine Wo.evs (by conv => lhs; simp) ?_
        refine Wo.nil ?_
        cases h25
        first | rfl | simp
    · rintro V rfl
      generalize w24 = x_23 at *
      try dsimp only at h
      refine Wc.ret (res_of (.inr rfl) ?_)
      cases h
      exact ⟨_, _, _, by conv => lhs; simp, by (conv => lhs; simp [cx, ioTab, List.range, List.range.loop]) <;> rfl, by first | rfl | simp⟩
  · rintro ex V ⟨rfl, rfl⟩
    try dsimp only at h
    refine res_of (.inr rfl) ?_
    cases h
    exact ⟨_, _, _, by conv => lhs; simp, by (conv => lhs; simp [cx, ioTab, List.range, List.range.loop]) <;> rfl, by first | rfl | simp⟩
theorem r96_0 {d : Database} {l : (List Int)} : ∀ zs zo, iter (f96_0 d l) zs = some zo → Wc cx 38 (.loop L96_0) [(1, .v (ssl eI l)), (2, .v (.ptr true [(ssl eRelation d.Relations), (ssl eFact d.Facts)])), (5, .v (.int .i64 zs))] ((QO (QX 0 (fun (y : Unit) => [])) (QR (fun (y : Bool) => [(4, .v (.bool y))]))) zo) := by
  intro zs0 zo0 zh0
  refine iter_run (f := (f96_0 d l)) (P := fun zs zo => Wc cx 38 (.loop L96_0) [(1, .v (ssl eI l)), (2, .v (.ptr true [(ssl eRelation d.Relations), (ssl eFact d.Facts)])), (5, .v (.int .i64 zs))] ((QO (QX 0 (fun (y : Unit) => [])) (QR (fun (y : Bool) => [(4, .v (.bool y))]))) zo)) ?_ zh0
  rintro i_1 zo zr h hk hx
  try dsimp only at hk ⊢
  rw [f96_0] at h
  refine Wc.loop ?_
  refine Wc.seq ?_
  refine Wc.seq ?_
  refine Wc.evs (by conv => lhs; simp) ?_
  refine Wo.nil ?_
  by_cases kc2 : i_1 < (l.length : Int)
  · rw [if_pos kc2] at h
    refine Wc.condT' (t := _) (by conv => lhs; simp) (by simpa using kc2) ?_
    refine Wc.seq ?_
    refine Wc.kil (by conv => lhs; simp) ?_
    refine Wc.skip ?_
    refine Wc.seq ?_
    refine Wc.block ?_
    refine Wc.seq ?_
    obtain ⟨v_3, h4, h⟩ := bind_some h
    obtain ⟨ga4, gb4, gc4⟩ := ix_some h4
    have gn4 := ix_ne h4
    have gd4 := arr_at (E := eI) (b := false) gc4
    simp at gd4
    refine Wc.evs (by conv => lhs; simp [ga4, gb4, gn4, gd4]) ?_
    obtain ⟨o5, h6, h⟩ := bind_some h
    refine Wo.call (by simp) rfl (by (conv => lhs; simp [ga4, gb4, gn4, gd4, cx, ioTab]) <;> rfl) (r71 h6) (by simp) (by simp) (by (conv => lhs; simp [ga4, gb4, gn4, gd4, cx, ioTab]) <;> rfl) (by (conv => lhs; simp [ga4, gb4, gn4, gd4]) <;> rfl) ?_
    refine Wo.evk 2 (by conv => lhs; simp [ga4, gb4, gn4, gd4]) ?_
    obtain ⟨w8, h9, h⟩ := bind_some h
    refine Wo.mono (Q := fun V => V = [(1, .v (ssl eI l)), (2, .v (.ptr true [(ssl eRelation d.Relations), (ssl eFact d.Facts)])), (5, .v (.int .i64 i_1)), (37, .v (.bool w8))]) ?_ ?_
    · by_cases knh9 : ¬ (o5 = true)
      · rw [if_pos knh9] at h9
        refine Wo.gh (vle_co (s := 22) (t1 := .bool true) rfl (by simp) (tle_bool (by simpa using knh9)) (by conv => lhs; simp)) ?_
        refine Wo.evs (by conv => lhs; simp [ga4, gb4, gn4, gd4]) ?_
        refine Wo.nil ?_
        cases h9
        first | rfl | simp [ga4, gb4, gn4, gd4]
      · rw [if_neg knh9] at h9
        refine Wo.gh (vle_co (s := 22) (t1 := .bool false) rfl (by simp) (tle_bool (by simpa using knh9)) (by conv => lhs; simp)) ?_
        refine Wo.evk 3 (by conv => lhs; simp [ga4, gb4, gn4, gd4]) ?_
        obtain ⟨w11, h12, h9⟩ := bind_some h9
        refine Wo.mono (Q := fun V => V = [(1, .v (ssl eI l)), (2, .v (.ptr true [(ssl eRelation d.Relations), (ssl eFact d.Facts)])), (5, .v (.int .i64 i_1)), (37, .v (.bool w11))]) ?_ ?_
        · by_cases knh12 : i_1 > 0
          · rw [if_pos knh12] at h12
            refine Wo.gh (vle_co (s := 25) (t1 := .bool true) rfl (by simp) (tle_bool (by simpa using knh12)) (by conv => lhs; simp)) ?_
            obtain ⟨v_13, h14, h12⟩ := bind_some h12
            obtain ⟨ga14, gb14, gc14⟩ := ix_some h14
            have gn14 := ix_ne h14
            have gd14 := arr_at (E := eI) (b := false) gc14
            simp at gd14
            refine Wo.evs (by conv => lhs; simp [ga4, gb4, gn4, gd4, ga14, gb14, gn14, gd14]) ?_
            refine Wo.nil ?_
            cases h12
            first | rfl | simp [ga4, gb4, gn4, gd4, ga14, gb14, gn14, gd14]
          · rw [if_neg knh12] at h12
            refine Wo.gh (vle_co (s := 25) (t1 := .bool false) rfl (by simp) (tle_bool (by simpa using knh12)) (by conv => lhs; simp)) ?_
            refine Wo.evs (by conv => lhs; simp [ga4, gb4, gn4, gd4]) ?_
            refine Wo.nil ?_
            cases h12
            first | rfl | simp [ga4, gb4, gn4, gd4]
        · rintro V rfl
          generalize w11 = x_10 at *
          try dsimp only at h9
          cases h9
          first | rfl | simp [ga4, gb4, gn4, gd4]
    · rintro V rfl
      generalize w8 = x_7 at *
      try dsimp only at h
      by_cases kc15 : x_7 = true
      · rw [if_pos kc15] at h
        refine Wc.condT' (t := _) (by conv => lhs; simp) (by simpa using kc15) ?_
        refine Wc.seq ?_
        refine Wc.kil (by conv => lhs; simp) ?_
        refine Wc.seq ?_
        refine Wc.evs (by conv => lhs; simp) ?_
        refine Wo.nil ?_
        refine Wc.ret ?_
        have e0 := hx _ (Option.some.inj h).symm
        subst e0
        exact ⟨rfl, by first | rfl | simp⟩
      · rw [if_neg kc15] at h
        refine Wc.condF' (t := _) (by conv => lhs; simp) (by simpa using kc15) ?_
        refine Wc.seq ?_
        refine Wc.kil (by conv => lhs; simp) ?_
        refine Wc.skip ?_
        refine Wc.evs (by conv => lhs; simp) ?_
        refine Wo.nil ?_
        refine Wc.start (V1 := [(1, .v (ssl eI l)), (2, .v (.ptr true [(ssl eRelation d.Relations), (ssl eFact d.Facts)])), (5, .v (.int .i64 (w64 (i_1 + 1))))]) ?_ (hk _ (Option.some.inj h).symm)
        first | rfl | simp
  · rw [if_neg kc2] at h
    refine Wc.condF' (t := _) (by conv => lhs; simp) (by simpa using kc2) ?_
    refine Wc.seq ?_
    refine Wc.kil (by conv => lhs; simp) ?_
    refine Wc.exit ?_
    have e0 := hx _ (Option.some.inj h).symm
    subst e0
    exact ⟨rfl, by first | rfl | simp⟩
theorem r96 {d : Database} {l : (List Int)} {r : Bool} (h : f96 d l = some r) : VJx cx (.ca 96 [(.agg [(ssl eRelation d.Relations), (ssl eFact d.Facts)]), (ssl eI l)] (.bool r) []) := by
  unfold f96 at h
  refine ca_of rfl rfl (by decide) rfl ?_
  refine Wc.start (V1 := [(0, .v (.agg [(ssl eRelation d.Relations), (ssl eFact d.Facts)])), (1, .v (ssl eI l))]) (by simp) ?_
  refine Wc.seq ?_
  refine Wc.evs (by conv => lhs; simp) ?_
  refine Wo.nil ?_
  refine Wc.seq ?_
  refine Wc.seq ?_
  refine Wc.evs (by conv => lhs; simp) ?_
  refine Wo.nil ?_
  refine Wc.block ?_
  obtain ⟨w16, h17, h⟩ := bind_some h
  refine Wc.start (V1 := [(1, .v (ssl eI l)), (2, .v (.ptr true [(ssl eRelation d.Relations), (ssl eFact d.Facts)])), (5, .v (.int .i64 0))]) (by first | rfl | simp) ?_
  refine Wc.mono (r96_0 _ _ h17) ?_
  rcases w16 with ⟨⟩ | x_18
  · rintro ex V ⟨rfl, rfl⟩
    try dsimp only at h
    refine Wc.seq ?_
    refine Wc.evs (by conv => lhs; simp) ?_
    refine Wo.nil ?_
    refine Wc.ret (res_of (.inr rfl) ?_)
    cases h
    exact ⟨_, _, _, by conv => lhs; simp, by (conv => lhs; simp [cx, ioTab, List.range, List.range.loop]) <;> rfl, by first | rfl | simp⟩
  · rintro ex V ⟨rfl, rfl⟩
    try dsimp only at h
    refine res_of (.inr rfl) ?_
    cases h
    exact ⟨_, _, _, by conv => lhs; simp, by (conv => lhs; simp [cx, ioTab, List.range, List.range.loop]) <;> rfl, by first | rfl | simp⟩
theorem r197 {l : (List Relation)} {f : Fact} {r : (List Int)} (h : f197 l f = some r) : VJx cx (.ca 197 [(ssl eRelation l), (.agg [(.int .i64 f.Relation), (ssl eI f.Values)])] (osl eI true r) []) := by
  unfold f197 at h
  refine ca_of rfl rfl (by decide) rfl ?_
  refine Wc.start (V1 := [(0, .v (ssl eRelation l)), (1, .v (.agg [(.int .i64 f.Relation), (ssl eI f.Values)]))]) (by simp) ?_
  refine Wc.seq ?_
  refine Wc.evs (by conv => lhs; simp) ?_
  refine Wo.nil ?_
  refine Wc.seq ?_
  refine Wc.seq ?_
  refine Wc.evs (by conv => lhs; simp) ?_
  obtain ⟨o1, h2, h⟩ := bind_some h
  refine Wo.call (by simp) rfl (by (conv => lhs; simp [cx, ioTab]) <;> rfl) (r92 h2) (by simp) (by simp) (by (conv => lhs; simp [cx, ioTab]) <;> rfl) (by (conv => lhs; simp) <;> rfl) ?_
  refine Wo.evs (by conv => lhs; simp) ?_
  refine Wo.nil ?_
  by_cases kc3 : ¬ (o1 = true)
  · rw [if_pos kc3] at h
    refine Wc.condT' (t := _) (by conv => lhs; simp) (by simpa using kc3) ?_
    refine Wc.seq ?_
    refine Wc.kil (by conv => lhs; simp) ?_
    refine Wc.seq ?_
    refine Wc.evs (by conv => lhs; simp) ?_
    refine Wo.gh (vle_co (s := 4) (t1 := (osl eI true ([]))) rfl (by simp) (TLe.own (show TLes _ [] from (TLes.refl _)) rfl) (by conv => lhs; simp)) ?_
    refine Wo.nil ?_
    refine Wc.ret (res_of (.inr rfl) ?_)
    cases h
    exact ⟨_, _, _, by conv => lhs; simp, by (conv => lhs; simp [cx, ioTab, List.range, List.range.loop]) <;> rfl, by first | rfl | simp⟩
  · rw [if_neg kc3] at h
    refine Wc.condF' (t := _) (by conv => lhs; simp) (by simpa using kc3) ?_
    refine Wc.seq ?_
    refine Wc.kil (by conv => lhs; simp) ?_
    refine Wc.skip ?_
    refine Wc.seq ?_
    obtain ⟨v_4, h5, h⟩ := bind_some h
    obtain ⟨ga5, gb5, gc5⟩ := ix_some h5
    have gn5 := ix_ne h5
    have gd5 := arr_at (E := eRelation) (b := false) gc5
    simp at gd5
    obtain ⟨l_6, h7, h⟩ := bind_some h
    obtain ⟨ga7, gb7, gc7, ge7⟩ := cut_some h7
    simp at ge7
    obtain ⟨l_8, h9, h⟩ := bind_some h
    have gx9 := appT_arr2 (E := eI) (b := true) (b' := false) (y := false) h9 (by decide) (arr_sc rfl _)
    simp at gx9
    refine Wc.evs (by conv => lhs; simp [ga5, gb5, gn5, gd5, ga7, gb7, gc7, ge7, gx9]) ?_
    refine Wo.gh (vle_co (s := 4) (t1 := (osl eI true l_8)) rfl (by simp) (tle_own rfl) (by conv => lhs; simp)) ?_
    refine Wo.nil ?_
    refine Wc.ret (res_of (.inr rfl) ?_)
    cases h
    exact ⟨_, _, _, by conv => lhs; simp, by (conv => lhs; simp [cx, ioTab, List.range, List.range.loop]) <;> rfl, by first | rfl | simp [ga5, gb5, gn5, gd5, ga7, gb7, gc7, ge7, gx9]⟩
theorem r183 {l : (List Relation)} {a : Fact} {b : Fact} {r : Bool} (h : f183 l a b = some r) : VJx cx (.ca 183 [(ssl eRelation l), (.agg [(.int .i64 a.Relation), (ssl eI a.Values)]), (.agg [(.int .i64 b.Relation), (ssl eI b.Values)])] (.bool r) []) := by
  unfold f183 at h
  refine ca_of rfl rfl (by decide) rfl ?_
  refine Wc.start (V1 := [(0, .v (ssl eRelation l)), (1, .v (.agg [(.int .i64 a.Relation), (ssl eI a.Values)])), (2, .v (.agg [(.int .i64 b.Relation), (ssl eI b.Values)]))]) (by simp) ?_
  refine Wc.seq ?_
  refine Wc.evs (by conv => lhs; simp) ?_
  refine Wo.nil ?_
  refine Wc.seq ?_
  refine Wc.evs (by conv => lhs; simp) ?_
  obtain ⟨o1, h2, h⟩ := bind_some h
  refine Wo.call (by simp) rfl (by (conv => lhs; simp [cx, ioTab]) <;> rfl) (r92 h2) (by simp) (by simp) (by (conv => lhs; simp [cx, ioTab]) <;> rfl) (by (conv => lhs; simp) <;> rfl) ?_
  refine Wo.evk 1 (by conv => lhs; simp) ?_
  obtain ⟨w4, h5, h⟩ := bind_some h
  refine Wo.mono (Q := fun V => V = [(6, .v (.bool w4))]) ?_ ?_
  · by_cases knh5 : o1 = true
    · rw [if_pos knh5] at h5
      refine Wo.gh (vle_co (s := 10) (t1 := .bool true) rfl (by simp) (tle_bool (by simpa using knh5)) (by conv => lhs; simp)) ?_
      refine Wo.evs (by conv => lhs; simp) ?_
      obtain ⟨o6, h7, h5⟩ := bind_some h5
      refine Wo.call (by simp) rfl (by (conv => lhs; simp [cx, ioTab]) <;> rfl) (r92 h7) (by simp) (by simp) (by (conv => lhs; simp [cx, ioTab]) <;> rfl) (by (conv => lhs; simp) <;> rfl) ?_
      refine Wo.evk 2 (by conv => lhs; simp) ?_
      obtain ⟨w9, h10, h5⟩ := bind_some h5
      refine Wo.mono (Q := fun V => V = [(6, .v (.bool w9))]) ?_ ?_
      · by_cases knh10 : o6 = true
        · rw [if_pos knh10] at h10
          refine Wo.gh (vle_co (s := 15) (t1 := .bool true) rfl (by simp) (tle_bool (by simpa using knh10)) (by conv => lhs; simp)) ?_
          refine Wo.evk 7 (by conv => lhs; simp) ?_
          obtain ⟨w12, h13, h10⟩ := bind_some h10
          refine Wo.mono (Q := fun V => V = [(6, .v (.bool w12))]) ?_ ?_
          · by_cases knh13 : a.Relation = b.Relation
            · rw [if_pos knh13] at h13
              refine Wo.gh (vle_co (s := 22) (t1 := .bool true) rfl (by simp) (tle_bool (by simpa using knh13)) (by conv => lhs; simp)) ?_
              refine Wo.evs (by conv => lhs; simp) ?_
              obtain ⟨o14, h15, h13⟩ := bind_some h13
              refine Wo.call (by simp) rfl (by (conv => lhs; simp [cx, ioTab]) <;> rfl) (r197 h15) (by simp) (by simp) (by (conv => lhs; simp [cx, ioTab]) <;> rfl) (by (conv => lhs; simp) <;> rfl) ?_
              obtain ⟨o16, h17, h13⟩ := bind_some h13
              refine Wo.call (by simp) rfl (by (conv => lhs; simp [cx, ioTab]) <;> rfl) (r197 h17) (by simp) (by simp) (by (conv => lhs; simp [cx, ioTab]) <;> rfl) (by (conv => lhs; simp) <;> rfl) ?_
              obtain ⟨o18, h19, h13⟩ := bind_some h13
              refine Wo.call (by simp) rfl (by (conv => lhs; simp [cx, ioTab]) <;> rfl) (r153 h19) (by simp) (by simp) (by (conv => lhs; simp [cx, ioTab]) <;> rfl) (by (conv => lhs; simp) <;> rfl) ?_
              refine Wo.evs (by conv => lhs; simp) ?_
              refine Wo.nil ?_
              cases h13
              first | rfl | simp
            · rw [if_neg knh13] at h13
              refine Wo.gh (vle_co (s := 22) (t1 := .bool false) rfl (by simp) (tle_bool (by simpa using knh13)) (by conv => lhs; simp)) ?_
              refine Wo.evs (by conv => lhs; simp) ?_
              refine Wo.nil ?_
              cases h13
              first | rfl | simp
          · rintro V rfl
            generalize w12 = x_11 at *
            try dsimp only at h10
            cases h10
            first | rfl | simp
        · rw [if_neg knh10] at h10
          refine Wo.gh (vle_co (s := 15) (t1 := .bool false) rfl (by simp) (tle_bool (by simpa using knh10)) (by conv => lhs; simp)) ?_
          refine Wo.evs (by conv => lhs; simp) ?_
          refine Wo.nil ?_
          cases h10
          first | rfl | simp
      · rintro V rfl
        generalize w9 = x_8 at *
        try dsimp only at h5
        cases h5
        first | rfl | simp
    · rw [if_neg knh5] at h5
      refine Wo.gh (vle_co (s := 10) (t1 := .bool false) rfl (by simp) (tle_bool (by simpa using knh5)) (by conv => lhs; simp)) ?_
      refine Wo.evs (by conv => lhs; simp) ?_
      refine Wo.nil ?_
      cases h5
      first | rfl | simp
  · rintro V rfl
    generalize w4 = x_3 at *
    try dsimp only at h
    refine Wc.ret (res_of (.inr rfl) ?_)
    cases h
    exact ⟨_, _, _, by conv => lhs; simp, by (conv => lhs; simp [cx, ioTab, List.range, List.range.loop]) <;> rfl, by first | rfl | simp⟩
theorem r156_0 {d : Database} {i : Int} : ∀ zs zo, iter (f156_0 d i) zs = some zo → Wc cx 45 (.loop L156_0) [(1, .v (.int .i64 i)), (2, .v (.ptr true [(ssl eRelation d.Relations), (ssl eFact d.Facts)])), (5, .v (osl eI true zs.1)), (6, .v (.int .i64 zs.2))] ((QX 0 (fun (y : (List Int)) => [(5, .v (osl eI true y))])) zo) := by
  intro zs0 zo0 zh0
  refine iter_run (f := (f156_0 d i)) (P := fun zs zo => Wc cx 45 (.loop L156_0) [(1, .v (.int .i64 i)), (2, .v (.ptr true [(ssl eRelation d.Relations), (ssl eFact d.Facts)])), (5, .v (osl eI true zs.1)), (6, .v (.int .i64 zs.2))] ((QX 0 (fun (y : (List Int)) => [(5, .v (osl eI true y))])) zo)) ?_ zh0
  rintro ⟨out_1, k_2⟩ zo zr h hk hx
  try dsimp only at hk ⊢
  rw [f156_0] at h
  refine Wc.loop ?_
  refine Wc.seq ?_
  refine Wc.seq ?_
  refine Wc.evk 6 (by conv => lhs; simp) ?_
  obtain ⟨w4, h5, h⟩ := bind_some h
  refine Wo.mono (Q := fun V => V = [(1, .v (.int .i64 i)), (2, .v (.ptr true [(ssl eRelation d.Relations), (ssl eFact d.Facts)])), (5, .v (osl eI true out_1)), (6, .v (.int .i64 k_2)), (24, .v (.bool w4))]) ?_ ?_
  · by_cases knh5 : k_2 < (d.Facts.length : Int)
    · rw [if_pos knh5] at h5
      refine Wo.gh (vle_co (s := 13) (t1 := .bool true) rfl (by simp) (tle_bool (by simpa using knh5)) (by conv => lhs; simp)) ?_
      refine Wo.evs (by conv => lhs; simp) ?_
      obtain ⟨o6, h7, h5⟩ := bind_some h5
      refine Wo.call (by simp) rfl (by (conv => lhs; simp [cx, ioTab]) <;> rfl) (r36 h7) (by simp) (by simp) (by (conv => lhs; simp [cx, ioTab]) <;> rfl) (by (conv => lhs; simp) <;> rfl) ?_
      refine Wo.evk 2 (by conv => lhs; simp) ?_
      obtain ⟨w9, h10, h5⟩ := bind_some h5
      refine Wo.mono (Q := fun V => V = [(1, .v (.int .i64 i)), (2, .v (.ptr true [(ssl eRelation d.Relations), (ssl eFact d.Facts)])), (5, .v (osl eI true out_1)), (6, .v (.int .i64 k_2)), (24, .v (.bool w9))]) ?_ ?_
      · by_cases knh10 : o6 = true
        · rw [if_pos knh10] at h10
          refine Wo.gh (vle_co (s := 17) (t1 := .bool true) rfl (by simp) (tle_bool (by simpa using knh10)) (by conv => lhs; simp)) ?_
          refine Wo.evs (by conv => lhs; simp) ?_
          obtain ⟨o11, h12, h10⟩ := bind_some h10
          refine Wo.call (by simp) rfl (by (conv => lhs; simp [cx, ioTab]) <;> rfl) (r71 h12) (by simp) (by simp) (by (conv => lhs; simp [cx, ioTab]) <;> rfl) (by (conv => lhs; simp) <;> rfl) ?_
          refine Wo.evs (by conv => lhs; simp) ?_
          refine Wo.nil ?_
          cases h10
          first | rfl | simp
        · rw [if_neg knh10] at h10
          refine Wo.gh (vle_co (s := 17) (t1 := .bool false) rfl (by simp) (tle_bool (by simpa using knh10)) (by conv => lhs; simp)) ?_
          refine Wo.evs (by conv => lhs; simp) ?_
          refine Wo.nil ?_
          cases h10
          first | rfl | simp
      · rintro V rfl
        generalize w9 = x_8 at *
        try dsimp only at h5
        cases h5
        first | rfl | simp
    · rw [if_neg knh5] at h5
      refine Wo.gh (vle_co (s := 13) (t1 := .bool false) rfl (by simp) (tle_bool (by simpa using knh5)) (by conv => lhs; simp)) ?_
      refine Wo.evs (by conv => lhs; simp) ?_
      refine Wo.nil ?_
      cases h5
      first | rfl | simp
  · rintro V rfl
    generalize w4 = x_3 at *
    try dsimp only at h
    by_cases kc13 : x_3 = true
    · rw [if_pos kc13] at h
      refine Wc.condT' (t := _) (by conv => lhs; simp) (by simpa using kc13) ?_
      refine Wc.seq ?_
      refine Wc.kil (by conv => lhs; simp) ?_
      refine Wc.skip ?_
      refine Wc.seq ?_
      refine Wc.block ?_
      refine Wc.seq ?_
      obtain ⟨v_14, h15, h⟩ := bind_some h
      obtain ⟨ga15, gb15, gc15⟩ := ix_some h15
      have gn15 := ix_ne h15
      have gd15 := arr_at (E := eFact) (b := false) gc15
      simp at gd15
      obtain ⟨v_16, h17, h⟩ := bind_some h
      obtain ⟨ga17, gb17, gc17⟩ := ix_some h17
      have gn17 := ix_ne h17
      have gd17 := arr_at (E := eFact) (b := false) gc17
      simp at gd17
      refine Wc.evs (by conv => lhs; simp [ga15, gb15, gn15, gd15, ga17, gb17, gn17, gd17]) ?_
      obtain ⟨o18, h19, h⟩ := bind_some h
      refine Wo.call (by simp) rfl (by (conv => lhs; simp [ga15, gb15, gn15, gd15, ga17, gb17, gn17, gd17, cx, ioTab]) <;> rfl) (r183 h19) (by simp) (by simp) (by (conv => lhs; simp [ga15, gb15, gn15, gd15, ga17, gb17, gn17, gd17, cx, ioTab]) <;> rfl) (by (conv => lhs; simp [ga15, gb15, gn15, gd15, ga17, gb17, gn17, gd17]) <;> rfl) ?_
      refine Wo.nil ?_
      obtain ⟨w20, h21, h⟩ := bind_some h
      refine Wc.mono (Q := (QN (fun (y : (List Int)) => [(1, .v (.int .i64 i)), (2, .v (.ptr true [(ssl eRelation d.Relations), (ssl eFact d.Facts)])), (5, .v (osl eI true y)), (6, .v (.int .i64 k_2))])) w20) ?_ ?_
      · skip
        by_cases kc22 : o18 = true
        · rw [if_pos kc22] at h21
          refine Wc.condT' (t := _) (by conv => lhs; simp) (by simpa using kc22) ?_
          refine Wc.seq ?_
          refine Wc.kil (by conv => lhs; simp) ?_
          obtain ⟨l_23, h24, h21⟩ := bind_some h21
          have gx24 := appT_arr (E := eI) (b := true) (y := true) h24 (by decide)
          simp at gx24
          refine Wc.evs (by conv => lhs; simp [gx24]) ?_
          refine Wo.nil ?_
          cases h21
          exact ⟨rfl, by first | rfl | simp [gx24]⟩
        · rw [if_neg kc22] at h21
          refine Wc.condF' (t := _) (by conv => lhs; simp) (by simpa using kc22) ?_
          refine Wc.seq ?_
          refine Wc.kil (by conv => lhs; simp) ?_
          refine Wc.skip ?_
          cases h21
          exact ⟨rfl, by first | rfl | simp [ga15, gb15, gn15, gd15, ga17, gb17, gn17, gd17]⟩
      · skip
        generalize w20 = out_25 at *
        rintro ex V ⟨rfl, rfl⟩
        try dsimp only at h
        refine Wc.evs (by conv => lhs; simp) ?_
        refine Wo.nil ?_
        refine Wc.start (V1 := [(1, .v (.int .i64 i)), (2, .v (.ptr true [(ssl eRelation d.Relations), (ssl eFact d.Facts)])), (5, .v (osl eI true out_25)), (6, .v (.int .i64 (w64 (k_2 + 1))))]) ?_ (hk _ (Option.some.inj h).symm)
        first | rfl | simp
    · rw [if_neg kc13] at h
      refine Wc.condF' (t := _) (by conv => lhs; simp) (by simpa using kc13) ?_
      refine Wc.seq ?_
      refine Wc.kil (by conv => lhs; simp) ?_
      refine Wc.exit ?_
      have e0 := hx _ (Option.some.inj h).symm
      subst e0
      exact ⟨rfl, by first | rfl | simp⟩
theorem r156 {d : Database} {i : Int} {r : (List Int)} (h : f156 d i = some r) : VJx cx (.ca 156 [(.agg [(ssl eRelation d.Relations), (ssl eFact d.Facts)]), (.int .i64 i)] (osl eI true r) []) := by
  unfold f156 at h
  refine ca_of rfl rfl (by decide) rfl ?_
  refine Wc.start (V1 := [(0, .v (.agg [(ssl eRelation d.Relations), (ssl eFact d.Facts)])), (1, .v (.int .i64 i))]) (by simp) ?_
  refine Wc.seq ?_
  refine Wc.evs (by conv => lhs; simp) ?_
  refine Wo.nil ?_
  refine Wc.seq ?_
  refine Wc.evs (by conv => lhs; simp) ?_
  refine Wo.gh (vle_co (s := 5) (t1 := (osl eI true ([]))) rfl (by simp) (TLe.own (show TLes _ [] from (TLes.refl _)) rfl) (by conv => lhs; simp)) ?_
  refine Wo.nil ?_
  refine Wc.seq ?_
  refine Wc.seq ?_
  refine Wc.evs (by conv => lhs; simp) ?_
  refine Wo.nil ?_
  refine Wc.block ?_
  obtain ⟨w26, h27, h⟩ := bind_some h
  refine Wc.start (V1 := [(1, .v (.int .i64 i)), (2, .v (.ptr true [(ssl eRelation d.Relations), (ssl eFact d.Facts)])), (5, .v (osl eI true ([]))), (6, .v (.int .i64 0))]) (by first | rfl | simp) ?_
  refine Wc.mono (r156_0 _ _ h27) ?_
  generalize w26 = out_28 at *
  rintro ex V ⟨rfl, rfl⟩
  try dsimp only at h
  refine Wc.seq ?_
  refine Wc.evs (by conv => lhs; simp) ?_
  refine Wo.nil ?_
  refine Wc.ret (res_of (.inr rfl) ?_)
  cases h
  exact ⟨_, _, _, by conv => lhs; simp, by (conv => lhs; simp [cx, ioTab, List.range, List.range.loop]) <;> rfl, by first | rfl | simp⟩
theorem r97_0 {d : Database} : ∀ zs zo, iter (f97_0 d) zs = some zo → Wc cx 31 (.loop L97_0) [(1, .v (.ptr true [(ssl eRelation d.Relations), (ssl eFact d.Facts)])), (3, .v (osl (eL eI) true zs.1)), (4, .v (.int .i64 zs.2))] ((QX 0 (fun (y : (List (List Int))) => [(3, .v (osl (eL eI) true y))])) zo) := by
  intro zs0 zo0 zh0
  refine iter_run (f := (f97_0 d)) (P := fun zs zo => Wc cx 31 (.loop L97_0) [(1, .v (.ptr true [(ssl eRelation d.Relations), (ssl eFact d.Facts)])), (3, .v (osl (eL eI) true zs.1)), (4, .v (.int .i64 zs.2))] ((QX 0 (fun (y : (List (List Int))) => [(3, .v (osl (eL eI) true y))])) zo)) ?_ zh0
  rintro ⟨out_1, i_2⟩ zo zr h hk hx
  try dsimp only at hk ⊢
  rw [f97_0] at h
  refine Wc.loop ?_
  refine Wc.seq ?_
  refine Wc.seq ?_
  refine Wc.evk 6 (by conv => lhs; simp) ?_
  obtain ⟨w4, h5, h⟩ := bind_some h
  refine Wo.mono (Q := fun V => V = [(1, .v (.ptr true [(ssl eRelation d.Relations), (ssl eFact d.Facts)])), (3, .v (osl (eL eI) true out_1)), (4, .v (.int .i64 i_2)), (15, .v (.bool w4))]) ?_ ?_
  · by_cases knh5 : i_2 < (d.Facts.length : Int)
    · rw [if_pos knh5] at h5
      refine Wo.gh (vle_co (s := 12) (t1 := .bool true) rfl (by simp) (tle_bool (by simpa using knh5)) (by conv => lhs; simp)) ?_
      refine Wo.evs (by conv => lhs; simp) ?_
      obtain ⟨o6, h7, h5⟩ := bind_some h5
      refine Wo.call (by simp) rfl (by (conv => lhs; simp [cx, ioTab]) <;> rfl) (r36 h7) (by simp) (by simp) (by (conv => lhs; simp [cx, ioTab]) <;> rfl) (by (conv => lhs; simp) <;> rfl) ?_
      refine Wo.evs (by conv => lhs; simp) ?_
      refine Wo.nil ?_
      cases h5
      first | rfl | simp
    · rw [if_neg knh5] at h5
      refine Wo.gh (vle_co (s := 12) (t1 := .bool false) rfl (by simp) (tle_bool (by simpa using knh5)) (by conv => lhs; simp)) ?_
      refine Wo.evs (by conv => lhs; simp) ?_
      refine Wo.nil ?_
      cases h5
      first | rfl | simp
  · rintro V rfl
    generalize w4 = x_3 at *
    try dsimp only at h
    by_cases kc8 : x_3 = true
    · rw [if_pos kc8] at h
      refine Wc.condT' (t := _) (by conv => lhs; simp) (by simpa using kc8) ?_
      refine Wc.seq ?_
      refine Wc.kil (by conv => lhs; simp) ?_
      refine Wc.skip ?_
      refine Wc.seq ?_
      refine Wc.block ?_
      refine Wc.seq ?_
      refine Wc.evs (by conv => lhs; simp) ?_
      obtain ⟨o9, h10, h⟩ := bind_some h
      refine Wo.call (by simp) rfl (by (conv => lhs; simp [cx, ioTab]) <;> rfl) (r156 h10) (by simp) (by simp) (by (conv => lhs; simp [cx, ioTab]) <;> rfl) (by (conv => lhs; simp) <;> rfl) ?_
      refine Wo.evs (by conv => lhs; simp) ?_
      refine Wo.nil ?_
      refine Wc.seq ?_
      obtain ⟨v_11, h12, h⟩ := bind_some h
      obtain ⟨ga12, gb12, gc12⟩ := ix_some h12
      have gn12 := ix_ne h12
      have gf12 := arr_fit (E := eI) (b := true) (i := (0 : Int).toNat) (l := o9) (by omega)
      have gg12_0 := arr_get (E := eI) (b := true) (o := 0) gc12 (by decide)
      simp at gf12 gg12_0
      have gl12 : (0 : Int).toNat < o9.length := by omega
      have gk12 : 0 < o9.length := by omega
      refine Wc.evs (by conv => lhs; simp [-getElem?_pos, List.getElem?_cons_zero, List.getElem?_cons_succ, gb12, gn12, gf12, gg12_0, gl12, gk12]) ?_
      refine Wo.nil ?_
      obtain ⟨w13, h14, h⟩ := bind_some h
      refine Wc.mono (Q := (QN (fun (y : (List (List Int))) => [(1, .v (.ptr true [(ssl eRelation d.Relations), (ssl eFact d.Facts)])), (3, .v (osl (eL eI) true y)), (4, .v (.int .i64 i_2))])) w13) ?_ ?_
      · skip
        by_cases kc15 : v_11 = i_2
        · rw [if_pos kc15] at h14
          refine Wc.condT' (t := _) (by conv => lhs; simp) (by simpa using kc15) ?_
          refine Wc.seq ?_
          refine Wc.kil (by conv => lhs; simp) ?_
          obtain ⟨l_16, h17, h14⟩ := bind_some h14
          have gx17 := appT_arr (E := (eL eI)) (b := true) (y := true) h17 (by decide)
          simp at gx17
          refine Wc.evs (by conv => lhs; simp [gx17]) ?_
          refine Wo.nil ?_
          cases h14
          exact ⟨rfl, by first | rfl | simp [gx17]⟩
        · rw [if_neg kc15] at h14
          refine Wc.condF' (t := _) (by conv => lhs; simp) (by simpa using kc15) ?_
          refine Wc.seq ?_
          refine Wc.kil (by conv => lhs; simp) ?_
          refine Wc.skip ?_
          cases h14
          exact ⟨rfl, by first | rfl | simp [-getElem?_pos, List.getElem?_cons_zero, List.getElem?_cons_succ, gb12, gn12, gf12, gg12_0, gl12, gk12]⟩
      · skip
        generalize w13 = out_18 at *
        rintro ex V ⟨rfl, rfl⟩
        try dsimp only at h
        refine Wc.evs (by conv => lhs; simp) ?_
        refine Wo.nil ?_
        refine Wc.start (V1 := [(1, .v (.ptr true [(ssl eRelation d.Relations), (ssl eFact d.Facts)])), (3, .v (osl (eL eI) true out_18)), (4, .v (.int .i64 (w64 (i_2 + 1))))]) ?_ (hk _ (Option.some.inj h).symm)
        first | rfl | simp
    · rw [if_neg kc8] at h
      refine Wc.condF' (t := _) (by conv => lhs; simp) (by simpa using kc8) ?_
      refine Wc.seq ?_
      refine Wc.kil (by conv => lhs; simp) ?_
      refine Wc.exit ?_
      have e0 := hx _ (Option.some.inj h).symm
      subst e0
      exact ⟨rfl, by first | rfl | simp⟩
theorem r97 {d : Database} {r : (List (List Int))} (h : f97 d = some r) : VJx cx (.ca 97 [(.agg [(ssl eRelation d.Relations), (ssl eFact d.Facts)])] (osl (eL eI) true r) []) := by
  unfold f97 at h
  refine ca_of rfl rfl (by decide) rfl ?_
  refine Wc.start (V1 := [(0, .v (.agg [(ssl eRelation d.Relations), (ssl eFact d.Facts)]))]) (by simp) ?_
  refine Wc.seq ?_
  refine Wc.evs (by conv => lhs; simp) ?_
  refine Wo.nil ?_
  refine Wc.seq ?_
  refine Wc.evs (by conv => lhs; simp) ?_
  refine Wo.gh (vle_co (s := 3) (t1 := (osl (eL eI) true ([]))) rfl (by simp) (TLe.own (show TLes _ [] from (TLes.refl _)) rfl) (by conv => lhs; simp)) ?_
  refine Wo.nil ?_
  refine Wc.seq ?_
  refine Wc.seq ?_
  refine Wc.evs (by conv => lhs; simp) ?_
  refine Wo.nil ?_
  refine Wc.block ?_
  obtain ⟨w19, h20, h⟩ := bind_some h
  refine Wc.start (V1 := [(1, .v (.ptr true [(ssl eRelation d.Relations), (ssl eFact d.Facts)])), (3, .v (osl (eL eI) true ([]))), (4, .v (.int .i64 0))]) (by first | rfl | simp) ?_
  refine Wc.mono (r97_0 _ _ h20) ?_
  generalize w19 = out_21 at *
  rintro ex V ⟨rfl, rfl⟩
  try dsimp only at h
  refine Wc.seq ?_
  refine Wc.evs (by conv => lhs; simp) ?_
  refine Wo.nil ?_
  refine Wc.ret (res_of (.inr rfl) ?_)
  cases h
  exact ⟨_, _, _, by conv => lhs; simp, by (conv => lhs; simp [cx, ioTab, List.range, List.range.loop]) <;> rfl, by first | rfl | simp⟩
theorem r98_0 {l : (List Int)} {x : Int} : ∀ zs zo, iter (f98_0 l x) zs = some zo → Wc cx 18 (.loop L98_0) [(0, .v (ssl eI l)), (1, .v (.int .i64 x)), (5, .v (.int .i64 zs))] ((QO (QX 0 (fun (y : Unit) => [])) (QR (fun (y : Bool) => [(4, .v (.bool y))]))) zo) := by
  intro zs0 zo0 zh0
  refine iter_run (f := (f98_0 l x)) (P := fun zs zo => Wc cx 18 (.loop L98_0) [(0, .v (ssl eI l)), (1, .v (.int .i64 x)), (5, .v (.int .i64 zs))] ((QO (QX 0 (fun (y : Unit) => [])) (QR (fun (y : Bool) => [(4, .v (.bool y))]))) zo)) ?_ zh0
  rintro i_1 zo zr h hk hx
  try dsimp only at hk ⊢
  rw [f98_0] at h
  refine Wc.loop ?_
  refine Wc.seq ?_
  refine Wc.seq ?_
  refine Wc.evs (by conv => lhs; simp) ?_
  refine Wo.nil ?_
  by_cases kc2 : i_1 < (l.length : Int)
  · rw [if_pos kc2] at h
    refine Wc.condT' (t := _) (by conv => lhs; simp) (by simpa using kc2) ?_
    refine Wc.seq ?_
    refine Wc.kil (by conv => lhs; simp) ?_
    refine Wc.skip ?_
    refine Wc.seq ?_
    refine Wc.block ?_
    refine Wc.seq ?_
    obtain ⟨v_3, h4, h⟩ := bind_some h
    obtain ⟨ga4, gb4, gc4⟩ := ix_some h4
    have gn4 := ix_ne h4
    have gd4 := arr_at (E := eI) (b := false) gc4
    simp at gd4
    refine Wc.evs (by conv => lhs; simp [ga4, gb4, gn4, gd4]) ?_
    refine Wo.nil ?_
    by_cases kc5 : v_3 = x
    · rw [if_pos kc5] at h
      refine Wc.condT' (t := _) (by conv => lhs; simp) (by simpa using kc5) ?_
      refine Wc.seq ?_
      refine Wc.kil (by conv => lhs; simp) ?_
      refine Wc.seq ?_
      refine Wc.evs (by conv => lhs; simp) ?_
      refine Wo.nil ?_
      refine Wc.ret ?_
      have e0 := hx _ (Option.some.inj h).symm
      subst e0
      exact ⟨rfl, by first | rfl | simp⟩
    · rw [if_neg kc5] at h
      refine Wc.condF' (t := _) (by conv => lhs; simp) (by simpa using kc5) ?_
      refine Wc.seq ?_
      refine Wc.kil (by conv => lhs; simp) ?_
      refine Wc.skip ?_
      refine Wc.evs (by conv => lhs; simp) ?_
      refine Wo.nil ?_
      refine Wc.start (V1 := [(0, .v (ssl eI l)), (1, .v (.int .i64 x)), (5, .v (.int .i64 (w64 (i_1 + 1))))]) ?_ (hk _ (Option.some.inj h).symm)
      first | rfl | simp
  · rw [if_neg kc2] at h
    refine Wc.condF' (t := _) (by conv => lhs; simp) (by simpa using kc2) ?_
    refine Wc.seq ?_
    refine Wc.kil (by conv => lhs; simp) ?_
    refine Wc.exit ?_
    have e0 := hx _ (Option.some.inj h).symm
    subst e0
    exact ⟨rfl, by first | rfl | simp⟩
theorem r98 {l : (List Int)} {x : Int} {r : Bool} (h : f98 l x = some r) : VJx cx (.ca 98 [(ssl eI l), (.int .i64 x)] (.bool r) []) := by
  unfold f98 at h
  refine ca_of rfl rfl (by decide) rfl ?_
  refine Wc.start (V1 := [(0, .v (ssl eI l)), (1, .v (.int .i64 x))]) (by simp) ?_
  refine Wc.seq ?_
  refine Wc.evs (by conv => lhs; simp) ?_
  refine Wo.nil ?_
  refine Wc.seq ?_
  refine Wc.seq ?_
  refine Wc.evs (by conv => lhs; simp) ?_
  refine Wo.nil ?_
  refine Wc.block ?_
  obtain ⟨w6, h7, h⟩ := bind_some h
  refine Wc.start (V1 := [(0, .v (ssl eI l)), (1, .v (.int .i64 x)), (5, .v (.int .i64 0))]) (by first | rfl | simp) ?_
  refine Wc.mono (r98_0 _ _ h7) ?_
  rcases w6 with ⟨⟩ | x_8
  · rintro ex V ⟨rfl, rfl⟩
    try dsimp only at h
    refine Wc.seq ?_
    refine Wc.evs (by conv => lhs; simp) ?_
    refine Wo.nil ?_
    refine Wc.ret (res_of (.inr rfl) ?_)
    cases h
    exact ⟨_, _, _, by conv => lhs; simp, by (conv => lhs; simp [cx, ioTab, List.range, List.range.loop]) <;> rfl, by first | rfl | simp⟩
  · rintro ex V ⟨rfl, rfl⟩
    try dsimp only at h
    refine res_of (.inr rfl) ?_
    cases h
    exact ⟨_, _, _, by conv => lhs; simp, by (conv => lhs; simp [cx, ioTab, List.range, List.range.loop]) <;> rfl, by first | rfl | simp⟩
theorem r99_1 {l : (List Int)} {out_1 : (List Int)} {i_2 : Int} : ∀ zs zo, iter (f99_1 l out_1 i_2) zs = some zo → Wc cx 47 (.loop L99_1) [(0, .v (ssl eI l)), (3, .v (ssl eI out_1)), (4, .v (.int .i64 i_2)), (5, .v (.int .i64 zs))] ((QX 2 (fun (y : Int) => [(0, .v (ssl eI l)), (3, .v (ssl eI out_1)), (4, .v (.int .i64 i_2)), (5, .v (.int .i64 y))])) zo) := by
  intro zs0 zo0 zh0
  refine iter_run (f := (f99_1 l out_1 i_2)) (P := fun zs zo => Wc cx 47 (.loop L99_1) [(0, .v (ssl eI l)), (3, .v (ssl eI out_1)), (4, .v (.int .i64 i_2)), (5, .v (.int .i64 zs))] ((QX 2 (fun (y : Int) => [(0, .v (ssl eI l)), (3, .v (ssl eI out_1)), (4, .v (.int .i64 i_2)), (5, .v (.int .i64 y))])) zo)) ?_ zh0
  rintro k_4 zo zr h hk hx
  try dsimp only at hk ⊢
  rw [f99_1] at h
  refine Wc.loop ?_
  refine Wc.seq ?_
  refine Wc.seq ?_
  refine Wc.evk 3 (by conv => lhs; simp) ?_
  obtain ⟨w6, h7, h⟩ := bind_some h
  refine Wo.mono (Q := fun V => V = [(0, .v (ssl eI l)), (3, .v (ssl eI out_1)), (4, .v (.int .i64 i_2)), (5, .v (.int .i64 k_4)), (28, .v (.bool w6))]) ?_ ?_
  · by_cases knh7 : k_4 > 0
    · rw [if_pos knh7] at h7
      refine Wo.gh (vle_co (s := 17) (t1 := .bool true) rfl (by simp) (tle_bool (by simpa using knh7)) (by conv => lhs; simp)) ?_
      obtain ⟨v_8, h9, h7⟩ := bind_some h7
      obtain ⟨ga9, gb9, gc9⟩ := ix_some h9
      have gn9 := ix_ne h9
      have gd9 := arr_at (E := eI) (b := false) gc9
      simp at gd9
      obtain ⟨v_10, h11, h7⟩ := bind_some h7
      obtain ⟨ga11, gb11, gc11⟩ := ix_some h11
      have gn11 := ix_ne h11
      have gd11 := arr_at (E := eI) (b := false) gc11
      simp at gd11
      refine Wo.evs (by conv => lhs; simp [ga9, gb9, gn9, gd9, ga11, gb11, gn11, gd11]) ?_
      refine Wo.nil ?_
      cases h7
      first | rfl | simp [ga9, gb9, gn9, gd9, ga11, gb11, gn11, gd11]
    · rw [if_neg knh7] at h7
      refine Wo.gh (vle_co (s := 17) (t1 := .bool false) rfl (by simp) (tle_bool (by simpa using knh7)) (by conv => lhs; simp)) ?_
      refine Wo.evs (by conv => lhs; simp) ?_
      refine Wo.nil ?_
      cases h7
      first | rfl | simp
  · rintro V rfl
    generalize w6 = x_5 at *
    try dsimp only at h
    by_cases kc12 : x_5 = true
    · rw [if_pos kc12] at h
      refine Wc.condT' (t := _) (by conv => lhs; simp) (by simpa using kc12) ?_
      refine Wc.seq ?_
      refine Wc.kil (by conv => lhs; simp) ?_
      refine Wc.skip ?_
      refine Wc.block ?_
      refine Wc.evs (by conv => lhs; simp) ?_
      refine Wo.nil ?_
      refine Wc.start (V1 := [(0, .v (ssl eI l)), (3, .v (ssl eI out_1)), (4, .v (.int .i64 i_2)), (5, .v (.int .i64 (w64 (k_4 - 1))))]) ?_ (hk _ (Option.some.inj h).symm)
      first | rfl | simp
    · rw [if_neg kc12] at h
      refine Wc.condF' (t := _) (by conv => lhs; simp) (by simpa using kc12) ?_
      refine Wc.seq ?_
      refine Wc.kil (by conv => lhs; simp) ?_
      refine Wc.exit ?_
      have e0 := hx _ (Option.some.inj h).symm
      subst e0
      exact ⟨rfl, by first | rfl | simp⟩
theorem r99_0 {l : (List Int)} : ∀ zs zo, iter (f99_0 l) zs = some zo → Wc cx 47 (.loop L99_0) [(0, .v (ssl eI l)), (3, .v (ssl eI zs.1)), (4, .v (.int .i64 zs.2))] ((QX 0 (fun (y : (List Int)) => [(3, .v (ssl eI y))])) zo) := by
  intro zs0 zo0 zh0
  refine iter_run (f := (f99_0 l)) (P := fun zs zo => Wc cx 47 (.loop L99_0) [(0, .v (ssl eI l)), (3, .v (ssl eI zs.1)), (4, .v (.int .i64 zs.2))] ((QX 0 (fun (y : (List Int)) => [(3, .v (ssl eI y))])) zo)) ?_ zh0
  rintro ⟨out_1, i_2⟩ zo zr h hk hx
  try dsimp only at hk ⊢
  rw [f99_0] at h
  refine Wc.loop ?_
  refine Wc.seq ?_
  refine Wc.seq ?_
  refine Wc.evs (by conv => lhs; simp) ?_
  refine Wo.nil ?_
  by_cases kc3 : i_2 < (l.length : Int)
  · rw [if_pos kc3] at h
    refine Wc.condT' (t := _) (by conv => lhs; simp) (by simpa using kc3) ?_
    refine Wc.seq ?_
    refine Wc.kil (by conv => lhs; simp) ?_
    refine Wc.skip ?_
    refine Wc.seq ?_
    refine Wc.block ?_
    refine Wc.seq ?_
    refine Wc.evs (by conv => lhs; simp) ?_
    refine Wo.nil ?_
    refine Wc.seq ?_
    refine Wc.block ?_
    obtain ⟨w13, h14, h⟩ := bind_some h
    refine Wc.start (V1 := [(0, .v (ssl eI l)), (3, .v (ssl eI out_1)), (4, .v (.int .i64 i_2)), (5, .v (.int .i64 (out_1.length : Int)))]) (by first | rfl | simp) ?_
    refine Wc.mono (r99_1 _ _ h14) ?_
    generalize w13 = k_15 at *
    rintro ex V ⟨rfl, rfl⟩
    try dsimp only at h
    obtain ⟨l_16, h17, h⟩ := bind_some h
    obtain ⟨ga17, gb17, gc17, ge17⟩ := cut_some h17
    simp at ge17
    obtain ⟨v_18, h19, h⟩ := bind_some h
    obtain ⟨ga19, gb19, gc19⟩ := ix_some h19
    have gn19 := ix_ne h19
    have gd19 := arr_at (E := eI) (b := false) gc19
    simp at gd19
    obtain ⟨l_20, h21, h⟩ := bind_some h
    obtain ⟨ga21, gb21, gc21, ge21⟩ := cut_some h21
    simp at ge21
    have gz21 := cut_arr (E := eI) (b := false) h21
    simp at gz21
    obtain ⟨l_22, h23, h⟩ := bind_some h
    have gx23 := appT_arr2 (E := eI) (b := true) (b' := false) (y := false) h23 (by decide) (arr_sc rfl _)
    simp at gx23
    obtain ⟨l_24, h25, h⟩ := bind_some h
    have gx25 := appT_arr (E := eI) (b := true) (y := false) h25 (by decide)
    simp at gx25
    obtain ⟨l_26, h27, h⟩ := bind_some h
    have gx27 := appT_arr2 (E := eI) (b := true) (b' := false) (y := false) h27 (by decide) (arr_sc rfl _)
    simp at gx27
    refine Wc.evs (by conv => lhs; simp [ga17, gb17, gc17, ge17, ga19, gb19, gn19, gd19, ga21, gb21, gc21, ge21, gz21, gx23, gx25, gx27]) ?_
    refine Wo.gh (vle_co (s := 3) (t1 := (osl eI true l_26)) rfl (by simp) (tle_own rfl) (by conv => lhs; simp)) ?_
    refine Wo.gh (vle_fz (s := 3) rfl (by simp) (by conv => lhs; simp)) ?_
    refine Wo.nil ?_
    refine Wc.evs (by conv => lhs; simp) ?_
    refine Wo.nil ?_
    refine Wc.start (V1 := [(0, .v (ssl eI l)), (3, .v (ssl eI l_26)), (4, .v (.int .i64 (w64 (i_2 + 1))))]) ?_ (hk _ (Option.some.inj h).symm)
    first | rfl | simp
  · rw [if_neg kc3] at h
    refine Wc.condF' (t := _) (by conv => lhs; simp) (by simpa using kc3) ?_
    refine Wc.seq ?_
    refine Wc.kil (by conv => lhs; simp) ?_
    refine Wc.exit ?_
    have e0 := hx _ (Option.some.inj h).symm
    subst e0
    exact ⟨rfl, by first | rfl | simp⟩
theorem r99 {l : (List Int)} {r : (List Int)} (h : f99 l = some r) : VJx cx (.ca 99 [(ssl eI l)] (ssl eI r) []) := by
  unfold f99 at h
  refine ca_of rfl rfl (by decide) rfl ?_
  refine Wc.start (V1 := [(0, .v (ssl eI l))]) (by simp) ?_
  refine Wc.seq ?_
  refine Wc.evs (by conv => lhs; simp) ?_
  refine Wo.nil ?_
  refine Wc.seq ?_
  refine Wc.evs (by conv => lhs; simp) ?_
  refine Wo.gh (vle_co (s := 3) (t1 := (osl eI true ([]))) rfl (by simp) (TLe.own (show TLes _ [] from (TLes.refl _)) rfl) (by conv => lhs; simp)) ?_
  refine Wo.gh (vle_fz (s := 3) rfl (by simp) (by conv => lhs; simp)) ?_
  refine Wo.nil ?_
  refine Wc.seq ?_
  refine Wc.seq ?_
  refine Wc.evs (by conv => lhs; simp) ?_
  refine Wo.nil ?_
  refine Wc.block ?_
  obtain ⟨w28, h29, h⟩ := bind_some h
  refine Wc.start (V1 := [(0, .v (ssl eI l)), (3, .v (ssl eI ([]))), (4, .v (.int .i64 0))]) (by first | rfl | simp) ?_
  refine Wc.mono (r99_0 _ _ h29) ?_
  generalize w28 = out_30 at *
  rintro ex V ⟨rfl, rfl⟩
  try dsimp only at h
  refine Wc.seq ?_
  refine Wc.evs (by conv => lhs; simp) ?_
  refine Wo.nil ?_
  refine Wc.ret (res_of (.inr rfl) ?_)
  cases h
  exact ⟨_, _, _, by conv => lhs; simp, by (conv => lhs; simp [cx, ioTab, List.range, List.range.loop]) <;> rfl, by first | rfl | simp⟩
theorem r38_1 {s1 : (List Int)} {o9 : (List (List Int))} {i_12 : Int} : ∀ zs zo, iter (f38_1 s1 o9 i_12) zs = some zo → Wc cx 67 (.loop L38_1) [(1, .v (ssl eI s1)), (6, .v (osl eI true zs.1)), (7, .v (osl (eL eI) true o9)), (8, .v (.int .i64 i_12)), (9, .v (.bool zs.2.1)), (10, .v (.int .i64 zs.2.2))] ((QX 2 (fun (y : (List Int) × Bool) => [(1, .v (ssl eI s1)), (6, .v (osl eI true y.1)), (7, .v (osl (eL eI) true o9)), (8, .v (.int .i64 i_12)), (9, .v (.bool y.2))])) zo) := by
  intro zs0 zo0 zh0
  refine iter_run (f := (f38_1 s1 o9 i_12)) (P := fun zs zo => Wc cx 67 (.loop L38_1) [(1, .v (ssl eI s1)), (6, .v (osl eI true zs.1)), (7, .v (osl (eL eI) true o9)), (8, .v (.int .i64 i_12)), (9, .v (.bool zs.2.1)), (10, .v (.int .i64 zs.2.2))] ((QX 2 (fun (y : (List Int) × Bool) => [(1, .v (ssl eI s1)), (6, .v (osl eI true y.1)), (7, .v (osl (eL eI) true o9)), (8, .v (.int .i64 i_12)), (9, .v (.bool y.2))])) zo)) ?_ zh0
  rintro ⟨out_14, met_15, k_16⟩ zo zr h hk hx
  try dsimp only at hk ⊢
  rw [f38_1] at h
  refine Wc.loop ?_
  refine Wc.seq ?_
  refine Wc.seq ?_
  obtain ⟨v_17, h18, h⟩ := bind_some h
  obtain ⟨ga18, gb18, gc18⟩ := ix_some h18
  have gn18 := ix_ne h18
  have gf18 := arr_fit (E := (eL eI)) (b := true) (i := i_12.toNat) (l := o9) (by omega)
  have gg18_0 := arr_get (E := (eL eI)) (b := true) (o := 0) gc18 (by decide)
  simp at gf18 gg18_0
  have gl18 : i_12.toNat < o9.length := by omega
  refine Wc.evk 8 (by conv => lhs; simp [-getElem?_pos, List.getElem?_cons_zero, List.getElem?_cons_succ, ga18, gb18, gn18, gf18, gg18_0, gl18]) ?_
  obtain ⟨w20, h21, h⟩ := bind_some h
  refine Wo.mono (Q := fun V => V = [(1, .v (ssl eI s1)), (6, .v (osl eI true out_14)), (7, .v (osl (eL eI) true o9)), (8, .v (.int .i64 i_12)), (9, .v (.bool met_15)), (10, .v (.int .i64 k_16)), (40, .v (.bool w20))]) ?_ ?_
  · by_cases knh21 : k_16 < (v_17.length : Int)
    · rw [if_pos knh21] at h21
      refine Wo.gh (vle_co (s := 37) (t1 := .bool true) rfl (by simp) (tle_bool (by simpa using knh21)) (by conv => lhs; simp)) ?_
      refine Wo.evs (by conv => lhs; simp [-getElem?_pos, List.getElem?_cons_zero, List.getElem?_cons_succ, ga18, gb18, gn18, gf18, gg18_0, gl18]) ?_
      refine Wo.nil ?_
      cases h21
      first | rfl | simp [-getElem?_pos, List.getElem?_cons_zero, List.getElem?_cons_succ, ga18, gb18, gn18, gf18, gg18_0, gl18]
    · rw [if_neg knh21] at h21
      refine Wo.gh (vle_co (s := 37) (t1 := .bool false) rfl (by simp) (tle_bool (by simpa using knh21)) (by conv => lhs; simp)) ?_
      refine Wo.evs (by conv => lhs; simp [-getElem?_pos, List.getElem?_cons_zero, List.getElem?_cons_succ, ga18, gb18, gn18, gf18, gg18_0, gl18]) ?_
      refine Wo.nil ?_
      cases h21
      first | rfl | simp [-getElem?_pos, List.getElem?_cons_zero, List.getElem?_cons_succ, ga18, gb18, gn18, gf18, gg18_0, gl18]
  · rintro V rfl
    generalize w20 = x_19 at *
    try dsimp only at h
    by_cases kc22 : x_19 = true
    · rw [if_pos kc22] at h
      refine Wc.condT' (t := _) (by conv => lhs; simp) (by simpa using kc22) ?_
      refine Wc.seq ?_
      refine Wc.kil (by conv => lhs; simp) ?_
      refine Wc.skip ?_
      refine Wc.seq ?_
      refine Wc.block ?_
      refine Wc.seq ?_
      obtain ⟨v_23, h24, h⟩ := bind_some h
      obtain ⟨ga24, gb24, gc24⟩ := ix_some h24
      have gn24 := ix_ne h24
      have gf24 := arr_fit (E := eI) (b := true) (i := k_16.toNat) (l := v_17) (by omega)
      have gg24_0 := arr_get (E := eI) (b := true) (o := 0) gc24 (by decide)
      simp at gf24 gg24_0
      have gl24 : k_16.toNat < v_17.length := by omega
      refine Wc.evs (by conv => lhs; simp [-getElem?_pos, List.getElem?_cons_zero, List.getElem?_cons_succ, ga18, gb18, gn18, gf18, gg18_0, gl18, ga24, gb24, gn24, gf24, gg24_0, gl24]) ?_
      obtain ⟨o25, h26, h⟩ := bind_some h
      refine Wo.call (by simp) rfl (by (conv => lhs; simp [-getElem?_pos, List.getElem?_cons_zero, List.getElem?_cons_succ, ga18, gb18, gn18, gf18, gg18_0, gl18, ga24, gb24, gn24, gf24, gg24_0, gl24, cx, ioTab]) <;> rfl) (r98 h26) (by simp) (by simp) (by (conv => lhs; simp [-getElem?_pos, List.getElem?_cons_zero, List.getElem?_cons_succ, ga18, gb18, gn18, gf18, gg18_0, gl18, ga24, gb24, gn24, gf24, gg24_0, gl24, cx, ioTab]) <;> rfl) (by (conv => lhs; simp [-getElem?_pos, List.getElem?_cons_zero, List.getElem?_cons_succ, ga18, gb18, gn18, gf18, gg18_0, gl18, ga24, gb24, gn24, gf24, gg24_0, gl24]) <;> rfl) ?_
      refine Wo.nil ?_
      obtain ⟨w27, h28, h⟩ := bind_some h
      refine Wc.mono (Q := (QN (fun (y : (List Int) × Bool) => [(1, .v (ssl eI s1)), (6, .v (osl eI true y.1)), (7, .v (osl (eL eI) true o9)), (8, .v (.int .i64 i_12)), (9, .v (.bool y.2)), (10, .v (.int .i64 k_16))])) w27) ?_ ?_
      · skip
        by_cases kc29 : o25 = true
        · rw [if_pos kc29] at h28
          refine Wc.condT' (t := _) (by conv => lhs; simp) (by simpa using kc29) ?_
          refine Wc.seq ?_
          refine Wc.kil (by conv => lhs; simp) ?_
          refine Wc.seq ?_
          obtain ⟨l_30, h31, h28⟩ := bind_some h28
          have gx31 := appT_arr (E := eI) (b := true) (y := true) h31 (by decide)
          simp at gx31
          refine Wc.evs (by conv => lhs; simp [-getElem?_pos, List.getElem?_cons_zero, List.getElem?_cons_succ, ga18, gb18, gn18, gf18, gg18_0, gl18, ga24, gb24, gn24, gf24, gg24_0, gl24, gx31]) ?_
          refine Wo.nil ?_
          refine Wc.evs (by conv => lhs; simp) ?_
          refine Wo.nil ?_
          cases h28
          exact ⟨rfl, by first | rfl | simp⟩
        · rw [if_neg kc29] at h28
          refine Wc.condF' (t := _) (by conv => lhs; simp) (by simpa using kc29) ?_
          refine Wc.seq ?_
          refine Wc.kil (by conv => lhs; simp) ?_
          refine Wc.skip ?_
          cases h28
          exact ⟨rfl, by first | rfl | simp [-getElem?_pos, List.getElem?_cons_zero, List.getElem?_cons_succ, ga18, gb18, gn18, gf18, gg18_0, gl18, ga24, gb24, gn24, gf24, gg24_0, gl24]⟩
      · skip
        obtain ⟨out_32, met_33⟩ := w27
        rintro ex V ⟨rfl, rfl⟩
        dsimp only at h ⊢
        refine Wc.evs (by conv => lhs; simp) ?_
        refine Wo.nil ?_
        refine Wc.start (V1 := [(1, .v (ssl eI s1)), (6, .v (osl eI true out_32)), (7, .v (osl (eL eI) true o9)), (8, .v (.int .i64 i_12)), (9, .v (.bool met_33)), (10, .v (.int .i64 (w64 (k_16 + 1))))]) ?_ (hk _ (Option.some.inj h).symm)
        first | rfl | simp
    · rw [if_neg kc22] at h
      refine Wc.condF' (t := _) (by conv => lhs; simp) (by simpa using kc22) ?_
      refine Wc.seq ?_
      refine Wc.kil (by conv => lhs; simp) ?_
      refine Wc.exit ?_
      have e0 := hx _ (Option.some.inj h).symm
      subst e0
      exact ⟨rfl, by first | rfl | simp [-getElem?_pos, List.getElem?_cons_zero, List.getElem?_cons_succ, ga18, gb18, gn18, gf18, gg18_0, gl18]⟩
theorem r38_0 {s1 : (List Int)} {o9 : (List (List Int))} : ∀ zs zo, iter (f38_0 s1 o9) zs = some zo → Wc cx 67 (.loop L38_0) [(1, .v (ssl eI s1)), (6, .v (osl eI true zs.1)), (7, .v (osl (eL eI) true o9)), (8, .v (.int .i64 zs.2))] ((QO (QX 0 (fun (y : (List Int)) => [(6, .v (osl eI true y))])) (QR (fun (y : (List Int) × Bool) => [(4, .v (ssl eI y.1)), (5, .v (.bool y.2))]))) zo) := by
  intro zs0 zo0 zh0
  refine iter_run (f := (f38_0 s1 o9)) (P := fun zs zo => Wc cx 67 (.loop L38_0) [(1, .v (ssl eI s1)), (6, .v (osl eI true zs.1)), (7, .v (osl (eL eI) true o9)), (8, .v (.int .i64 zs.2))] ((QO (QX 0 (fun (y : (List Int)) => [(6, .v (osl eI true y))])) (QR (fun (y : (List Int) × Bool) => [(4, .v (ssl eI y.1)), (5, .v (.bool y.2))]))) zo)) ?_ zh0
  rintro ⟨out_11, i_12⟩ zo zr h hk hx
  try dsimp only at hk ⊢
  rw [f38_0] at h
  refine Wc.loop ?_
  refine Wc.seq ?_
  refine Wc.seq ?_
  refine Wc.evs (by conv => lhs; simp) ?_
  refine Wo.nil ?_
  by_cases kc13 : i_12 < (o9.length : Int)
  · rw [if_pos kc13] at h
    refine Wc.condT' (t := _) (by conv => lhs; simp) (by simpa using kc13) ?_
    refine Wc.seq ?_
    refine Wc.kil (by conv => lhs; simp) ?_
    refine Wc.skip ?_
    refine Wc.seq ?_
    refine Wc.block ?_
    refine Wc.seq ?_
    refine Wc.evs (by conv => lhs; simp) ?_
    refine Wo.nil ?_
    refine Wc.seq ?_
    refine Wc.seq ?_
    refine Wc.evs (by conv => lhs; simp) ?_
    refine Wo.nil ?_
    refine Wc.block ?_
    obtain ⟨w34, h35, h⟩ := bind_some h
    refine Wc.start (V1 := [(1, .v (ssl eI s1)), (6, .v (osl eI true out_11)), (7, .v (osl (eL eI) true o9)), (8, .v (.int .i64 i_12)), (9, .v (.bool false)), (10, .v (.int .i64 0))]) (by first | rfl | simp) ?_
    refine Wc.mono (r38_1 _ _ h35) ?_
    obtain ⟨out_36, met_37⟩ := w34
    rintro ex V ⟨rfl, rfl⟩
    dsimp only at h ⊢
    refine Wc.seq ?_
    refine Wc.evs (by conv => lhs; simp) ?_
    refine Wo.nil ?_
    by_cases kc38 : ¬ (met_37 = true)
    · rw [if_pos kc38] at h
      refine Wc.condT' (t := _) (by conv => lhs; simp) (by simpa using kc38) ?_
      refine Wc.seq ?_
      refine Wc.kil (by conv => lhs; simp) ?_
      refine Wc.seq ?_
      refine Wc.evs (by conv => lhs; simp) ?_
      refine Wo.gh (vle_co (s := 4) (t1 := (osl eI true ([]))) rfl (by simp) (TLe.own (show TLes _ [] from (TLes.refl _)) rfl) (by conv => lhs; simp)) ?_
      refine Wo.gh (vle_fz (s := 4) rfl (by simp) (by conv => lhs; simp)) ?_
      refine Wo.nil ?_
      refine Wc.ret ?_
      have e0 := hx _ (Option.some.inj h).symm
      subst e0
      exact ⟨rfl, by first | rfl | simp⟩
    · rw [if_neg kc38] at h
      refine Wc.condF' (t := _) (by conv => lhs; simp) (by simpa using kc38) ?_
      refine Wc.seq ?_
      refine Wc.kil (by conv => lhs; simp) ?_
      refine Wc.skip ?_
      refine Wc.evs (by conv => lhs; simp) ?_
      refine Wo.nil ?_
      refine Wc.start (V1 := [(1, .v (ssl eI s1)), (6, .v (osl eI true out_36)), (7, .v (osl (eL eI) true o9)), (8, .v (.int .i64 (w64 (i_12 + 1))))]) ?_ (hk _ (Option.some.inj h).symm)
      first | rfl | simp
  · rw [if_neg kc13] at h
    refine Wc.condF' (t := _) (by conv => lhs; simp) (by simpa using kc13) ?_
    refine Wc.seq ?_
    refine Wc.kil (by conv => lhs; simp) ?_
    refine Wc.exit ?_
    have e0 := hx _ (Option.some.inj h).symm
    subst e0
    exact ⟨rfl, by first | rfl | simp⟩
theorem r38 {d : Database} {s1 : (List Int)} {r : (List Int) × Bool} (h : f38 d s1 = some r) : VJx cx (.ca 38 [(.agg [(ssl eRelation d.Relations), (ssl eFact d.Facts)]), (ssl eI s1)] (.tup [(ssl eI r.1), (.bool r.2)]) []) := by
  unfold f38 at h
  refine ca_of rfl rfl (by decide) rfl ?_
  refine Wc.start (V1 := [(0, .v (.agg [(ssl eRelation d.Relations), (ssl eFact d.Facts)])), (1, .v (ssl eI s1))]) (by simp) ?_
  refine Wc.seq ?_
  refine Wc.evs (by conv => lhs; simp) ?_
  refine Wo.nil ?_
  refine Wc.seq ?_
  refine Wc.seq ?_
  refine Wc.evs (by conv => lhs; simp) ?_
  obtain ⟨o1, h2, h⟩ := bind_some h
  refine Wo.call (by simp) rfl (by (conv => lhs; simp [cx, ioTab]) <;> rfl) (r36 h2) (by simp) (by simp) (by (conv => lhs; simp [cx, ioTab]) <;> rfl) (by (conv => lhs; simp) <;> rfl) ?_
  refine Wo.evk 2 (by conv => lhs; simp) ?_
  obtain ⟨w4, h5, h⟩ := bind_some h
  refine Wo.mono (Q := fun V => V = [(1, .v (ssl eI s1)), (2, .v (.ptr true [(ssl eRelation d.Relations), (ssl eFact d.Facts)])), (19, .v (.bool w4))]) ?_ ?_
  · by_cases knh5 : ¬ (o1 = true)
    · rw [if_pos knh5] at h5
      refine Wo.gh (vle_co (s := 14) (t1 := .bool true) rfl (by simp) (tle_bool (by simpa using knh5)) (by conv => lhs; simp)) ?_
      refine Wo.evs (by conv => lhs; simp) ?_
      refine Wo.nil ?_
      cases h5
      first | rfl | simp
    · rw [if_neg knh5] at h5
      refine Wo.gh (vle_co (s := 14) (t1 := .bool false) rfl (by simp) (tle_bool (by simpa using knh5)) (by conv => lhs; simp)) ?_
      refine Wo.evs (by conv => lhs; simp) ?_
      obtain ⟨o6, h7, h5⟩ := bind_some h5
      refine Wo.call (by simp) rfl (by (conv => lhs; simp [cx, ioTab]) <;> rfl) (r96 h7) (by simp) (by simp) (by (conv => lhs; simp [cx, ioTab]) <;> rfl) (by (conv => lhs; simp) <;> rfl) ?_
      refine Wo.evs (by conv => lhs; simp) ?_
      refine Wo.nil ?_
      cases h5
      first | rfl | simp
  · rintro V rfl
    generalize w4 = x_3 at *
    try dsimp only at h
    by_cases kc8 : x_3 = true
    · rw [if_pos kc8] at h
      refine Wc.condT' (t := _) (by conv => lhs; simp) (by simpa using kc8) ?_
      refine Wc.seq ?_
      refine Wc.kil (by conv => lhs; simp) ?_
      refine Wc.seq ?_
      refine Wc.evs (by conv => lhs; simp) ?_
      refine Wo.gh (vle_co (s := 4) (t1 := (osl eI true ([]))) rfl (by simp) (TLe.own (show TLes _ [] from (TLes.refl _)) rfl) (by conv => lhs; simp)) ?_
      refine Wo.gh (vle_fz (s := 4) rfl (by simp) (by conv => lhs; simp)) ?_
      refine Wo.nil ?_
      refine Wc.ret (res_of (.inr rfl) ?_)
      cases h
      exact ⟨_, _, _, by conv => lhs; simp, by (conv => lhs; simp [cx, ioTab, List.range, List.range.loop]) <;> rfl, by first | rfl | simp⟩
    · rw [if_neg kc8] at h
      refine Wc.condF' (t := _) (by conv => lhs; simp) (by simpa using kc8) ?_
      refine Wc.seq ?_
      refine Wc.kil (by conv => lhs; simp) ?_
      refine Wc.skip ?_
      refine Wc.seq ?_
      refine Wc.evs (by conv => lhs; simp) ?_
      refine Wo.gh (vle_co (s := 6) (t1 := (osl eI true ([]))) rfl (by simp) (TLe.own (show TLes _ [] from (TLes.refl _)) rfl) (by conv => lhs; simp)) ?_
      refine Wo.nil ?_
      refine Wc.seq ?_
      refine Wc.evs (by conv => lhs; simp) ?_
      obtain ⟨o9, h10, h⟩ := bind_some h
      refine Wo.call (by simp) rfl (by (conv => lhs; simp [cx, ioTab]) <;> rfl) (r97 h10) (by simp) (by simp) (by (conv => lhs; simp [cx, ioTab]) <;> rfl) (by (conv => lhs; simp) <;> rfl) ?_
      refine Wo.evs (by conv => lhs; simp) ?_
      refine Wo.nil ?_
      refine Wc.seq ?_
      refine Wc.seq ?_
      refine Wc.evs (by conv => lhs; simp) ?_
      refine Wo.nil ?_
      refine Wc.block ?_
      obtain ⟨w39, h40, h⟩ := bind_some h
      refine Wc.start (V1 := [(1, .v (ssl eI s1)), (6, .v (osl eI true ([]))), (7, .v (osl (eL eI) true o9)), (8, .v (.int .i64 0))]) (by first | rfl | simp) ?_
      refine Wc.mono (r38_0 _ _ h40) ?_
      rcases w39 with out_41 | ⟨x_42, x_43⟩
      · rintro ex V ⟨rfl, rfl⟩
        try dsimp only at h
        refine Wc.seq ?_
        refine Wc.evs (by conv => lhs; simp) ?_
        refine Wo.gh (vle_fz (s := 65) rfl (by simp) (by conv => lhs; simp)) ?_
        obtain ⟨o44, h45, h⟩ := bind_some h
        refine Wo.call (by simp) rfl (by (conv => lhs; simp [cx, ioTab]) <;> rfl) (r99 h45) (by simp) (by simp) (by (conv => lhs; simp [cx, ioTab]) <;> rfl) (by (conv => lhs; simp) <;> rfl) ?_
        refine Wo.evs (by conv => lhs; simp) ?_
        refine Wo.nil ?_
        refine Wc.ret (res_of (.inr rfl) ?_)
        cases h
        exact ⟨_, _, _, by conv => lhs; simp, by (conv => lhs; simp [cx, ioTab, List.range, List.range.loop]) <;> rfl, by first | rfl | simp⟩
      · rintro ex V ⟨rfl, rfl⟩
        dsimp only at h ⊢
        refine res_of (.inr rfl) ?_
        cases h
        exact ⟨_, _, _, by conv => lhs; simp, by (conv => lhs; simp [cx, ioTab, List.range, List.range.loop]) <;> rfl, by first | rfl | simp⟩
theorem r87 {n0 : Int} {low : Int} {high : Int} {r : Bool} (h : f87 n0 low high = some r) : VJx cx (.ca 87 [(.int .i64 n0), (.int .i64 low), (.int .i64 high)] (.bool r) []) := by
  unfold f87 at h
  refine ca_of rfl rfl (by decide) rfl ?_
  refine Wc.start (V1 := [(0, .v (.int .i64 n0)), (1, .v (.int .i64 low)), (2, .v (.int .i64 high))]) (by simp) ?_
  refine Wc.seq ?_
  refine Wc.evs (by conv => lhs; simp) ?_
  refine Wo.nil ?_
  refine Wc.seq ?_
  refine Wc.evk 4 (by conv => lhs; simp) ?_
  obtain ⟨w2, h3, h⟩ := bind_some h
  refine Wo.mono (Q := fun V => V = [(6, .v (.bool w2))]) ?_ ?_
  · by_cases knh3 : low ≤ n0
    · rw [if_pos knh3] at h3
      refine Wo.gh (vle_co (s := 10) (t1 := .bool true) rfl (by simp) (tle_bool (by simpa using knh3)) (by conv => lhs; simp)) ?_
      refine Wo.evs (by conv => lhs; simp) ?_
      refine Wo.nil ?_
      cases h3
      first | rfl | simp
    · rw [if_neg knh3] at h3
      refine Wo.gh (vle_co (s := 10) (t1 := .bool false) rfl (by simp) (tle_bool (by simpa using knh3)) (by conv => lhs; simp)) ?_
      refine Wo.evs (by conv => lhs; simp) ?_
      refine Wo.nil ?_
      cases h3
      first | rfl | simp
  · rintro V rfl
    generalize w2 = x_1 at *
    try dsimp only at h
    refine Wc.ret (res_of (.inr rfl) ?_)
    cases h
    exact ⟨_, _, _, by conv => lhs; simp, by (conv => lhs; simp [cx, ioTab, List.range, List.range.loop]) <;> rfl, by first | rfl | simp⟩
theorem r163 {relation : Relation} {r : Bool} (h : f163 relation = some r) : VJx cx (.ca 163 [(.agg [(.str relation.Name), (.int .i64 relation.Arity), (.int .i64 relation.KeyLength)])] (.bool r) []) := by
  unfold f163 at h
  refine ca_of rfl rfl (by decide) rfl ?_
  refine Wc.start (V1 := [(0, .v (.agg [(.str relation.Name), (.int .i64 relation.Arity), (.int .i64 relation.KeyLength)]))]) (by simp) ?_
  refine Wc.seq ?_
  refine Wc.evs (by conv => lhs; simp) ?_
  refine Wo.nil ?_
  refine Wc.seq ?_
  refine Wc.evk 5 (by conv => lhs; simp) ?_
  obtain ⟨w2, h3, h⟩ := bind_some h
  refine Wo.mono (Q := fun V => V = [(2, .v (.bool w2))]) ?_ ?_
  · by_cases knh3 : (relation.Name.length : Int) = 1
    · rw [if_pos knh3] at h3
      refine Wo.gh (vle_co (s := 7) (t1 := .bool true) rfl (by simp) (tle_bool (by simpa using knh3)) (by conv => lhs; simp)) ?_
      obtain ⟨c_4, h5, h3⟩ := bind_some h3
      obtain ⟨ga5, gb5, gc5⟩ := ix_some h5
      have gq5 : relation.Name[(0 : Nat)]? = some c_4 := gc5
      refine Wo.evk 6 (by conv => lhs; simp [ga5, gb5, gc5, gq5]) ?_
      obtain ⟨w7, h8, h3⟩ := bind_some h3
      refine Wo.mono (Q := fun V => V = [(2, .v (.bool w7))]) ?_ ?_
      · by_cases knh8 : (c_4.toNat : Int) ≥ 97
        · rw [if_pos knh8] at h8
          refine Wo.gh (vle_co (s := 13) (t1 := .bool true) rfl (by simp) (tle_bool (by simpa using knh8)) (by conv => lhs; simp)) ?_
          refine Wo.evk 6 (by conv => lhs; simp [ga5, gb5, gc5, gq5]) ?_
          obtain ⟨w10, h11, h8⟩ := bind_some h8
          refine Wo.mono (Q := fun V => V = [(2, .v (.bool w10))]) ?_ ?_
          · by_cases knh11 : (c_4.toNat : Int) ≤ 122
            · rw [if_pos knh11] at h11
              refine Wo.gh (vle_co (s := 19) (t1 := .bool true) rfl (by simp) (tle_bool (by simpa using knh11)) (by conv => lhs; simp)) ?_
              refine Wo.evs (by conv => lhs; simp [ga5, gb5, gc5, gq5]) ?_
              obtain ⟨o12, h13, h11⟩ := bind_some h11
              refine Wo.call (by simp [ga5, gb5, gc5, gq5]) rfl (by (conv => lhs; simp [ga5, gb5, gc5, gq5, cx, ioTab]) <;> rfl) (r87 h13) (by simp) (by simp) (by (conv => lhs; simp [ga5, gb5, gc5, gq5, cx, ioTab]) <;> rfl) (by (conv => lhs; simp [ga5, gb5, gc5, gq5]) <;> rfl) ?_
              refine Wo.evk 2 (by conv => lhs; simp [ga5, gb5, gc5, gq5]) ?_
              obtain ⟨w15, h16, h11⟩ := bind_some h11
              refine Wo.mono (Q := fun V => V = [(2, .v (.bool w15))]) ?_ ?_
              · by_cases knh16 : o12 = true
                · rw [if_pos knh16] at h16
                  refine Wo.gh (vle_co (s := 24) (t1 := .bool true) rfl (by simp) (tle_bool (by simpa using knh16)) (by conv => lhs; simp)) ?_
                  refine Wo.evs (by conv => lhs; simp [ga5, gb5, gc5, gq5]) ?_
                  obtain ⟨o17, h18, h16⟩ := bind_some h16
                  refine Wo.call (by simp [ga5, gb5, gc5, gq5]) rfl (by (conv => lhs; simp [ga5, gb5, gc5, gq5, cx, ioTab]) <;> rfl) (r87 h18) (by simp) (by simp) (by (conv => lhs; simp [ga5, gb5, gc5, gq5, cx, ioTab]) <;> rfl) (by (conv => lhs; simp [ga5, gb5, gc5, gq5]) <;> rfl) ?_
                  refine Wo.evs (by conv => lhs; simp [ga5, gb5, gc5, gq5]) ?_
                  refine Wo.nil ?_
                  cases h16
                  first | rfl | simp [ga5, gb5, gc5, gq5]
                · rw [if_neg knh16] at h16
                  refine Wo.gh (vle_co (s := 24) (t1 := .bool false) rfl (by simp) (tle_bool (by simpa using knh16)) (by conv => lhs; simp)) ?_
                  refine Wo.evs (by conv => lhs; simp [ga5, gb5, gc5, gq5]) ?_
                  refine Wo.nil ?_
                  cases h16
                  first | rfl | simp [ga5, gb5, gc5, gq5]
              · rintro V rfl
                generalize w15 = x_14 at *
                try dsimp only at h11
                cases h11
                first | rfl | simp [ga5, gb5, gc5, gq5]
            · rw [if_neg knh11] at h11
              refine Wo.gh (vle_co (s := 19) (t1 := .bool false) rfl (by simp) (tle_bool (by simpa using knh11)) (by conv => lhs; simp)) ?_
              refine Wo.evs (by conv => lhs; simp [ga5, gb5, gc5, gq5]) ?_
              refine Wo.nil ?_
              cases h11
              first | rfl | simp [ga5, gb5, gc5, gq5]
          · rintro V rfl
            generalize w10 = x_9 at *
            try dsimp only at h8
            cases h8
            first | rfl | simp [ga5, gb5, gc5, gq5]
        · rw [if_neg knh8] at h8
          refine Wo.gh (vle_co (s := 13) (t1 := .bool false) rfl (by simp) (tle_bool (by simpa using knh8)) (by conv => lhs; simp)) ?_
          refine Wo.evs (by conv => lhs; simp [ga5, gb5, gc5, gq5]) ?_
          refine Wo.nil ?_
          cases h8
          first | rfl | simp [ga5, gb5, gc5, gq5]
      · rintro V rfl
        generalize w7 = x_6 at *
        try dsimp only at h3
        cases h3
        first | rfl | simp [ga5, gb5, gc5, gq5]
    · rw [if_neg knh3] at h3
      refine Wo.gh (vle_co (s := 7) (t1 := .bool false) rfl (by simp) (tle_bool (by simpa using knh3)) (by conv => lhs; simp)) ?_
      refine Wo.evs (by conv => lhs; simp) ?_
      refine Wo.nil ?_
      cases h3
      first | rfl | simp
  · rintro V rfl
    generalize w2 = x_1 at *
    try dsimp only at h
    refine Wc.ret (res_of (.inr rfl) ?_)
    cases h
    exact ⟨_, _, _, by conv => lhs; simp, by (conv => lhs; simp [cx, ioTab, List.range, List.range.loop]) <;> rfl, by first | rfl | simp⟩
theorem r116_0 {relations : (List Relation)} : ∀ zs zo, iter (f116_0 relations) zs = some zo → Wc cx 34 (.loop L116_0) [(0, .v (ssl eRelation relations)), (5, .v (ssl eRelation relations)), (6, .v (.int .i64 (relations.length : Int))), (7, .v (.int .i64 zs))] ((QO (QX 0 (fun (y : Unit) => [(0, .v (ssl eRelation relations))])) (QR (fun (y : Bool) => [(2, .v (.bool y))]))) zo) := by
  intro zs0 zo0 zh0
  refine iter_run (f := (f116_0 relations)) (P := fun zs zo => Wc cx 34 (.loop L116_0) [(0, .v (ssl eRelation relations)), (5, .v (ssl eRelation relations)), (6, .v (.int .i64 (relations.length : Int))), (7, .v (.int .i64 zs))] ((QO (QX 0 (fun (y : Unit) => [(0, .v (ssl eRelation relations))])) (QR (fun (y : Bool) => [(2, .v (.bool y))]))) zo)) ?_ zh0
  rintro x_1 zo zr h hk hx
  try dsimp only at hk ⊢
  rw [f116_0] at h
  refine Wc.loop ?_
  refine Wc.seq ?_
  refine Wc.evs (by conv => lhs; simp) ?_
  refine Wo.nil ?_
  refine Wc.seq ?_
  by_cases kc2 : x_1 < (relations.length : Int)
  · rw [if_pos kc2] at h
    refine Wc.condT' (t := _) (by conv => lhs; simp) (by simpa using kc2) ?_
    refine Wc.seq ?_
    refine Wc.kil (by conv => lhs; simp) ?_
    refine Wc.skip ?_
    refine Wc.seq ?_
    refine Wc.block ?_
    refine Wc.seq ?_
    obtain ⟨v_3, h4, h⟩ := bind_some h
    obtain ⟨ga4, gb4, gc4⟩ := ix_some h4
    have gn4 := ix_ne h4
    have gd4 := arr_at (E := eRelation) (b := false) gc4
    simp at gd4
    refine Wc.evs (by conv => lhs; simp [ga4, gb4, gn4, gd4]) ?_
    refine Wo.nil ?_
    refine Wc.seq ?_
    refine Wc.evs (by conv => lhs; simp) ?_
    obtain ⟨o5, h6, h⟩ := bind_some h
    refine Wo.call (by simp) rfl (by (conv => lhs; simp [cx, ioTab]) <;> rfl) (r163 h6) (by simp) (by simp) (by (conv => lhs; simp [cx, ioTab]) <;> rfl) (by (conv => lhs; simp) <;> rfl) ?_
    refine Wo.evk 2 (by conv => lhs; simp) ?_
    obtain ⟨w8, h9, h⟩ := bind_some h
    refine Wo.mono (Q := fun V => V = [(0, .v (ssl eRelation relations)), (5, .v (ssl eRelation relations)), (6, .v (.int .i64 (relations.length : Int))), (7, .v (.int .i64 x_1)), (29, .v (.bool w8))]) ?_ ?_
    · by_cases knh9 : ¬ (o5 = true)
      · rw [if_pos knh9] at h9
        refine Wo.gh (vle_co (s := 15) (t1 := .bool true) rfl (by simp) (tle_bool (by simpa using knh9)) (by conv => lhs; simp)) ?_
        refine Wo.evs (by conv => lhs; simp) ?_
        refine Wo.nil ?_
        cases h9
        first | rfl | simp
      · rw [if_neg knh9] at h9
        refine Wo.gh (vle_co (s := 15) (t1 := .bool false) rfl (by simp) (tle_bool (by simpa using knh9)) (by conv => lhs; simp)) ?_
        refine Wo.evk 3 (by conv => lhs; simp) ?_
        obtain ⟨w11, h12, h9⟩ := bind_some h9
        refine Wo.mono (Q := fun V => V = [(0, .v (ssl eRelation relations)), (5, .v (ssl eRelation relations)), (6, .v (.int .i64 (relations.length : Int))), (7, .v (.int .i64 x_1)), (29, .v (.bool w11))]) ?_ ?_
        · by_cases knh12 : x_1 > 0
          · rw [if_pos knh12] at h12
            refine Wo.gh (vle_co (s := 18) (t1 := .bool true) rfl (by simp) (tle_bool (by simpa using knh12)) (by conv => lhs; simp)) ?_
            obtain ⟨v_13, h14, h12⟩ := bind_some h12
            obtain ⟨ga14, gb14, gc14⟩ := ix_some h14
            have gn14 := ix_ne h14
            have gd14 := arr_at (E := eRelation) (b := false) gc14
            simp at gd14
            refine Wo.evs (by conv => lhs; simp [ga14, gb14, gn14, gd14]) ?_
            refine Wo.nil ?_
            cases h12
            first | rfl | simp [ga14, gb14, gn14, gd14]
          · rw [if_neg knh12] at h12
            refine Wo.gh (vle_co (s := 18) (t1 := .bool false) rfl (by simp) (tle_bool (by simpa using knh12)) (by conv => lhs; simp)) ?_
            refine Wo.evs (by conv => lhs; simp) ?_
            refine Wo.nil ?_
            cases h12
            first | rfl | simp
        · rintro V rfl
          generalize w11 = x_10 at *
          try dsimp only at h9
          cases h9
          first | rfl | simp
    · rintro V rfl
      generalize w8 = x_7 at *
      try dsimp only at h
      by_cases kc15 : x_7 = true
      · rw [if_pos kc15] at h
        refine Wc.condT' (t := _) (by conv => lhs; simp) (by simpa using kc15) ?_
        refine Wc.seq ?_
        refine Wc.kil (by conv => lhs; simp) ?_
        refine Wc.seq ?_
        refine Wc.evs (by conv => lhs; simp) ?_
        refine Wo.nil ?_
        refine Wc.ret ?_
        have e0 := hx _ (Option.some.inj h).symm
        subst e0
        exact ⟨rfl, by first | rfl | simp⟩
      · rw [if_neg kc15] at h
        refine Wc.condF' (t := _) (by conv => lhs; simp) (by simpa using kc15) ?_
        refine Wc.seq ?_
        refine Wc.kil (by conv => lhs; simp) ?_
        refine Wc.skip ?_
        refine Wc.evs (by conv => lhs; simp) ?_
        refine Wo.nil ?_
        refine Wc.start (V1 := [(0, .v (ssl eRelation relations)), (5, .v (ssl eRelation relations)), (6, .v (.int .i64 (relations.length : Int))), (7, .v (.int .i64 (w64 (x_1 + 1))))]) ?_ (hk _ (Option.some.inj h).symm)
        first | rfl | simp
  · rw [if_neg kc2] at h
    refine Wc.condF' (t := _) (by conv => lhs; simp) (by simpa using kc2) ?_
    refine Wc.seq ?_
    refine Wc.kil (by conv => lhs; simp) ?_
    refine Wc.exit ?_
    have e0 := hx _ (Option.some.inj h).symm
    subst e0
    exact ⟨rfl, by first | rfl | simp⟩
theorem r116 {relations : (List Relation)} {r : Bool} (h : f116 relations = some r) : VJx cx (.ca 116 [(ssl eRelation relations)] (.bool r) []) := by
  unfold f116 at h
  refine ca_of rfl rfl (by decide) rfl ?_
  refine Wc.start (V1 := [(0, .v (ssl eRelation relations))]) (by simp) ?_
  refine Wc.seq ?_
  refine Wc.evs (by conv => lhs; simp) ?_
  refine Wo.nil ?_
  refine Wc.seq ?_
  refine Wc.seq ?_
  refine Wc.evs (by conv => lhs; simp) ?_
  refine Wo.nil ?_
  refine Wc.block ?_
  obtain ⟨w16, h17, h⟩ := bind_some h
  refine Wc.start (V1 := [(0, .v (ssl eRelation relations)), (5, .v (ssl eRelation relations)), (6, .v (.int .i64 (relations.length : Int))), (7, .v (.int .i64 0))]) (by first | rfl | simp) ?_
  refine Wc.mono (r116_0 _ _ h17) ?_
  rcases w16 with ⟨⟩ | x_18
  · rintro ex V ⟨rfl, rfl⟩
    try dsimp only at h
    refine Wc.seq ?_
    refine Wc.evs (by conv => lhs; simp) ?_
    refine Wo.nil ?_
    refine Wc.ret (res_of (.inr rfl) ?_)
    cases h
    exact ⟨_, _, _, by conv => lhs; simp, by (conv => lhs; simp [cx, ioTab, List.range, List.range.loop]) <;> rfl, by first | rfl | simp⟩
  · rintro ex V ⟨rfl, rfl⟩
    try dsimp only at h
    refine res_of (.inr rfl) ?_
    cases h
    exact ⟨_, _, _, by conv => lhs; simp, by (conv => lhs; simp [cx, ioTab, List.range, List.range.loop]) <;> rfl, by first | rfl | simp⟩
theorem r103_0 {g_f : Nat} {cp_f : List T} {f : Int → Option Bool} (hio_f : cx.io g_f = []) (hp_f : ∀ x0 o, f x0 = some o → VJx cx (.ca g_f ([(.int .i64 x0)] ++ cp_f) (.bool o) [])) {s0 : (List Int)} : ∀ zs zo, iter (f103_0 s0 f) zs = some zo → Wc cx 19 (.loop L103_0) [(0, .v (ssl eI s0)), (1, .v (.fn g_f cp_f)), (7, .v (.int .i64 (s0.length : Int))), (8, .v (.int .i64 zs))] ((QO (QX 0 (fun (y : Unit) => [])) (QR (fun (y : Int) => [(4, .v (.int .i64 y))]))) zo) := by
  intro zs0 zo0 zh0
  refine iter_run (f := (f103_0 s0 f)) (P := fun zs zo => Wc cx 19 (.loop L103_0) [(0, .v (ssl eI s0)), (1, .v (.fn g_f cp_f)), (7, .v (.int .i64 (s0.length : Int))), (8, .v (.int .i64 zs))] ((QO (QX 0 (fun (y : Unit) => [])) (QR (fun (y : Int) => [(4, .v (.int .i64 y))]))) zo)) ?_ zh0
  rintro x_1 zo zr h hk hx
  try dsimp only at hk ⊢
  rw [f103_0] at h
  refine Wc.loop ?_
  refine Wc.seq ?_
  refine Wc.evs (by conv => lhs; simp) ?_
  refine Wo.nil ?_
  refine Wc.seq ?_
  by_cases kc2 : x_1 < (s0.length : Int)
  · rw [if_pos kc2] at h
    refine Wc.condT' (t := _) (by conv => lhs; simp) (by simpa using kc2) ?_
    refine Wc.seq ?_
    refine Wc.kil (by conv => lhs; simp) ?_
    refine Wc.skip ?_
    refine Wc.seq ?_
    refine Wc.block ?_
    refine Wc.seq ?_
    refine Wc.evs (by conv => lhs; simp) ?_
    refine Wo.nil ?_
    refine Wc.seq ?_
    obtain ⟨v_3, h4, h⟩ := bind_some h
    obtain ⟨ga4, gb4, gc4⟩ := ix_some h4
    have gn4 := ix_ne h4
    have gd4 := arr_at (E := eI) (b := false) gc4
    simp at gd4
    refine Wc.evs (by conv => lhs; simp [ga4, gb4, gn4, gd4]) ?_
    obtain ⟨o5, h6, h⟩ := bind_some h
    refine Wo.call rfl rfl (by (conv => lhs; simp [ga4, gb4, gn4, gd4, hio_f]) <;> rfl) (hp_f v_3 _ h6) (by simp) (by simp) (by (conv => lhs; simp [ga4, gb4, gn4, gd4, hio_f]) <;> rfl) (by (conv => lhs; simp [ga4, gb4, gn4, gd4]) <;> rfl) ?_
    refine Wo.nil ?_
    by_cases kc7 : o5 = true
    · rw [if_pos kc7] at h
      refine Wc.condT' (t := _) (by conv => lhs; simp) (by simpa using kc7) ?_
      refine Wc.seq ?_
      refine Wc.kil (by conv => lhs; simp) ?_
      refine Wc.seq ?_
      refine Wc.evs (by conv => lhs; simp) ?_
      refine Wo.nil ?_
      refine Wc.ret ?_
      have e0 := hx _ (Option.some.inj h).symm
      subst e0
      exact ⟨rfl, by first | rfl | simp⟩
    · rw [if_neg kc7] at h
      refine Wc.condF' (t := _) (by conv => lhs; simp) (by simpa using kc7) ?_
      refine Wc.seq ?_
      refine Wc.kil (by conv => lhs; simp) ?_
      refine Wc.skip ?_
      refine Wc.evs (by conv => lhs; simp) ?_
      refine Wo.nil ?_
      refine Wc.start (V1 := [(0, .v (ssl eI s0)), (1, .v (.fn g_f cp_f)), (7, .v (.int .i64 (s0.length : Int))), (8, .v (.int .i64 (w64 (x_1 + 1))))]) ?_ (hk _ (Option.some.inj h).symm)
      first | rfl | simp
  · rw [if_neg kc2] at h
    refine Wc.condF' (t := _) (by conv => lhs; simp) (by simpa using kc2) ?_
    refine Wc.seq ?_
    refine Wc.kil (by conv => lhs; simp) ?_
    refine Wc.exit ?_
    have e0 := hx _ (Option.some.inj h).symm
    subst e0
    exact ⟨rfl, by first | rfl | simp⟩
theorem r103 {s0 : (List Int)} {g_f : Nat} {cp_f : List T} {f : Int → Option Bool} (hio_f : cx.io g_f = []) (hp_f : ∀ x0 o, f x0 = some o → VJx cx (.ca g_f ([(.int .i64 x0)] ++ cp_f) (.bool o) [])) {r : Int} (h : f103 s0 f = some r) : VJx cx (.ca 103 [(ssl eI s0), (.fn g_f cp_f)] (.int .i64 r) []) := by
  unfold f103 at h
  refine ca_of rfl rfl (by decide) rfl ?_
  refine Wc.start (V1 := [(0, .v (ssl eI s0)), (1, .v (.fn g_f cp_f))]) (by simp) ?_
  refine Wc.seq ?_
  refine Wc.evs (by conv => lhs; simp) ?_
  refine Wo.nil ?_
  refine Wc.seq ?_
  refine Wc.seq ?_
  refine Wc.evs (by conv => lhs; simp) ?_
  refine Wo.nil ?_
  refine Wc.block ?_
  obtain ⟨w8, h9, h⟩ := bind_some h
  refine Wc.start (V1 := [(0, .v (ssl eI s0)), (1, .v (.fn g_f cp_f)), (7, .v (.int .i64 (s0.length : Int))), (8, .v (.int .i64 0))]) (by first | rfl | simp) ?_
  refine Wc.mono (r103_0 hio_f hp_f _ _ h9) ?_
  rcases w8 with ⟨⟩ | x_10
  · rintro ex V ⟨rfl, rfl⟩
    try dsimp only at h
    refine Wc.seq ?_
    refine Wc.evs (by conv => lhs; simp) ?_
    refine Wo.nil ?_
    refine Wc.ret (res_of (.inr rfl) ?_)
    cases h
    exact ⟨_, _, _, by conv => lhs; simp, by (conv => lhs; simp [cx, ioTab, List.range, List.range.loop]) <;> rfl, by first | rfl | simp⟩
  · rintro ex V ⟨rfl, rfl⟩
    try dsimp only at h
    refine res_of (.inr rfl) ?_
    cases h
    exact ⟨_, _, _, by conv => lhs; simp, by (conv => lhs; simp [cx, ioTab, List.range, List.range.loop]) <;> rfl, by first | rfl | simp⟩
theorem r74 {s0 : (List Int)} {g_f : Nat} {cp_f : List T} {f : Int → Option Bool} (hio_f : cx.io g_f = []) (hp_f : ∀ x0 o, f x0 = some o → VJx cx (.ca g_f ([(.int .i64 x0)] ++ cp_f) (.bool o) [])) {r : Bool} (h : f74 s0 f = some r) : VJx cx (.ca 74 [(ssl eI s0), (.fn g_f cp_f)] (.bool r) []) := by
  unfold f74 at h
  refine ca_of rfl rfl (by decide) rfl ?_
  refine Wc.start (V1 := [(0, .v (ssl eI s0)), (1, .v (.fn g_f cp_f))]) (by simp) ?_
  refine Wc.seq ?_
  refine Wc.evs (by conv => lhs; simp) ?_
  refine Wo.nil ?_
  refine Wc.seq ?_
  refine Wc.evs (by conv => lhs; simp) ?_
  obtain ⟨o1, h2, h⟩ := bind_some h
  refine Wo.call (by simp) rfl (by (conv => lhs; simp [cx, ioTab]) <;> rfl) (r103 hio_f hp_f h2) (by simp) (by simp) (by (conv => lhs; simp [cx, ioTab]) <;> rfl) (by (conv => lhs; simp) <;> rfl) ?_
  refine Wo.evs (by conv => lhs; simp) ?_
  refine Wo.nil ?_
  refine Wc.ret (res_of (.inr rfl) ?_)
  cases h
  exact ⟨_, _, _, by conv => lhs; simp, by (conv => lhs; simp [cx, ioTab, List.range, List.range.loop]) <;> rfl, by first | rfl | simp⟩
theorem r195 {v : Int} {r : Bool} (h : f195 v = some r) : VJx cx (.ca 195 [(.int .i64 v)] (.bool r) []) := by
  unfold f195 at h
  refine ca_of rfl rfl (by decide) rfl ?_
  refine Wc.start (V1 := [(0, .v (.int .i64 v))]) (by simp) ?_
  refine Wc.seq ?_
  refine Wc.evs (by conv => lhs; simp) ?_
  refine Wo.nil ?_
  refine Wc.seq ?_
  refine Wc.evs (by conv => lhs; simp) ?_
  obtain ⟨o1, h2, h⟩ := bind_some h
  refine Wo.call (by simp) rfl (by (conv => lhs; simp [cx, ioTab]) <;> rfl) (r87 h2) (by simp) (by simp) (by (conv => lhs; simp [cx, ioTab]) <;> rfl) (by (conv => lhs; simp) <;> rfl) ?_
  refine Wo.evs (by conv => lhs; simp) ?_
  refine Wo.nil ?_
  refine Wc.ret (res_of (.inr rfl) ?_)
  cases h
  exact ⟨_, _, _, by conv => lhs; simp, by (conv => lhs; simp [cx, ioTab, List.range, List.range.loop]) <;> rfl, by first | rfl | simp⟩
theorem r179 {list : (List Int)} {r : Bool} (h : f179 list = some r) : VJx cx (.ca 179 [(ssl eI list)] (.bool r) []) := by
  unfold f179 at h
  refine ca_of rfl rfl (by decide) rfl ?_
  refine Wc.start (V1 := [(0, .v (ssl eI list))]) (by simp) ?_
  refine Wc.seq ?_
  refine Wc.evs (by conv => lhs; simp) ?_
  refine Wo.nil ?_
  refine Wc.seq ?_
  refine Wc.evs (by conv => lhs; simp) ?_
  obtain ⟨o1, h2, h⟩ := bind_some h
  refine Wo.call (by simp) rfl (by (conv => lhs; simp [cx, ioTab]) <;> rfl) (r74 (g_f := 195) (cp_f := []) rfl (fun x0 o h => r195 h) h2) (by simp) (by simp) (by (conv => lhs; simp [cx, ioTab]) <;> rfl) (by (conv => lhs; simp) <;> rfl) ?_
  refine Wo.evs (by conv => lhs; simp) ?_
  refine Wo.nil ?_
  refine Wc.ret (res_of (.inr rfl) ?_)
  cases h
  exact ⟨_, _, _, by conv => lhs; simp, by (conv => lhs; simp [cx, ioTab, List.range, List.range.loop]) <;> rfl, by first | rfl | simp⟩
theorem r145 {relations : (List Relation)} {fact : Fact} {r : Bool} (h : f145 relations fact = some r) : VJx cx (.ca 145 [(ssl eRelation relations), (.agg [(.int .i64 fact.Relation), (ssl eI fact.Values)])] (.bool r) []) := by
  unfold f145 at h
  refine ca_of rfl rfl (by decide) rfl ?_
  refine Wc.start (V1 := [(0, .v (ssl eRelation relations)), (1, .v (.agg [(.int .i64 fact.Relation), (ssl eI fact.Values)]))]) (by simp) ?_
  refine Wc.seq ?_
  refine Wc.evs (by conv => lhs; simp) ?_
  refine Wo.nil ?_
  refine Wc.seq ?_
  refine Wc.evs (by conv => lhs; simp) ?_
  obtain ⟨o1, h2, h⟩ := bind_some h
  refine Wo.call (by simp) rfl (by (conv => lhs; simp [cx, ioTab]) <;> rfl) (r87 h2) (by simp) (by simp) (by (conv => lhs; simp [cx, ioTab]) <;> rfl) (by (conv => lhs; simp) <;> rfl) ?_
  refine Wo.evk 1 (by conv => lhs; simp) ?_
  obtain ⟨w4, h5, h⟩ := bind_some h
  refine Wo.mono (Q := fun V => V = [(4, .v (.bool w4))]) ?_ ?_
  · by_cases knh5 : o1 = true
    · rw [if_pos knh5] at h5
      refine Wo.gh (vle_co (s := 11) (t1 := .bool true) rfl (by simp) (tle_bool (by simpa using knh5)) (by conv => lhs; simp)) ?_
      obtain ⟨v_6, h7, h5⟩ := bind_some h5
      obtain ⟨ga7, gb7, gc7⟩ := ix_some h7
      have gn7 := ix_ne h7
      have gd7 := arr_at (E := eRelation) (b := false) gc7
      simp at gd7
      refine Wo.evk 12 (by conv => lhs; simp [ga7, gb7, gn7, gd7]) ?_
      obtain ⟨w9, h10, h5⟩ := bind_some h5
      refine Wo.mono (Q := fun V => V = [(4, .v (.bool w9))]) ?_ ?_
      · by_cases knh10 : (fact.Values.length : Int) = v_6.Arity
        · rw [if_pos knh10] at h10
          refine Wo.gh (vle_co (s := 23) (t1 := .bool true) rfl (by simp) (tle_bool (by simpa using knh10)) (by conv => lhs; simp)) ?_
          refine Wo.evs (by conv => lhs; simp [ga7, gb7, gn7, gd7]) ?_
          obtain ⟨o11, h12, h10⟩ := bind_some h10
          refine Wo.call (by simp [ga7, gb7, gn7, gd7]) rfl (by (conv => lhs; simp [ga7, gb7, gn7, gd7, cx, ioTab]) <;> rfl) (r179 h12) (by simp) (by simp) (by (conv => lhs; simp [ga7, gb7, gn7, gd7, cx, ioTab]) <;> rfl) (by (conv => lhs; simp [ga7, gb7, gn7, gd7]) <;> rfl) ?_
          refine Wo.evs (by conv => lhs; simp [ga7, gb7, gn7, gd7]) ?_
          refine Wo.nil ?_
          cases h10
          first | rfl | simp [ga7, gb7, gn7, gd7]
        · rw [if_neg knh10] at h10
          refine Wo.gh (vle_co (s := 23) (t1 := .bool false) rfl (by simp) (tle_bool (by simpa using knh10)) (by conv => lhs; simp)) ?_
          refine Wo.evs (by conv => lhs; simp [ga7, gb7, gn7, gd7]) ?_
          refine Wo.nil ?_
          cases h10
          first | rfl | simp [ga7, gb7, gn7, gd7]
      · rintro V rfl
        generalize w9 = x_8 at *
        try dsimp only at h5
        cases h5
        first | rfl | simp [ga7, gb7, gn7, gd7]
    · rw [if_neg knh5] at h5
      refine Wo.gh (vle_co (s := 11) (t1 := .bool false) rfl (by simp) (tle_bool (by simpa using knh5)) (by conv => lhs; simp)) ?_
      refine Wo.evs (by conv => lhs; simp) ?_
      refine Wo.nil ?_
      cases h5
      first | rfl | simp
  · rintro V rfl
    generalize w4 = x_3 at *
    try dsimp only at h
    refine Wc.ret (res_of (.inr rfl) ?_)
    cases h
    exact ⟨_, _, _, by conv => lhs; simp, by (conv => lhs; simp [cx, ioTab, List.range, List.range.loop]) <;> rfl, by first | rfl | simp⟩
theorem r180 {a : Int} {b : Int} {r : Int} (h : f180 a b = some r) : VJx cx (.ca 180 [(.int .i64 a), (.int .i64 b)] (.int .i64 r) []) := by
  unfold f180 at h
  refine ca_of rfl rfl (by decide) rfl ?_
  refine Wc.start (V1 := [(0, .v (.int .i64 a)), (1, .v (.int .i64 b))]) (by simp) ?_
  refine Wc.seq ?_
  refine Wc.evs (by conv => lhs; simp) ?_
  refine Wo.nil ?_
  refine Wc.seq ?_
  refine Wc.block ?_
  refine Wc.seq ?_
  refine Wc.evs (by conv => lhs; simp) ?_
  refine Wo.nil ?_
  by_cases kc1 : a < b
  · rw [if_pos kc1] at h
    refine Wc.condT' (t := _) (by conv => lhs; simp) (by simpa using kc1) ?_
    refine Wc.seq ?_
    refine Wc.kil (by conv => lhs; simp) ?_
    refine Wc.seq ?_
    refine Wc.evs (by conv => lhs; simp) ?_
    refine Wo.nil ?_
    refine Wc.ret (res_of (.inr rfl) ?_)
    cases h
    exact ⟨_, _, _, by conv => lhs; simp, by (conv => lhs; simp [cx, ioTab, List.range, List.range.loop]) <;> rfl, by first | rfl | simp⟩
  · rw [if_neg kc1] at h
    refine Wc.condF' (t := _) (by conv => lhs; simp) (by simpa using kc1) ?_
    refine Wc.seq ?_
    refine Wc.kil (by conv => lhs; simp) ?_
    refine Wc.seq ?_
    refine Wc.evs (by conv => lhs; simp) ?_
    refine Wo.nil ?_
    by_cases kc2 : a > b
    · rw [if_pos kc2] at h
      refine Wc.condT' (t := _) (by conv => lhs; simp) (by simpa using kc2) ?_
      refine Wc.seq ?_
      refine Wc.kil (by conv => lhs; simp) ?_
      refine Wc.seq ?_
      refine Wc.evs (by conv => lhs; simp) ?_
      refine Wo.nil ?_
      refine Wc.ret (res_of (.inr rfl) ?_)
      cases h
      exact ⟨_, _, _, by conv => lhs; simp, by (conv => lhs; simp [cx, ioTab, List.range, List.range.loop]) <;> rfl, by first | rfl | simp⟩
    · rw [if_neg kc2] at h
      refine Wc.condF' (t := _) (by conv => lhs; simp) (by simpa using kc2) ?_
      refine Wc.seq ?_
      refine Wc.kil (by conv => lhs; simp) ?_
      refine Wc.skip ?_
      refine Wc.seq ?_
      refine Wc.evs (by conv => lhs; simp) ?_
      refine Wo.nil ?_
      refine Wc.ret (res_of (.inr rfl) ?_)
      cases h
      exact ⟨_, _, _, by conv => lhs; simp, by (conv => lhs; simp [cx, ioTab, List.range, List.range.loop]) <;> rfl, by first | rfl | simp⟩
theorem r203 {x : Int} {r : Bool} (h : f203 x = some r) : VJx cx (.ca 203 [(.int .i64 x)] (.bool r) []) := by
  unfold f203 at h
  refine ca_of rfl rfl (by decide) rfl ?_
  refine Wc.start (V1 := [(0, .v (.int .i64 x))]) (by simp) ?_
  refine Wc.seq ?_
  refine Wc.evs (by conv => lhs; simp) ?_
  refine Wo.nil ?_
  refine Wc.seq ?_
  refine Wc.evs (by conv => lhs; simp) ?_
  refine Wo.nil ?_
  refine Wc.ret (res_of (.inr rfl) ?_)
  cases h
  exact ⟨_, _, _, by conv => lhs; simp, by (conv => lhs; simp [cx, ioTab, List.range, List.range.loop]) <;> rfl, by first | rfl | simp⟩
theorem r196 {x : Int} {y : Int} {r : Int} (h : f196 x y = some r) : VJx cx (.ca 196 [(.int .i64 x), (.int .i64 y)] (.int .i64 r) []) := by
  unfold f196 at h
  refine ca_of rfl rfl (by decide) rfl ?_
  refine Wc.start (V1 := [(0, .v (.int .i64 x)), (1, .v (.int .i64 y))]) (by simp) ?_
  refine Wc.seq ?_
  refine Wc.evs (by conv => lhs; simp) ?_
  refine Wo.nil ?_
  refine Wc.seq ?_
  refine Wc.evs (by conv => lhs; simp) ?_
  obtain ⟨o1, h2, h⟩ := bind_some h
  refine Wo.call (by simp) rfl (by (conv => lhs; simp [cx, ioTab]) <;> rfl) (r203 h2) (by simp) (by simp) (by (conv => lhs; simp [cx, ioTab]) <;> rfl) (by (conv => lhs; simp) <;> rfl) ?_
  refine Wo.evs (by conv => lhs; simp) ?_
  refine Wo.nil ?_
  refine Wc.seq ?_
  refine Wc.evs (by conv => lhs; simp) ?_
  obtain ⟨o3, h4, h⟩ := bind_some h
  refine Wo.call (by simp) rfl (by (conv => lhs; simp [cx, ioTab]) <;> rfl) (r203 h4) (by simp) (by simp) (by (conv => lhs; simp [cx, ioTab]) <;> rfl) (by (conv => lhs; simp) <;> rfl) ?_
  refine Wo.evs (by conv => lhs; simp) ?_
  refine Wo.nil ?_
  refine Wc.seq ?_
  refine Wc.seq ?_
  refine Wc.evs (by conv => lhs; simp) ?_
  refine Wo.nil ?_
  by_cases kc5 : o1 = true
  · rw [if_pos kc5] at h
    refine Wc.condT' (t := _) (by conv => lhs; simp) (by simpa using kc5) ?_
    refine Wc.seq ?_
    refine Wc.kil (by conv => lhs; simp) ?_
    refine Wc.seq ?_
    refine Wc.seq ?_
    refine Wc.evs (by conv => lhs; simp) ?_
    refine Wo.nil ?_
    by_cases kc6 : o3 = true
    · rw [if_pos kc6] at h
      refine Wc.condT' (t := _) (by conv => lhs; simp) (by simpa using kc6) ?_
      refine Wc.seq ?_
      refine Wc.kil (by conv => lhs; simp) ?_
      refine Wc.seq ?_
      refine Wc.evs (by conv => lhs; simp) ?_
      refine Wo.nil ?_
      refine Wc.ret (res_of (.inr rfl) ?_)
      cases h
      exact ⟨_, _, _, by conv => lhs; simp, by (conv => lhs; simp [cx, ioTab, List.range, List.range.loop]) <;> rfl, by first | rfl | simp⟩
    · rw [if_neg kc6] at h
      refine Wc.condF' (t := _) (by conv => lhs; simp) (by simpa using kc6) ?_
      refine Wc.seq ?_
      refine Wc.kil (by conv => lhs; simp) ?_
      refine Wc.skip ?_
      refine Wc.seq ?_
      refine Wc.evs (by conv => lhs; simp) ?_
      refine Wo.nil ?_
      refine Wc.ret (res_of (.inr rfl) ?_)
      cases h
      exact ⟨_, _, _, by conv => lhs; simp, by (conv => lhs; simp [cx, ioTab, List.range, List.range.loop]) <;> rfl, by first | rfl | simp⟩
  · rw [if_neg kc5] at h
    refine Wc.condF' (t := _) (by conv => lhs; simp) (by simpa using kc5) ?_
    refine Wc.seq ?_
    refine Wc.kil (by conv => lhs; simp) ?_
    refine Wc.skip ?_
    refine Wc.seq ?_
    refine Wc.seq ?_
    refine Wc.evs (by conv => lhs; simp) ?_
    refine Wo.nil ?_
    by_cases kc7 : o3 = true
    · rw [if_pos kc7] at h
      refine Wc.condT' (t := _) (by conv => lhs; simp) (by simpa using kc7) ?_
      refine Wc.seq ?_
      refine Wc.kil (by conv => lhs; simp) ?_
      refine Wc.seq ?_
      refine Wc.evs (by conv => lhs; simp) ?_
      refine Wo.nil ?_
      refine Wc.ret (res_of (.inr rfl) ?_)
      cases h
      exact ⟨_, _, _, by conv => lhs; simp, by (conv => lhs; simp [cx, ioTab, List.range, List.range.loop]) <;> rfl, by first | rfl | simp⟩
    · rw [if_neg kc7] at h
      refine Wc.condF' (t := _) (by conv => lhs; simp) (by simpa using kc7) ?_
      refine Wc.seq ?_
      refine Wc.kil (by conv => lhs; simp) ?_
      refine Wc.skip ?_
      refine Wc.seq ?_
      refine Wc.seq ?_
      refine Wc.evs (by conv => lhs; simp) ?_
      refine Wo.nil ?_
      by_cases kc8 : x < y
      · rw [if_pos kc8] at h
        refine Wc.condT' (t := _) (by conv => lhs; simp) (by simpa using kc8) ?_
        refine Wc.seq ?_
        refine Wc.kil (by conv => lhs; simp) ?_
        refine Wc.seq ?_
        refine Wc.evs (by conv => lhs; simp) ?_
        refine Wo.nil ?_
        refine Wc.ret (res_of (.inr rfl) ?_)
        cases h
        exact ⟨_, _, _, by conv => lhs; simp, by (conv => lhs; simp [cx, ioTab, List.range, List.range.loop]) <;> rfl, by first | rfl | simp⟩
      · rw [if_neg kc8] at h
        refine Wc.condF' (t := _) (by conv => lhs; simp) (by simpa using kc8) ?_
        refine Wc.seq ?_
        refine Wc.kil (by conv => lhs; simp) ?_
        refine Wc.skip ?_
        refine Wc.seq ?_
        refine Wc.seq ?_
        refine Wc.evs (by conv => lhs; simp) ?_
        refine Wo.nil ?_
        by_cases kc9 : x > y
        · rw [if_pos kc9] at h
          refine Wc.condT' (t := _) (by conv => lhs; simp) (by simpa using kc9) ?_
          refine Wc.seq ?_
          refine Wc.kil (by conv => lhs; simp) ?_
          refine Wc.seq ?_
          refine Wc.evs (by conv => lhs; simp) ?_
          refine Wo.nil ?_
          refine Wc.ret (res_of (.inr rfl) ?_)
          cases h
          exact ⟨_, _, _, by conv => lhs; simp, by (conv => lhs; simp [cx, ioTab, List.range, List.range.loop]) <;> rfl, by first | rfl | simp⟩
        · rw [if_neg kc9] at h
          refine Wc.condF' (t := _) (by conv => lhs; simp) (by simpa using kc9) ?_
          refine Wc.seq ?_
          refine Wc.kil (by conv => lhs; simp) ?_
          refine Wc.skip ?_
          refine Wc.seq ?_
          refine Wc.evs (by conv => lhs; simp) ?_
          refine Wo.nil ?_
          refine Wc.ret (res_of (.inr rfl) ?_)
          cases h
          exact ⟨_, _, _, by conv => lhs; simp, by (conv => lhs; simp [cx, ioTab, List.range, List.range.loop]) <;> rfl, by first | rfl | simp⟩
theorem r181_0 {s1 : (List Int)} {s2 : (List Int)} : ∀ zs zo, iter (f181_0 s1 s2) zs = some zo → Wc cx 36 (.loop L181_0) [(0, .v (ssl eI s1)), (1, .v (ssl eI s2)), (9, .v (ssl eI s1)), (10, .v (.int .i64 (s1.length : Int))), (11, .v (.int .i64 zs))] ((QO (QX 0 (fun (y : Unit) => [(0, .v (ssl eI s1)), (1, .v (ssl eI s2))])) (QR (fun (y : Int) => [(4, .v (.int .i64 y))]))) zo) := by
  intro zs0 zo0 zh0
  refine iter_run (f := (f181_0 s1 s2)) (P := fun zs zo => Wc cx 36 (.loop L181_0) [(0, .v (ssl eI s1)), (1, .v (ssl eI s2)), (9, .v (ssl eI s1)), (10, .v (.int .i64 (s1.length : Int))), (11, .v (.int .i64 zs))] ((QO (QX 0 (fun (y : Unit) => [(0, .v (ssl eI s1)), (1, .v (ssl eI s2))])) (QR (fun (y : Int) => [(4, .v (.int .i64 y))]))) zo)) ?_ zh0
  rintro x_1 zo zr h hk hx
  try dsimp only at hk ⊢
  rw [f181_0] at h
  refine Wc.loop ?_
  refine Wc.seq ?_
  refine Wc.evs (by conv => lhs; simp) ?_
  refine Wo.nil ?_
  refine Wc.seq ?_
  by_cases kc2 : x_1 < (s1.length : Int)
  · rw [if_pos kc2] at h
    refine Wc.condT' (t := _) (by conv => lhs; simp) (by simpa using kc2) ?_
    refine Wc.seq ?_
    refine Wc.kil (by conv => lhs; simp) ?_
    refine Wc.skip ?_
    refine Wc.seq ?_
    refine Wc.block ?_
    refine Wc.seq ?_
    obtain ⟨v_3, h4, h⟩ := bind_some h
    obtain ⟨ga4, gb4, gc4⟩ := ix_some h4
    have gn4 := ix_ne h4
    have gd4 := arr_at (E := eI) (b := false) gc4
    simp at gd4
    refine Wc.evs (by conv => lhs; simp [ga4, gb4, gn4, gd4]) ?_
    refine Wo.nil ?_
    refine Wc.seq ?_
    refine Wc.seq ?_
    refine Wc.evs (by conv => lhs; simp) ?_
    refine Wo.nil ?_
    by_cases kc5 : x_1 ≥ (s2.length : Int)
    · rw [if_pos kc5] at h
      refine Wc.condT' (t := _) (by conv => lhs; simp) (by simpa using kc5) ?_
      refine Wc.seq ?_
      refine Wc.kil (by conv => lhs; simp) ?_
      refine Wc.seq ?_
      refine Wc.evs (by conv => lhs; simp) ?_
      refine Wo.nil ?_
      refine Wc.ret ?_
      have e0 := hx _ (Option.some.inj h).symm
      subst e0
      exact ⟨rfl, by first | rfl | simp⟩
    · rw [if_neg kc5] at h
      refine Wc.condF' (t := _) (by conv => lhs; simp) (by simpa using kc5) ?_
      refine Wc.seq ?_
      refine Wc.kil (by conv => lhs; simp) ?_
      refine Wc.skip ?_
      refine Wc.seq ?_
      obtain ⟨v_6, h7, h⟩ := bind_some h
      obtain ⟨ga7, gb7, gc7⟩ := ix_some h7
      have gn7 := ix_ne h7
      have gd7 := arr_at (E := eI) (b := false) gc7
      simp at gd7
      refine Wc.evs (by conv => lhs; simp [ga7, gb7, gn7, gd7]) ?_
      refine Wo.nil ?_
      refine Wc.seq ?_
      refine Wc.evs (by conv => lhs; simp) ?_
      obtain ⟨o8, h9, h⟩ := bind_some h
      refine Wo.call (by simp) rfl (by (conv => lhs; simp [cx, ioTab]) <;> rfl) (r196 h9) (by simp) (by simp) (by (conv => lhs; simp [cx, ioTab]) <;> rfl) (by (conv => lhs; simp) <;> rfl) ?_
      refine Wo.evs (by conv => lhs; simp) ?_
      refine Wo.nil ?_
      refine Wc.seq ?_
      refine Wc.evs (by conv => lhs; simp) ?_
      refine Wo.nil ?_
      by_cases kc10 : o8 ≠ 0
      · rw [if_pos kc10] at h
        refine Wc.condT' (t := _) (by conv => lhs; simp) (by simpa using kc10) ?_
        refine Wc.seq ?_
        refine Wc.kil (by conv => lhs; simp) ?_
        refine Wc.seq ?_
        refine Wc.evs (by conv => lhs; simp) ?_
        refine Wo.nil ?_
        refine Wc.ret ?_
        have e0 := hx _ (Option.some.inj h).symm
        subst e0
        exact ⟨rfl, by first | rfl | simp⟩
      · rw [if_neg kc10] at h
        refine Wc.condF' (t := _) (by conv => lhs; simp) (by simpa using kc10) ?_
        refine Wc.seq ?_
        refine Wc.kil (by conv => lhs; simp) ?_
        refine Wc.skip ?_
        refine Wc.evs (by conv => lhs; simp) ?_
        refine Wo.nil ?_
        refine Wc.start (V1 := [(0, .v (ssl eI s1)), (1, .v (ssl eI s2)), (9, .v (ssl eI s1)), (10, .v (.int .i64 (s1.length : Int))), (11, .v (.int .i64 (w64 (x_1 + 1))))]) ?_ (hk _ (Option.some.inj h).symm)
        first | rfl | simp
  · rw [if_neg kc2] at h
    refine Wc.condF' (t := _) (by conv => lhs; simp) (by simpa using kc2) ?_
    refine Wc.seq ?_
    refine Wc.kil (by conv => lhs; simp) ?_
    refine Wc.exit ?_
    have e0 := hx _ (Option.some.inj h).symm
    subst e0
    exact ⟨rfl, by first | rfl | simp⟩
theorem r181 {s1 : (List Int)} {s2 : (List Int)} {r : Int} (h : f181 s1 s2 = some r) : VJx cx (.ca 181 [(ssl eI s1), (ssl eI s2)] (.int .i64 r) []) := by
  unfold f181 at h
  refine ca_of rfl rfl (by decide) rfl ?_
  refine Wc.start (V1 := [(0, .v (ssl eI s1)), (1, .v (ssl eI s2))]) (by simp) ?_
  refine Wc.seq ?_
  refine Wc.evs (by conv => lhs; simp) ?_
  refine Wo.nil ?_
  refine Wc.seq ?_
  refine Wc.seq ?_
  refine Wc.evs (by conv => lhs; simp) ?_
  refine Wo.nil ?_
  refine Wc.block ?_
  obtain ⟨w11, h12, h⟩ := bind_some h
  refine Wc.start (V1 := [(0, .v (ssl eI s1)), (1, .v (ssl eI s2)), (9, .v (ssl eI s1)), (10, .v (.int .i64 (s1.length : Int))), (11, .v (.int .i64 0))]) (by first | rfl | simp) ?_
  refine Wc.mono (r181_0 _ _ h12) ?_
  rcases w11 with ⟨⟩ | x_13
  · rintro ex V ⟨rfl, rfl⟩
    try dsimp only at h
    refine Wc.seq ?_
    refine Wc.seq ?_
    refine Wc.evs (by conv => lhs; simp) ?_
    refine Wo.nil ?_
    by_cases kc14 : (s1.length : Int) < (s2.length : Int)
    · rw [if_pos kc14] at h
      refine Wc.condT' (t := _) (by conv => lhs; simp) (by simpa using kc14) ?_
      refine Wc.seq ?_
      refine Wc.kil (by conv => lhs; simp) ?_
      refine Wc.seq ?_
      refine Wc.evs (by conv => lhs; simp) ?_
      refine Wo.nil ?_
      refine Wc.ret (res_of (.inr rfl) ?_)
      cases h
      exact ⟨_, _, _, by conv => lhs; simp, by (conv => lhs; simp [cx, ioTab, List.range, List.range.loop]) <;> rfl, by first | rfl | simp⟩
    · rw [if_neg kc14] at h
      refine Wc.condF' (t := _) (by conv => lhs; simp) (by simpa using kc14) ?_
      refine Wc.seq ?_
      refine Wc.kil (by conv => lhs; simp) ?_
      refine Wc.skip ?_
      refine Wc.seq ?_
      refine Wc.evs (by conv => lhs; simp) ?_
      refine Wo.nil ?_
      refine Wc.ret (res_of (.inr rfl) ?_)
      cases h
      exact ⟨_, _, _, by conv => lhs; simp, by (conv => lhs; simp [cx, ioTab, List.range, List.range.loop]) <;> rfl, by first | rfl | simp⟩
  · rintro ex V ⟨rfl, rfl⟩
    try dsimp only at h
    refine res_of (.inr rfl) ?_
    cases h
    exact ⟨_, _, _, by conv => lhs; simp, by (conv => lhs; simp [cx, ioTab, List.range, List.range.loop]) <;> rfl, by first | rfl | simp⟩
theorem r146 {a : Fact} {b : Fact} {r : Int} (h : f146 a b = some r) : VJx cx (.ca 146 [(.agg [(.int .i64 a.Relation), (ssl eI a.Values)]), (.agg [(.int .i64 b.Relation), (ssl eI b.Values)])] (.int .i64 r) []) := by
  unfold f146 at h
  refine ca_of rfl rfl (by decide) rfl ?_
  refine Wc.start (V1 := [(0, .v (.agg [(.int .i64 a.Relation), (ssl eI a.Values)])), (1, .v (.agg [(.int .i64 b.Relation), (ssl eI b.Values)]))]) (by simp) ?_
  refine Wc.seq ?_
  refine Wc.evs (by conv => lhs; simp) ?_
  refine Wo.nil ?_
  refine Wc.seq ?_
  refine Wc.seq ?_
  refine Wc.evs (by conv => lhs; simp) ?_
  refine Wo.nil ?_
  by_cases kc1 : a.Relation ≠ b.Relation
  · rw [if_pos kc1] at h
    refine Wc.condT' (t := _) (by conv => lhs; simp) (by simpa using kc1) ?_
    refine Wc.seq ?_
    refine Wc.kil (by conv => lhs; simp) ?_
    refine Wc.seq ?_
    refine Wc.evs (by conv => lhs; simp) ?_
    obtain ⟨o2, h3, h⟩ := bind_some h
    refine Wo.call (by simp) rfl (by (conv => lhs; simp [cx, ioTab]) <;> rfl) (r180 h3) (by simp) (by simp) (by (conv => lhs; simp [cx, ioTab]) <;> rfl) (by (conv => lhs; simp) <;> rfl) ?_
    refine Wo.evs (by conv => lhs; simp) ?_
    refine Wo.nil ?_
    refine Wc.ret (res_of (.inr rfl) ?_)
    cases h
    exact ⟨_, _, _, by conv => lhs; simp, by (conv => lhs; simp [cx, ioTab, List.range, List.range.loop]) <;> rfl, by first | rfl | simp⟩
  · rw [if_neg kc1] at h
    refine Wc.condF' (t := _) (by conv => lhs; simp) (by simpa using kc1) ?_
    refine Wc.seq ?_
    refine Wc.kil (by conv => lhs; simp) ?_
    refine Wc.skip ?_
    refine Wc.seq ?_
    refine Wc.evs (by conv => lhs; simp) ?_
    obtain ⟨o4, h5, h⟩ := bind_some h
    refine Wo.call (by simp) rfl (by (conv => lhs; simp [cx, ioTab]) <;> rfl) (r181 h5) (by simp) (by simp) (by (conv => lhs; simp [cx, ioTab]) <;> rfl) (by (conv => lhs; simp) <;> rfl) ?_
    refine Wo.evs (by conv => lhs; simp) ?_
    refine Wo.nil ?_
    refine Wc.ret (res_of (.inr rfl) ?_)
    cases h
    exact ⟨_, _, _, by conv => lhs; simp, by (conv => lhs; simp [cx, ioTab, List.range, List.range.loop]) <;> rfl, by first | rfl | simp⟩
theorem r86_0 {db : Database} : ∀ zs zo, iter (f86_0 db) zs = some zo → Wc cx 44 (.loop L86_0) [(1, .v (.ptr true [(ssl eRelation db.Relations), (ssl eFact db.Facts)])), (16, .v (ssl eFact db.Facts)), (17, .v (.int .i64 (db.Facts.length : Int))), (18, .v (.int .i64 zs))] ((QO (QX 0 (fun (y : Unit) => [])) (QR (fun (y : Bool) => [(2, .v (.bool y))]))) zo) := by
  intro zs0 zo0 zh0
  refine iter_run (f := (f86_0 db)) (P := fun zs zo => Wc cx 44 (.loop L86_0) [(1, .v (.ptr true [(ssl eRelation db.Relations), (ssl eFact db.Facts)])), (16, .v (ssl eFact db.Facts)), (17, .v (.int .i64 (db.Facts.length : Int))), (18, .v (.int .i64 zs))] ((QO (QX 0 (fun (y : Unit) => [])) (QR (fun (y : Bool) => [(2, .v (.bool y))]))) zo)) ?_ zh0
  rintro x_7 zo zr h hk hx
  try dsimp only at hk ⊢
  rw [f86_0] at h
  refine Wc.loop ?_
  refine Wc.seq ?_
  refine Wc.evs (by conv => lhs; simp) ?_
  refine Wo.nil ?_
  refine Wc.seq ?_
  by_cases kc8 : x_7 < (db.Facts.length : Int)
  · rw [if_pos kc8] at h
    refine Wc.condT' (t := _) (by conv => lhs; simp) (by simpa using kc8) ?_
    refine Wc.seq ?_
    refine Wc.kil (by conv => lhs; simp) ?_
    refine Wc.skip ?_
    refine Wc.seq ?_
    refine Wc.block ?_
    refine Wc.seq ?_
    obtain ⟨v_9, h10, h⟩ := bind_some h
    obtain ⟨ga10, gb10, gc10⟩ := ix_some h10
    have gn10 := ix_ne h10
    have gd10 := arr_at (E := eFact) (b := false) gc10
    simp at gd10
    refine Wc.evs (by conv => lhs; simp [ga10, gb10, gn10, gd10]) ?_
    refine Wo.nil ?_
    refine Wc.seq ?_
    refine Wc.evs (by conv => lhs; simp) ?_
    obtain ⟨o11, h12, h⟩ := bind_some h
    refine Wo.call (by simp) rfl (by (conv => lhs; simp [cx, ioTab]) <;> rfl) (r145 h12) (by simp) (by simp) (by (conv => lhs; simp [cx, ioTab]) <;> rfl) (by (conv => lhs; simp) <;> rfl) ?_
    refine Wo.evk 2 (by conv => lhs; simp) ?_
    obtain ⟨w14, h15, h⟩ := bind_some h
    refine Wo.mono (Q := fun V => V = [(1, .v (.ptr true [(ssl eRelation db.Relations), (ssl eFact db.Facts)])), (16, .v (ssl eFact db.Facts)), (17, .v (.int .i64 (db.Facts.length : Int))), (18, .v (.int .i64 x_7)), (42, .v (.bool w14))]) ?_ ?_
    · by_cases knh15 : ¬ (o11 = true)
      · rw [if_pos knh15] at h15
        refine Wo.gh (vle_co (s := 28) (t1 := .bool true) rfl (by simp) (tle_bool (by simpa using knh15)) (by conv => lhs; simp)) ?_
        refine Wo.evs (by conv => lhs; simp) ?_
        refine Wo.nil ?_
        cases h15
        first | rfl | simp
      · rw [if_neg knh15] at h15
        refine Wo.gh (vle_co (s := 28) (t1 := .bool false) rfl (by simp) (tle_bool (by simpa using knh15)) (by conv => lhs; simp)) ?_
        refine Wo.evk 3 (by conv => lhs; simp) ?_
        obtain ⟨w17, h18, h15⟩ := bind_some h15
        refine Wo.mono (Q := fun V => V = [(1, .v (.ptr true [(ssl eRelation db.Relations), (ssl eFact db.Facts)])), (16, .v (ssl eFact db.Facts)), (17, .v (.int .i64 (db.Facts.length : Int))), (18, .v (.int .i64 x_7)), (42, .v (.bool w17))]) ?_ ?_
        · by_cases knh18 : x_7 > 0
          · rw [if_pos knh18] at h18
            refine Wo.gh (vle_co (s := 31) (t1 := .bool true) rfl (by simp) (tle_bool (by simpa using knh18)) (by conv => lhs; simp)) ?_
            obtain ⟨v_19, h20, h18⟩ := bind_some h18
            obtain ⟨ga20, gb20, gc20⟩ := ix_some h20
            have gn20 := ix_ne h20
            have gd20 := arr_at (E := eFact) (b := false) gc20
            simp at gd20
            refine Wo.evs (by conv => lhs; simp [ga20, gb20, gn20, gd20]) ?_
            obtain ⟨o21, h22, h18⟩ := bind_some h18
            refine Wo.call (by simp [ga20, gb20, gn20, gd20]) rfl (by (conv => lhs; simp [ga20, gb20, gn20, gd20, cx, ioTab]) <;> rfl) (r146 h22) (by simp) (by simp) (by (conv => lhs; simp [ga20, gb20, gn20, gd20, cx, ioTab]) <;> rfl) (by (conv => lhs; simp [ga20, gb20, gn20, gd20]) <;> rfl) ?_
            refine Wo.evs (by conv => lhs; simp [ga20, gb20, gn20, gd20]) ?_
            refine Wo.nil ?_
            cases h18
            first | rfl | simp [ga20, gb20, gn20, gd20]
          · rw [if_neg knh18] at h18
            refine Wo.gh (vle_co (s := 31) (t1 := .bool false) rfl (by simp) (tle_bool (by simpa using knh18)) (by conv => lhs; simp)) ?_
            refine Wo.evs (by conv => lhs; simp) ?_
            refine Wo.nil ?_
            cases h18
            first | rfl | simp
        · rintro V rfl
          generalize w17 = x_16 at *
          try dsimp only at h15
          cases h15
          first | rfl | simp
    · rintro V rfl
      generalize w14 = x_13 at *
      try dsimp only at h
      by_cases kc23 : x_13 = true
      · rw [if_pos kc23] at h
        refine Wc.condT' (t := _) (by conv => lhs; simp) (by simpa using kc23) ?_
        refine Wc.seq ?_
        refine Wc.kil (by conv => lhs; simp) ?_
        refine Wc.seq ?_
        refine Wc.evs (by conv => lhs; simp) ?_
        refine Wo.nil ?_
        refine Wc.ret ?_
        have e0 := hx _ (Option.some.inj h).symm
        subst e0
        exact ⟨rfl, by first | rfl | simp⟩
      · rw [if_neg kc23] at h
        refine Wc.condF' (t := _) (by conv => lhs; simp) (by simpa using kc23) ?_
        refine Wc.seq ?_
        refine Wc.kil (by conv => lhs; simp) ?_
        refine Wc.skip ?_
        refine Wc.evs (by conv => lhs; simp) ?_
        refine Wo.nil ?_
        refine Wc.start (V1 := [(1, .v (.ptr true [(ssl eRelation db.Relations), (ssl eFact db.Facts)])), (16, .v (ssl eFact db.Facts)), (17, .v (.int .i64 (db.Facts.length : Int))), (18, .v (.int .i64 (w64 (x_7 + 1))))]) ?_ (hk _ (Option.some.inj h).symm)
        first | rfl | simp
  · rw [if_neg kc8] at h
    refine Wc.condF' (t := _) (by conv => lhs; simp) (by simpa using kc8) ?_
    refine Wc.seq ?_
    refine Wc.kil (by conv => lhs; simp) ?_
    refine Wc.exit ?_
    have e0 := hx _ (Option.some.inj h).symm
    subst e0
    exact ⟨rfl, by first | rfl | simp⟩
theorem r86 {db : Database} {r : Bool} (h : f86 db = some r) : VJx cx (.ca 86 [(.agg [(ssl eRelation db.Relations), (ssl eFact db.Facts)])] (.bool r) []) := by
  unfold f86 at h
  refine ca_of rfl rfl (by decide) rfl ?_
  refine Wc.start (V1 := [(0, .v (.agg [(ssl eRelation db.Relations), (ssl eFact db.Facts)]))]) (by simp) ?_
  refine Wc.seq ?_
  refine Wc.evs (by conv => lhs; simp) ?_
  refine Wo.nil ?_
  refine Wc.seq ?_
  refine Wc.seq ?_
  refine Wc.evs (by conv => lhs; simp) ?_
  obtain ⟨o1, h2, h⟩ := bind_some h
  refine Wo.call (by simp) rfl (by (conv => lhs; simp [cx, ioTab]) <;> rfl) (r116 h2) (by simp) (by simp) (by (conv => lhs; simp [cx, ioTab]) <;> rfl) (by (conv => lhs; simp) <;> rfl) ?_
  refine Wo.evk 2 (by conv => lhs; simp) ?_
  obtain ⟨w4, h5, h⟩ := bind_some h
  refine Wo.mono (Q := fun V => V = [(1, .v (.ptr true [(ssl eRelation db.Relations), (ssl eFact db.Facts)])), (14, .v (.bool w4))]) ?_ ?_
  · by_cases knh5 : ¬ (o1 = true)
    · rw [if_pos knh5] at h5
      refine Wo.gh (vle_co (s := 9) (t1 := .bool true) rfl (by simp) (tle_bool (by simpa using knh5)) (by conv => lhs; simp)) ?_
      refine Wo.evs (by conv => lhs; simp) ?_
      refine Wo.nil ?_
      cases h5
      first | rfl | simp
    · rw [if_neg knh5] at h5
      refine Wo.gh (vle_co (s := 9) (t1 := .bool false) rfl (by simp) (tle_bool (by simpa using knh5)) (by conv => lhs; simp)) ?_
      refine Wo.evs (by conv => lhs; simp) ?_
      refine Wo.nil ?_
      cases h5
      first | rfl | simp
  · rintro V rfl
    generalize w4 = x_3 at *
    try dsimp only at h
    by_cases kc6 : x_3 = true
    · rw [if_pos kc6] at h
      refine Wc.condT' (t := _) (by conv => lhs; simp) (by simpa using kc6) ?_
      refine Wc.seq ?_
      refine Wc.kil (by conv => lhs; simp) ?_
      refine Wc.seq ?_
      refine Wc.evs (by conv => lhs; simp) ?_
      refine Wo.nil ?_
      refine Wc.ret (res_of (.inr rfl) ?_)
      cases h
      exact ⟨_, _, _, by conv => lhs; simp, by (conv => lhs; simp [cx, ioTab, List.range, List.range.loop]) <;> rfl, by first | rfl | simp⟩
    · rw [if_neg kc6] at h
      refine Wc.condF' (t := _) (by conv => lhs; simp) (by simpa using kc6) ?_
      refine Wc.seq ?_
      refine Wc.kil (by conv => lhs; simp) ?_
      refine Wc.skip ?_
      refine Wc.seq ?_
      refine Wc.seq ?_
      refine Wc.evs (by conv => lhs; simp) ?_
      refine Wo.nil ?_
      refine Wc.block ?_
      obtain ⟨w24, h25, h⟩ := bind_some h
      refine Wc.start (V1 := [(1, .v (.ptr true [(ssl eRelation db.Relations), (ssl eFact db.Facts)])), (16, .v (ssl eFact db.Facts)), (17, .v (.int .i64 (db.Facts.length : Int))), (18, .v (.int .i64 0))]) (by first | rfl | simp) ?_
      refine Wc.mono (r86_0 _ _ h25) ?_
      rcases w24 with ⟨⟩ | x_26
      · rintro ex V ⟨rfl, rfl⟩
        try dsimp only at h
        refine Wc.seq ?_
        refine Wc.evs (by conv => lhs; simp) ?_
        refine Wo.nil ?_
        refine Wc.ret (res_of (.inr rfl) ?_)
        cases h
        exact ⟨_, _, _, by conv => lhs; simp, by (conv => lhs; simp [cx, ioTab, List.range, List.range.loop]) <;> rfl, by first | rfl | simp⟩
      · rintro ex V ⟨rfl, rfl⟩
        try dsimp only at h
        refine res_of (.inr rfl) ?_
        cases h
        exact ⟨_, _, _, by conv => lhs; simp, by (conv => lhs; simp [cx, ioTab, List.range, List.range.loop]) <;> rfl, by first | rfl | simp⟩
theorem r101_0 {indices : (List Int)} {n1 : Int} : ∀ zs zo, iter (f101_0 indices n1) zs = some zo → Wc cx 33 (.loop L101_0) [(0, .v (ssl eI indices)), (1, .v (.int .i64 n1)), (7, .v (ssl eI indices)), (8, .v (.int .i64 (indices.length : Int))), (9, .v (.int .i64 zs))] ((QO (QX 0 (fun (y : Unit) => [])) (QR (fun (y : Bool) => [(4, .v (.bool y))]))) zo) := by
  intro zs0 zo0 zh0
  refine iter_run (f := (f101_0 indices n1)) (P := fun zs zo => Wc cx 33 (.loop L101_0) [(0, .v (ssl eI indices)), (1, .v (.int .i64 n1)), (7, .v (ssl eI indices)), (8, .v (.int .i64 (indices.length : Int))), (9, .v (.int .i64 zs))] ((QO (QX 0 (fun (y : Unit) => [])) (QR (fun (y : Bool) => [(4, .v (.bool y))]))) zo)) ?_ zh0
  rintro x_1 zo zr h hk hx
  try dsimp only at hk ⊢
  rw [f101_0] at h
  refine Wc.loop ?_
  refine Wc.seq ?_
  refine Wc.evs (by conv => lhs; simp) ?_
  refine Wo.nil ?_
  refine Wc.seq ?_
  by_cases kc2 : x_1 < (indices.length : Int)
  · rw [if_pos kc2] at h
    refine Wc.condT' (t := _) (by conv => lhs; simp) (by simpa using kc2) ?_
    refine Wc.seq ?_
    refine Wc.kil (by conv => lhs; simp) ?_
    refine Wc.skip ?_
    refine Wc.seq ?_
    refine Wc.block ?_
    refine Wc.seq ?_
    obtain ⟨v_3, h4, h⟩ := bind_some h
    obtain ⟨ga4, gb4, gc4⟩ := ix_some h4
    have gn4 := ix_ne h4
    have gd4 := arr_at (E := eI) (b := false) gc4
    simp at gd4
    refine Wc.evs (by conv => lhs; simp [ga4, gb4, gn4, gd4]) ?_
    refine Wo.nil ?_
    refine Wc.seq ?_
    refine Wc.evs (by conv => lhs; simp) ?_
    obtain ⟨o5, h6, h⟩ := bind_some h
    refine Wo.call (by simp) rfl (by (conv => lhs; simp [cx, ioTab]) <;> rfl) (r87 h6) (by simp) (by simp) (by (conv => lhs; simp [cx, ioTab]) <;> rfl) (by (conv => lhs; simp) <;> rfl) ?_
    refine Wo.evk 2 (by conv => lhs; simp) ?_
    obtain ⟨w8, h9, h⟩ := bind_some h
    refine Wo.mono (Q := fun V => V = [(0, .v (ssl eI indices)), (1, .v (.int .i64 n1)), (7, .v (ssl eI indices)), (8, .v (.int .i64 (indices.length : Int))), (9, .v (.int .i64 x_1)), (31, .v (.bool w8))]) ?_ ?_
    · by_cases knh9 : ¬ (o5 = true)
      · rw [if_pos knh9] at h9
        refine Wo.gh (vle_co (s := 19) (t1 := .bool true) rfl (by simp) (tle_bool (by simpa using knh9)) (by conv => lhs; simp)) ?_
        refine Wo.evs (by conv => lhs; simp) ?_
        refine Wo.nil ?_
        cases h9
        first | rfl | simp
      · rw [if_neg knh9] at h9
        refine Wo.gh (vle_co (s := 19) (t1 := .bool false) rfl (by simp) (tle_bool (by simpa using knh9)) (by conv => lhs; simp)) ?_
        refine Wo.evk 3 (by conv => lhs; simp) ?_
        obtain ⟨w11, h12, h9⟩ := bind_some h9
        refine Wo.mono (Q := fun V => V = [(0, .v (ssl eI indices)), (1, .v (.int .i64 n1)), (7, .v (ssl eI indices)), (8, .v (.int .i64 (indices.length : Int))), (9, .v (.int .i64 x_1)), (31, .v (.bool w11))]) ?_ ?_
        · by_cases knh12 : x_1 > 0
          · rw [if_pos knh12] at h12
            refine Wo.gh (vle_co (s := 22) (t1 := .bool true) rfl (by simp) (tle_bool (by simpa using knh12)) (by conv => lhs; simp)) ?_
            obtain ⟨v_13, h14, h12⟩ := bind_some h12
            obtain ⟨ga14, gb14, gc14⟩ := ix_some h14
            have gn14 := ix_ne h14
            have gd14 := arr_at (E := eI) (b := false) gc14
            simp at gd14
            refine Wo.evs (by conv => lhs; simp [ga14, gb14, gn14, gd14]) ?_
            refine Wo.nil ?_
            cases h12
            first | rfl | simp [ga14, gb14, gn14, gd14]
          · rw [if_neg knh12] at h12
            refine Wo.gh (vle_co (s := 22) (t1 := .bool false) rfl (by simp) (tle_bool (by simpa using knh12)) (by conv => lhs; simp)) ?_
            refine Wo.evs (by conv => lhs; simp) ?_
            refine Wo.nil ?_
            cases h12
            first | rfl | simp
        · rintro V rfl
          generalize w11 = x_10 at *
          try dsimp only at h9
          cases h9
          first | rfl | simp
    · rintro V rfl
      generalize w8 = x_7 at *
      try dsimp only at h
      by_cases kc15 : x_7 = true
      · rw [if_pos kc15] at h
        refine Wc.condT' (t := _) (by conv => lhs; simp) (by simpa using kc15) ?_
        refine Wc.seq ?_
        refine Wc.kil (by conv => lhs; simp) ?_
        refine Wc.seq ?_
        refine Wc.evs (by conv => lhs; simp) ?_
        refine Wo.nil ?_
        refine Wc.ret ?_
        have e0 := hx _ (Option.some.inj h).symm
        subst e0
        exact ⟨rfl, by first | rfl | simp⟩
      · rw [if_neg kc15] at h
        refine Wc.condF' (t := _) (by conv => lhs; simp) (by simpa using kc15) ?_
        refine Wc.seq ?_
        refine Wc.kil (by conv => lhs; simp) ?_
        refine Wc.skip ?_
        refine Wc.evs (by conv => lhs; simp) ?_
        refine Wo.nil ?_
        refine Wc.start (V1 := [(0, .v (ssl eI indices)), (1, .v (.int .i64 n1)), (7, .v (ssl eI indices)), (8, .v (.int .i64 (indices.length : Int))), (9, .v (.int .i64 (w64 (x_1 + 1))))]) ?_ (hk _ (Option.some.inj h).symm)
        first | rfl | simp
  · rw [if_neg kc2] at h
    refine Wc.condF' (t := _) (by conv => lhs; simp) (by simpa using kc2) ?_
    refine Wc.seq ?_
    refine Wc.kil (by conv => lhs; simp) ?_
    refine Wc.exit ?_
    have e0 := hx _ (Option.some.inj h).symm
    subst e0
    exact ⟨rfl, by first | rfl | simp⟩
theorem r101 {indices : (List Int)} {n1 : Int} {r : Bool} (h : f101 indices n1 = some r) : VJx cx (.ca 101 [(ssl eI indices), (.int .i64 n1)] (.bool r) []) := by
  unfold f101 at h
  refine ca_of rfl rfl (by decide) rfl ?_
  refine Wc.start (V1 := [(0, .v (ssl eI indices)), (1, .v (.int .i64 n1))]) (by simp) ?_
  refine Wc.seq ?_
  refine Wc.evs (by conv => lhs; simp) ?_
  refine Wo.nil ?_
  refine Wc.seq ?_
  refine Wc.seq ?_
  refine Wc.evs (by conv => lhs; simp) ?_
  refine Wo.nil ?_
  refine Wc.block ?_
  obtain ⟨w16, h17, h⟩ := bind_some h
  refine Wc.start (V1 := [(0, .v (ssl eI indices)), (1, .v (.int .i64 n1)), (7, .v (ssl eI indices)), (8, .v (.int .i64 (indices.length : Int))), (9, .v (.int .i64 0))]) (by first | rfl | simp) ?_
  refine Wc.mono (r101_0 _ _ h17) ?_
  rcases w16 with ⟨⟩ | x_18
  · rintro ex V ⟨rfl, rfl⟩
    try dsimp only at h
    refine Wc.seq ?_
    refine Wc.evs (by conv => lhs; simp) ?_
    refine Wo.nil ?_
    refine Wc.ret (res_of (.inr rfl) ?_)
    cases h
    exact ⟨_, _, _, by conv => lhs; simp, by (conv => lhs; simp [cx, ioTab, List.range, List.range.loop]) <;> rfl, by first | rfl | simp⟩
  · rintro ex V ⟨rfl, rfl⟩
    try dsimp only at h
    refine res_of (.inr rfl) ?_
    cases h
    exact ⟨_, _, _, by conv => lhs; simp, by (conv => lhs; simp [cx, ioTab, List.range, List.range.loop]) <;> rfl, by first | rfl | simp⟩
theorem r182_0 {s1 : (List Int)} {s2 : (List Int)} : ∀ zs zo, iter (f182_0 s1 s2) zs = some zo → Wc cx 26 (.loop L182_0) [(0, .v (ssl eI s1)), (1, .v (ssl eI s2)), (12, .v (.int .i64 (s1.length : Int))), (13, .v (.int .i64 zs))] ((QO (QX 0 (fun (y : Unit) => [])) (QR (fun (y : Bool) => [(4, .v (.bool y))]))) zo) := by
  intro zs0 zo0 zh0
  refine iter_run (f := (f182_0 s1 s2)) (P := fun zs zo => Wc cx 26 (.loop L182_0) [(0, .v (ssl eI s1)), (1, .v (ssl eI s2)), (12, .v (.int .i64 (s1.length : Int))), (13, .v (.int .i64 zs))] ((QO (QX 0 (fun (y : Unit) => [])) (QR (fun (y : Bool) => [(4, .v (.bool y))]))) zo)) ?_ zh0
  rintro x_2 zo zr h hk hx
  try dsimp only at hk ⊢
  rw [f182_0] at h
  refine Wc.loop ?_
  refine Wc.seq ?_
  refine Wc.evs (by conv => lhs; simp) ?_
  refine Wo.nil ?_
  refine Wc.seq ?_
  by_cases kc3 : x_2 < (s1.length : Int)
  · rw [if_pos kc3] at h
    refine Wc.condT' (t := _) (by conv => lhs; simp) (by simpa using kc3) ?_
    refine Wc.seq ?_
    refine Wc.kil (by conv => lhs; simp) ?_
    refine Wc.skip ?_
    refine Wc.seq ?_
    refine Wc.block ?_
    refine Wc.seq ?_
    refine Wc.evs (by conv => lhs; simp) ?_
    refine Wo.nil ?_
    refine Wc.seq ?_
    obtain ⟨v_4, h5, h⟩ := bind_some h
    obtain ⟨ga5, gb5, gc5⟩ := ix_some h5
    have gn5 := ix_ne h5
    have gd5 := arr_at (E := eI) (b := false) gc5
    simp at gd5
    obtain ⟨v_6, h7, h⟩ := bind_some h
    obtain ⟨ga7, gb7, gc7⟩ := ix_some h7
    have gn7 := ix_ne h7
    have gd7 := arr_at (E := eI) (b := false) gc7
    simp at gd7
    refine Wc.evs (by conv => lhs; simp [ga5, gb5, gn5, gd5, ga7, gb7, gn7, gd7]) ?_
    refine Wo.nil ?_
    by_cases kc8 : v_4 ≠ v_6
    · rw [if_pos kc8] at h
      refine Wc.condT' (t := _) (by conv => lhs; simp) (by simpa using kc8) ?_
      refine Wc.seq ?_
      refine Wc.kil (by conv => lhs; simp) ?_
      refine Wc.seq ?_
      refine Wc.evs (by conv => lhs; simp) ?_
      refine Wo.nil ?_
      refine Wc.ret ?_
      have e0 := hx _ (Option.some.inj h).symm
      subst e0
      exact ⟨rfl, by first | rfl | simp⟩
    · rw [if_neg kc8] at h
      refine Wc.condF' (t := _) (by conv => lhs; simp) (by simpa using kc8) ?_
      refine Wc.seq ?_
      refine Wc.kil (by conv => lhs; simp) ?_
      refine Wc.skip ?_
      refine Wc.evs (by conv => lhs; simp) ?_
      refine Wo.nil ?_
      refine Wc.start (V1 := [(0, .v (ssl eI s1)), (1, .v (ssl eI s2)), (12, .v (.int .i64 (s1.length : Int))), (13, .v (.int .i64 (w64 (x_2 + 1))))]) ?_ (hk _ (Option.some.inj h).symm)
      first | rfl | simp
  · rw [if_neg kc3] at h
    refine Wc.condF' (t := _) (by conv => lhs; simp) (by simpa using kc3) ?_
    refine Wc.seq ?_
    refine Wc.kil (by conv => lhs; simp) ?_
    refine Wc.exit ?_
    have e0 := hx _ (Option.some.inj h).symm
    subst e0
    exact ⟨rfl, by first | rfl | simp⟩
theorem r182 {s1 : (List Int)} {s2 : (List Int)} {r : Bool} (h : f182 s1 s2 = some r) : VJx cx (.ca 182 [(ssl eI s1), (ssl eI s2)] (.bool r) []) := by
  unfold f182 at h
  refine ca_of rfl rfl (by decide) rfl ?_
  refine Wc.start (V1 := [(0, .v (ssl eI s1)), (1, .v (ssl eI s2))]) (by simp) ?_
  refine Wc.seq ?_
  refine Wc.evs (by conv => lhs; simp) ?_
  refine Wo.nil ?_
  refine Wc.seq ?_
  refine Wc.seq ?_
  refine Wc.evs (by conv => lhs; simp) ?_
  refine Wo.nil ?_
  by_cases kc1 : (s1.length : Int) ≠ (s2.length : Int)
  · rw [if_pos kc1] at h
    refine Wc.condT' (t := _) (by conv => lhs; simp) (by simpa using kc1) ?_
    refine Wc.seq ?_
    refine Wc.kil (by conv => lhs; simp) ?_
    refine Wc.seq ?_
    refine Wc.evs (by conv => lhs; simp) ?_
    refine Wo.nil ?_
    refine Wc.ret (res_of (.inr rfl) ?_)
    cases h
    exact ⟨_, _, _, by conv => lhs; simp, by (conv => lhs; simp [cx, ioTab, List.range, List.range.loop]) <;> rfl, by first | rfl | simp⟩
  · rw [if_neg kc1] at h
    refine Wc.condF' (t := _) (by conv => lhs; simp) (by simpa using kc1) ?_
    refine Wc.seq ?_
    refine Wc.kil (by conv => lhs; simp) ?_
    refine Wc.skip ?_
    refine Wc.seq ?_
    refine Wc.seq ?_
    refine Wc.evs (by conv => lhs; simp) ?_
    refine Wo.nil ?_
    refine Wc.block ?_
    obtain ⟨w9, h10, h⟩ := bind_some h
    refine Wc.start (V1 := [(0, .v (ssl eI s1)), (1, .v (ssl eI s2)), (12, .v (.int .i64 (s1.length : Int))), (13, .v (.int .i64 0))]) (by first | rfl | simp) ?_
    refine Wc.mono (r182_0 _ _ h10) ?_
    rcases w9 with ⟨⟩ | x_11
    · rintro ex V ⟨rfl, rfl⟩
      try dsimp only at h
      refine Wc.seq ?_
      refine Wc.evs (by conv => lhs; simp) ?_
      refine Wo.nil ?_
      refine Wc.ret (res_of (.inr rfl) ?_)
      cases h
      exact ⟨_, _, _, by conv => lhs; simp, by (conv => lhs; simp [cx, ioTab, List.range, List.range.loop]) <;> rfl, by first | rfl | simp⟩
    · rintro ex V ⟨rfl, rfl⟩
      try dsimp only at h
      refine res_of (.inr rfl) ?_
      cases h
      exact ⟨_, _, _, by conv => lhs; simp, by (conv => lhs; simp [cx, ioTab, List.range, List.range.loop]) <;> rfl, by first | rfl | simp⟩
theorem r149 {relations : (List Relation)} {a : Fact} {b : Fact} {r : Bool} (h : f149 relations a b = some r) : VJx cx (.ca 149 [(ssl eRelation relations), (.agg [(.int .i64 a.Relation), (ssl eI a.Values)]), (.agg [(.int .i64 b.Relation), (ssl eI b.Values)])] (.bool r) []) := by
  unfold f149 at h
  refine ca_of rfl rfl (by decide) rfl ?_
  refine Wc.start (V1 := [(0, .v (ssl eRelation relations)), (1, .v (.agg [(.int .i64 a.Relation), (ssl eI a.Values)])), (2, .v (.agg [(.int .i64 b.Relation), (ssl eI b.Values)]))]) (by simp) ?_
  refine Wc.seq ?_
  refine Wc.evs (by conv => lhs; simp) ?_
  refine Wo.nil ?_
  refine Wc.seq ?_
  refine Wc.seq ?_
  refine Wc.evs (by conv => lhs; simp) ?_
  refine Wo.nil ?_
  by_cases kc1 : a.Relation ≠ b.Relation
  · rw [if_pos kc1] at h
    refine Wc.condT' (t := _) (by conv => lhs; simp) (by simpa using kc1) ?_
    refine Wc.seq ?_
    refine Wc.kil (by conv => lhs; simp) ?_
    refine Wc.seq ?_
    refine Wc.evs (by conv => lhs; simp) ?_
    refine Wo.nil ?_
    refine Wc.ret (res_of (.inr rfl) ?_)
    cases h
    exact ⟨_, _, _, by conv => lhs; simp, by (conv => lhs; simp [cx, ioTab, List.range, List.range.loop]) <;> rfl, by first | rfl | simp⟩
  · rw [if_neg kc1] at h
    refine Wc.condF' (t := _) (by conv => lhs; simp) (by simpa using kc1) ?_
    refine Wc.seq ?_
    refine Wc.kil (by conv => lhs; simp) ?_
    refine Wc.skip ?_
    refine Wc.seq ?_
    obtain ⟨v_2, h3, h⟩ := bind_some h
    obtain ⟨ga3, gb3, gc3⟩ := ix_some h3
    have gn3 := ix_ne h3
    have gd3 := arr_at (E := eRelation) (b := false) gc3
    simp at gd3
    refine Wc.evs (by conv => lhs; simp [ga3, gb3, gn3, gd3]) ?_
    refine Wo.nil ?_
    refine Wc.seq ?_
    obtain ⟨l_4, h5, h⟩ := bind_some h
    obtain ⟨ga5, gb5, gc5, ge5⟩ := cut_some h5
    simp at ge5
    obtain ⟨l_6, h7, h⟩ := bind_some h
    obtain ⟨ga7, gb7, gc7, ge7⟩ := cut_some h7
    simp at ge7
    refine Wc.evs (by conv => lhs; simp [ga5, gb5, gc5, ge5, ga7, gb7, gc7, ge7]) ?_
    obtain ⟨o8, h9, h⟩ := bind_some h
    refine Wo.call (by simp) rfl (by (conv => lhs; simp [ga5, gb5, gc5, ge5, ga7, gb7, gc7, ge7, cx, ioTab]) <;> rfl) (r182 h9) (by simp) (by simp) (by (conv => lhs; simp [ga5, gb5, gc5, ge5, ga7, gb7, gc7, ge7, cx, ioTab]) <;> rfl) (by (conv => lhs; simp [ga5, gb5, gc5, ge5, ga7, gb7, gc7, ge7]) <;> rfl) ?_
    refine Wo.evs (by conv => lhs; simp [ga5, gb5, gc5, ge5, ga7, gb7, gc7, ge7]) ?_
    refine Wo.nil ?_
    refine Wc.ret (res_of (.inr rfl) ?_)
    cases h
    exact ⟨_, _, _, by conv => lhs; simp, by (conv => lhs; simp [cx, ioTab, List.range, List.range.loop]) <;> rfl, by first | rfl | simp [ga5, gb5, gc5, ge5, ga7, gb7, gc7, ge7]⟩
theorem r102_0 {db : Database} : ∀ zs zo, iter (f102_0 db) zs = some zo → Wc cx 54 (.loop L102_0) [(1, .v (.ptr true [(ssl eRelation db.Relations), (ssl eFact db.Facts)])), (3, .v (osl (eL eI) true zs.1)), (9, .v (ssl eFact db.Facts)), (10, .v (.int .i64 (db.Facts.length : Int))), (11, .v (.int .i64 zs.2))] ((QX 0 (fun (y : (List (List Int))) => [(3, .v (osl (eL eI) true y))])) zo) := by
  intro zs0 zo0 zh0
  refine iter_run (f := (f102_0 db)) (P := fun zs zo => Wc cx 54 (.loop L102_0) [(1, .v (.ptr true [(ssl eRelation db.Relations), (ssl eFact db.Facts)])), (3, .v (osl (eL eI) true zs.1)), (9, .v (ssl eFact db.Facts)), (10, .v (.int .i64 (db.Facts.length : Int))), (11, .v (.int .i64 zs.2))] ((QX 0 (fun (y : (List (List Int))) => [(3, .v (osl (eL eI) true y))])) zo)) ?_ zh0
  rintro ⟨out_1, x_2⟩ zo zr h hk hx
  try dsimp only at hk ⊢
  rw [f102_0] at h
  refine Wc.loop ?_
  refine Wc.seq ?_
  refine Wc.evs (by conv => lhs; simp) ?_
  refine Wo.nil ?_
  refine Wc.seq ?_
  by_cases kc3 : x_2 < (db.Facts.length : Int)
  · rw [if_pos kc3] at h
    refine Wc.condT' (t := _) (by conv => lhs; simp) (by simpa using kc3) ?_
    refine Wc.seq ?_
    refine Wc.kil (by conv => lhs; simp) ?_
    refine Wc.skip ?_
    refine Wc.seq ?_
    refine Wc.block ?_
    refine Wc.seq ?_
    obtain ⟨v_4, h5, h⟩ := bind_some h
    obtain ⟨ga5, gb5, gc5⟩ := ix_some h5
    have gn5 := ix_ne h5
    have gd5 := arr_at (E := eFact) (b := false) gc5
    simp at gd5
    refine Wc.evs (by conv => lhs; simp [ga5, gb5, gn5, gd5]) ?_
    refine Wo.nil ?_
    refine Wc.seq ?_
    refine Wc.evs (by conv => lhs; simp) ?_
    refine Wo.nil ?_
    refine Wc.seq ?_
    refine Wc.evk 3 (by conv => lhs; simp) ?_
    obtain ⟨w7, h8, h⟩ := bind_some h
    refine Wo.mono (Q := fun V => V = [(1, .v (.ptr true [(ssl eRelation db.Relations), (ssl eFact db.Facts)])), (3, .v (osl (eL eI) true out_1)), (4, .v (.int .i64 x_2)), (6, .v (.int .i64 (w64 ((out_1.length : Int) - 1)))), (9, .v (ssl eFact db.Facts)), (10, .v (.int .i64 (db.Facts.length : Int))), (11, .v (.int .i64 x_2)), (36, .v (.bool w7))]) ?_ ?_
    · by_cases knh8 : (w64 ((out_1.length : Int) - 1)) ≥ 0
      · rw [if_pos knh8] at h8
        refine Wo.gh (vle_co (s := 21) (t1 := .bool true) rfl (by simp) (tle_bool (by simpa using knh8)) (by conv => lhs; simp)) ?_
        obtain ⟨v_9, h10, h8⟩ := bind_some h8
        obtain ⟨ga10, gb10, gc10⟩ := ix_some h10
        have gn10 := ix_ne h10
        have gf10 := arr_fit (E := (eL eI)) (b := true) (i := (w64 ((out_1.length : Int) - 1)).toNat) (l := out_1) (by omega)
        have gg10_0 := arr_get (E := (eL eI)) (b := true) (o := 0) gc10 (by decide)
        simp at gf10 gg10_0
        have gl10 : (w64 ((out_1.length : Int) - 1)).toNat < out_1.length := by omega
        obtain ⟨v_11, h12, h8⟩ := bind_some h8
        obtain ⟨ga12, gb12, gc12⟩ := ix_some h12
        have gn12 := ix_ne h12
        have gf12 := arr_fit (E := eI) (b := true) (i := (0 : Int).toNat) (l := v_9) (by omega)
        have gg12_0 := arr_get (E := eI) (b := true) (o := 0) gc12 (by decide)
        simp at gf12 gg12_0
        have gl12 : (0 : Int).toNat < v_9.length := by omega
        have gk12 : 0 < v_9.length := by omega
        obtain ⟨v_13, h14, h8⟩ := bind_some h8
        obtain ⟨ga14, gb14, gc14⟩ := ix_some h14
        have gn14 := ix_ne h14
        have gd14 := arr_at (E := eFact) (b := false) gc14
        simp at gd14
        refine Wo.evs (by conv => lhs; simp [-getElem?_pos, List.getElem?_cons_zero, List.getElem?_cons_succ, ga10, gb10, gn10, gf10, gg10_0, gl10, gb12, gn12, gf12, gg12_0, gl12, gk12, ga14, gb14, gn14, gd14, ga5, gb5, gn5, gd5]) ?_
        obtain ⟨o15, h16, h8⟩ := bind_some h8
        refine Wo.call (by simp [-getElem?_pos, List.getElem?_cons_zero, List.getElem?_cons_succ, ga10, gb10, gn10, gf10, gg10_0, gl10, gb12, gn12, gf12, gg12_0, gl12, gk12, ga14, gb14, gn14, gd14, ga5, gb5, gn5, gd5]) rfl (by (conv => lhs; simp [-getElem?_pos, List.getElem?_cons_zero, List.getElem?_cons_succ, ga10, gb10, gn10, gf10, gg10_0, gl10, gb12, gn12, gf12, gg12_0, gl12, gk12, ga14, gb14, gn14, gd14, ga5, gb5, gn5, gd5, cx, ioTab]) <;> rfl) (r149 h16) (by simp) (by simp) (by (conv => lhs; simp [-getElem?_pos, List.getElem?_cons_zero, List.getElem?_cons_succ, ga10, gb10, gn10, gf10, gg10_0, gl10, gb12, gn12, gf12, gg12_0, gl12, gk12, ga14, gb14, gn14, gd14, ga5, gb5, gn5, gd5, cx, ioTab]) <;> rfl) (by (conv => lhs; simp [-getElem?_pos, List.getElem?_cons_zero, List.getElem?_cons_succ, ga10, gb10, gn10, gf10, gg10_0, gl10, gb12, gn12, gf12, gg12_0, gl12, gk12, ga14, gb14, gn14, gd14, ga5, gb5, gn5, gd5]) <;> rfl) ?_
        refine Wo.evs (by conv => lhs; simp [-getElem?_pos, List.getElem?_cons_zero, List.getElem?_cons_succ, ga10, gb10, gn10, gf10, gg10_0, gl10, gb12, gn12, gf12, gg12_0, gl12, gk12, ga14, gb14, gn14, gd14, ga5, gb5, gn5, gd5]) ?_
        refine Wo.nil ?_
        cases h8
        first | rfl | simp [-getElem?_pos, List.getElem?_cons_zero, List.getElem?_cons_succ, ga10, gb10, gn10, gf10, gg10_0, gl10, gb12, gn12, gf12, gg12_0, gl12, gk12, ga14, gb14, gn14, gd14, ga5, gb5, gn5, gd5]
      · rw [if_neg knh8] at h8
        refine Wo.gh (vle_co (s := 21) (t1 := .bool false) rfl (by simp) (tle_bool (by simpa using knh8)) (by conv => lhs; simp)) ?_
        refine Wo.evs (by conv => lhs; simp [ga5, gb5, gn5, gd5]) ?_
        refine Wo.nil ?_
        cases h8
        first | rfl | simp [ga5, gb5, gn5, gd5]
    · rintro V rfl
      generalize w7 = x_6 at *
      try dsimp only at h
      obtain ⟨w17, h18, h⟩ := bind_some h
      refine Wc.mono (Q := (QN (fun (y : (List (List Int))) => [(1, .v (.ptr true [(ssl eRelation db.Relations), (ssl eFact db.Facts)])), (3, .v (osl (eL eI) true y)), (9, .v (ssl eFact db.Facts)), (10, .v (.int .i64 (db.Facts.length : Int))), (11, .v (.int .i64 x_2))])) w17) ?_ ?_
      · skip
        by_cases kc19 : x_6 = true
        · rw [if_pos kc19] at h18
          refine Wc.condT' (t := _) (by conv => lhs; simp) (by simpa using kc19) ?_
          refine Wc.seq ?_
          refine Wc.kil (by conv => lhs; simp) ?_
          obtain ⟨v_20, h21, h18⟩ := bind_some h18
          obtain ⟨ga21, gb21, gc21⟩ := ix_some h21
          have gn21 := ix_ne h21
          have gf21 := arr_fit (E := (eL eI)) (b := true) (i := (w64 ((out_1.length : Int) - 1)).toNat) (l := out_1) (by omega)
          have gg21_0 := arr_get (E := (eL eI)) (b := true) (o := 0) gc21 (by decide)
          simp at gf21 gg21_0
          have gl21 : (w64 ((out_1.length : Int) - 1)).toNat < out_1.length := by omega
          obtain ⟨l_22, h23, h18⟩ := bind_some h18
          have gx23 := appT_arr (E := eI) (b := true) (y := true) h23 (by decide)
          simp at gx23
          have gy24 := lay_set (E := (eL eI)) (b := true) (i := (w64 ((out_1.length : Int) - 1)).toNat) (l := out_1) l_22 (by omega)
          simp at gy24
          refine Wc.evs (by conv => lhs; simp [-getElem?_pos, List.getElem?_cons_zero, List.getElem?_cons_succ, ga21, gb21, gn21, gf21, gg21_0, gl21, gx23, gy24, ga5, gb5, gn5, gd5]) ?_
          refine Wo.nil ?_
          cases h18
          exact ⟨rfl, by first | rfl | simp [-getElem?_pos, List.getElem?_cons_zero, List.getElem?_cons_succ, ga21, gb21, gn21, gf21, gg21_0, gl21, gx23, gy24, ga5, gb5, gn5, gd5]⟩
        · rw [if_neg kc19] at h18
          refine Wc.condF' (t := _) (by conv => lhs; simp) (by simpa using kc19) ?_
          refine Wc.seq ?_
          refine Wc.kil (by conv => lhs; simp) ?_
          refine Wc.evk 3 (by conv => lhs; simp) ?_
          refine Wo.gh (vle_co (s := 49) (t1 := (osl eI true ([x_2]))) rfl (by simp) (TLe.own (show TLes _ [(.int .i64 x_2)] from (TLes.cons (TLe.refl _) (TLes.refl _))) rfl) (by conv => lhs; simp)) ?_
          obtain ⟨l_25, h26, h18⟩ := bind_some h18
          have gx26 := appT_arr (E := (eL eI)) (b := true) (y := true) h26 (by decide)
          simp at gx26
          refine Wo.evs (by conv => lhs; simp [gx26]) ?_
          refine Wo.nil ?_
          cases h18
          exact ⟨rfl, by first | rfl | simp [gx26]⟩
      · skip
        generalize w17 = out_27 at *
        rintro ex V ⟨rfl, rfl⟩
        try dsimp only at h
        refine Wc.evs (by conv => lhs; simp) ?_
        refine Wo.nil ?_
        refine Wc.start (V1 := [(1, .v (.ptr true [(ssl eRelation db.Relations), (ssl eFact db.Facts)])), (3, .v (osl (eL eI) true out_27)), (9, .v (ssl eFact db.Facts)), (10, .v (.int .i64 (db.Facts.length : Int))), (11, .v (.int .i64 (w64 (x_2 + 1))))]) ?_ (hk _ (Option.some.inj h).symm)
        first | rfl | simp
  · rw [if_neg kc3] at h
    refine Wc.condF' (t := _) (by conv => lhs; simp) (by simpa using kc3) ?_
    refine Wc.seq ?_
    refine Wc.kil (by conv => lhs; simp) ?_
    refine Wc.exit ?_
    have e0 := hx _ (Option.some.inj h).symm
    subst e0
    exact ⟨rfl, by first | rfl | simp⟩
theorem r102 {db : Database} {r : (List (List Int))} (h : f102 db = some r) : VJx cx (.ca 102 [(.agg [(ssl eRelation db.Relations), (ssl eFact db.Facts)])] (osl (eL eI) true r) []) := by
  unfold f102 at h
  refine ca_of rfl rfl (by decide) rfl ?_
  refine Wc.start (V1 := [(0, .v (.agg [(ssl eRelation db.Relations), (ssl eFact db.Facts)]))]) (by simp) ?_
  refine Wc.seq ?_
  refine Wc.evs (by conv => lhs; simp) ?_
  refine Wo.nil ?_
  refine Wc.seq ?_
  refine Wc.evs (by conv => lhs; simp) ?_
  refine Wo.gh (vle_co (s := 3) (t1 := (osl (eL eI) true ([]))) rfl (by simp) (TLe.own (show TLes _ [] from (TLes.refl _)) rfl) (by conv => lhs; simp)) ?_
  refine Wo.nil ?_
  refine Wc.seq ?_
  refine Wc.seq ?_
  refine Wc.evs (by conv => lhs; simp) ?_
  refine Wo.nil ?_
  refine Wc.block ?_
  obtain ⟨w28, h29, h⟩ := bind_some h
  refine Wc.start (V1 := [(1, .v (.ptr true [(ssl eRelation db.Relations), (ssl eFact db.Facts)])), (3, .v (osl (eL eI) true ([]))), (9, .v (ssl eFact db.Facts)), (10, .v (.int .i64 (db.Facts.length : Int))), (11, .v (.int .i64 0))]) (by first | rfl | simp) ?_
  refine Wc.mono (r102_0 _ _ h29) ?_
  generalize w28 = out_30 at *
  rintro ex V ⟨rfl, rfl⟩
  try dsimp only at h
  refine Wc.seq ?_
  refine Wc.evs (by conv => lhs; simp) ?_
  refine Wo.nil ?_
  refine Wc.ret (res_of (.inr rfl) ?_)
  cases h
  exact ⟨_, _, _, by conv => lhs; simp, by (conv => lhs; simp [cx, ioTab, List.range, List.range.loop]) <;> rfl, by first | rfl | simp⟩
theorem r158_0 {s0 : (List Int)} {v : Int} : ∀ zs zo, iter (f158_0 s0 v) zs = some zo → Wc cx 19 (.loop L158_0) [(0, .v (ssl eI s0)), (1, .v (.int .i64 v)), (7, .v (.int .i64 (s0.length : Int))), (8, .v (.int .i64 zs))] ((QO (QX 0 (fun (y : Unit) => [])) (QR (fun (y : Int) => [(4, .v (.int .i64 y))]))) zo) := by
  intro zs0 zo0 zh0
  refine iter_run (f := (f158_0 s0 v)) (P := fun zs zo => Wc cx 19 (.loop L158_0) [(0, .v (ssl eI s0)), (1, .v (.int .i64 v)), (7, .v (.int .i64 (s0.length : Int))), (8, .v (.int .i64 zs))] ((QO (QX 0 (fun (y : Unit) => [])) (QR (fun (y : Int) => [(4, .v (.int .i64 y))]))) zo)) ?_ zh0
  rintro x_1 zo zr h hk hx
  try dsimp only at hk ⊢
  rw [f158_0] at h
  refine Wc.loop ?_
  refine Wc.seq ?_
  refine Wc.evs (by conv => lhs; simp) ?_
  refine Wo.nil ?_
  refine Wc.seq ?_
  by_cases kc2 : x_1 < (s0.length : Int)
  · rw [if_pos kc2] at h
    refine Wc.condT' (t := _) (by conv => lhs; simp) (by simpa using kc2) ?_
    refine Wc.seq ?_
    refine Wc.kil (by conv => lhs; simp) ?_
    refine Wc.skip ?_
    refine Wc.seq ?_
    refine Wc.block ?_
    refine Wc.seq ?_
    refine Wc.evs (by conv => lhs; simp) ?_
    refine Wo.nil ?_
    refine Wc.seq ?_
    obtain ⟨v_3, h4, h⟩ := bind_some h
    obtain ⟨ga4, gb4, gc4⟩ := ix_some h4
    have gn4 := ix_ne h4
    have gd4 := arr_at (E := eI) (b := false) gc4
    simp at gd4
    refine Wc.evs (by conv => lhs; simp [ga4, gb4, gn4, gd4]) ?_
    refine Wo.nil ?_
    by_cases kc5 : v = v_3
    · rw [if_pos kc5] at h
      refine Wc.condT' (t := _) (by conv => lhs; simp) (by simpa using kc5) ?_
      refine Wc.seq ?_
      refine Wc.kil (by conv => lhs; simp) ?_
      refine Wc.seq ?_
      refine Wc.evs (by conv => lhs; simp) ?_
      refine Wo.nil ?_
      refine Wc.ret ?_
      have e0 := hx _ (Option.some.inj h).symm
      subst e0
      exact ⟨rfl, by first | rfl | simp⟩
    · rw [if_neg kc5] at h
      refine Wc.condF' (t := _) (by conv => lhs; simp) (by simpa using kc5) ?_
      refine Wc.seq ?_
      refine Wc.kil (by conv => lhs; simp) ?_
      refine Wc.skip ?_
      refine Wc.evs (by conv => lhs; simp) ?_
      refine Wo.nil ?_
      refine Wc.start (V1 := [(0, .v (ssl eI s0)), (1, .v (.int .i64 v)), (7, .v (.int .i64 (s0.length : Int))), (8, .v (.int .i64 (w64 (x_1 + 1))))]) ?_ (hk _ (Option.some.inj h).symm)
      first | rfl | simp
  · rw [if_neg kc2] at h
    refine Wc.condF' (t := _) (by conv => lhs; simp) (by simpa using kc2) ?_
    refine Wc.seq ?_
    refine Wc.kil (by conv => lhs; simp) ?_
    refine Wc.exit ?_
    have e0 := hx _ (Option.some.inj h).symm
    subst e0
    exact ⟨rfl, by first | rfl | simp⟩
theorem r158 {s0 : (List Int)} {v : Int} {r : Int} (h : f158 s0 v = some r) : VJx cx (.ca 158 [(ssl eI s0), (.int .i64 v)] (.int .i64 r) []) := by
  unfold f158 at h
  refine ca_of rfl rfl (by decide) rfl ?_
  refine Wc.start (V1 := [(0, .v (ssl eI s0)), (1, .v (.int .i64 v))]) (by simp) ?_
  refine Wc.seq ?_
  refine Wc.evs (by conv => lhs; simp) ?_
  refine Wo.nil ?_
  refine Wc.seq ?_
  refine Wc.seq ?_
  refine Wc.evs (by conv => lhs; simp) ?_
  refine Wo.nil ?_
  refine Wc.block ?_
  obtain ⟨w6, h7, h⟩ := bind_some h
  refine Wc.start (V1 := [(0, .v (ssl eI s0)), (1, .v (.int .i64 v)), (7, .v (.int .i64 (s0.length : Int))), (8, .v (.int .i64 0))]) (by first | rfl | simp) ?_
  refine Wc.mono (r158_0 _ _ h7) ?_
  rcases w6 with ⟨⟩ | x_8
  · rintro ex V ⟨rfl, rfl⟩
    try dsimp only at h
    refine Wc.seq ?_
    refine Wc.evs (by conv => lhs; simp) ?_
    refine Wo.nil ?_
    refine Wc.ret (res_of (.inr rfl) ?_)
    cases h
    exact ⟨_, _, _, by conv => lhs; simp, by (conv => lhs; simp [cx, ioTab, List.range, List.range.loop]) <;> rfl, by first | rfl | simp⟩
  · rintro ex V ⟨rfl, rfl⟩
    try dsimp only at h
    refine res_of (.inr rfl) ?_
    cases h
    exact ⟨_, _, _, by conv => lhs; simp, by (conv => lhs; simp [cx, ioTab, List.range, List.range.loop]) <;> rfl, by first | rfl | simp⟩
theorem r105 {s0 : (List Int)} {v : Int} {r : Bool} (h : f105 s0 v = some r) : VJx cx (.ca 105 [(ssl eI s0), (.int .i64 v)] (.bool r) []) := by
  unfold f105 at h
  refine ca_of rfl rfl (by decide) rfl ?_
  refine Wc.start (V1 := [(0, .v (ssl eI s0)), (1, .v (.int .i64 v))]) (by simp) ?_
  refine Wc.seq ?_
  refine Wc.evs (by conv => lhs; simp) ?_
  refine Wo.nil ?_
  refine Wc.seq ?_
  refine Wc.evs (by conv => lhs; simp) ?_
  obtain ⟨o1, h2, h⟩ := bind_some h
  refine Wo.call (by simp) rfl (by (conv => lhs; simp [cx, ioTab]) <;> rfl) (r158 h2) (by simp) (by simp) (by (conv => lhs; simp [cx, ioTab]) <;> rfl) (by (conv => lhs; simp) <;> rfl) ?_
  refine Wo.evs (by conv => lhs; simp) ?_
  refine Wo.nil ?_
  refine Wc.ret (res_of (.inr rfl) ?_)
  cases h
  exact ⟨_, _, _, by conv => lhs; simp, by (conv => lhs; simp [cx, ioTab, List.range, List.range.loop]) <;> rfl, by first | rfl | simp⟩
theorem r104 {fact : Int} {c : (List Int)} {r : Bool} (h : f104 fact c = some r) : VJx cx (.ca 104 [(.int .i64 fact), (.ptr false [(ssl eI c)])] (.bool r) []) := by
  unfold f104 at h
  refine ca_of rfl rfl (by decide) rfl ?_
  refine Wc.start (V1 := [(0, .v (.int .i64 fact)), (1, .v (.ptr false [(ssl eI c)]))]) (by simp) ?_
  refine Wc.seq ?_
  refine Wc.evs (by conv => lhs; simp) ?_
  refine Wo.nil ?_
  refine Wc.seq ?_
  refine Wc.evs (by conv => lhs; simp) ?_
  obtain ⟨o1, h2, h⟩ := bind_some h
  refine Wo.call (by simp) rfl (by (conv => lhs; simp [cx, ioTab]) <;> rfl) (r105 h2) (by simp) (by simp) (by (conv => lhs; simp [cx, ioTab]) <;> rfl) (by (conv => lhs; simp) <;> rfl) ?_
  refine Wo.evs (by conv => lhs; simp) ?_
  refine Wo.nil ?_
  refine Wc.ret (res_of (.inr rfl) ?_)
  cases h
  exact ⟨_, _, _, by conv => lhs; simp, by (conv => lhs; simp [cx, ioTab, List.range, List.range.loop]) <;> rfl, by first | rfl | simp⟩
theorem r41_0 {indices : (List Int)} {o9 : (List (List Int))} : ∀ zs zo, iter (f41_0 indices o9) zs = some zo → Wc cx 43 (.loop L41_0) [(3, .v (.ptr true [(ssl eI indices)])), (6, .v (osl eI true zs.1)), (23, .v (osl (eL eI) true o9)), (24, .v (.int .i64 (o9.length : Int))), (25, .v (.int .i64 zs.2))] ((QO (QX 0 (fun (y : (List Int)) => [(6, .v (osl eI true y))])) (QR (fun (y : (List Int) × Bool) => [(4, .v (osl eI true y.1)), (5, .v (.bool y.2))]))) zo) := by
  intro zs0 zo0 zh0
  refine iter_run (f := (f41_0 indices o9)) (P := fun zs zo => Wc cx 43 (.loop L41_0) [(3, .v (.ptr true [(ssl eI indices)])), (6, .v (osl eI true zs.1)), (23, .v (osl (eL eI) true o9)), (24, .v (.int .i64 (o9.length : Int))), (25, .v (.int .i64 zs.2))] ((QO (QX 0 (fun (y : (List Int)) => [(6, .v (osl eI true y))])) (QR (fun (y : (List Int) × Bool) => [(4, .v (osl eI true y.1)), (5, .v (.bool y.2))]))) zo)) ?_ zh0
  rintro ⟨out_11, x_12⟩ zo zr h hk hx
  try dsimp only at hk ⊢
  rw [f41_0] at h
  refine Wc.loop ?_
  refine Wc.seq ?_
  refine Wc.evs (by conv => lhs; simp) ?_
  refine Wo.nil ?_
  refine Wc.seq ?_
  by_cases kc13 : x_12 < (o9.length : Int)
  · rw [if_pos kc13] at h
    refine Wc.condT' (t := _) (by conv => lhs; simp) (by simpa using kc13) ?_
    refine Wc.seq ?_
    refine Wc.kil (by conv => lhs; simp) ?_
    refine Wc.skip ?_
    refine Wc.seq ?_
    refine Wc.block ?_
    refine Wc.seq ?_
    obtain ⟨v_14, h15, h⟩ := bind_some h
    obtain ⟨ga15, gb15, gc15⟩ := ix_some h15
    have gn15 := ix_ne h15
    have gf15 := arr_fit (E := (eL eI)) (b := true) (i := x_12.toNat) (l := o9) (by omega)
    have gg15_0 := arr_get (E := (eL eI)) (b := true) (o := 0) gc15 (by decide)
    simp at gf15 gg15_0
    have gl15 : x_12.toNat < o9.length := by omega
    refine Wc.evs (by conv => lhs; simp [-getElem?_pos, List.getElem?_cons_zero, List.getElem?_cons_succ, ga15, gb15, gn15, gf15, gg15_0, gl15]) ?_
    refine Wo.nil ?_
    refine Wc.seq ?_
    refine Wc.evs (by conv => lhs; simp [-getElem?_pos, List.getElem?_cons_zero, List.getElem?_cons_succ, ga15, gb15, gn15, gf15, gg15_0, gl15]) ?_
    obtain ⟨o16, h17, h⟩ := bind_some h
    refine Wo.call (by simp) rfl (by (conv => lhs; simp [-getElem?_pos, List.getElem?_cons_zero, List.getElem?_cons_succ, ga15, gb15, gn15, gf15, gg15_0, gl15, cx, ioTab]) <;> rfl) (r103 (g_f := 104) (cp_f := [(.ptr false [(ssl eI indices)])]) rfl (fun x0 o h => r104 h) h17) (by simp) (by simp) (by (conv => lhs; simp [-getElem?_pos, List.getElem?_cons_zero, List.getElem?_cons_succ, ga15, gb15, gn15, gf15, gg15_0, gl15, cx, ioTab]) <;> rfl) (by (conv => lhs; simp [-getElem?_pos, List.getElem?_cons_zero, List.getElem?_cons_succ, ga15, gb15, gn15, gf15, gg15_0, gl15]) <;> rfl) ?_
    refine Wo.evs (by conv => lhs; simp [-getElem?_pos, List.getElem?_cons_zero, List.getElem?_cons_succ, ga15, gb15, gn15, gf15, gg15_0, gl15]) ?_
    refine Wo.nil ?_
    refine Wc.seq ?_
    refine Wc.seq ?_
    refine Wc.evs (by conv => lhs; simp [-getElem?_pos, List.getElem?_cons_zero, List.getElem?_cons_succ, ga15, gb15, gn15, gf15, gg15_0, gl15]) ?_
    refine Wo.nil ?_
    by_cases kc18 : o16 < 0
    · rw [if_pos kc18] at h
      refine Wc.condT' (t := _) (by conv => lhs; simp) (by simpa using kc18) ?_
      refine Wc.seq ?_
      refine Wc.kil (by conv => lhs; simp) ?_
      refine Wc.seq ?_
      refine Wc.evs (by conv => lhs; simp) ?_
      refine Wo.gh (vle_co (s := 4) (t1 := (osl eI true ([]))) rfl (by simp) (TLe.nil rfl (by decide)) (by conv => lhs; simp)) ?_
      refine Wo.nil ?_
      refine Wc.ret ?_
      have e0 := hx _ (Option.some.inj h).symm
      subst e0
      exact ⟨rfl, by first | rfl | simp⟩
    · rw [if_neg kc18] at h
      refine Wc.condF' (t := _) (by conv => lhs; simp) (by simpa using kc18) ?_
      refine Wc.seq ?_
      refine Wc.kil (by conv => lhs; simp) ?_
      refine Wc.skip ?_
      obtain ⟨v_19, h20, h⟩ := bind_some h
      obtain ⟨ga20, gb20, gc20⟩ := ix_some h20
      have gn20 := ix_ne h20
      have gf20 := arr_fit (E := eI) (b := true) (i := o16.toNat) (l := v_14) (by omega)
      have gg20_0 := arr_get (E := eI) (b := true) (o := 0) gc20 (by decide)
      simp at gf20 gg20_0
      have gl20 : o16.toNat < v_14.length := by omega
      obtain ⟨l_21, h22, h⟩ := bind_some h
      have gx22 := appT_arr (E := eI) (b := true) (y := true) h22 (by decide)
      simp at gx22
      refine Wc.evs (by conv => lhs; simp [-getElem?_pos, List.getElem?_cons_zero, List.getElem?_cons_succ, ga20, gb20, gn20, gf20, gg20_0, gl20, gx22, ga15, gb15, gn15, gf15, gg15_0, gl15]) ?_
      refine Wo.nil ?_
      refine Wc.evs (by conv => lhs; simp) ?_
      refine Wo.nil ?_
      refine Wc.start (V1 := [(3, .v (.ptr true [(ssl eI indices)])), (6, .v (osl eI true l_21)), (23, .v (osl (eL eI) true o9)), (24, .v (.int .i64 (o9.length : Int))), (25, .v (.int .i64 (w64 (x_12 + 1))))]) ?_ (hk _ (Option.some.inj h).symm)
      first | rfl | simp
  · rw [if_neg kc13] at h
    refine Wc.condF' (t := _) (by conv => lhs; simp) (by simpa using kc13) ?_
    refine Wc.seq ?_
    refine Wc.kil (by conv => lhs; simp) ?_
    refine Wc.exit ?_
    have e0 := hx _ (Option.some.inj h).symm
    subst e0
    exact ⟨rfl, by first | rfl | simp⟩
theorem r41 {db : Database} {indices : (List Int)} {r : (List Int) × Bool} (h : f41 db indices = some r) : VJx cx (.ca 41 [(.agg [(ssl eRelation db.Relations), (ssl eFact db.Facts)]), (ssl eI indices)] (.tup [(osl eI true r.1), (.bool r.2)]) []) := by
  unfold f41 at h
  refine ca_of rfl rfl (by decide) rfl ?_
  refine Wc.start (V1 := [(0, .v (.agg [(ssl eRelation db.Relations), (ssl eFact db.Facts)])), (1, .v (ssl eI indices))]) (by simp) ?_
  refine Wc.seq ?_
  refine Wc.evs (by conv => lhs; simp) ?_
  refine Wo.nil ?_
  refine Wc.seq ?_
  refine Wc.seq ?_
  refine Wc.evs (by conv => lhs; simp) ?_
  obtain ⟨o1, h2, h⟩ := bind_some h
  refine Wo.call (by simp) rfl (by (conv => lhs; simp [cx, ioTab]) <;> rfl) (r86 h2) (by simp) (by simp) (by (conv => lhs; simp [cx, ioTab]) <;> rfl) (by (conv => lhs; simp) <;> rfl) ?_
  refine Wo.evk 2 (by conv => lhs; simp) ?_
  obtain ⟨w4, h5, h⟩ := bind_some h
  refine Wo.mono (Q := fun V => V = [(2, .v (.ptr true [(ssl eRelation db.Relations), (ssl eFact db.Facts)])), (3, .v (.ptr true [(ssl eI indices)])), (20, .v (.bool w4))]) ?_ ?_
  · by_cases knh5 : ¬ (o1 = true)
    · rw [if_pos knh5] at h5
      refine Wo.gh (vle_co (s := 13) (t1 := .bool true) rfl (by simp) (tle_bool (by simpa using knh5)) (by conv => lhs; simp)) ?_
      refine Wo.evs (by conv => lhs; simp) ?_
      refine Wo.nil ?_
      cases h5
      first | rfl | simp
    · rw [if_neg knh5] at h5
      refine Wo.gh (vle_co (s := 13) (t1 := .bool false) rfl (by simp) (tle_bool (by simpa using knh5)) (by conv => lhs; simp)) ?_
      refine Wo.evs (by conv => lhs; simp) ?_
      obtain ⟨o6, h7, h5⟩ := bind_some h5
      refine Wo.call (by simp) rfl (by (conv => lhs; simp [cx, ioTab]) <;> rfl) (r101 h7) (by simp) (by simp) (by (conv => lhs; simp [cx, ioTab]) <;> rfl) (by (conv => lhs; simp) <;> rfl) ?_
      refine Wo.evs (by conv => lhs; simp) ?_
      refine Wo.nil ?_
      cases h5
      first | rfl | simp
  · rintro V rfl
    generalize w4 = x_3 at *
    try dsimp only at h
    by_cases kc8 : x_3 = true
    · rw [if_pos kc8] at h
      refine Wc.condT' (t := _) (by conv => lhs; simp) (by simpa using kc8) ?_
      refine Wc.seq ?_
      refine Wc.kil (by conv => lhs; simp) ?_
      refine Wc.seq ?_
      refine Wc.evs (by conv => lhs; simp) ?_
      refine Wo.gh (vle_co (s := 4) (t1 := (osl eI true ([]))) rfl (by simp) (TLe.nil rfl (by decide)) (by conv => lhs; simp)) ?_
      refine Wo.nil ?_
      refine Wc.ret (res_of (.inr rfl) ?_)
      cases h
      exact ⟨_, _, _, by conv => lhs; simp, by (conv => lhs; simp [cx, ioTab, List.range, List.range.loop]) <;> rfl, by first | rfl | simp⟩
    · rw [if_neg kc8] at h
      refine Wc.condF' (t := _) (by conv => lhs; simp) (by simpa using kc8) ?_
      refine Wc.seq ?_
      refine Wc.kil (by conv => lhs; simp) ?_
      refine Wc.skip ?_
      refine Wc.seq ?_
      refine Wc.evs (by conv => lhs; simp) ?_
      refine Wo.gh (vle_co (s := 6) (t1 := (osl eI true ([]))) rfl (by simp) (TLe.own (show TLes _ [] from (TLes.refl _)) rfl) (by conv => lhs; simp)) ?_
      refine Wo.nil ?_
      refine Wc.seq ?_
      refine Wc.seq ?_
      refine Wc.evs (by conv => lhs; simp) ?_
      obtain ⟨o9, h10, h⟩ := bind_some h
      refine Wo.call (by simp) rfl (by (conv => lhs; simp [cx, ioTab]) <;> rfl) (r102 h10) (by simp) (by simp) (by (conv => lhs; simp [cx, ioTab]) <;> rfl) (by (conv => lhs; simp) <;> rfl) ?_
      refine Wo.evs (by conv => lhs; simp) ?_
      refine Wo.nil ?_
      refine Wc.block ?_
      obtain ⟨w23, h24, h⟩ := bind_some h
      refine Wc.start (V1 := [(3, .v (.ptr true [(ssl eI indices)])), (6, .v (osl eI true ([]))), (23, .v (osl (eL eI) true o9)), (24, .v (.int .i64 (o9.length : Int))), (25, .v (.int .i64 0))]) (by first | rfl | simp) ?_
      refine Wc.mono (r41_0 _ _ h24) ?_
      rcases w23 with out_25 | ⟨x_26, x_27⟩
      · rintro ex V ⟨rfl, rfl⟩
        try dsimp only at h
        refine Wc.seq ?_
        refine Wc.evs (by conv => lhs; simp) ?_
        refine Wo.nil ?_
        refine Wc.ret (res_of (.inr rfl) ?_)
        cases h
        exact ⟨_, _, _, by conv => lhs; simp, by (conv => lhs; simp [cx, ioTab, List.range, List.range.loop]) <;> rfl, by first | rfl | simp⟩
      · rintro ex V ⟨rfl, rfl⟩
        dsimp only at h ⊢
        refine res_of (.inr rfl) ?_
        cases h
        exact ⟨_, _, _, by conv => lhs; simp, by (conv => lhs; simp [cx, ioTab, List.range, List.range.loop]) <;> rfl, by first | rfl | simp⟩
theorem r42_0 {a : (List Int)} {b : (List Int)} : ∀ zs zo, iter (f42_0 a b) zs = some zo → Wc cx 26 (.loop L42_0) [(0, .v (ssl eI a)), (1, .v (ssl eI b)), (5, .v (.int .i64 zs))] ((QO (QX 0 (fun (y : Unit) => [])) (QR (fun (y : Bool) => [(4, .v (.bool y))]))) zo) := by
  intro zs0 zo0 zh0
  refine iter_run (f := (f42_0 a b)) (P := fun zs zo => Wc cx 26 (.loop L42_0) [(0, .v (ssl eI a)), (1, .v (ssl eI b)), (5, .v (.int .i64 zs))] ((QO (QX 0 (fun (y : Unit) => [])) (QR (fun (y : Bool) => [(4, .v (.bool y))]))) zo)) ?_ zh0
  rintro i_2 zo zr h hk hx
  try dsimp only at hk ⊢
  rw [f42_0] at h
  refine Wc.loop ?_
  refine Wc.seq ?_
  refine Wc.seq ?_
  refine Wc.evs (by conv => lhs; simp) ?_
  refine Wo.nil ?_
  by_cases kc3 : i_2 < (a.length : Int)
  · rw [if_pos kc3] at h
    refine Wc.condT' (t := _) (by conv => lhs; simp) (by simpa using kc3) ?_
    refine Wc.seq ?_
    refine Wc.kil (by conv => lhs; simp) ?_
    refine Wc.skip ?_
    refine Wc.seq ?_
    refine Wc.block ?_
    refine Wc.seq ?_
    obtain ⟨v_4, h5, h⟩ := bind_some h
    obtain ⟨ga5, gb5, gc5⟩ := ix_some h5
    have gn5 := ix_ne h5
    have gd5 := arr_at (E := eI) (b := false) gc5
    simp at gd5
    obtain ⟨v_6, h7, h⟩ := bind_some h
    obtain ⟨ga7, gb7, gc7⟩ := ix_some h7
    have gn7 := ix_ne h7
    have gd7 := arr_at (E := eI) (b := false) gc7
    simp at gd7
    refine Wc.evs (by conv => lhs; simp [ga5, gb5, gn5, gd5, ga7, gb7, gn7, gd7]) ?_
    refine Wo.nil ?_
    by_cases kc8 : v_4 ≠ v_6
    · rw [if_pos kc8] at h
      refine Wc.condT' (t := _) (by conv => lhs; simp) (by simpa using kc8) ?_
      refine Wc.seq ?_
      refine Wc.kil (by conv => lhs; simp) ?_
      refine Wc.seq ?_
      refine Wc.evs (by conv => lhs; simp) ?_
      refine Wo.nil ?_
      refine Wc.ret ?_
      have e0 := hx _ (Option.some.inj h).symm
      subst e0
      exact ⟨rfl, by first | rfl | simp⟩
    · rw [if_neg kc8] at h
      refine Wc.condF' (t := _) (by conv => lhs; simp) (by simpa using kc8) ?_
      refine Wc.seq ?_
      refine Wc.kil (by conv => lhs; simp) ?_
      refine Wc.skip ?_
      refine Wc.evs (by conv => lhs; simp) ?_
      refine Wo.nil ?_
      refine Wc.start (V1 := [(0, .v (ssl eI a)), (1, .v (ssl eI b)), (5, .v (.int .i64 (w64 (i_2 + 1))))]) ?_ (hk _ (Option.some.inj h).symm)
      first | rfl | simp
  · rw [if_neg kc3] at h
    refine Wc.condF' (t := _) (by conv => lhs; simp) (by simpa using kc3) ?_
    refine Wc.seq ?_
    refine Wc.kil (by conv => lhs; simp) ?_
    refine Wc.exit ?_
    have e0 := hx _ (Option.some.inj h).symm
    subst e0
    exact ⟨rfl, by first | rfl | simp⟩
theorem r42 {a : (List Int)} {b : (List Int)} {r : Bool} (h : f42 a b = some r) : VJx cx (.ca 42 [(ssl eI a), (ssl eI b)] (.bool r) []) := by
  unfold f42 at h
  refine ca_of rfl rfl (by decide) rfl ?_
  refine Wc.start (V1 := [(0, .v (ssl eI a)), (1, .v (ssl eI b))]) (by simp) ?_
  refine Wc.seq ?_
  refine Wc.evs (by conv => lhs; simp) ?_
  refine Wo.nil ?_
  refine Wc.seq ?_
  refine Wc.seq ?_
  refine Wc.evs (by conv => lhs; simp) ?_
  refine Wo.nil ?_
  by_cases kc1 : (a.length : Int) ≠ (b.length : Int)
  · rw [if_pos kc1] at h
    refine Wc.condT' (t := _) (by conv => lhs; simp) (by simpa using kc1) ?_
    refine Wc.seq ?_
    refine Wc.kil (by conv => lhs; simp) ?_
    refine Wc.seq ?_
    refine Wc.evs (by conv => lhs; simp) ?_
    refine Wo.nil ?_
    refine Wc.ret (res_of (.inr rfl) ?_)
    cases h
    exact ⟨_, _, _, by conv => lhs; simp, by (conv => lhs; simp [cx, ioTab, List.range, List.range.loop]) <;> rfl, by first | rfl | simp⟩
  · rw [if_neg kc1] at h
    refine Wc.condF' (t := _) (by conv => lhs; simp) (by simpa using kc1) ?_
    refine Wc.seq ?_
    refine Wc.kil (by conv => lhs; simp) ?_
    refine Wc.skip ?_
    refine Wc.seq ?_
    refine Wc.seq ?_
    refine Wc.evs (by conv => lhs; simp) ?_
    refine Wo.nil ?_
    refine Wc.block ?_
    obtain ⟨w9, h10, h⟩ := bind_some h
    refine Wc.start (V1 := [(0, .v (ssl eI a)), (1, .v (ssl eI b)), (5, .v (.int .i64 0))]) (by first | rfl | simp) ?_
    refine Wc.mono (r42_0 _ _ h10) ?_
    rcases w9 with ⟨⟩ | x_11
    · rintro ex V ⟨rfl, rfl⟩
      try dsimp only at h
      refine Wc.seq ?_
      refine Wc.evs (by conv => lhs; simp) ?_
      refine Wo.nil ?_
      refine Wc.ret (res_of (.inr rfl) ?_)
      cases h
      exact ⟨_, _, _, by conv => lhs; simp, by (conv => lhs; simp [cx, ioTab, List.range, List.range.loop]) <;> rfl, by first | rfl | simp⟩
    · rintro ex V ⟨rfl, rfl⟩
      try dsimp only at h
      refine res_of (.inr rfl) ?_
      cases h
      exact ⟨_, _, _, by conv => lhs; simp, by (conv => lhs; simp [cx, ioTab, List.range, List.range.loop]) <;> rfl, by first | rfl | simp⟩
theorem r121 {a : Relation} {b : Relation} {r : Bool} (h : f121 a b = some r) : VJx cx (.ca 121 [(.agg [(.str a.Name), (.int .i64 a.Arity), (.int .i64 a.KeyLength)]), (.agg [(.str b.Name), (.int .i64 b.Arity), (.int .i64 b.KeyLength)])] (.bool r) []) := by
  unfold f121 at h
  refine ca_of rfl rfl (by decide) rfl ?_
  refine Wc.start (V1 := [(0, .v (.agg [(.str a.Name), (.int .i64 a.Arity), (.int .i64 a.KeyLength)])), (1, .v (.agg [(.str b.Name), (.int .i64 b.Arity), (.int .i64 b.KeyLength)]))]) (by simp) ?_
  refine Wc.seq ?_
  refine Wc.evs (by conv => lhs; simp) ?_
  refine Wo.nil ?_
  refine Wc.seq ?_
  refine Wc.seq ?_
  refine Wc.evs (by conv => lhs; simp) ?_
  refine Wo.nil ?_
  by_cases kc1 : a.Name ≠ b.Name
  · rw [if_pos kc1] at h
    refine Wc.condT' (t := _) (by conv => lhs; simp) (by simpa using kc1) ?_
    refine Wc.seq ?_
    refine Wc.kil (by conv => lhs; simp) ?_
    refine Wc.seq ?_
    refine Wc.evs (by conv => lhs; simp) ?_
    refine Wo.nil ?_
    refine Wc.ret (res_of (.inr rfl) ?_)
    cases h
    exact ⟨_, _, _, by conv => lhs; simp, by (conv => lhs; simp [cx, ioTab, List.range, List.range.loop]) <;> rfl, by first | rfl | simp⟩
  · rw [if_neg kc1] at h
    refine Wc.condF' (t := _) (by conv => lhs; simp) (by simpa using kc1) ?_
    refine Wc.seq ?_
    refine Wc.kil (by conv => lhs; simp) ?_
    refine Wc.skip ?_
    refine Wc.seq ?_
    refine Wc.seq ?_
    refine Wc.evs (by conv => lhs; simp) ?_
    refine Wo.nil ?_
    by_cases kc2 : a.Arity ≠ b.Arity
    · rw [if_pos kc2] at h
      refine Wc.condT' (t := _) (by conv => lhs; simp) (by simpa using kc2) ?_
      refine Wc.seq ?_
      refine Wc.kil (by conv => lhs; simp) ?_
      refine Wc.seq ?_
      refine Wc.evs (by conv => lhs; simp) ?_
      refine Wo.nil ?_
      refine Wc.ret (res_of (.inr rfl) ?_)
      cases h
      exact ⟨_, _, _, by conv => lhs; simp, by (conv => lhs; simp [cx, ioTab, List.range, List.range.loop]) <;> rfl, by first | rfl | simp⟩
    · rw [if_neg kc2] at h
      refine Wc.condF' (t := _) (by conv => lhs; simp) (by simpa using kc2) ?_
      refine Wc.seq ?_
      refine Wc.kil (by conv => lhs; simp) ?_
      refine Wc.skip ?_
      refine Wc.seq ?_
      refine Wc.seq ?_
      refine Wc.evs (by conv => lhs; simp) ?_
      refine Wo.nil ?_
      by_cases kc3 : a.KeyLength ≠ b.KeyLength
      · rw [if_pos kc3] at h
        refine Wc.condT' (t := _) (by conv => lhs; simp) (by simpa using kc3) ?_
        refine Wc.seq ?_
        refine Wc.kil (by conv => lhs; simp) ?_
        refine Wc.seq ?_
        refine Wc.evs (by conv => lhs; simp) ?_
        refine Wo.nil ?_
        refine Wc.ret (res_of (.inr rfl) ?_)
        cases h
        exact ⟨_, _, _, by conv => lhs; simp, by (conv => lhs; simp [cx, ioTab, List.range, List.range.loop]) <;> rfl, by first | rfl | simp⟩
      · rw [if_neg kc3] at h
        refine Wc.condF' (t := _) (by conv => lhs; simp) (by simpa using kc3) ?_
        refine Wc.seq ?_
        refine Wc.kil (by conv => lhs; simp) ?_
        refine Wc.skip ?_
        refine Wc.seq ?_
        refine Wc.evs (by conv => lhs; simp) ?_
        refine Wo.nil ?_
        refine Wc.ret (res_of (.inr rfl) ?_)
        cases h
        exact ⟨_, _, _, by conv => lhs; simp, by (conv => lhs; simp [cx, ioTab, List.range, List.range.loop]) <;> rfl, by first | rfl | simp⟩
theorem r53_0 {a : (List Relation)} {b : (List Relation)} : ∀ zs zo, iter (f53_0 a b) zs = some zo → Wc cx 27 (.loop L53_0) [(0, .v (ssl eRelation a)), (1, .v (ssl eRelation b)), (5, .v (.int .i64 zs))] ((QO (QX 0 (fun (y : Unit) => [])) (QR (fun (y : Bool) => [(4, .v (.bool y))]))) zo) := by
  intro zs0 zo0 zh0
  refine iter_run (f := (f53_0 a b)) (P := fun zs zo => Wc cx 27 (.loop L53_0) [(0, .v (ssl eRelation a)), (1, .v (ssl eRelation b)), (5, .v (.int .i64 zs))] ((QO (QX 0 (fun (y : Unit) => [])) (QR (fun (y : Bool) => [(4, .v (.bool y))]))) zo)) ?_ zh0
  rintro i_2 zo zr h hk hx
  try dsimp only at hk ⊢
  rw [f53_0] at h
  refine Wc.loop ?_
  refine Wc.seq ?_
  refine Wc.seq ?_
  refine Wc.evs (by conv => lhs; simp) ?_
  refine Wo.nil ?_
  by_cases kc3 : i_2 < (a.length : Int)
  · rw [if_pos kc3] at h
    refine Wc.condT' (t := _) (by conv => lhs; simp) (by simpa using kc3) ?_
    refine Wc.seq ?_
    refine Wc.kil (by conv => lhs; simp) ?_
    refine Wc.skip ?_
    refine Wc.seq ?_
    refine Wc.block ?_
    refine Wc.seq ?_
    obtain ⟨v_4, h5, h⟩ := bind_some h
    obtain ⟨ga5, gb5, gc5⟩ := ix_some h5
    have gn5 := ix_ne h5
    have gd5 := arr_at (E := eRelation) (b := false) gc5
    simp at gd5
    obtain ⟨v_6, h7, h⟩ := bind_some h
    obtain ⟨ga7, gb7, gc7⟩ := ix_some h7
    have gn7 := ix_ne h7
    have gd7 := arr_at (E := eRelation) (b := false) gc7
    simp at gd7
    refine Wc.evs (by conv => lhs; simp [ga5, gb5, gn5, gd5, ga7, gb7, gn7, gd7]) ?_
    obtain ⟨o8, h9, h⟩ := bind_some h
    refine Wo.call (by simp) rfl (by (conv => lhs; simp [ga5, gb5, gn5, gd5, ga7, gb7, gn7, gd7, cx, ioTab]) <;> rfl) (r121 h9) (by simp) (by simp) (by (conv => lhs; simp [ga5, gb5, gn5, gd5, ga7, gb7, gn7, gd7, cx, ioTab]) <;> rfl) (by (conv => lhs; simp [ga5, gb5, gn5, gd5, ga7, gb7, gn7, gd7]) <;> rfl) ?_
    refine Wo.evs (by conv => lhs; simp [ga5, gb5, gn5, gd5, ga7, gb7, gn7, gd7]) ?_
    refine Wo.nil ?_
    by_cases kc10 : ¬ (o8 = true)
    · rw [if_pos kc10] at h
      refine Wc.condT' (t := _) (by conv => lhs; simp) (by simpa using kc10) ?_
      refine Wc.seq ?_
      refine Wc.kil (by conv => lhs; simp) ?_
      refine Wc.seq ?_
      refine Wc.evs (by conv => lhs; simp) ?_
      refine Wo.nil ?_
      refine Wc.ret ?_
      have e0 := hx _ (Option.some.inj h).symm
      subst e0
      exact ⟨rfl, by first | rfl | simp⟩
    · rw [if_neg kc10] at h
      refine Wc.condF' (t := _) (by conv => lhs; simp) (by simpa using kc10) ?_
      refine Wc.seq ?_
      refine Wc.kil (by conv => lhs; simp) ?_
      refine Wc.skip ?_
      refine Wc.evs (by conv => lhs; simp) ?_
      refine Wo.nil ?_
      refine Wc.start (V1 := [(0, .v (ssl eRelation a)), (1, .v (ssl eRelation b)), (5, .v (.int .i64 (w64 (i_2 + 1))))]) ?_ (hk _ (Option.some.inj h).symm)
      first | rfl | simp
  · rw [if_neg kc3] at h
    refine Wc.condF' (t := _) (by conv => lhs; simp) (by simpa using kc3) ?_
    refine Wc.seq ?_
    refine Wc.kil (by conv => lhs; simp) ?_
    refine Wc.exit ?_
    have e0 := hx _ (Option.some.inj h).symm
    subst e0
    exact ⟨rfl, by first | rfl | simp⟩
theorem r53 {a : (List Relation)} {b : (List Relation)} {r : Bool} (h : f53 a b = some r) : VJx cx (.ca 53 [(ssl eRelation a), (ssl eRelation b)] (.bool r) []) := by
  unfold f53 at h
  refine ca_of rfl rfl (by decide) rfl ?_
  refine Wc.start (V1 := [(0, .v (ssl eRelation a)), (1, .v (ssl eRelation b))]) (by simp) ?_
  refine Wc.seq ?_
  refine Wc.evs (by conv => lhs; simp) ?_
  refine Wo.nil ?_
  refine Wc.seq ?_
  refine Wc.seq ?_
  refine Wc.evs (by conv => lhs; simp) ?_
  refine Wo.nil ?_
  by_cases kc1 : (a.length : Int) ≠ (b.length : Int)
  · rw [if_pos kc1] at h
    refine Wc.condT' (t := _) (by conv => lhs; simp) (by simpa using kc1) ?_
    refine Wc.seq ?_
    refine Wc.kil (by conv => lhs; simp) ?_
    refine Wc.seq ?_
    refine Wc.evs (by conv => lhs; simp) ?_
    refine Wo.nil ?_
    refine Wc.ret (res_of (.inr rfl) ?_)
    cases h
    exact ⟨_, _, _, by conv => lhs; simp, by (conv => lhs; simp [cx, ioTab, List.range, List.range.loop]) <;> rfl, by first | rfl | simp⟩
  · rw [if_neg kc1] at h
    refine Wc.condF' (t := _) (by conv => lhs; simp) (by simpa using kc1) ?_
    refine Wc.seq ?_
    refine Wc.kil (by conv => lhs; simp) ?_
    refine Wc.skip ?_
    refine Wc.seq ?_
    refine Wc.seq ?_
    refine Wc.evs (by conv => lhs; simp) ?_
    refine Wo.nil ?_
    refine Wc.block ?_
    obtain ⟨w11, h12, h⟩ := bind_some h
    refine Wc.start (V1 := [(0, .v (ssl eRelation a)), (1, .v (ssl eRelation b)), (5, .v (.int .i64 0))]) (by first | rfl | simp) ?_
    refine Wc.mono (r53_0 _ _ h12) ?_
    rcases w11 with ⟨⟩ | x_13
    · rintro ex V ⟨rfl, rfl⟩
      try dsimp only at h
      refine Wc.seq ?_
      refine Wc.evs (by conv => lhs; simp) ?_
      refine Wo.nil ?_
      refine Wc.ret (res_of (.inr rfl) ?_)
      cases h
      exact ⟨_, _, _, by conv => lhs; simp, by (conv => lhs; simp [cx, ioTab, List.range, List.range.loop]) <;> rfl, by first | rfl | simp⟩
    · rintro ex V ⟨rfl, rfl⟩
      try dsimp only at h
      refine res_of (.inr rfl) ?_
      cases h
      exact ⟨_, _, _, by conv => lhs; simp, by (conv => lhs; simp [cx, ioTab, List.range, List.range.loop]) <;> rfl, by first | rfl | simp⟩
theorem r159 {a : Fact} {b : Fact} {r : Bool} (h : f159 a b = some r) : VJx cx (.ca 159 [(.agg [(.int .i64 a.Relation), (ssl eI a.Values)]), (.agg [(.int .i64 b.Relation), (ssl eI b.Values)])] (.bool r) []) := by
  unfold f159 at h
  refine ca_of rfl rfl (by decide) rfl ?_
  refine Wc.start (V1 := [(0, .v (.agg [(.int .i64 a.Relation), (ssl eI a.Values)])), (1, .v (.agg [(.int .i64 b.Relation), (ssl eI b.Values)]))]) (by simp) ?_
  refine Wc.seq ?_
  refine Wc.evs (by conv => lhs; simp) ?_
  refine Wo.nil ?_
  refine Wc.seq ?_
  refine Wc.seq ?_
  refine Wc.evs (by conv => lhs; simp) ?_
  refine Wo.nil ?_
  by_cases kc1 : a.Relation ≠ b.Relation
  · rw [if_pos kc1] at h
    refine Wc.condT' (t := _) (by conv => lhs; simp) (by simpa using kc1) ?_
    refine Wc.seq ?_
    refine Wc.kil (by conv => lhs; simp) ?_
    refine Wc.seq ?_
    refine Wc.evs (by conv => lhs; simp) ?_
    refine Wo.nil ?_
    refine Wc.ret (res_of (.inr rfl) ?_)
    cases h
    exact ⟨_, _, _, by conv => lhs; simp, by (conv => lhs; simp [cx, ioTab, List.range, List.range.loop]) <;> rfl, by first | rfl | simp⟩
  · rw [if_neg kc1] at h
    refine Wc.condF' (t := _) (by conv => lhs; simp) (by simpa using kc1) ?_
    refine Wc.seq ?_
    refine Wc.kil (by conv => lhs; simp) ?_
    refine Wc.skip ?_
    refine Wc.seq ?_
    refine Wc.seq ?_
    refine Wc.evs (by conv => lhs; simp) ?_
    obtain ⟨o2, h3, h⟩ := bind_some h
    refine Wo.call (by simp) rfl (by (conv => lhs; simp [cx, ioTab]) <;> rfl) (r42 h3) (by simp) (by simp) (by (conv => lhs; simp [cx, ioTab]) <;> rfl) (by (conv => lhs; simp) <;> rfl) ?_
    refine Wo.evs (by conv => lhs; simp) ?_
    refine Wo.nil ?_
    by_cases kc4 : ¬ (o2 = true)
    · rw [if_pos kc4] at h
      refine Wc.condT' (t := _) (by conv => lhs; simp) (by simpa using kc4) ?_
      refine Wc.seq ?_
      refine Wc.kil (by conv => lhs; simp) ?_
      refine Wc.seq ?_
      refine Wc.evs (by conv => lhs; simp) ?_
      refine Wo.nil ?_
      refine Wc.ret (res_of (.inr rfl) ?_)
      cases h
      exact ⟨_, _, _, by conv => lhs; simp, by (conv => lhs; simp [cx, ioTab, List.range, List.range.loop]) <;> rfl, by first | rfl | simp⟩
    · rw [if_neg kc4] at h
      refine Wc.condF' (t := _) (by conv => lhs; simp) (by simpa using kc4) ?_
      refine Wc.seq ?_
      refine Wc.kil (by conv => lhs; simp) ?_
      refine Wc.skip ?_
      refine Wc.seq ?_
      refine Wc.evs (by conv => lhs; simp) ?_
      refine Wo.nil ?_
      refine Wc.ret (res_of (.inr rfl) ?_)
      cases h
      exact ⟨_, _, _, by conv => lhs; simp, by (conv => lhs; simp [cx, ioTab, List.range, List.range.loop]) <;> rfl, by first | rfl | simp⟩
theorem r106_0 {a : (List Fact)} {b : (List Fact)} : ∀ zs zo, iter (f106_0 a b) zs = some zo → Wc cx 27 (.loop L106_0) [(0, .v (ssl eFact a)), (1, .v (ssl eFact b)), (5, .v (.int .i64 zs))] ((QO (QX 0 (fun (y : Unit) => [])) (QR (fun (y : Bool) => [(4, .v (.bool y))]))) zo) := by
  intro zs0 zo0 zh0
  refine iter_run (f := (f106_0 a b)) (P := fun zs zo => Wc cx 27 (.loop L106_0) [(0, .v (ssl eFact a)), (1, .v (ssl eFact b)), (5, .v (.int .i64 zs))] ((QO (QX 0 (fun (y : Unit) => [])) (QR (fun (y : Bool) => [(4, .v (.bool y))]))) zo)) ?_ zh0
  rintro i_2 zo zr h hk hx
  try dsimp only at hk ⊢
  rw [f106_0] at h
  refine Wc.loop ?_
  refine Wc.seq ?_
  refine Wc.seq ?_
  refine Wc.evs (by conv => lhs; simp) ?_
  refine Wo.nil ?_
  by_cases kc3 : i_2 < (a.length : Int)
  · rw [if_pos kc3] at h
    refine Wc.condT' (t := _) (by conv => lhs; simp) (by simpa using kc3) ?_
    refine Wc.seq ?_
    refine Wc.kil (by conv => lhs; simp) ?_
    refine Wc.skip ?_
    refine Wc.seq ?_
    refine Wc.block ?_
    refine Wc.seq ?_
    obtain ⟨v_4, h5, h⟩ := bind_some h
    obtain ⟨ga5, gb5, gc5⟩ := ix_some h5
    have gn5 := ix_ne h5
    have gd5 := arr_at (E := eFact) (b := false) gc5
    simp at gd5
    obtain ⟨v_6, h7, h⟩ := bind_some h
    obtain ⟨ga7, gb7, gc7⟩ := ix_some h7
    have gn7 := ix_ne h7
    have gd7 := arr_at (E := eFact) (b := false) gc7
    simp at gd7
    refine Wc.evs (by conv => lhs; simp [ga5, gb5, gn5, gd5, ga7, gb7, gn7, gd7]) ?_
    obtain ⟨o8, h9, h⟩ := bind_some h
    refine Wo.call (by simp) rfl (by (conv => lhs; simp [ga5, gb5, gn5, gd5, ga7, gb7, gn7, gd7, cx, ioTab]) <;> rfl) (r159 h9) (by simp) (by simp) (by (conv => lhs; simp [ga5, gb5, gn5, gd5, ga7, gb7, gn7, gd7, cx, ioTab]) <;> rfl) (by (conv => lhs; simp [ga5, gb5, gn5, gd5, ga7, gb7, gn7, gd7]) <;> rfl) ?_
    refine Wo.evs (by conv => lhs; simp [ga5, gb5, gn5, gd5, ga7, gb7, gn7, gd7]) ?_
    refine Wo.nil ?_
    by_cases kc10 : ¬ (o8 = true)
    · rw [if_pos kc10] at h
      refine Wc.condT' (t := _) (by conv => lhs; simp) (by simpa using kc10) ?_
      refine Wc.seq ?_
      refine Wc.kil (by conv => lhs; simp) ?_
      refine Wc.seq ?_
      refine Wc.evs (by conv => lhs; simp) ?_
      refine Wo.nil ?_
      refine Wc.ret ?_
      have e0 := hx _ (Option.some.inj h).symm
      subst e0
      exact ⟨rfl, by first | rfl | simp⟩
    · rw [if_neg kc10] at h
      refine Wc.condF' (t := _) (by conv => lhs; simp) (by simpa using kc10) ?_
      refine Wc.seq ?_
      refine Wc.kil (by conv => lhs; simp) ?_
      refine Wc.skip ?_
      refine Wc.evs (by conv => lhs; simp) ?_
      refine Wo.nil ?_
      refine Wc.start (V1 := [(0, .v (ssl eFact a)), (1, .v (ssl eFact b)), (5, .v (.int .i64 (w64 (i_2 + 1))))]) ?_ (hk _ (Option.some.inj h).symm)
      first | rfl | simp
  · rw [if_neg kc3] at h
    refine Wc.condF' (t := _) (by conv => lhs; simp) (by simpa using kc3) ?_
    refine Wc.seq ?_
    refine Wc.kil (by conv => lhs; simp) ?_
    refine Wc.exit ?_
    have e0 := hx _ (Option.some.inj h).symm
    subst e0
    exact ⟨rfl, by first | rfl | simp⟩
theorem r106 {a : (List Fact)} {b : (List Fact)} {r : Bool} (h : f106 a b = some r) : VJx cx (.ca 106 [(ssl eFact a), (ssl eFact b)] (.bool r) []) := by
  unfold f106 at h
  refine ca_of rfl rfl (by decide) rfl ?_
  refine Wc.start (V1 := [(0, .v (ssl eFact a)), (1, .v (ssl eFact b))]) (by simp) ?_
  refine Wc.seq ?_
  refine Wc.evs (by conv => lhs; simp) ?_
  refine Wo.nil ?_
  refine Wc.seq ?_
  refine Wc.seq ?_
  refine Wc.evs (by conv => lhs; simp) ?_
  refine Wo.nil ?_
  by_cases kc1 : (a.length : Int) ≠ (b.length : Int)
  · rw [if_pos kc1] at h
    refine Wc.condT' (t := _) (by conv => lhs; simp) (by simpa using kc1) ?_
    refine Wc.seq ?_
    refine Wc.kil (by conv => lhs; simp) ?_
    refine Wc.seq ?_
    refine Wc.evs (by conv => lhs; simp) ?_
    refine Wo.nil ?_
    refine Wc.ret (res_of (.inr rfl) ?_)
    cases h
    exact ⟨_, _, _, by conv => lhs; simp, by (conv => lhs; simp [cx, ioTab, List.range, List.range.loop]) <;> rfl, by first | rfl | simp⟩
  · rw [if_neg kc1] at h
    refine Wc.condF' (t := _) (by conv => lhs; simp) (by simpa using kc1) ?_
    refine Wc.seq ?_
    refine Wc.kil (by conv => lhs; simp) ?_
    refine Wc.skip ?_
    refine Wc.seq ?_
    refine Wc.seq ?_
    refine Wc.evs (by conv => lhs; simp) ?_
    refine Wo.nil ?_
    refine Wc.block ?_
    obtain ⟨w11, h12, h⟩ := bind_some h
    refine Wc.start (V1 := [(0, .v (ssl eFact a)), (1, .v (ssl eFact b)), (5, .v (.int .i64 0))]) (by first | rfl | simp) ?_
    refine Wc.mono (r106_0 _ _ h12) ?_
    rcases w11 with ⟨⟩ | x_13
    · rintro ex V ⟨rfl, rfl⟩
      try dsimp only at h
      refine Wc.seq ?_
      refine Wc.evs (by conv => lhs; simp) ?_
      refine Wo.nil ?_
      refine Wc.ret (res_of (.inr rfl) ?_)
      cases h
      exact ⟨_, _, _, by conv => lhs; simp, by (conv => lhs; simp [cx, ioTab, List.range, List.range.loop]) <;> rfl, by first | rfl | simp⟩
    · rintro ex V ⟨rfl, rfl⟩
      try dsimp only at h
      refine res_of (.inr rfl) ?_
      cases h
      exact ⟨_, _, _, by conv => lhs; simp, by (conv => lhs; simp [cx, ioTab, List.range, List.range.loop]) <;> rfl, by first | rfl | simp⟩
theorem r43 {a : Database} {b : Database} {r : Bool} (h : f43 a b = some r) : VJx cx (.ca 43 [(.agg [(ssl eRelation a.Relations), (ssl eFact a.Facts)]), (.agg [(ssl eRelation b.Relations), (ssl eFact b.Facts)])] (.bool r) []) := by
  unfold f43 at h
  refine ca_of rfl rfl (by decide) rfl ?_
  refine Wc.start (V1 := [(0, .v (.agg [(ssl eRelation a.Relations), (ssl eFact a.Facts)])), (1, .v (.agg [(ssl eRelation b.Relations), (ssl eFact b.Facts)]))]) (by simp) ?_
  refine Wc.seq ?_
  refine Wc.evs (by conv => lhs; simp) ?_
  refine Wo.nil ?_
  refine Wc.seq ?_
  refine Wc.seq ?_
  refine Wc.evs (by conv => lhs; simp) ?_
  obtain ⟨o1, h2, h⟩ := bind_some h
  refine Wo.call (by simp) rfl (by (conv => lhs; simp [cx, ioTab]) <;> rfl) (r53 h2) (by simp) (by simp) (by (conv => lhs; simp [cx, ioTab]) <;> rfl) (by (conv => lhs; simp) <;> rfl) ?_
  refine Wo.evs (by conv => lhs; simp) ?_
  refine Wo.nil ?_
  by_cases kc3 : ¬ (o1 = true)
  · rw [if_pos kc3] at h
    refine Wc.condT' (t := _) (by conv => lhs; simp) (by simpa using kc3) ?_
    refine Wc.seq ?_
    refine Wc.kil (by conv => lhs; simp) ?_
    refine Wc.seq ?_
    refine Wc.evs (by conv => lhs; simp) ?_
    refine Wo.nil ?_
    refine Wc.ret (res_of (.inr rfl) ?_)
    cases h
    exact ⟨_, _, _, by conv => lhs; simp, by (conv => lhs; simp [cx, ioTab, List.range, List.range.loop]) <;> rfl, by first | rfl | simp⟩
  · rw [if_neg kc3] at h
    refine Wc.condF' (t := _) (by conv => lhs; simp) (by simpa using kc3) ?_
    refine Wc.seq ?_
    refine Wc.kil (by conv => lhs; simp) ?_
    refine Wc.skip ?_
    refine Wc.seq ?_
    refine Wc.seq ?_
    refine Wc.evs (by conv => lhs; simp) ?_
    obtain ⟨o4, h5, h⟩ := bind_some h
    refine Wo.call (by simp) rfl (by (conv => lhs; simp [cx, ioTab]) <;> rfl) (r106 h5) (by simp) (by simp) (by (conv => lhs; simp [cx, ioTab]) <;> rfl) (by (conv => lhs; simp) <;> rfl) ?_
    refine Wo.evs (by conv => lhs; simp) ?_
    refine Wo.nil ?_
    by_cases kc6 : ¬ (o4 = true)
    · rw [if_pos kc6] at h
      refine Wc.condT' (t := _) (by conv => lhs; simp) (by simpa using kc6) ?_
      refine Wc.seq ?_
      refine Wc.kil (by conv => lhs; simp) ?_
      refine Wc.seq ?_
      refine Wc.evs (by conv => lhs; simp) ?_
      refine Wo.nil ?_
      refine Wc.ret (res_of (.inr rfl) ?_)
      cases h
      exact ⟨_, _, _, by conv => lhs; simp, by (conv => lhs; simp [cx, ioTab, List.range, List.range.loop]) <;> rfl, by first | rfl | simp⟩
    · rw [if_neg kc6] at h
      refine Wc.condF' (t := _) (by conv => lhs; simp) (by simpa using kc6) ?_
      refine Wc.seq ?_
      refine Wc.kil (by conv => lhs; simp) ?_
      refine Wc.skip ?_
      refine Wc.seq ?_
      refine Wc.evs (by conv => lhs; simp) ?_
      refine Wo.nil ?_
      refine Wc.ret (res_of (.inr rfl) ?_)
      cases h
      exact ⟨_, _, _, by conv => lhs; simp, by (conv => lhs; simp [cx, ioTab, List.range, List.range.loop]) <;> rfl, by first | rfl | simp⟩
theorem r160_0 : ∀ zs zo, iter f160_0 zs = some zo → Wc cx 20 (.loop L160_0) [(0, .v (.int .i64 zs.1)), (3, .v (.str zs.2))] ((QX 0 (fun (y : (List UInt8)) => [(3, .v (.str y))])) zo) := by
  intro zs0 zo0 zh0
  refine iter_run (f := f160_0) (P := fun zs zo => Wc cx 20 (.loop L160_0) [(0, .v (.int .i64 zs.1)), (3, .v (.str zs.2))] ((QX 0 (fun (y : (List UInt8)) => [(3, .v (.str y))])) zo)) ?_ zh0
  rintro ⟨k_2, out_3⟩ zo zr h hk hx
  try dsimp only at hk ⊢
  rw [f160_0] at h
  refine Wc.loop ?_
  refine Wc.seq ?_
  refine Wc.seq ?_
  refine Wc.evs (by conv => lhs; simp) ?_
  refine Wo.nil ?_
  by_cases kc4 : k_2 > 0
  · rw [if_pos kc4] at h
    refine Wc.condT' (t := _) (by conv => lhs; simp) (by simpa using kc4) ?_
    refine Wc.seq ?_
    refine Wc.kil (by conv => lhs; simp) ?_
    refine Wc.skip ?_
    refine Wc.block ?_
    refine Wc.seq ?_
    obtain ⟨s_5, h6, h⟩ := bind_some h
    obtain ⟨gs6, ge6⟩ := cat_some h6
    try simp at gs6
    refine Wc.evs (by conv => lhs; simp [gs6, ge6]) ?_
    refine Wo.nil ?_
    refine Wc.evs (by conv => lhs; simp) ?_
    refine Wo.nil ?_
    refine Wc.start (V1 := [(0, .v (.int .i64 (w64 (k_2.tdiv 10)))), (3, .v (.str s_5))]) ?_ (hk _ (Option.some.inj h).symm)
    first | rfl | simp
  · rw [if_neg kc4] at h
    refine Wc.condF' (t := _) (by conv => lhs; simp) (by simpa using kc4) ?_
    refine Wc.seq ?_
    refine Wc.kil (by conv => lhs; simp) ?_
    refine Wc.exit ?_
    have e0 := hx _ (Option.some.inj h).symm
    subst e0
    exact ⟨rfl, by first | rfl | simp⟩
theorem r160 {k : Int} {r : (List UInt8)} (h : f160 k = some r) : VJx cx (.ca 160 [(.int .i64 k)] (.str r) []) := by
  unfold f160 at h
  refine ca_of rfl rfl (by decide) rfl ?_
  refine Wc.start (V1 := [(0, .v (.int .i64 k))]) (by simp) ?_
  refine Wc.seq ?_
  refine Wc.evs (by conv => lhs; simp) ?_
  refine Wo.nil ?_
  refine Wc.seq ?_
  refine Wc.seq ?_
  refine Wc.evs (by conv => lhs; simp) ?_
  refine Wo.nil ?_
  by_cases kc1 : k ≤ 0
  · rw [if_pos kc1] at h
    refine Wc.condT' (t := _) (by conv => lhs; simp) (by simpa using kc1) ?_
    refine Wc.seq ?_
    refine Wc.kil (by conv => lhs; simp) ?_
    refine Wc.seq ?_
    refine Wc.evs (by conv => lhs; simp) ?_
    refine Wo.nil ?_
    refine Wc.ret (res_of (.inr rfl) ?_)
    cases h
    exact ⟨_, _, _, by conv => lhs; simp, by (conv => lhs; simp [cx, ioTab, List.range, List.range.loop]) <;> rfl, by first | rfl | simp⟩
  · rw [if_neg kc1] at h
    refine Wc.condF' (t := _) (by conv => lhs; simp) (by simpa using kc1) ?_
    refine Wc.seq ?_
    refine Wc.kil (by conv => lhs; simp) ?_
    refine Wc.skip ?_
    refine Wc.seq ?_
    refine Wc.evs (by conv => lhs; simp) ?_
    refine Wo.nil ?_
    refine Wc.seq ?_
    refine Wc.block ?_
    obtain ⟨w7, h8, h⟩ := bind_some h
    refine Wc.start (V1 := [(0, .v (.int .i64 k)), (3, .v (.str ([])))]) (by first | rfl | simp) ?_
    refine Wc.mono (r160_0 _ _ h8) ?_
    generalize w7 = out_9 at *
    rintro ex V ⟨rfl, rfl⟩
    try dsimp only at h
    refine Wc.seq ?_
    obtain ⟨s_10, h11, h⟩ := bind_some h
    obtain ⟨gs11, ge11⟩ := cat_some h11
    try simp at gs11
    refine Wc.evs (by conv => lhs; simp [gs11, ge11]) ?_
    refine Wo.nil ?_
    refine Wc.ret (res_of (.inr rfl) ?_)
    cases h
    exact ⟨_, _, _, by conv => lhs; simp, by (conv => lhs; simp [cx, ioTab, List.range, List.range.loop]) <;> rfl, by first | rfl | simp [gs11, ge11]⟩
theorem r107_0 : ∀ zs zo, iter f107_0 zs = some zo → Wc cx 35 (.loop L107_0) [(0, .v (osl eRelation true zs.1)), (1, .v (.int .i64 zs.2.1)), (5, .v (.int .i64 zs.2.2))] ((QX 0 (fun (y : (List Relation) × Int) => [(0, .v (osl eRelation true y.1)), (1, .v (.int .i64 y.2))])) zo) := by
  intro zs0 zo0 zh0
  refine iter_run (f := f107_0) (P := fun zs zo => Wc cx 35 (.loop L107_0) [(0, .v (osl eRelation true zs.1)), (1, .v (.int .i64 zs.2.1)), (5, .v (.int .i64 zs.2.2))] ((QX 0 (fun (y : (List Relation) × Int) => [(0, .v (osl eRelation true y.1)), (1, .v (.int .i64 y.2))])) zo)) ?_ zh0
  rintro ⟨a_1, k_2, i_3⟩ zo zr h hk hx
  try dsimp only at hk ⊢
  rw [f107_0] at h
  refine Wc.loop ?_
  refine Wc.seq ?_
  refine Wc.seq ?_
  refine Wc.evs (by conv => lhs; simp) ?_
  refine Wo.nil ?_
  by_cases kc4 : i_3 < (a_1.length : Int)
  · rw [if_pos kc4] at h
    refine Wc.condT' (t := _) (by conv => lhs; simp) (by simpa using kc4) ?_
    refine Wc.seq ?_
    refine Wc.kil (by conv => lhs; simp) ?_
    refine Wc.skip ?_
    refine Wc.seq ?_
    refine Wc.block ?_
    refine Wc.seq ?_
    refine Wc.evs (by conv => lhs; simp) ?_
    obtain ⟨o5, h6, h⟩ := bind_some h
    refine Wo.call (by simp) rfl (by (conv => lhs; simp [cx, ioTab]) <;> rfl) (r160 h6) (by simp) (by simp) (by (conv => lhs; simp [cx, ioTab]) <;> rfl) (by (conv => lhs; simp) <;> rfl) ?_
    obtain ⟨v_7, h8, h⟩ := bind_some h
    obtain ⟨ga8, gb8, gc8⟩ := ix_some h8
    have gn8 := ix_ne h8
    have gf8 := arr_fit (E := eRelation) (b := true) (i := i_3.toNat) (l := a_1) (by omega)
    have gg8_0 := arr_get (E := eRelation) (b := true) (o := 0) gc8 (by decide)
    have gg8_1 := arr_get (E := eRelation) (b := true) (o := 1) gc8 (by decide)
    have gg8_2 := arr_get (E := eRelation) (b := true) (o := 2) gc8 (by decide)
    have gd8 := arr_at (E := eRelation) (b := true) gc8
    simp at gf8 gg8_0 gg8_1 gg8_2 gd8
    have gl8 : i_3.toNat < a_1.length := by omega
    have gy9 := lay_cell (E := eRelation) (b := true) (o := 0) ({ Name := o5, Arity := v_7.Arity, KeyLength := v_7.KeyLength } : Relation) (t := (.str o5)) gc8 (by decide) rfl
    simp at gy9
    have gv9 : i_3.toNat * 3 + 1 ≤ a_1.length * 3 := by omega
    refine Wo.evs (by conv => lhs; simp [-getElem?_pos, List.getElem?_cons_zero, List.getElem?_cons_succ, ga8, gb8, gn8, gf8, gg8_0, gg8_1, gg8_2, gd8, gl8, gy9, gv9]) ?_
    refine Wo.nil ?_
    refine Wc.seq ?_
    refine Wc.evs (by conv => lhs; simp) ?_
    refine Wo.nil ?_
    refine Wc.seq ?_
    obtain ⟨v_10, h11, h⟩ := bind_some h
    obtain ⟨ga11, gb11, gc11⟩ := ix_some h11
    have gn11 := ix_ne h11
    have gf11 := arr_fit (E := eRelation) (b := true) (i := i_3.toNat) (l := (a_1.set i_3.toNat ({ Name := o5, Arity := v_7.Arity, KeyLength := v_7.KeyLength } : Relation))) (by first | omega | (simp only [List.length_set] at *; omega))
    have gg11_0 := arr_get (E := eRelation) (b := true) (o := 0) gc11 (by decide)
    have gg11_1 := arr_get (E := eRelation) (b := true) (o := 1) gc11 (by decide)
    have gg11_2 := arr_get (E := eRelation) (b := true) (o := 2) gc11 (by decide)
    have gd11 := arr_at (E := eRelation) (b := true) gc11
    simp at gf11 gg11_0 gg11_1 gg11_2 gd11
    have gl11 : i_3.toNat < (a_1.set i_3.toNat ({ Name := o5, Arity := v_7.Arity, KeyLength := v_7.KeyLength } : Relation)).length := by first | omega | (simp only [List.length_set] at *; omega)
    try simp only [List.length_set] at gb11 gl11
    try simp at gn11
    have gy12 := lay_cell (E := eRelation) (b := true) (o := 1) ({ Name := v_10.Name, Arity := w64 (k_2 + 1), KeyLength := v_10.KeyLength } : Relation) (t := (.int .i64 (w64 (k_2 + 1)))) gc11 (by decide) rfl
    simp at gy12
    have gv12 : i_3.toNat * 3 + 2 ≤ (a_1.set i_3.toNat ({ Name := o5, Arity := v_7.Arity, KeyLength := v_7.KeyLength } : Relation)).length * 3 := by first | omega | (simp only [List.length_set] at *; omega)
    try simp only [List.length_set] at gv12
    refine Wc.evs (by conv => lhs; simp [-getElem?_pos, List.getElem?_cons_zero, List.getElem?_cons_succ, ga11, gb11, gn11, gf11, gg11_0, gg11_1, gg11_2, gd11, gl11, gy12, gv12]) ?_
    refine Wo.nil ?_
    refine Wc.seq ?_
    refine Wc.evs (by conv => lhs; simp) ?_
    refine Wo.nil ?_
    refine Wc.seq ?_
    obtain ⟨v_13, h14, h⟩ := bind_some h
    obtain ⟨ga14, gb14, gc14⟩ := ix_some h14
    have gn14 := ix_ne h14
    have gf14 := arr_fit (E := eRelation) (b := true) (i := i_3.toNat) (l := ((a_1.set i_3.toNat ({ Name := o5, Arity := v_7.Arity, KeyLength := v_7.KeyLength } : Relation)).set i_3.toNat ({ Name := v_10.Name, Arity := w64 (k_2 + 1), KeyLength := v_10.KeyLength } : Relation))) (by first | omega | (simp only [List.length_set] at *; omega))
    have gg14_0 := arr_get (E := eRelation) (b := true) (o := 0) gc14 (by decide)
    have gg14_1 := arr_get (E := eRelation) (b := true) (o := 1) gc14 (by decide)
    have gg14_2 := arr_get (E := eRelation) (b := true) (o := 2) gc14 (by decide)
    have gd14 := arr_at (E := eRelation) (b := true) gc14
    simp at gf14 gg14_0 gg14_1 gg14_2 gd14
    have gl14 : i_3.toNat < ((a_1.set i_3.toNat ({ Name := o5, Arity := v_7.Arity, KeyLength := v_7.KeyLength } : Relation)).set i_3.toNat ({ Name := v_10.Name, Arity := w64 (k_2 + 1), KeyLength := v_10.KeyLength } : Relation)).length := by first | omega | (simp only [List.length_set] at *; omega)
    try simp only [List.length_set] at gb14 gl14
    try simp at gn14
    have gy15 := lay_cell (E := eRelation) (b := true) (o := 2) ({ Name := v_13.Name, Arity := v_13.Arity, KeyLength := w64 ((w64 (k_2 + 1)) + 1) } : Relation) (t := (.int .i64 (w64 ((w64 (k_2 + 1)) + 1)))) gc14 (by decide) rfl
    simp at gy15
    have gv15 : i_3.toNat * 3 + 3 ≤ ((a_1.set i_3.toNat ({ Name := o5, Arity := v_7.Arity, KeyLength := v_7.KeyLength } : Relation)).set i_3.toNat ({ Name := v_10.Name, Arity := w64 (k_2 + 1), KeyLength := v_10.KeyLength } : Relation)).length * 3 := by first | omega | (simp only [List.length_set] at *; omega)
    try simp only [List.length_set] at gv15
    refine Wc.evs (by conv => lhs; simp [-getElem?_pos, List.getElem?_cons_zero, List.getElem?_cons_succ, ga14, gb14, gn14, gf14, gg14_0, gg14_1, gg14_2, gd14, gl14, gy15, gv15]) ?_
    refine Wo.nil ?_
    refine Wc.evs (by conv => lhs; simp) ?_
    refine Wo.nil ?_
    refine Wc.evs (by conv => lhs; simp) ?_
    refine Wo.nil ?_
    refine Wc.start (V1 := [(0, .v (osl eRelation true (((a_1.set i_3.toNat ({ Name := o5, Arity := v_7.Arity, KeyLength := v_7.KeyLength } : Relation)).set i_3.toNat ({ Name := v_10.Name, Arity := w64 (k_2 + 1), KeyLength := v_10.KeyLength } : Relation)).set i_3.toNat ({ Name := v_13.Name, Arity := v_13.Arity, KeyLength := w64 ((w64 (k_2 + 1)) + 1) } : Relation)))), (1, .v (.int .i64 (w64 ((w64 ((w64 (k_2 + 1)) + 1)) + 1)))), (5, .v (.int .i64 (w64 (i_3 + 1))))]) ?_ (hk _ (Option.some.inj h).symm)
    first | rfl | simp
  · rw [if_neg kc4] at h
    refine Wc.condF' (t := _) (by conv => lhs; simp) (by simpa using kc4) ?_
    refine Wc.seq ?_
    refine Wc.kil (by conv => lhs; simp) ?_
    refine Wc.exit ?_
    have e0 := hx _ (Option.some.inj h).symm
    subst e0
    exact ⟨rfl, by first | rfl | simp⟩
theorem r107 {a : (List Relation)} {k : Int} {r : Int × (List Relation)} (h : f107 a k = some r) : VJx cx (.ca 107 [(osl eRelation true a), (.int .i64 k)] (.int .i64 r.1) [(osl eRelation true r.2)]) := by
  unfold f107 at h
  refine ca_of rfl rfl (by decide) rfl ?_
  refine Wc.start (V1 := [(0, .v (osl eRelation true a)), (1, .v (.int .i64 k))]) (by simp) ?_
  refine Wc.seq ?_
  refine Wc.evs (by conv => lhs; simp) ?_
  refine Wo.nil ?_
  refine Wc.seq ?_
  refine Wc.seq ?_
  refine Wc.evs (by conv => lhs; simp) ?_
  refine Wo.nil ?_
  refine Wc.block ?_
  obtain ⟨w16, h17, h⟩ := bind_some h
  refine Wc.start (V1 := [(0, .v (osl eRelation true a)), (1, .v (.int .i64 k)), (5, .v (.int .i64 0))]) (by first | rfl | simp) ?_
  refine Wc.mono (r107_0 _ _ h17) ?_
  obtain ⟨a_18, k_19⟩ := w16
  rintro ex V ⟨rfl, rfl⟩
  dsimp only at h ⊢
  refine Wc.seq ?_
  refine Wc.evs (by conv => lhs; simp) ?_
  refine Wo.nil ?_
  refine Wc.ret (res_of (.inr rfl) ?_)
  cases h
  exact ⟨_, _, _, by conv => lhs; simp, by (conv => lhs; simp [cx, ioTab, List.range, List.range.loop]) <;> rfl, by first | rfl | simp⟩
theorem r45_0 : ∀ zs zo, iter f45_0 zs = some zo → Wc cx 19 (.loop L45_0) [(0, .v (osl eI true zs.1)), (1, .v (.int .i64 zs.2.1)), (5, .v (.int .i64 zs.2.2))] ((QX 0 (fun (y : (List Int) × Int) => [(0, .v (osl eI true y.1)), (1, .v (.int .i64 y.2))])) zo) := by
  intro zs0 zo0 zh0
  refine iter_run (f := f45_0) (P := fun zs zo => Wc cx 19 (.loop L45_0) [(0, .v (osl eI true zs.1)), (1, .v (.int .i64 zs.2.1)), (5, .v (.int .i64 zs.2.2))] ((QX 0 (fun (y : (List Int) × Int) => [(0, .v (osl eI true y.1)), (1, .v (.int .i64 y.2))])) zo)) ?_ zh0
  rintro ⟨a_1, k_2, i_3⟩ zo zr h hk hx
  try dsimp only at hk ⊢
  rw [f45_0] at h
  refine Wc.loop ?_
  refine Wc.seq ?_
  refine Wc.seq ?_
  refine Wc.evs (by conv => lhs; simp) ?_
  refine Wo.nil ?_
  by_cases kc4 : i_3 < (a_1.length : Int)
  · rw [if_pos kc4] at h
    refine Wc.condT' (t := _) (by conv => lhs; simp) (by simpa using kc4) ?_
    refine Wc.seq ?_
    refine Wc.kil (by conv => lhs; simp) ?_
    refine Wc.skip ?_
    refine Wc.seq ?_
    refine Wc.block ?_
    refine Wc.seq ?_
    obtain ⟨v_5, h6, h⟩ := bind_some h
    obtain ⟨ga6, gb6, gc6⟩ := ix_some h6
    have gn6 := ix_ne h6
    have gf6 := arr_fit (E := eI) (b := true) (i := i_3.toNat) (l := a_1) (by omega)
    have gg6_0 := arr_get (E := eI) (b := true) (o := 0) gc6 (by decide)
    simp at gf6 gg6_0
    have gl6 : i_3.toNat < a_1.length := by omega
    have gy7 := lay_set (E := eI) (b := true) (i := i_3.toNat) (l := a_1) k_2 (by omega)
    simp at gy7
    refine Wc.evs (by conv => lhs; simp [-getElem?_pos, List.getElem?_cons_zero, List.getElem?_cons_succ, ga6, gb6, gn6, gf6, gg6_0, gl6, gy7]) ?_
    refine Wo.nil ?_
    refine Wc.evs (by conv => lhs; simp) ?_
    refine Wo.nil ?_
    refine Wc.evs (by conv => lhs; simp) ?_
    refine Wo.nil ?_
    refine Wc.start (V1 := [(0, .v (osl eI true (a_1.set i_3.toNat k_2))), (1, .v (.int .i64 (w64 (k_2 + 1)))), (5, .v (.int .i64 (w64 (i_3 + 1))))]) ?_ (hk _ (Option.some.inj h).symm)
    first | rfl | simp
  · rw [if_neg kc4] at h
    refine Wc.condF' (t := _) (by conv => lhs; simp) (by simpa using kc4) ?_
    refine Wc.seq ?_
    refine Wc.kil (by conv => lhs; simp) ?_
    refine Wc.exit ?_
    have e0 := hx _ (Option.some.inj h).symm
    subst e0
    exact ⟨rfl, by first | rfl | simp⟩
theorem r45 {a : (List Int)} {k : Int} {r : Int × (List Int)} (h : f45 a k = some r) : VJx cx (.ca 45 [(osl eI true a), (.int .i64 k)] (.int .i64 r.1) [(osl eI true r.2)]) := by
  unfold f45 at h
  refine ca_of rfl rfl (by decide) rfl ?_
  refine Wc.start (V1 := [(0, .v (osl eI true a)), (1, .v (.int .i64 k))]) (by simp) ?_
  refine Wc.seq ?_
  refine Wc.evs (by conv => lhs; simp) ?_
  refine Wo.nil ?_
  refine Wc.seq ?_
  refine Wc.seq ?_
  refine Wc.evs (by conv => lhs; simp) ?_
  refine Wo.nil ?_
  refine Wc.block ?_
  obtain ⟨w8, h9, h⟩ := bind_some h
  refine Wc.start (V1 := [(0, .v (osl eI true a)), (1, .v (.int .i64 k)), (5, .v (.int .i64 0))]) (by first | rfl | simp) ?_
  refine Wc.mono (r45_0 _ _ h9) ?_
  obtain ⟨a_10, k_11⟩ := w8
  rintro ex V ⟨rfl, rfl⟩
  dsimp only at h ⊢
  refine Wc.seq ?_
  refine Wc.evs (by conv => lhs; simp) ?_
  refine Wo.nil ?_
  refine Wc.ret (res_of (.inr rfl) ?_)
  cases h
  exact ⟨_, _, _, by conv => lhs; simp, by (conv => lhs; simp [cx, ioTab, List.range, List.range.loop]) <;> rfl, by first | rfl | simp⟩
theorem r108_0 : ∀ zs zo, iter f108_0 zs = some zo → Wc cx 27 (.loop L108_0) [(0, .v (osl eFact true zs.1)), (1, .v (.int .i64 zs.2.1)), (5, .v (.int .i64 zs.2.2))] ((QX 0 (fun (y : (List Fact) × Int) => [(0, .v (osl eFact true y.1)), (1, .v (.int .i64 y.2))])) zo) := by
  intro zs0 zo0 zh0
  refine iter_run (f := f108_0) (P := fun zs zo => Wc cx 27 (.loop L108_0) [(0, .v (osl eFact true zs.1)), (1, .v (.int .i64 zs.2.1)), (5, .v (.int .i64 zs.2.2))] ((QX 0 (fun (y : (List Fact) × Int) => [(0, .v (osl eFact true y.1)), (1, .v (.int .i64 y.2))])) zo)) ?_ zh0
  rintro ⟨a_1, k_2, i_3⟩ zo zr h hk hx
  try dsimp only at hk ⊢
  rw [f108_0] at h
  refine Wc.loop ?_
  refine Wc.seq ?_
  refine Wc.seq ?_
  refine Wc.evs (by conv => lhs; simp) ?_
  refine Wo.nil ?_
  by_cases kc4 : i_3 < (a_1.length : Int)
  · rw [if_pos kc4] at h
    refine Wc.condT' (t := _) (by conv => lhs; simp) (by simpa using kc4) ?_
    refine Wc.seq ?_
    refine Wc.kil (by conv => lhs; simp) ?_
    refine Wc.skip ?_
    refine Wc.seq ?_
    refine Wc.block ?_
    refine Wc.seq ?_
    obtain ⟨v_5, h6, h⟩ := bind_some h
    obtain ⟨ga6, gb6, gc6⟩ := ix_some h6
    have gn6 := ix_ne h6
    have gf6 := arr_fit (E := eFact) (b := true) (i := i_3.toNat) (l := a_1) (by omega)
    have gg6_0 := arr_get (E := eFact) (b := true) (o := 0) gc6 (by decide)
    have gg6_1 := arr_get (E := eFact) (b := true) (o := 1) gc6 (by decide)
    have gd6 := arr_at (E := eFact) (b := true) gc6
    simp at gf6 gg6_0 gg6_1 gd6
    have gl6 : i_3.toNat < a_1.length := by omega
    have gy7 := lay_cell (E := eFact) (b := true) (o := 0) ({ Relation := k_2, Values := v_5.Values } : Fact) (t := (.int .i64 k_2)) gc6 (by decide) rfl
    simp at gy7
    have gv7 : i_3.toNat * 2 + 1 ≤ a_1.length * 2 := by omega
    refine Wc.evs (by conv => lhs; simp [-getElem?_pos, List.getElem?_cons_zero, List.getElem?_cons_succ, ga6, gb6, gn6, gf6, gg6_0, gg6_1, gd6, gl6, gy7, gv7]) ?_
    refine Wo.nil ?_
    refine Wc.seq ?_
    refine Wc.evs (by conv => lhs; simp) ?_
    refine Wo.nil ?_
    obtain ⟨v_8, h9, h⟩ := bind_some h
    obtain ⟨ga9, gb9, gc9⟩ := ix_some h9
    have gn9 := ix_ne h9
    have gf9 := arr_fit (E := eFact) (b := true) (i := i_3.toNat) (l := (a_1.set i_3.toNat ({ Relation := k_2, Values := v_5.Values } : Fact))) (by first | omega | (simp only [List.length_set] at *; omega))
    have gg9_0 := arr_get (E := eFact) (b := true) (o := 0) gc9 (by decide)
    have gg9_1 := arr_get (E := eFact) (b := true) (o := 1) gc9 (by decide)
    have gd9 := arr_at (E := eFact) (b := true) gc9
    simp at gf9 gg9_0 gg9_1 gd9
    have gl9 : i_3.toNat < (a_1.set i_3.toNat ({ Relation := k_2, Values := v_5.Values } : Fact)).length := by first | omega | (simp only [List.length_set] at *; omega)
    try simp only [List.length_set] at gb9 gl9
    try simp at gn9
    refine Wc.evs (by conv => lhs; simp [-getElem?_pos, List.getElem?_cons_zero, List.getElem?_cons_succ, ga9, gb9, gn9, gf9, gg9_0, gg9_1, gd9, gl9, ga6, gb6, gn6, gf6, gg6_0, gg6_1, gd6, gl6]) ?_
    obtain ⟨o10, h11, h⟩ := bind_some h
    refine Wo.call (by simp) rfl (by (conv => lhs; simp [-getElem?_pos, List.getElem?_cons_zero, List.getElem?_cons_succ, ga9, gb9, gn9, gf9, gg9_0, gg9_1, gd9, gl9, ga6, gb6, gn6, gf6, gg6_0, gg6_1, gd6, gl6, cx, ioTab]) <;> rfl) (r45 h11) (by simp) (by simp) (by (conv => lhs; simp [-getElem?_pos, List.getElem?_cons_zero, List.getElem?_cons_succ, ga9, gb9, gn9, gf9, gg9_0, gg9_1, gd9, gl9, ga6, gb6, gn6, gf6, gg6_0, gg6_1, gd6, gl6, cx, ioTab]) <;> rfl) (by (conv => lhs; simp [-getElem?_pos, List.getElem?_cons_zero, List.getElem?_cons_succ, ga9, gb9, gn9, gf9, gg9_0, gg9_1, gd9, gl9, ga6, gb6, gn6, gf6, gg6_0, gg6_1, gd6, gl6]) <;> rfl) ?_
    have gy12 := set_cell (E := eFact) (b := true) (o := 1) ({ Relation := v_8.Relation, Values := o10.2 } : Fact) (t := (osl eI true o10.2)) gc9 (by decide) rfl
    simp at gy12
    refine Wo.evs (by conv => lhs; simp [-getElem?_pos, List.getElem?_cons_zero, List.getElem?_cons_succ, ga9, gb9, gn9, gf9, gg9_0, gg9_1, gd9, gl9, ga6, gb6, gn6, gf6, gg6_0, gg6_1, gd6, gl6, gy12]) ?_
    refine Wo.nil ?_
    refine Wc.evs (by conv => lhs; simp) ?_
    refine Wo.nil ?_
    refine Wc.start (V1 := [(0, .v (osl eFact true ((a_1.set i_3.toNat ({ Relation := k_2, Values := v_5.Values } : Fact)).set i_3.toNat ({ Relation := v_8.Relation, Values := o10.2 } : Fact)))), (1, .v (.int .i64 o10.1)), (5, .v (.int .i64 (w64 (i_3 + 1))))]) ?_ (hk _ (Option.some.inj h).symm)
    first | rfl | simp
  · rw [if_neg kc4] at h
    refine Wc.condF' (t := _) (by conv => lhs; simp) (by simpa using kc4) ?_
    refine Wc.seq ?_
    refine Wc.kil (by conv => lhs; simp) ?_
    refine Wc.exit ?_
    have e0 := hx _ (Option.some.inj h).symm
    subst e0
    exact ⟨rfl, by first | rfl | simp⟩
theorem r108 {a : (List Fact)} {k : Int} {r : Int × (List Fact)} (h : f108 a k = some r) : VJx cx (.ca 108 [(osl eFact true a), (.int .i64 k)] (.int .i64 r.1) [(osl eFact true r.2)]) := by
  unfold f108 at h
  refine ca_of rfl rfl (by decide) rfl ?_
  refine Wc.start (V1 := [(0, .v (osl eFact true a)), (1, .v (.int .i64 k))]) (by simp) ?_
  refine Wc.seq ?_
  refine Wc.evs (by conv => lhs; simp) ?_
  refine Wo.nil ?_
  refine Wc.seq ?_
  refine Wc.seq ?_
  refine Wc.evs (by conv => lhs; simp) ?_
  refine Wo.nil ?_
  refine Wc.block ?_
  obtain ⟨w13, h14, h⟩ := bind_some h
  refine Wc.start (V1 := [(0, .v (osl eFact true a)), (1, .v (.int .i64 k)), (5, .v (.int .i64 0))]) (by first | rfl | simp) ?_
  refine Wc.mono (r108_0 _ _ h14) ?_
  obtain ⟨a_15, k_16⟩ := w13
  rintro ex V ⟨rfl, rfl⟩
  dsimp only at h ⊢
  refine Wc.seq ?_
  refine Wc.evs (by conv => lhs; simp) ?_
  refine Wo.nil ?_
  refine Wc.ret (res_of (.inr rfl) ?_)
  cases h
  exact ⟨_, _, _, by conv => lhs; simp, by (conv => lhs; simp [cx, ioTab, List.range, List.range.loop]) <;> rfl, by first | rfl | simp⟩
theorem r44 {a : Database} {k : Int} {r : Int} (h : f44 a k = some r) : VJx cx (.ca 44 [(.agg [(osl eRelation true a.Relations), (osl eFact true a.Facts)]), (.int .i64 k)] (.int .i64 r) [.und]) := by
  unfold f44 at h
  refine ca_of rfl rfl (by decide) rfl ?_
  refine Wc.start (V1 := [(0, .v (.agg [(osl eRelation true a.Relations), (osl eFact true a.Facts)])), (1, .v (.int .i64 k))]) (by simp) ?_
  refine Wc.seq ?_
  refine Wc.evs (by conv => lhs; simp) ?_
  refine Wo.nil ?_
  refine Wc.seq ?_
  refine Wc.evs (by conv => lhs; simp) ?_
  obtain ⟨o1, h2, h⟩ := bind_some h
  refine Wo.call (by simp) rfl (by (conv => lhs; simp [cx, ioTab]) <;> rfl) (r107 h2) (by simp) (by simp) (by (conv => lhs; simp [cx, ioTab]) <;> rfl) (by (conv => lhs; simp) <;> rfl) ?_
  refine Wo.evs (by conv => lhs; simp) ?_
  refine Wo.nil ?_
  refine Wc.seq ?_
  refine Wc.evs (by conv => lhs; simp) ?_
  obtain ⟨o3, h4, h⟩ := bind_some h
  refine Wo.call (by simp) rfl (by (conv => lhs; simp [cx, ioTab]) <;> rfl) (r108 h4) (by simp) (by simp) (by (conv => lhs; simp [cx, ioTab]) <;> rfl) (by (conv => lhs; simp) <;> rfl) ?_
  refine Wo.evs (by conv => lhs; simp) ?_
  refine Wo.nil ?_
  refine Wc.seq ?_
  refine Wc.evs (by conv => lhs; simp) ?_
  refine Wo.nil ?_
  refine Wc.ret (res_of (.inr rfl) ?_)
  cases h
  exact ⟨_, _, _, by conv => lhs; simp, by (conv => lhs; simp [cx, ioTab, List.range, List.range.loop]) <;> rfl, by first | rfl | simp⟩
theorem r46_0 {a : (List Int)} : ∀ zs zo, iter (f46_0 a) zs = some zo → Wc cx 21 (.loop L46_0) [(0, .v (ssl eI a)), (1, .v (.int .i64 zs.1)), (5, .v (.int .i64 zs.2))] ((QO (QX 0 (fun (y : Int) => [(1, .v (.int .i64 y))])) (QR (fun (y : Int) => [(4, .v (.int .i64 y))]))) zo) := by
  intro zs0 zo0 zh0
  refine iter_run (f := (f46_0 a)) (P := fun zs zo => Wc cx 21 (.loop L46_0) [(0, .v (ssl eI a)), (1, .v (.int .i64 zs.1)), (5, .v (.int .i64 zs.2))] ((QO (QX 0 (fun (y : Int) => [(1, .v (.int .i64 y))])) (QR (fun (y : Int) => [(4, .v (.int .i64 y))]))) zo)) ?_ zh0
  rintro ⟨k_1, i_2⟩ zo zr h hk hx
  try dsimp only at hk ⊢
  rw [f46_0] at h
  refine Wc.loop ?_
  refine Wc.seq ?_
  refine Wc.seq ?_
  refine Wc.evs (by conv => lhs; simp) ?_
  refine Wo.nil ?_
  by_cases kc3 : i_2 < (a.length : Int)
  · rw [if_pos kc3] at h
    refine Wc.condT' (t := _) (by conv => lhs; simp) (by simpa using kc3) ?_
    refine Wc.seq ?_
    refine Wc.kil (by conv => lhs; simp) ?_
    refine Wc.skip ?_
    refine Wc.seq ?_
    refine Wc.block ?_
    refine Wc.seq ?_
    refine Wc.seq ?_
    obtain ⟨v_4, h5, h⟩ := bind_some h
    obtain ⟨ga5, gb5, gc5⟩ := ix_some h5
    have gn5 := ix_ne h5
    have gd5 := arr_at (E := eI) (b := false) gc5
    simp at gd5
    refine Wc.evs (by conv => lhs; simp [ga5, gb5, gn5, gd5]) ?_
    refine Wo.nil ?_
    by_cases kc6 : v_4 ≠ k_1
    · rw [if_pos kc6] at h
      refine Wc.condT' (t := _) (by conv => lhs; simp) (by simpa using kc6) ?_
      refine Wc.seq ?_
      refine Wc.kil (by conv => lhs; simp) ?_
      refine Wc.seq ?_
      refine Wc.evs (by conv => lhs; simp) ?_
      refine Wo.nil ?_
      refine Wc.ret ?_
      have e0 := hx _ (Option.some.inj h).symm
      subst e0
      exact ⟨rfl, by first | rfl | simp⟩
    · rw [if_neg kc6] at h
      refine Wc.condF' (t := _) (by conv => lhs; simp) (by simpa using kc6) ?_
      refine Wc.seq ?_
      refine Wc.kil (by conv => lhs; simp) ?_
      refine Wc.skip ?_
      refine Wc.evs (by conv => lhs; simp) ?_
      refine Wo.nil ?_
      refine Wc.evs (by conv => lhs; simp) ?_
      refine Wo.nil ?_
      refine Wc.start (V1 := [(0, .v (ssl eI a)), (1, .v (.int .i64 (w64 (k_1 + 1)))), (5, .v (.int .i64 (w64 (i_2 + 1))))]) ?_ (hk _ (Option.some.inj h).symm)
      first | rfl | simp
  · rw [if_neg kc3] at h
    refine Wc.condF' (t := _) (by conv => lhs; simp) (by simpa using kc3) ?_
    refine Wc.seq ?_
    refine Wc.kil (by conv => lhs; simp) ?_
    refine Wc.exit ?_
    have e0 := hx _ (Option.some.inj h).symm
    subst e0
    exact ⟨rfl, by first | rfl | simp⟩
theorem r46 {a : (List Int)} {k : Int} {r : Int} (h : f46 a k = some r) : VJx cx (.ca 46 [(ssl eI a), (.int .i64 k)] (.int .i64 r) []) := by
  unfold f46 at h
  refine ca_of rfl rfl (by decide) rfl ?_
  refine Wc.start (V1 := [(0, .v (ssl eI a)), (1, .v (.int .i64 k))]) (by simp) ?_
  refine Wc.seq ?_
  refine Wc.evs (by conv => lhs; simp) ?_
  refine Wo.nil ?_
  refine Wc.seq ?_
  refine Wc.seq ?_
  refine Wc.evs (by conv => lhs; simp) ?_
  refine Wo.nil ?_
  refine Wc.block ?_
  obtain ⟨w7, h8, h⟩ := bind_some h
  refine Wc.start (V1 := [(0, .v (ssl eI a)), (1, .v (.int .i64 k)), (5, .v (.int .i64 0))]) (by first | rfl | simp) ?_
  refine Wc.mono (r46_0 _ _ h8) ?_
  rcases w7 with k_9 | x_10
  · rintro ex V ⟨rfl, rfl⟩
    try dsimp only at h
    refine Wc.seq ?_
    refine Wc.evs (by conv => lhs; simp) ?_
    refine Wo.nil ?_
    refine Wc.ret (res_of (.inr rfl) ?_)
    cases h
    exact ⟨_, _, _, by conv => lhs; simp, by (conv => lhs; simp [cx, ioTab, List.range, List.range.loop]) <;> rfl, by first | rfl | simp⟩
  · rintro ex V ⟨rfl, rfl⟩
    try dsimp only at h
    refine res_of (.inr rfl) ?_
    cases h
    exact ⟨_, _, _, by conv => lhs; simp, by (conv => lhs; simp [cx, ioTab, List.range, List.range.loop]) <;> rfl, by first | rfl | simp⟩
theorem r6 {aDb : Database} {aIndices : (List Int)} {r : Bool} (h : f6 aDb aIndices = some r) : VJx cx (.ca 6 [(.agg [(ssl eRelation aDb.Relations), (ssl eFact aDb.Facts)]), (ssl eI aIndices)] (.bool r) []) := by
  unfold f6 at h
  refine ca_of rfl rfl (by decide) rfl ?_
  refine Wc.start (V1 := [(0, .v (.agg [(ssl eRelation aDb.Relations), (ssl eFact aDb.Facts)])), (1, .v (ssl eI aIndices))]) (by simp) ?_
  refine Wc.seq ?_
  refine Wc.evs (by conv => lhs; simp) ?_
  refine Wo.nil ?_
  refine Wc.seq ?_
  refine Wc.seq ?_
  refine Wc.evs (by conv => lhs; simp) ?_
  refine Wo.nil ?_
  by_cases kc1 : (aIndices.length : Int) > 1048576
  · rw [if_pos kc1] at h
    refine Wc.condT' (t := _) (by conv => lhs; simp) (by simpa using kc1) ?_
    refine Wc.seq ?_
    refine Wc.kil (by conv => lhs; simp) ?_
    refine Wc.seq ?_
    refine Wc.evs (by conv => lhs; simp) ?_
    refine Wo.nil ?_
    refine Wc.ret (res_of (.inr rfl) ?_)
    cases h
    exact ⟨_, _, _, by conv => lhs; simp, by (conv => lhs; simp [cx, ioTab, List.range, List.range.loop]) <;> rfl, by first | rfl | simp⟩
  · rw [if_neg kc1] at h
    refine Wc.condF' (t := _) (by conv => lhs; simp) (by simpa using kc1) ?_
    refine Wc.seq ?_
    refine Wc.kil (by conv => lhs; simp) ?_
    refine Wc.skip ?_
    refine Wc.seq ?_
    refine Wc.evs (by conv => lhs; simp) ?_
    refine Wo.nil ?_
    refine Wc.seq ?_
    refine Wc.evs (by conv => lhs; simp) ?_
    obtain ⟨o2, h3, h⟩ := bind_some h
    refine Wo.call (by simp) rfl (by (conv => lhs; simp [cx, ioTab]) <;> rfl) (r37 h3) (by simp) (by simp) (by (conv => lhs; simp [cx, ioTab]) <;> rfl) (by (conv => lhs; simp) <;> rfl) ?_
    refine Wo.evs (by conv => lhs; simp) ?_
    refine Wo.nil ?_
    refine Wc.seq ?_
    refine Wc.seq ?_
    refine Wc.evs (by conv => lhs; simp) ?_
    refine Wo.nil ?_
    by_cases kc4 : o2 < 0
    · rw [if_pos kc4] at h
      refine Wc.condT' (t := _) (by conv => lhs; simp) (by simpa using kc4) ?_
      refine Wc.seq ?_
      refine Wc.kil (by conv => lhs; simp) ?_
      refine Wc.seq ?_
      refine Wc.evs (by conv => lhs; simp) ?_
      refine Wo.nil ?_
      refine Wc.ret (res_of (.inr rfl) ?_)
      cases h
      exact ⟨_, _, _, by conv => lhs; simp, by (conv => lhs; simp [cx, ioTab, List.range, List.range.loop]) <;> rfl, by first | rfl | simp⟩
    · rw [if_neg kc4] at h
      refine Wc.condF' (t := _) (by conv => lhs; simp) (by simpa using kc4) ?_
      refine Wc.seq ?_
      refine Wc.kil (by conv => lhs; simp) ?_
      refine Wc.skip ?_
      refine Wc.seq ?_
      refine Wc.evs (by conv => lhs; simp) ?_
      obtain ⟨o5, h6, h⟩ := bind_some h
      refine Wo.call (by simp) rfl (by (conv => lhs; simp [cx, ioTab]) <;> rfl) (r39 h6) (by simp) (by simp) (by (conv => lhs; simp [cx, ioTab]) <;> rfl) (by (conv => lhs; simp) <;> rfl) ?_
      refine Wo.gh (vle_fz (s := 27) rfl (by simp) (by conv => lhs; simp)) ?_
      refine Wo.evs (by conv => lhs; simp) ?_
      obtain ⟨o7, h8, h⟩ := bind_some h
      refine Wo.call (by simp) rfl (by (conv => lhs; simp [cx, ioTab]) <;> rfl) (r40 h8) (by simp) (by simp) (by (conv => lhs; simp [cx, ioTab]) <;> rfl) (by (conv => lhs; simp) <;> rfl) ?_
      refine Wo.gh (vle_fz (s := 29) rfl (by simp) (by conv => lhs; simp)) ?_
      obtain ⟨o9, h10, h⟩ := bind_some h
      refine Wo.call (by simp) rfl (by (conv => lhs; simp [cx, ioTab]) <;> rfl) (r38 h10) (by simp) (by simp) (by (conv => lhs; simp [cx, ioTab]) <;> rfl) (by (conv => lhs; simp) <;> rfl) ?_
      refine Wo.evs (by conv => lhs; simp) ?_
      refine Wo.nil ?_
      refine Wc.seq ?_
      refine Wc.evs (by conv => lhs; simp) ?_
      obtain ⟨o11, h12, h⟩ := bind_some h
      refine Wo.call (by simp) rfl (by (conv => lhs; simp [cx, ioTab]) <;> rfl) (r39 h12) (by simp) (by simp) (by (conv => lhs; simp [cx, ioTab]) <;> rfl) (by (conv => lhs; simp) <;> rfl) ?_
      refine Wo.evs (by conv => lhs; simp) ?_
      refine Wo.nil ?_
      refine Wc.seq ?_
      refine Wc.evs (by conv => lhs; simp) ?_
      obtain ⟨o13, h14, h⟩ := bind_some h
      refine Wo.call (by simp) rfl (by (conv => lhs; simp [cx, ioTab]) <;> rfl) (r40 h14) (by simp) (by simp) (by (conv => lhs; simp [cx, ioTab]) <;> rfl) (by (conv => lhs; simp) <;> rfl) ?_
      refine Wo.evs (by conv => lhs; simp) ?_
      refine Wo.nil ?_
      refine Wc.seq ?_
      refine Wc.evs (by conv => lhs; simp) ?_
      obtain ⟨o15, h16, h⟩ := bind_some h
      refine Wo.call (by simp) rfl (by (conv => lhs; simp [cx, ioTab]) <;> rfl) (r41 h16) (by simp) (by simp) (by (conv => lhs; simp [cx, ioTab]) <;> rfl) (by (conv => lhs; simp) <;> rfl) ?_
      refine Wo.evs (by conv => lhs; simp) ?_
      refine Wo.nil ?_
      refine Wc.seq ?_
      refine Wc.seq ?_
      refine Wc.evs (by conv => lhs; simp) ?_
      obtain ⟨o17, h18, h⟩ := bind_some h
      refine Wo.call (by simp) rfl (by (conv => lhs; simp [cx, ioTab]) <;> rfl) (r42 h18) (by simp) (by simp) (by (conv => lhs; simp [cx, ioTab]) <;> rfl) (by (conv => lhs; simp) <;> rfl) ?_
      refine Wo.evk 2 (by conv => lhs; simp) ?_
      obtain ⟨w20, h21, h⟩ := bind_some h
      refine Wo.mono (Q := fun V => V = [(1, .v (ssl eI aIndices)), (2, .v (.ptr true [(ssl eRelation aDb.Relations), (ssl eFact aDb.Facts)])), (6, .v (ssl eI o9.1)), (7, .v (.bool o9.2)), (8, .v (.ptr true [(osl eRelation true o11.Relations), (osl eFact true o11.Facts)])), (9, .v (osl eI true o13)), (10, .v (osl eI true o15.1)), (11, .v (.bool o15.2)), (51, .v (.bool w20))]) ?_ ?_
      · by_cases knh21 : ¬ (o17 = true)
        · rw [if_pos knh21] at h21
          refine Wo.gh (vle_co (s := 47) (t1 := .bool true) rfl (by simp) (tle_bool (by simpa using knh21)) (by conv => lhs; simp)) ?_
          refine Wo.evs (by conv => lhs; simp) ?_
          refine Wo.nil ?_
          cases h21
          first | rfl | simp
        · rw [if_neg knh21] at h21
          refine Wo.gh (vle_co (s := 47) (t1 := .bool false) rfl (by simp) (tle_bool (by simpa using knh21)) (by conv => lhs; simp)) ?_
          refine Wo.evs (by conv => lhs; simp) ?_
          refine Wo.nil ?_
          cases h21
          first | rfl | simp
      · rintro V rfl
        generalize w20 = x_19 at *
        try dsimp only at h
        by_cases kc22 : x_19 = true
        · rw [if_pos kc22] at h
          refine Wc.condT' (t := _) (by conv => lhs; simp) (by simpa using kc22) ?_
          refine Wc.seq ?_
          refine Wc.kil (by conv => lhs; simp) ?_
          refine Wc.seq ?_
          refine Wc.evs (by conv => lhs; simp) ?_
          refine Wo.nil ?_
          refine Wc.ret (res_of (.inr rfl) ?_)
          cases h
          exact ⟨_, _, _, by conv => lhs; simp, by (conv => lhs; simp [cx, ioTab, List.range, List.range.loop]) <;> rfl, by first | rfl | simp⟩
        · rw [if_neg kc22] at h
          refine Wc.condF' (t := _) (by conv => lhs; simp) (by simpa using kc22) ?_
          refine Wc.seq ?_
          refine Wc.kil (by conv => lhs; simp) ?_
          refine Wc.skip ?_
          refine Wc.seq ?_
          refine Wc.seq ?_
          refine Wc.evs (by conv => lhs; simp) ?_
          obtain ⟨o23, h24, h⟩ := bind_some h
          refine Wo.call (by simp) rfl (by (conv => lhs; simp [cx, ioTab]) <;> rfl) (r39 h24) (by simp) (by simp) (by (conv => lhs; simp [cx, ioTab]) <;> rfl) (by (conv => lhs; simp) <;> rfl) ?_
          obtain ⟨o25, h26, h⟩ := bind_some h
          refine Wo.call (by simp) rfl (by (conv => lhs; simp [cx, ioTab]) <;> rfl) (r43 h26) (by simp) (by simp) (by (conv => lhs; simp [cx, ioTab]) <;> rfl) (by (conv => lhs; simp) <;> rfl) ?_
          refine Wo.evs (by conv => lhs; simp) ?_
          refine Wo.nil ?_
          by_cases kc27 : ¬ (o25 = true)
          · rw [if_pos kc27] at h
            refine Wc.condT' (t := _) (by conv => lhs; simp) (by simpa using kc27) ?_
            refine Wc.seq ?_
            refine Wc.kil (by conv => lhs; simp) ?_
            refine Wc.seq ?_
            refine Wc.evs (by conv => lhs; simp) ?_
            refine Wo.nil ?_
            refine Wc.ret (res_of (.inr rfl) ?_)
            cases h
            exact ⟨_, _, _, by conv => lhs; simp, by (conv => lhs; simp [cx, ioTab, List.range, List.range.loop]) <;> rfl, by first | rfl | simp⟩
          · rw [if_neg kc27] at h
            refine Wc.condF' (t := _) (by conv => lhs; simp) (by simpa using kc27) ?_
            refine Wc.seq ?_
            refine Wc.kil (by conv => lhs; simp) ?_
            refine Wc.skip ?_
            refine Wc.seq ?_
            refine Wc.seq ?_
            refine Wc.evs (by conv => lhs; simp) ?_
            obtain ⟨o28, h29, h⟩ := bind_some h
            refine Wo.call (by simp) rfl (by (conv => lhs; simp [cx, ioTab]) <;> rfl) (r40 h29) (by simp) (by simp) (by (conv => lhs; simp [cx, ioTab]) <;> rfl) (by (conv => lhs; simp) <;> rfl) ?_
            obtain ⟨o30, h31, h⟩ := bind_some h
            refine Wo.call (by simp) rfl (by (conv => lhs; simp [cx, ioTab]) <;> rfl) (r42 h31) (by simp) (by simp) (by (conv => lhs; simp [cx, ioTab]) <;> rfl) (by (conv => lhs; simp) <;> rfl) ?_
            refine Wo.evs (by conv => lhs; simp) ?_
            refine Wo.nil ?_
            by_cases kc32 : ¬ (o30 = true)
            · rw [if_pos kc32] at h
              refine Wc.condT' (t := _) (by conv => lhs; simp) (by simpa using kc32) ?_
              refine Wc.seq ?_
              refine Wc.kil (by conv => lhs; simp) ?_
              refine Wc.seq ?_
              refine Wc.evs (by conv => lhs; simp) ?_
              refine Wo.nil ?_
              refine Wc.ret (res_of (.inr rfl) ?_)
              cases h
              exact ⟨_, _, _, by conv => lhs; simp, by (conv => lhs; simp [cx, ioTab, List.range, List.range.loop]) <;> rfl, by first | rfl | simp⟩
            · rw [if_neg kc32] at h
              refine Wc.condF' (t := _) (by conv => lhs; simp) (by simpa using kc32) ?_
              refine Wc.seq ?_
              refine Wc.kil (by conv => lhs; simp) ?_
              refine Wc.skip ?_
              refine Wc.seq ?_
              refine Wc.evs (by conv => lhs; simp) ?_
              refine Wo.nil ?_
              refine Wc.seq ?_
              refine Wc.evs (by conv => lhs; simp) ?_
              obtain ⟨o33, h34, h⟩ := bind_some h
              refine Wo.call (by simp) rfl (by (conv => lhs; simp [cx, ioTab]) <;> rfl) (r44 h34) (by simp) (by simp) (by (conv => lhs; simp [cx, ioTab]) <;> rfl) (by (conv => lhs; simp) <;> rfl) ?_
              refine Wo.evs (by conv => lhs; simp) ?_
              refine Wo.nil ?_
              refine Wc.seq ?_
              refine Wc.evs (by conv => lhs; simp) ?_
              obtain ⟨o35, h36, h⟩ := bind_some h
              refine Wo.call (by simp) rfl (by (conv => lhs; simp [cx, ioTab]) <;> rfl) (r45 h36) (by simp) (by simp) (by (conv => lhs; simp [cx, ioTab]) <;> rfl) (by (conv => lhs; simp) <;> rfl) ?_
              refine Wo.evs (by conv => lhs; simp) ?_
              refine Wo.nil ?_
              refine Wc.seq ?_
              refine Wc.seq ?_
              refine Wc.evk 3 (by conv => lhs; simp) ?_
              obtain ⟨w38, h39, h⟩ := bind_some h
              refine Wo.mono (Q := fun V => V = [(1, .v (ssl eI aIndices)), (2, .v (.ptr true [(ssl eRelation aDb.Relations), (ssl eFact aDb.Facts)])), (6, .v (ssl eI o9.1)), (7, .v (.bool o9.2)), (10, .v (osl eI true o15.1)), (80, .v (.bool w38))]) ?_ ?_
              · by_cases knh39 : o35.1 < 0
                · rw [if_pos knh39] at h39
                  refine Wo.gh (vle_co (s := 70) (t1 := .bool true) rfl (by simp) (tle_bool (by simpa using knh39)) (by conv => lhs; simp)) ?_
                  refine Wo.evs (by conv => lhs; simp) ?_
                  refine Wo.nil ?_
                  cases h39
                  first | rfl | simp
                · rw [if_neg knh39] at h39
                  refine Wo.gh (vle_co (s := 70) (t1 := .bool false) rfl (by simp) (tle_bool (by simpa using knh39)) (by conv => lhs; simp)) ?_
                  refine Wo.evs (by conv => lhs; simp) ?_
                  obtain ⟨o40, h41, h39⟩ := bind_some h39
                  refine Wo.call (by simp) rfl (by (conv => lhs; simp [cx, ioTab]) <;> rfl) (r42 h41) (by simp) (by simp) (by (conv => lhs; simp [cx, ioTab]) <;> rfl) (by (conv => lhs; simp) <;> rfl) ?_
                  refine Wo.evk 3 (by conv => lhs; simp) ?_
                  obtain ⟨w43, h44, h39⟩ := bind_some h39
                  refine Wo.mono (Q := fun V => V = [(1, .v (ssl eI aIndices)), (2, .v (.ptr true [(ssl eRelation aDb.Relations), (ssl eFact aDb.Facts)])), (6, .v (ssl eI o9.1)), (7, .v (.bool o9.2)), (10, .v (osl eI true o15.1)), (80, .v (.bool w43))]) ?_ ?_
                  · by_cases knh44 : ¬ (o40 = true)
                    · rw [if_pos knh44] at h44
                      refine Wo.gh (vle_co (s := 76) (t1 := .bool true) rfl (by simp) (tle_bool (by simpa using knh44)) (by conv => lhs; simp)) ?_
                      refine Wo.evs (by conv => lhs; simp) ?_
                      refine Wo.nil ?_
                      cases h44
                      first | rfl | simp
                    · rw [if_neg knh44] at h44
                      refine Wo.gh (vle_co (s := 76) (t1 := .bool false) rfl (by simp) (tle_bool (by simpa using knh44)) (by conv => lhs; simp)) ?_
                      refine Wo.evs (by conv => lhs; simp) ?_
                      refine Wo.nil ?_
                      cases h44
                      first | rfl | simp
                  · rintro V rfl
                    generalize w43 = x_42 at *
                    try dsimp only at h39
                    cases h39
                    first | rfl | simp
              · rintro V rfl
                generalize w38 = x_37 at *
                try dsimp only at h
                by_cases kc45 : x_37 = true
                · rw [if_pos kc45] at h
                  refine Wc.condT' (t := _) (by conv => lhs; simp) (by simpa using kc45) ?_
                  refine Wc.seq ?_
                  refine Wc.kil (by conv => lhs; simp) ?_
                  refine Wc.seq ?_
                  refine Wc.evs (by conv => lhs; simp) ?_
                  refine Wo.nil ?_
                  refine Wc.ret (res_of (.inr rfl) ?_)
                  cases h
                  exact ⟨_, _, _, by conv => lhs; simp, by (conv => lhs; simp [cx, ioTab, List.range, List.range.loop]) <;> rfl, by first | rfl | simp⟩
                · rw [if_neg kc45] at h
                  refine Wc.condF' (t := _) (by conv => lhs; simp) (by simpa using kc45) ?_
                  refine Wc.seq ?_
                  refine Wc.kil (by conv => lhs; simp) ?_
                  refine Wc.skip ?_
                  refine Wc.seq ?_
                  refine Wc.evs (by conv => lhs; simp) ?_
                  refine Wo.nil ?_
                  refine Wc.seq ?_
                  refine Wc.evs (by conv => lhs; simp) ?_
                  obtain ⟨o46, h47, h⟩ := bind_some h
                  refine Wo.call (by simp) rfl (by (conv => lhs; simp [cx, ioTab]) <;> rfl) (r45 h47) (by simp) (by simp) (by (conv => lhs; simp [cx, ioTab]) <;> rfl) (by (conv => lhs; simp) <;> rfl) ?_
                  refine Wo.evs (by conv => lhs; simp) ?_
                  refine Wo.nil ?_
                  refine Wc.seq ?_
                  refine Wc.evs (by conv => lhs; simp) ?_
                  refine Wo.nil ?_
                  refine Wc.seq ?_
                  refine Wc.evs (by conv => lhs; simp) ?_
                  obtain ⟨o48, h49, h⟩ := bind_some h
                  refine Wo.call (by simp) rfl (by (conv => lhs; simp [cx, ioTab]) <;> rfl) (r46 h49) (by simp) (by simp) (by (conv => lhs; simp [cx, ioTab]) <;> rfl) (by (conv => lhs; simp) <;> rfl) ?_
                  refine Wo.evs (by conv => lhs; simp) ?_
                  refine Wo.nil ?_
                  refine Wc.seq ?_
                  refine Wc.seq ?_
                  refine Wc.evs (by conv => lhs; simp) ?_
                  refine Wo.nil ?_
                  by_cases kc50 : o48 < 0
                  · rw [if_pos kc50] at h
                    refine Wc.condT' (t := _) (by conv => lhs; simp) (by simpa using kc50) ?_
                    refine Wc.seq ?_
                    refine Wc.kil (by conv => lhs; simp) ?_
                    refine Wc.seq ?_
                    refine Wc.evs (by conv => lhs; simp) ?_
                    refine Wo.nil ?_
                    refine Wc.ret (res_of (.inr rfl) ?_)
                    cases h
                    exact ⟨_, _, _, by conv => lhs; simp, by (conv => lhs; simp [cx, ioTab, List.range, List.range.loop]) <;> rfl, by first | rfl | simp⟩
                  · rw [if_neg kc50] at h
                    refine Wc.condF' (t := _) (by conv => lhs; simp) (by simpa using kc50) ?_
                    refine Wc.seq ?_
                    refine Wc.kil (by conv => lhs; simp) ?_
                    refine Wc.skip ?_
                    refine Wc.seq ?_
                    refine Wc.seq ?_
                    refine Wc.evs (by conv => lhs; simp) ?_
                    refine Wo.nil ?_
                    by_cases kc51 : o48 ≠ o46.1
                    · rw [if_pos kc51] at h
                      refine Wc.condT' (t := _) (by conv => lhs; simp) (by simpa using kc51) ?_
                      refine Wc.seq ?_
                      refine Wc.kil (by conv => lhs; simp) ?_
                      refine Wc.seq ?_
                      refine Wc.evs (by conv => lhs; simp) ?_
                      refine Wo.nil ?_
                      refine Wc.ret (res_of (.inr rfl) ?_)
                      cases h
                      exact ⟨_, _, _, by conv => lhs; simp, by (conv => lhs; simp [cx, ioTab, List.range, List.range.loop]) <;> rfl, by first | rfl | simp⟩
                    · rw [if_neg kc51] at h
                      refine Wc.condF' (t := _) (by conv => lhs; simp) (by simpa using kc51) ?_
                      refine Wc.seq ?_
                      refine Wc.kil (by conv => lhs; simp) ?_
                      refine Wc.skip ?_
                      refine Wc.seq ?_
                      refine Wc.evs (by conv => lhs; simp) ?_
                      obtain ⟨o52, h53, h⟩ := bind_some h
                      refine Wo.call (by simp) rfl (by (conv => lhs; simp [cx, ioTab]) <;> rfl) (r39 h53) (by simp) (by simp) (by (conv => lhs; simp [cx, ioTab]) <;> rfl) (by (conv => lhs; simp) <;> rfl) ?_
                      refine Wo.evs (by conv => lhs; simp) ?_
                      obtain ⟨o54, h55, h⟩ := bind_some h
                      refine Wo.call (by simp) rfl (by (conv => lhs; simp [cx, ioTab]) <;> rfl) (r40 h55) (by simp) (by simp) (by (conv => lhs; simp [cx, ioTab]) <;> rfl) (by (conv => lhs; simp) <;> rfl) ?_
                      obtain ⟨o56, h57, h⟩ := bind_some h
                      refine Wo.call (by simp) rfl (by (conv => lhs; simp [cx, ioTab]) <;> rfl) (r41 h57) (by simp) (by simp) (by (conv => lhs; simp [cx, ioTab]) <;> rfl) (by (conv => lhs; simp) <;> rfl) ?_
                      refine Wo.evs (by conv => lhs; simp) ?_
                      refine Wo.nil ?_
                      refine Wc.seq ?_
                      refine Wc.seq ?_
                      refine Wc.evs (by conv => lhs; simp) ?_
                      obtain ⟨o58, h59, h⟩ := bind_some h
                      refine Wo.call (by simp) rfl (by (conv => lhs; simp [cx, ioTab]) <;> rfl) (r42 h59) (by simp) (by simp) (by (conv => lhs; simp [cx, ioTab]) <;> rfl) (by (conv => lhs; simp) <;> rfl) ?_
                      refine Wo.evk 2 (by conv => lhs; simp) ?_
                      obtain ⟨w61, h62, h⟩ := bind_some h
                      refine Wo.mono (Q := fun V => V = [(10, .v (osl eI true o46.2)), (13, .v (.int .i64 o46.1)), (108, .v (.bool w61))]) ?_ ?_
                      · by_cases knh62 : ¬ (o58 = true)
                        · rw [if_pos knh62] at h62
                          refine Wo.gh (vle_co (s := 104) (t1 := .bool true) rfl (by simp) (tle_bool (by simpa using knh62)) (by conv => lhs; simp)) ?_
                          refine Wo.evs (by conv => lhs; simp) ?_
                          refine Wo.nil ?_
                          cases h62
                          first | rfl | simp
                        · rw [if_neg knh62] at h62
                          refine Wo.gh (vle_co (s := 104) (t1 := .bool false) rfl (by simp) (tle_bool (by simpa using knh62)) (by conv => lhs; simp)) ?_
                          refine Wo.evs (by conv => lhs; simp) ?_
                          refine Wo.nil ?_
                          cases h62
                          first | rfl | simp
                      · rintro V rfl
                        generalize w61 = x_60 at *
                        try dsimp only at h
                        by_cases kc63 : x_60 = true
                        · rw [if_pos kc63] at h
                          refine Wc.condT' (t := _) (by conv => lhs; simp) (by simpa using kc63) ?_
                          refine Wc.seq ?_
                          refine Wc.kil (by conv => lhs; simp) ?_
                          refine Wc.seq ?_
                          refine Wc.evs (by conv => lhs; simp) ?_
                          refine Wo.nil ?_
                          refine Wc.ret (res_of (.inr rfl) ?_)
                          cases h
                          exact ⟨_, _, _, by conv => lhs; simp, by (conv => lhs; simp [cx, ioTab, List.range, List.range.loop]) <;> rfl, by first | rfl | simp⟩
                        · rw [if_neg kc63] at h
                          refine Wc.condF' (t := _) (by conv => lhs; simp) (by simpa using kc63) ?_
                          refine Wc.seq ?_
                          refine Wc.kil (by conv => lhs; simp) ?_
                          refine Wc.skip ?_
                          refine Wc.seq ?_
                          refine Wc.evs (by conv => lhs; simp) ?_
                          refine Wo.nil ?_
                          refine Wc.seq ?_
                          refine Wc.evs (by conv => lhs; simp) ?_
                          obtain ⟨o64, h65, h⟩ := bind_some h
                          refine Wo.call (by simp) rfl (by (conv => lhs; simp [cx, ioTab]) <;> rfl) (r46 h65) (by simp) (by simp) (by (conv => lhs; simp [cx, ioTab]) <;> rfl) (by (conv => lhs; simp) <;> rfl) ?_
                          refine Wo.evs (by conv => lhs; simp) ?_
                          refine Wo.nil ?_
                          refine Wc.seq ?_
                          refine Wc.seq ?_
                          refine Wc.evs (by conv => lhs; simp) ?_
                          refine Wo.nil ?_
                          by_cases kc66 : o64 < 0
                          · rw [if_pos kc66] at h
                            refine Wc.condT' (t := _) (by conv => lhs; simp) (by simpa using kc66) ?_
                            refine Wc.seq ?_
                            refine Wc.kil (by conv => lhs; simp) ?_
                            refine Wc.seq ?_
                            refine Wc.evs (by conv => lhs; simp) ?_
                            refine Wo.nil ?_
                            refine Wc.ret (res_of (.inr rfl) ?_)
                            cases h
                            exact ⟨_, _, _, by conv => lhs; simp, by (conv => lhs; simp [cx, ioTab, List.range, List.range.loop]) <;> rfl, by first | rfl | simp⟩
                          · rw [if_neg kc66] at h
                            refine Wc.condF' (t := _) (by conv => lhs; simp) (by simpa using kc66) ?_
                            refine Wc.seq ?_
                            refine Wc.kil (by conv => lhs; simp) ?_
                            refine Wc.skip ?_
                            refine Wc.seq ?_
                            refine Wc.seq ?_
                            refine Wc.evs (by conv => lhs; simp) ?_
                            refine Wo.nil ?_
                            by_cases kc67 : o64 ≠ o46.1
                            · rw [if_pos kc67] at h
                              refine Wc.condT' (t := _) (by conv => lhs; simp) (by simpa using kc67) ?_
                              refine Wc.seq ?_
                              refine Wc.kil (by conv => lhs; simp) ?_
                              refine Wc.seq ?_
                              refine Wc.evs (by conv => lhs; simp) ?_
                              refine Wo.nil ?_
                              refine Wc.ret (res_of (.inr rfl) ?_)
                              cases h
                              exact ⟨_, _, _, by conv => lhs; simp, by (conv => lhs; simp [cx, ioTab, List.range, List.range.loop]) <;> rfl, by first | rfl | simp⟩
                            · rw [if_neg kc67] at h
                              refine Wc.condF' (t := _) (by conv => lhs; simp) (by simpa using kc67) ?_
                              refine Wc.seq ?_
                              refine Wc.kil (by conv => lhs; simp) ?_
                              refine Wc.skip ?_
                              refine Wc.seq ?_
                              refine Wc.evs (by conv => lhs; simp) ?_
                              refine Wo.nil ?_
                              refine Wc.ret (res_of (.inr rfl) ?_)
                              cases h
                              exact ⟨_, _, _, by conv => lhs; simp, by (conv => lhs; simp [cx, ioTab, List.range, List.range.loop]) <;> rfl, by first | rfl | simp⟩
end
end Go.Proofs.YtabmomjfdondnaaH
