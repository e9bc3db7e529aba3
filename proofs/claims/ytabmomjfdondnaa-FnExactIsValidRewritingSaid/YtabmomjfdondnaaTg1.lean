import Derived.Test.YtabmomjfdondnaaTg1a
set_option linter.unusedVariables false
set_option linter.unusedSimpArgs false
set_option maxRecDepth 100000
namespace Go.Proofs.YtabmomjfdondnaaH
open Go
noncomputable section
theorem r120_0 {atom : Atom} : ∀ zs zo, iter (f120_0 atom) zs = some zo → Wc cx 23 (.loop L120_0) [(1, .v (.ptr true [(.int .i64 atom.Relation), (ssl eI atom.Terms)])), (3, .v (osl eI true zs.1)), (8, .v (ssl eI atom.Terms)), (9, .v (.int .i64 (atom.Terms.length : Int))), (10, .v (.int .i64 zs.2))] ((QX 0 (fun (y : (List Int)) => [(3, .v (osl eI true y))])) zo) := by
  intro zs0 zo0 zh0
  refine iter_run (f := (f120_0 atom)) (P := fun zs zo => Wc cx 23 (.loop L120_0) [(1, .v (.ptr true [(.int .i64 atom.Relation), (ssl eI atom.Terms)])), (3, .v (osl eI true zs.1)), (8, .v (ssl eI atom.Terms)), (9, .v (.int .i64 (atom.Terms.length : Int))), (10, .v (.int .i64 zs.2))] ((QX 0 (fun (y : (List Int)) => [(3, .v (osl eI true y))])) zo)) ?_ zh0
  rintro ⟨out_1, x_2⟩ zo zr h hk hx
  try dsimp only at hk ⊢
  rw [f120_0] at h
  refine Wc.loop ?_
  refine Wc.seq ?_
  refine Wc.evs (by conv => lhs; simp) ?_
  refine Wo.nil ?_
  refine Wc.seq ?_
  by_cases kc3 : x_2 < (atom.Terms.length : Int)
  · rw [if_pos kc3] at h
    refine Wc.condT' (t := _) (by conv => lhs; simp) (by simpa using kc3) ?_
    refine Wc.seq ?_
    refine Wc.kil (by conv => lhs; simp) ?_
    refine Wc.skip ?_
    refine Wc.seq ?_
    refine Wc.block ?_
    refine Wc.seq ?_
    obtain ⟨v_4, h5, h⟩ := bind_some h
    obtain ⟨ga5, gb5, gc5⟩ := ix_some h5
    have gn5 := ix_ne h5
    have gd5 := arr_at (E := eI) (b := false) gc5
    simp at gd5
    refine Wc.evs (by conv => lhs; simp [ga5, gb5, gn5, gd5]) ?_
    refine Wo.nil ?_
    refine Wc.seq ?_
    refine Wc.evs (by conv => lhs; simp) ?_
    obtain ⟨o6, h7, h⟩ := bind_some h
    refine Wo.call (by simp) rfl (by (conv => lhs; simp [cx, ioTab]) <;> rfl) (r87 h7) (by simp) (by simp) (by (conv => lhs; simp [cx, ioTab]) <;> rfl) (by (conv => lhs; simp) <;> rfl) ?_
    refine Wo.nil ?_
    obtain ⟨w8, h9, h⟩ := bind_some h
    refine Wc.mono (Q := (QN (fun (y : (List Int)) => [(1, .v (.ptr true [(.int .i64 atom.Relation), (ssl eI atom.Terms)])), (3, .v (osl eI true y)), (8, .v (ssl eI atom.Terms)), (9, .v (.int .i64 (atom.Terms.length : Int))), (10, .v (.int .i64 x_2))])) w8) ?_ ?_
    · skip
      by_cases kc10 : o6 = true
      · rw [if_pos kc10] at h9
        refine Wc.condT' (t := _) (by conv => lhs; simp) (by simpa using kc10) ?_
        refine Wc.seq ?_
        refine Wc.kil (by conv => lhs; simp) ?_
        obtain ⟨l_11, h12, h9⟩ := bind_some h9
        have gx12 := appT_arr (E := eI) (b := true) (y := true) h12 (by decide)
        simp at gx12
        refine Wc.evs (by conv => lhs; simp [gx12]) ?_
        refine Wo.nil ?_
        cases h9
        exact ⟨rfl, by first | rfl | simp [gx12]⟩
      · rw [if_neg kc10] at h9
        refine Wc.condF' (t := _) (by conv => lhs; simp) (by simpa using kc10) ?_
        refine Wc.seq ?_
        refine Wc.kil (by conv => lhs; simp) ?_
        refine Wc.skip ?_
        cases h9
        exact ⟨rfl, by first | rfl | simp⟩
    · skip
      generalize w8 = out_13 at *
      rintro ex V ⟨rfl, rfl⟩
      try dsimp only at h
      refine Wc.evs (by conv => lhs; simp) ?_
      refine Wo.nil ?_
      refine Wc.start (V1 := [(1, .v (.ptr true [(.int .i64 atom.Relation), (ssl eI atom.Terms)])), (3, .v (osl eI true out_13)), (8, .v (ssl eI atom.Terms)), (9, .v (.int .i64 (atom.Terms.length : Int))), (10, .v (.int .i64 (w64 (x_2 + 1))))]) ?_ (hk _ (Option.some.inj h).symm)
      first | rfl | simp
  · rw [if_neg kc3] at h
    refine Wc.condF' (t := _) (by conv => lhs; simp) (by simpa using kc3) ?_
    refine Wc.seq ?_
    refine Wc.kil (by conv => lhs; simp) ?_
    refine Wc.exit ?_
    have e0 := hx _ (Option.some.inj h).symm
    subst e0
    exact ⟨rfl, by first | rfl | simp⟩
theorem r120 {atom : Atom} {r : (List Int)} (h : f120 atom = some r) : VJx cx (.ca 120 [(.agg [(.int .i64 atom.Relation), (ssl eI atom.Terms)])] (ssl eI r) []) := by
  unfold f120 at h
  refine ca_of rfl rfl (by decide) rfl ?_
  refine Wc.start (V1 := [(0, .v (.agg [(.int .i64 atom.Relation), (ssl eI atom.Terms)]))]) (by simp) ?_
  refine Wc.seq ?_
  refine Wc.evs (by conv => lhs; simp) ?_
  refine Wo.nil ?_
  refine Wc.seq ?_
  refine Wc.evs (by conv => lhs; simp) ?_
  refine Wo.gh (vle_co (s := 3) (t1 := (osl eI true ([]))) rfl (by simp) (TLe.own (show TLes _ [] from (TLes.refl _)) rfl) (by conv => lhs; simp)) ?_
  refine Wo.nil ?_
  refine Wc.seq ?_
  refine Wc.seq ?_
  refine Wc.evs (by conv => lhs; simp) ?_
  refine Wo.nil ?_
  refine Wc.block ?_
  obtain ⟨w14, h15, h⟩ := bind_some h
  refine Wc.start (V1 := [(1, .v (.ptr true [(.int .i64 atom.Relation), (ssl eI atom.Terms)])), (3, .v (osl eI true ([]))), (8, .v (ssl eI atom.Terms)), (9, .v (.int .i64 (atom.Terms.length : Int))), (10, .v (.int .i64 0))]) (by first | rfl | simp) ?_
  refine Wc.mono (r120_0 _ _ h15) ?_
  generalize w14 = out_16 at *
  rintro ex V ⟨rfl, rfl⟩
  try dsimp only at h
  refine Wc.seq ?_
  refine Wc.evs (by conv => lhs; simp) ?_
  refine Wo.gh (vle_fz (s := 21) rfl (by simp) (by conv => lhs; simp)) ?_
  obtain ⟨o17, h18, h⟩ := bind_some h
  refine Wo.call (by simp) rfl (by (conv => lhs; simp [cx, ioTab]) <;> rfl) ((r165 h18).res (TLes.cons (TLe.refl _) (TLes.cons (TLe.nil rfl (by decide)) (TLes.refl _))) (TLe.refl _) (TLes.refl _)) (by simp) (by simp) (by (conv => lhs; simp [cx, ioTab]) <;> rfl) (by (conv => lhs; simp) <;> rfl) ?_
  refine Wo.evs (by conv => lhs; simp) ?_
  refine Wo.nil ?_
  refine Wc.ret (res_of (.inr rfl) ?_)
  cases h
  exact ⟨_, _, _, by conv => lhs; simp, by (conv => lhs; simp [cx, ioTab, List.range, List.range.loop]) <;> rfl, by first | rfl | simp⟩
theorem r119 {relations : (List Relation)} {atom : Atom} {r : (List Int)} (h : f119 relations atom = some r) : VJx cx (.ca 119 [(ssl eRelation relations), (.agg [(.int .i64 atom.Relation), (ssl eI atom.Terms)])] (ssl eI r) []) := by
  unfold f119 at h
  refine ca_of rfl rfl (by decide) rfl ?_
  refine Wc.start (V1 := [(0, .v (ssl eRelation relations)), (1, .v (.agg [(.int .i64 atom.Relation), (ssl eI atom.Terms)]))]) (by simp) ?_
  refine Wc.seq ?_
  refine Wc.evs (by conv => lhs; simp) ?_
  refine Wo.nil ?_
  refine Wc.seq ?_
  refine Wc.seq ?_
  refine Wc.evs (by conv => lhs; simp) ?_
  obtain ⟨o1, h2, h⟩ := bind_some h
  refine Wo.call (by simp) rfl (by (conv => lhs; simp [cx, ioTab]) <;> rfl) (r87 h2) (by simp) (by simp) (by (conv => lhs; simp [cx, ioTab]) <;> rfl) (by (conv => lhs; simp) <;> rfl) ?_
  refine Wo.evk 2 (by conv => lhs; simp) ?_
  obtain ⟨w4, h5, h⟩ := bind_some h
  refine Wo.mono (Q := fun V => V = [(0, .v (ssl eRelation relations)), (3, .v (.ptr true [(.int .i64 atom.Relation), (ssl eI atom.Terms)])), (24, .v (.bool w4))]) ?_ ?_
  · by_cases knh5 : ¬ (o1 = true)
    · rw [if_pos knh5] at h5
      refine Wo.gh (vle_co (s := 12) (t1 := .bool true) rfl (by simp) (tle_bool (by simpa using knh5)) (by conv => lhs; simp)) ?_
      refine Wo.evs (by conv => lhs; simp) ?_
      refine Wo.nil ?_
      cases h5
      first | rfl | simp
    · rw [if_neg knh5] at h5
      refine Wo.gh (vle_co (s := 12) (t1 := .bool false) rfl (by simp) (tle_bool (by simpa using knh5)) (by conv => lhs; simp)) ?_
      obtain ⟨v_6, h7, h5⟩ := bind_some h5
      obtain ⟨ga7, gb7, gc7⟩ := ix_some h7
      have gn7 := ix_ne h7
      have gd7 := arr_at (E := eRelation) (b := false) gc7
      simp at gd7
      refine Wo.evs (by conv => lhs; simp [ga7, gb7, gn7, gd7]) ?_
      obtain ⟨o8, h9, h5⟩ := bind_some h5
      refine Wo.call (by simp [ga7, gb7, gn7, gd7]) rfl (by (conv => lhs; simp [ga7, gb7, gn7, gd7, cx, ioTab]) <;> rfl) (r87 h9) (by simp) (by simp) (by (conv => lhs; simp [ga7, gb7, gn7, gd7, cx, ioTab]) <;> rfl) (by (conv => lhs; simp [ga7, gb7, gn7, gd7]) <;> rfl) ?_
      refine Wo.evs (by conv => lhs; simp [ga7, gb7, gn7, gd7]) ?_
      refine Wo.nil ?_
      cases h5
      first | rfl | simp [ga7, gb7, gn7, gd7]
  · rintro V rfl
    generalize w4 = x_3 at *
    try dsimp only at h
    by_cases kc10 : x_3 = true
    · rw [if_pos kc10] at h
      refine Wc.condT' (t := _) (by conv => lhs; simp) (by simpa using kc10) ?_
      refine Wc.seq ?_
      refine Wc.kil (by conv => lhs; simp) ?_
      refine Wc.seq ?_
      refine Wc.evs (by conv => lhs; simp) ?_
      refine Wo.gh (vle_co (s := 4) (t1 := (osl eI true ([]))) rfl (by simp) (TLe.nil rfl (by decide)) (by conv => lhs; simp)) ?_
      refine Wo.nil ?_
      refine Wc.gh (vle_fz (s := 4) rfl (by simp) (by conv => lhs; simp)) ?_
      refine Wc.ret (res_of (.inr rfl) ?_)
      cases h
      exact ⟨_, _, _, by conv => lhs; simp, by (conv => lhs; simp [cx, ioTab, List.range, List.range.loop]) <;> rfl, by first | rfl | simp⟩
    · rw [if_neg kc10] at h
      refine Wc.condF' (t := _) (by conv => lhs; simp) (by simpa using kc10) ?_
      refine Wc.seq ?_
      refine Wc.kil (by conv => lhs; simp) ?_
      refine Wc.skip ?_
      refine Wc.seq ?_
      obtain ⟨v_11, h12, h⟩ := bind_some h
      obtain ⟨ga12, gb12, gc12⟩ := ix_some h12
      have gn12 := ix_ne h12
      have gd12 := arr_at (E := eRelation) (b := false) gc12
      simp at gd12
      obtain ⟨l_13, h14, h⟩ := bind_some h
      obtain ⟨ga14, gb14, gc14, ge14⟩ := cut_some h14
      simp at ge14
      refine Wc.evs (by conv => lhs; simp [ga12, gb12, gn12, gd12, ga14, gb14, gc14, ge14]) ?_
      obtain ⟨o15, h16, h⟩ := bind_some h
      refine Wo.call (by simp) rfl (by (conv => lhs; simp [ga12, gb12, gn12, gd12, ga14, gb14, gc14, ge14, cx, ioTab]) <;> rfl) (r120 h16) (by simp) (by simp) (by (conv => lhs; simp [ga12, gb12, gn12, gd12, ga14, gb14, gc14, ge14, cx, ioTab]) <;> rfl) (by (conv => lhs; simp [ga12, gb12, gn12, gd12, ga14, gb14, gc14, ge14]) <;> rfl) ?_
      refine Wo.evs (by conv => lhs; simp [ga12, gb12, gn12, gd12, ga14, gb14, gc14, ge14]) ?_
      refine Wo.nil ?_
      refine Wc.ret (res_of (.inr rfl) ?_)
      cases h
      exact ⟨_, _, _, by conv => lhs; simp, by (conv => lhs; simp [cx, ioTab, List.range, List.range.loop]) <;> rfl, by first | rfl | simp [ga12, gb12, gn12, gd12, ga14, gb14, gc14, ge14]⟩
theorem r158_0 {s0 : (List Int)} {v : Int} : ∀ zs zo, iter (f158_0 s0 v) zs = some zo → Wc cx 19 (.loop L158_0) [(0, .v (ssl eI s0)), (1, .v (.int .i64 v)), (7, .v (.int .i64 (s0.length : Int))), (8, .v (.int .i64 zs))] ((QO (QX 0 (fun (y : Unit) => [])) (QR (fun (y : Int) => [(4, .v (.int .i64 y))]))) zo) := by
  intro zs0 zo0 zh0
  refine iter_run (f := (f158_0 s0 v)) (P := fun zs zo => Wc cx 19 (.loop L158_0) [(0, .v (ssl eI s0)), (1, .v (.int .i64 v)), (7, .v (.int .i64 (s0.length : Int))), (8, .v (.int .i64 zs))] ((QO (QX 0 (fun (y : Unit) => [])) (QR (fun (y : Int) => [(4, .v (.int .i64 y))]))) zo)) ?_ zh0
  rintro x_1 zo zr h hk hx
  try dsimp only at hk ⊢
  rw [f158_0] at h
  refine Wc.loop ?_
  refine Wc.seq ?_
  refine Wc.evs (by conv => lhs; simp) ?_
  refine Wo.nil ?_
  refine Wc.seq ?_
  by_cases kc2 : x_1 < (s0.length : Int)
  · rw [if_pos kc2] at h
    refine Wc.condT' (t := _) (by conv => lhs; simp) (by simpa using kc2) ?_
    refine Wc.seq ?_
    refine Wc.kil (by conv => lhs; simp) ?_
    refine Wc.skip ?_
    refine Wc.seq ?_
    refine Wc.block ?_
    refine Wc.seq ?_
    refine Wc.evs (by conv => lhs; simp) ?_
    refine Wo.nil ?_
    refine Wc.seq ?_
    obtain ⟨v_3, h4, h⟩ := bind_some h
    obtain ⟨ga4, gb4, gc4⟩ := ix_some h4
    have gn4 := ix_ne h4
    have gd4 := arr_at (E := eI) (b := false) gc4
    simp at gd4
    refine Wc.evs (by conv => lhs; simp [ga4, gb4, gn4, gd4]) ?_
    refine Wo.nil ?_
    by_cases kc5 : v = v_3
    · rw [if_pos kc5] at h
      refine Wc.condT' (t := _) (by conv => lhs; simp) (by simpa using kc5) ?_
      refine Wc.seq ?_
      refine Wc.kil (by conv => lhs; simp) ?_
      refine Wc.seq ?_
      refine Wc.evs (by conv => lhs; simp) ?_
      refine Wo.nil ?_
      refine Wc.ret ?_
      have e0 := hx _ (Option.some.inj h).symm
      subst e0
      exact ⟨rfl, by first | rfl | simp⟩
    · rw [if_neg kc5] at h
      refine Wc.condF' (t := _) (by conv => lhs; simp) (by simpa using kc5) ?_
      refine Wc.seq ?_
      refine Wc.kil (by conv => lhs; simp) ?_
      refine Wc.skip ?_
      refine Wc.evs (by conv => lhs; simp) ?_
      refine Wo.nil ?_
      refine Wc.start (V1 := [(0, .v (ssl eI s0)), (1, .v (.int .i64 v)), (7, .v (.int .i64 (s0.length : Int))), (8, .v (.int .i64 (w64 (x_1 + 1))))]) ?_ (hk _ (Option.some.inj h).symm)
      first | rfl | simp
  · rw [if_neg kc2] at h
    refine Wc.condF' (t := _) (by conv => lhs; simp) (by simpa using kc2) ?_
    refine Wc.seq ?_
    refine Wc.kil (by conv => lhs; simp) ?_
    refine Wc.exit ?_
    have e0 := hx _ (Option.some.inj h).symm
    subst e0
    exact ⟨rfl, by first | rfl | simp⟩
theorem r158 {s0 : (List Int)} {v : Int} {r : Int} (h : f158 s0 v = some r) : VJx cx (.ca 158 [(ssl eI s0), (.int .i64 v)] (.int .i64 r) []) := by
  unfold f158 at h
  refine ca_of rfl rfl (by decide) rfl ?_
  refine Wc.start (V1 := [(0, .v (ssl eI s0)), (1, .v (.int .i64 v))]) (by simp) ?_
  refine Wc.seq ?_
  refine Wc.evs (by conv => lhs; simp) ?_
  refine Wo.nil ?_
  refine Wc.seq ?_
  refine Wc.seq ?_
  refine Wc.evs (by conv => lhs; simp) ?_
  refine Wo.nil ?_
  refine Wc.block ?_
  obtain ⟨w6, h7, h⟩ := bind_some h
  refine Wc.start (V1 := [(0, .v (ssl eI s0)), (1, .v (.int .i64 v)), (7, .v (.int .i64 (s0.length : Int))), (8, .v (.int .i64 0))]) (by first | rfl | simp) ?_
  refine Wc.mono (r158_0 _ _ h7) ?_
  rcases w6 with ⟨⟩ | x_8
  · rintro ex V ⟨rfl, rfl⟩
    try dsimp only at h
    refine Wc.seq ?_
    refine Wc.evs (by conv => lhs; simp) ?_
    refine Wo.nil ?_
    refine Wc.ret (res_of (.inr rfl) ?_)
    cases h
    exact ⟨_, _, _, by conv => lhs; simp, by (conv => lhs; simp [cx, ioTab, List.range, List.range.loop]) <;> rfl, by first | rfl | simp⟩
  · rintro ex V ⟨rfl, rfl⟩
    try dsimp only at h
    refine res_of (.inr rfl) ?_
    cases h
    exact ⟨_, _, _, by conv => lhs; simp, by (conv => lhs; simp [cx, ioTab, List.range, List.range.loop]) <;> rfl, by first | rfl | simp⟩
theorem r105 {s0 : (List Int)} {v : Int} {r : Bool} (h : f105 s0 v = some r) : VJx cx (.ca 105 [(ssl eI s0), (.int .i64 v)] (.bool r) []) := by
  unfold f105 at h
  refine ca_of rfl rfl (by decide) rfl ?_
  refine Wc.start (V1 := [(0, .v (ssl eI s0)), (1, .v (.int .i64 v))]) (by simp) ?_
  refine Wc.seq ?_
  refine Wc.evs (by conv => lhs; simp) ?_
  refine Wo.nil ?_
  refine Wc.seq ?_
  refine Wc.evs (by conv => lhs; simp) ?_
  obtain ⟨o1, h2, h⟩ := bind_some h
  refine Wo.call (by simp) rfl (by (conv => lhs; simp [cx, ioTab]) <;> rfl) (r158 h2) (by simp) (by simp) (by (conv => lhs; simp [cx, ioTab]) <;> rfl) (by (conv => lhs; simp) <;> rfl) ?_
  refine Wo.evs (by conv => lhs; simp) ?_
  refine Wo.nil ?_
  refine Wc.ret (res_of (.inr rfl) ?_)
  cases h
  exact ⟨_, _, _, by conv => lhs; simp, by (conv => lhs; simp [cx, ioTab, List.range, List.range.loop]) <;> rfl, by first | rfl | simp⟩
theorem r164 {n0 : Int} {c : (List Int)} {r : Bool} (h : f164 n0 c = some r) : VJx cx (.ca 164 [(.int .i64 n0), (.ptr false [(ssl eI c)])] (.bool r) []) := by
  unfold f164 at h
  refine ca_of rfl rfl (by decide) rfl ?_
  refine Wc.start (V1 := [(0, .v (.int .i64 n0)), (1, .v (.ptr false [(ssl eI c)]))]) (by simp) ?_
  refine Wc.seq ?_
  refine Wc.evs (by conv => lhs; simp) ?_
  refine Wo.nil ?_
  refine Wc.seq ?_
  refine Wc.evs (by conv => lhs; simp) ?_
  obtain ⟨o1, h2, h⟩ := bind_some h
  refine Wo.call (by simp) rfl (by (conv => lhs; simp [cx, ioTab]) <;> rfl) (r105 h2) (by simp) (by simp) (by (conv => lhs; simp [cx, ioTab]) <;> rfl) (by (conv => lhs; simp) <;> rfl) ?_
  refine Wo.evs (by conv => lhs; simp) ?_
  refine Wo.nil ?_
  refine Wc.ret (res_of (.inr rfl) ?_)
  cases h
  exact ⟨_, _, _, by conv => lhs; simp, by (conv => lhs; simp [cx, ioTab, List.range, List.range.loop]) <;> rfl, by first | rfl | simp⟩
theorem r118 {a : (List Int)} {b : (List Int)} {r : Bool} (h : f118 a b = some r) : VJx cx (.ca 118 [(ssl eI a), (ssl eI b)] (.bool r) []) := by
  unfold f118 at h
  refine ca_of rfl rfl (by decide) rfl ?_
  refine Wc.start (V1 := [(0, .v (ssl eI a)), (1, .v (ssl eI b))]) (by simp) ?_
  refine Wc.seq ?_
  refine Wc.evs (by conv => lhs; simp) ?_
  refine Wo.nil ?_
  refine Wc.seq ?_
  refine Wc.evs (by conv => lhs; simp) ?_
  obtain ⟨o1, h2, h⟩ := bind_some h
  refine Wo.call (by simp) rfl (by (conv => lhs; simp [cx, ioTab]) <;> rfl) (r74 (g_f := 164) (cp_f := [(.ptr false [(ssl eI b)])]) rfl (fun x0 o h => r164 h) h2) (by simp) (by simp) (by (conv => lhs; simp [cx, ioTab]) <;> rfl) (by (conv => lhs; simp) <;> rfl) ?_
  refine Wo.evs (by conv => lhs; simp) ?_
  refine Wo.nil ?_
  refine Wc.ret (res_of (.inr rfl) ?_)
  cases h
  exact ⟨_, _, _, by conv => lhs; simp, by (conv => lhs; simp [cx, ioTab, List.range, List.range.loop]) <;> rfl, by first | rfl | simp⟩
theorem r52_0 {relations : (List Relation)} {rewriting : (List RewritingStep)} : ∀ zs zo, iter (f52_0 relations rewriting) zs = some zo → Wc cx 64 (.loop L52_0) [(0, .v (ssl eRelation relations)), (8, .v (ssl eRewritingStep rewriting)), (9, .v (.int .i64 (rewriting.length : Int))), (10, .v (.int .i64 zs))] ((QO (QX 0 (fun (y : Unit) => [])) (QR (fun (y : Bool) => [(4, .v (.bool y))]))) zo) := by
  intro zs0 zo0 zh0
  refine iter_run (f := (f52_0 relations rewriting)) (P := fun zs zo => Wc cx 64 (.loop L52_0) [(0, .v (ssl eRelation relations)), (8, .v (ssl eRewritingStep rewriting)), (9, .v (.int .i64 (rewriting.length : Int))), (10, .v (.int .i64 zs))] ((QO (QX 0 (fun (y : Unit) => [])) (QR (fun (y : Bool) => [(4, .v (.bool y))]))) zo)) ?_ zh0
  rintro x_1 zo zr h hk hx
  try dsimp only at hk ⊢
  rw [f52_0] at h
  refine Wc.loop ?_
  refine Wc.seq ?_
  refine Wc.evs (by conv => lhs; simp) ?_
  refine Wo.nil ?_
  refine Wc.seq ?_
  by_cases kc2 : x_1 < (rewriting.length : Int)
  · rw [if_pos kc2] at h
    refine Wc.condT' (t := _) (by conv => lhs; simp) (by simpa using kc2) ?_
    refine Wc.seq ?_
    refine Wc.kil (by conv => lhs; simp) ?_
    refine Wc.skip ?_
    refine Wc.seq ?_
    refine Wc.block ?_
    refine Wc.seq ?_
    obtain ⟨v_3, h4, h⟩ := bind_some h
    obtain ⟨ga4, gb4, gc4⟩ := ix_some h4
    have gn4 := ix_ne h4
    have gd4 := arr_at (E := eRewritingStep) (b := false) gc4
    simp at gd4
    refine Wc.evs (by conv => lhs; simp [ga4, gb4, gn4, gd4]) ?_
    refine Wo.nil ?_
    refine Wc.seq ?_
    refine Wc.evs (by conv => lhs; simp) ?_
    refine Wo.nil ?_
    refine Wc.seq ?_
    refine Wc.seq ?_
    refine Wc.evk 3 (by conv => lhs; simp) ?_
    obtain ⟨w6, h7, h⟩ := bind_some h
    refine Wo.mono (Q := fun V => V = [(0, .v (ssl eRelation relations)), (6, .v (.ptr true [(.int .i64 v_3.Atom.Relation), (ssl eI v_3.Atom.Terms), (ssl eI v_3.Existential), (ssl eI v_3.Universal)])), (7, .v (.ptr true [(.int .i64 v_3.Atom.Relation), (ssl eI v_3.Atom.Terms)])), (8, .v (ssl eRewritingStep rewriting)), (9, .v (.int .i64 (rewriting.length : Int))), (10, .v (.int .i64 x_1)), (44, .v (.bool w6))]) ?_ ?_
    · by_cases knh7 : x_1 ≥ 3
      · rw [if_pos knh7] at h7
        refine Wo.gh (vle_co (s := 19) (t1 := .bool true) rfl (by simp) (tle_bool (by simpa using knh7)) (by conv => lhs; simp)) ?_
        refine Wo.evs (by conv => lhs; simp) ?_
        refine Wo.nil ?_
        cases h7
        first | rfl | simp
      · rw [if_neg knh7] at h7
        refine Wo.gh (vle_co (s := 19) (t1 := .bool false) rfl (by simp) (tle_bool (by simpa using knh7)) (by conv => lhs; simp)) ?_
        refine Wo.evs (by conv => lhs; simp) ?_
        obtain ⟨o8, h9, h7⟩ := bind_some h7
        refine Wo.call (by simp) rfl (by (conv => lhs; simp [cx, ioTab]) <;> rfl) (r116 h9) (by simp) (by simp) (by (conv => lhs; simp [cx, ioTab]) <;> rfl) (by (conv => lhs; simp) <;> rfl) ?_
        refine Wo.evk 3 (by conv => lhs; simp) ?_
        obtain ⟨w11, h12, h7⟩ := bind_some h7
        refine Wo.mono (Q := fun V => V = [(0, .v (ssl eRelation relations)), (6, .v (.ptr true [(.int .i64 v_3.Atom.Relation), (ssl eI v_3.Atom.Terms), (ssl eI v_3.Existential), (ssl eI v_3.Universal)])), (7, .v (.ptr true [(.int .i64 v_3.Atom.Relation), (ssl eI v_3.Atom.Terms)])), (8, .v (ssl eRewritingStep rewriting)), (9, .v (.int .i64 (rewriting.length : Int))), (10, .v (.int .i64 x_1)), (44, .v (.bool w11))]) ?_ ?_
        · by_cases knh12 : ¬ (o8 = true)
          · rw [if_pos knh12] at h12
            refine Wo.gh (vle_co (s := 24) (t1 := .bool true) rfl (by simp) (tle_bool (by simpa using knh12)) (by conv => lhs; simp)) ?_
            refine Wo.evs (by conv => lhs; simp) ?_
            refine Wo.nil ?_
            cases h12
            first | rfl | simp
          · rw [if_neg knh12] at h12
            refine Wo.gh (vle_co (s := 24) (t1 := .bool false) rfl (by simp) (tle_bool (by simpa using knh12)) (by conv => lhs; simp)) ?_
            refine Wo.evs (by conv => lhs; simp) ?_
            obtain ⟨o13, h14, h12⟩ := bind_some h12
            refine Wo.call (by simp) rfl (by (conv => lhs; simp [cx, ioTab]) <;> rfl) (r87 h14) (by simp) (by simp) (by (conv => lhs; simp [cx, ioTab]) <;> rfl) (by (conv => lhs; simp) <;> rfl) ?_
            refine Wo.evk 3 (by conv => lhs; simp) ?_
            obtain ⟨w16, h17, h12⟩ := bind_some h12
            refine Wo.mono (Q := fun V => V = [(0, .v (ssl eRelation relations)), (6, .v (.ptr true [(.int .i64 v_3.Atom.Relation), (ssl eI v_3.Atom.Terms), (ssl eI v_3.Existential), (ssl eI v_3.Universal)])), (7, .v (.ptr true [(.int .i64 v_3.Atom.Relation), (ssl eI v_3.Atom.Terms)])), (8, .v (ssl eRewritingStep rewriting)), (9, .v (.int .i64 (rewriting.length : Int))), (10, .v (.int .i64 x_1)), (44, .v (.bool w16))]) ?_ ?_
            · by_cases knh17 : ¬ (o13 = true)
              · rw [if_pos knh17] at h17
                refine Wo.gh (vle_co (s := 33) (t1 := .bool true) rfl (by simp) (tle_bool (by simpa using knh17)) (by conv => lhs; simp)) ?_
                refine Wo.evs (by conv => lhs; simp) ?_
                refine Wo.nil ?_
                cases h17
                first | rfl | simp
              · rw [if_neg knh17] at h17
                refine Wo.gh (vle_co (s := 33) (t1 := .bool false) rfl (by simp) (tle_bool (by simpa using knh17)) (by conv => lhs; simp)) ?_
                obtain ⟨v_18, h19, h17⟩ := bind_some h17
                obtain ⟨ga19, gb19, gc19⟩ := ix_some h19
                have gn19 := ix_ne h19
                have gd19 := arr_at (E := eRelation) (b := false) gc19
                simp at gd19
                refine Wo.evs (by conv => lhs; simp [ga19, gb19, gn19, gd19]) ?_
                refine Wo.nil ?_
                cases h17
                first | rfl | simp [ga19, gb19, gn19, gd19]
            · rintro V rfl
              generalize w16 = x_15 at *
              try dsimp only at h12
              cases h12
              first | rfl | simp
        · rintro V rfl
          generalize w11 = x_10 at *
          try dsimp only at h7
          cases h7
          first | rfl | simp
    · rintro V rfl
      generalize w6 = x_5 at *
      try dsimp only at h
      by_cases kc20 : x_5 = true
      · rw [if_pos kc20] at h
        refine Wc.condT' (t := _) (by conv => lhs; simp) (by simpa using kc20) ?_
        refine Wc.seq ?_
        refine Wc.kil (by conv => lhs; simp) ?_
        refine Wc.seq ?_
        refine Wc.evs (by conv => lhs; simp) ?_
        refine Wo.nil ?_
        refine Wc.ret ?_
        have e0 := hx _ (Option.some.inj h).symm
        subst e0
        exact ⟨rfl, by first | rfl | simp⟩
      · rw [if_neg kc20] at h
        refine Wc.condF' (t := _) (by conv => lhs; simp) (by simpa using kc20) ?_
        refine Wc.seq ?_
        refine Wc.kil (by conv => lhs; simp) ?_
        refine Wc.skip ?_
        refine Wc.seq ?_
        refine Wc.seq ?_
        refine Wc.evs (by conv => lhs; simp) ?_
        obtain ⟨o21, h22, h⟩ := bind_some h
        refine Wo.call (by simp) rfl (by (conv => lhs; simp [cx, ioTab]) <;> rfl) (r74 (g_f := 117) (cp_f := []) rfl (fun x0 o h => r117 h) h22) (by simp) (by simp) (by (conv => lhs; simp [cx, ioTab]) <;> rfl) (by (conv => lhs; simp) <;> rfl) ?_
        refine Wo.nil ?_
        by_cases kc23 : o21 = true
        · rw [if_pos kc23] at h
          refine Wc.condT' (t := _) (by conv => lhs; simp) (by simpa using kc23) ?_
          refine Wc.seq ?_
          refine Wc.kil (by conv => lhs; simp) ?_
          refine Wc.seq ?_
          refine Wc.evs (by conv => lhs; simp) ?_
          refine Wo.nil ?_
          refine Wc.ret ?_
          have e0 := hx _ (Option.some.inj h).symm
          subst e0
          exact ⟨rfl, by first | rfl | simp⟩
        · rw [if_neg kc23] at h
          refine Wc.condF' (t := _) (by conv => lhs; simp) (by simpa using kc23) ?_
          refine Wc.seq ?_
          refine Wc.kil (by conv => lhs; simp) ?_
          refine Wc.skip ?_
          refine Wc.seq ?_
          refine Wc.evs (by conv => lhs; simp) ?_
          obtain ⟨o24, h25, h⟩ := bind_some h
          refine Wo.call (by simp) rfl (by (conv => lhs; simp [cx, ioTab]) <;> rfl) (r119 h25) (by simp) (by simp) (by (conv => lhs; simp [cx, ioTab]) <;> rfl) (by (conv => lhs; simp) <;> rfl) ?_
          obtain ⟨o26, h27, h⟩ := bind_some h
          refine Wo.call (by simp) rfl (by (conv => lhs; simp [cx, ioTab]) <;> rfl) (r118 h27) (by simp) (by simp) (by (conv => lhs; simp [cx, ioTab]) <;> rfl) (by (conv => lhs; simp) <;> rfl) ?_
          refine Wo.evk 2 (by conv => lhs; simp) ?_
          obtain ⟨w29, h30, h⟩ := bind_some h
          refine Wo.mono (Q := fun V => V = [(0, .v (ssl eRelation relations)), (8, .v (ssl eRewritingStep rewriting)), (9, .v (.int .i64 (rewriting.length : Int))), (10, .v (.int .i64 x_1)), (62, .v (.bool w29))]) ?_ ?_
          · by_cases knh30 : ¬ (o26 = true)
            · rw [if_pos knh30] at h30
              refine Wo.gh (vle_co (s := 55) (t1 := .bool true) rfl (by simp) (tle_bool (by simpa using knh30)) (by conv => lhs; simp)) ?_
              refine Wo.evs (by conv => lhs; simp) ?_
              refine Wo.nil ?_
              cases h30
              first | rfl | simp
            · rw [if_neg knh30] at h30
              refine Wo.gh (vle_co (s := 55) (t1 := .bool false) rfl (by simp) (tle_bool (by simpa using knh30)) (by conv => lhs; simp)) ?_
              refine Wo.evs (by conv => lhs; simp) ?_
              obtain ⟨o31, h32, h30⟩ := bind_some h30
              refine Wo.call (by simp) rfl (by (conv => lhs; simp [cx, ioTab]) <;> rfl) (r120 h32) (by simp) (by simp) (by (conv => lhs; simp [cx, ioTab]) <;> rfl) (by (conv => lhs; simp) <;> rfl) ?_
              obtain ⟨o33, h34, h30⟩ := bind_some h30
              refine Wo.call (by simp) rfl (by (conv => lhs; simp [cx, ioTab]) <;> rfl) (r118 h34) (by simp) (by simp) (by (conv => lhs; simp [cx, ioTab]) <;> rfl) (by (conv => lhs; simp) <;> rfl) ?_
              refine Wo.evs (by conv => lhs; simp) ?_
              refine Wo.nil ?_
              cases h30
              first | rfl | simp
          · rintro V rfl
            generalize w29 = x_28 at *
            try dsimp only at h
            by_cases kc35 : x_28 = true
            · rw [if_pos kc35] at h
              refine Wc.condT' (t := _) (by conv => lhs; simp) (by simpa using kc35) ?_
              refine Wc.seq ?_
              refine Wc.kil (by conv => lhs; simp) ?_
              refine Wc.seq ?_
              refine Wc.evs (by conv => lhs; simp) ?_
              refine Wo.nil ?_
              refine Wc.ret ?_
              have e0 := hx _ (Option.some.inj h).symm
              subst e0
              exact ⟨rfl, by first | rfl | simp⟩
            · rw [if_neg kc35] at h
              refine Wc.condF' (t := _) (by conv => lhs; simp) (by simpa using kc35) ?_
              refine Wc.seq ?_
              refine Wc.kil (by conv => lhs; simp) ?_
              refine Wc.skip ?_
              refine Wc.evs (by conv => lhs; simp) ?_
              refine Wo.nil ?_
              refine Wc.start (V1 := [(0, .v (ssl eRelation relations)), (8, .v (ssl eRewritingStep rewriting)), (9, .v (.int .i64 (rewriting.length : Int))), (10, .v (.int .i64 (w64 (x_1 + 1))))]) ?_ (hk _ (Option.some.inj h).symm)
              first | rfl | simp
  · rw [if_neg kc2] at h
    refine Wc.condF' (t := _) (by conv => lhs; simp) (by simpa using kc2) ?_
    refine Wc.seq ?_
    refine Wc.kil (by conv => lhs; simp) ?_
    refine Wc.exit ?_
    have e0 := hx _ (Option.some.inj h).symm
    subst e0
    exact ⟨rfl, by first | rfl | simp⟩
theorem r52 {relations : (List Relation)} {rewriting : (List RewritingStep)} {r : Bool} (h : f52 relations rewriting = some r) : VJx cx (.ca 52 [(ssl eRelation relations), (ssl eRewritingStep rewriting)] (.bool r) []) := by
  unfold f52 at h
  refine ca_of rfl rfl (by decide) rfl ?_
  refine Wc.start (V1 := [(0, .v (ssl eRelation relations)), (1, .v (ssl eRewritingStep rewriting))]) (by simp) ?_
  refine Wc.seq ?_
  refine Wc.evs (by conv => lhs; simp) ?_
  refine Wo.nil ?_
  refine Wc.seq ?_
  refine Wc.seq ?_
  refine Wc.evs (by conv => lhs; simp) ?_
  refine Wo.nil ?_
  refine Wc.block ?_
  obtain ⟨w36, h37, h⟩ := bind_some h
  refine Wc.start (V1 := [(0, .v (ssl eRelation relations)), (8, .v (ssl eRewritingStep rewriting)), (9, .v (.int .i64 (rewriting.length : Int))), (10, .v (.int .i64 0))]) (by first | rfl | simp) ?_
  refine Wc.mono (r52_0 _ _ h37) ?_
  rcases w36 with ⟨⟩ | x_38
  · rintro ex V ⟨rfl, rfl⟩
    try dsimp only at h
    refine Wc.seq ?_
    refine Wc.evs (by conv => lhs; simp) ?_
    refine Wo.nil ?_
    refine Wc.ret (res_of (.inr rfl) ?_)
    cases h
    exact ⟨_, _, _, by conv => lhs; simp, by (conv => lhs; simp [cx, ioTab, List.range, List.range.loop]) <;> rfl, by first | rfl | simp⟩
  · rintro ex V ⟨rfl, rfl⟩
    try dsimp only at h
    refine res_of (.inr rfl) ?_
    cases h
    exact ⟨_, _, _, by conv => lhs; simp, by (conv => lhs; simp [cx, ioTab, List.range, List.range.loop]) <;> rfl, by first | rfl | simp⟩
theorem r121 {a : Relation} {b : Relation} {r : Bool} (h : f121 a b = some r) : VJx cx (.ca 121 [(.agg [(.str a.Name), (.int .i64 a.Arity), (.int .i64 a.KeyLength)]), (.agg [(.str b.Name), (.int .i64 b.Arity), (.int .i64 b.KeyLength)])] (.bool r) []) := by
  unfold f121 at h
  refine ca_of rfl rfl (by decide) rfl ?_
  refine Wc.start (V1 := [(0, .v (.agg [(.str a.Name), (.int .i64 a.Arity), (.int .i64 a.KeyLength)])), (1, .v (.agg [(.str b.Name), (.int .i64 b.Arity), (.int .i64 b.KeyLength)]))]) (by simp) ?_
  refine Wc.seq ?_
  refine Wc.evs (by conv => lhs; simp) ?_
  refine Wo.nil ?_
  refine Wc.seq ?_
  refine Wc.seq ?_
  refine Wc.evs (by conv => lhs; simp) ?_
  refine Wo.nil ?_
  by_cases kc1 : a.Name ≠ b.Name
  · rw [if_pos kc1] at h
    refine Wc.condT' (t := _) (by conv => lhs; simp) (by simpa using kc1) ?_
    refine Wc.seq ?_
    refine Wc.kil (by conv => lhs; simp) ?_
    refine Wc.seq ?_
    refine Wc.evs (by conv => lhs; simp) ?_
    refine Wo.nil ?_
    refine Wc.ret (res_of (.inr rfl) ?_)
    cases h
    exact ⟨_, _, _, by conv => lhs; simp, by (conv => lhs; simp [cx, ioTab, List.range, List.range.loop]) <;> rfl, by first | rfl | simp⟩
  · rw [if_neg kc1] at h
    refine Wc.condF' (t := _) (by conv => lhs; simp) (by simpa using kc1) ?_
    refine Wc.seq ?_
    refine Wc.kil (by conv => lhs; simp) ?_
    refine Wc.skip ?_
    refine Wc.seq ?_
    refine Wc.seq ?_
    refine Wc.evs (by conv => lhs; simp) ?_
    refine Wo.nil ?_
    by_cases kc2 : a.Arity ≠ b.Arity
    · rw [if_pos kc2] at h
      refine Wc.condT' (t := _) (by conv => lhs; simp) (by simpa using kc2) ?_
      refine Wc.seq ?_
      refine Wc.kil (by conv => lhs; simp) ?_
      refine Wc.seq ?_
      refine Wc.evs (by conv => lhs; simp) ?_
      refine Wo.nil ?_
      refine Wc.ret (res_of (.inr rfl) ?_)
      cases h
      exact ⟨_, _, _, by conv => lhs; simp, by (conv => lhs; simp [cx, ioTab, List.range, List.range.loop]) <;> rfl, by first | rfl | simp⟩
    · rw [if_neg kc2] at h
      refine Wc.condF' (t := _) (by conv => lhs; simp) (by simpa using kc2) ?_
      refine Wc.seq ?_
      refine Wc.kil (by conv => lhs; simp) ?_
      refine Wc.skip ?_
      refine Wc.seq ?_
      refine Wc.seq ?_
      refine Wc.evs (by conv => lhs; simp) ?_
      refine Wo.nil ?_
      by_cases kc3 : a.KeyLength ≠ b.KeyLength
      · rw [if_pos kc3] at h
        refine Wc.condT' (t := _) (by conv => lhs; simp) (by simpa using kc3) ?_
        refine Wc.seq ?_
        refine Wc.kil (by conv => lhs; simp) ?_
        refine Wc.seq ?_
        refine Wc.evs (by conv => lhs; simp) ?_
        refine Wo.nil ?_
        refine Wc.ret (res_of (.inr rfl) ?_)
        cases h
        exact ⟨_, _, _, by conv => lhs; simp, by (conv => lhs; simp [cx, ioTab, List.range, List.range.loop]) <;> rfl, by first | rfl | simp⟩
      · rw [if_neg kc3] at h
        refine Wc.condF' (t := _) (by conv => lhs; simp) (by simpa using kc3) ?_
        refine Wc.seq ?_
        refine Wc.kil (by conv => lhs; simp) ?_
        refine Wc.skip ?_
        refine Wc.seq ?_
        refine Wc.evs (by conv => lhs; simp) ?_
        refine Wo.nil ?_
        refine Wc.ret (res_of (.inr rfl) ?_)
        cases h
        exact ⟨_, _, _, by conv => lhs; simp, by (conv => lhs; simp [cx, ioTab, List.range, List.range.loop]) <;> rfl, by first | rfl | simp⟩
theorem r53_0 {a : (List Relation)} {b : (List Relation)} : ∀ zs zo, iter (f53_0 a b) zs = some zo → Wc cx 27 (.loop L53_0) [(0, .v (ssl eRelation a)), (1, .v (ssl eRelation b)), (5, .v (.int .i64 zs))] ((QO (QX 0 (fun (y : Unit) => [])) (QR (fun (y : Bool) => [(4, .v (.bool y))]))) zo) := by
  intro zs0 zo0 zh0
  refine iter_run (f := (f53_0 a b)) (P := fun zs zo => Wc cx 27 (.loop L53_0) [(0, .v (ssl eRelation a)), (1, .v (ssl eRelation b)), (5, .v (.int .i64 zs))] ((QO (QX 0 (fun (y : Unit) => [])) (QR (fun (y : Bool) => [(4, .v (.bool y))]))) zo)) ?_ zh0
  rintro i_2 zo zr h hk hx
  try dsimp only at hk ⊢
  rw [f53_0] at h
  refine Wc.loop ?_
  refine Wc.seq ?_
  refine Wc.seq ?_
  refine Wc.evs (by conv => lhs; simp) ?_
  refine Wo.nil ?_
  by_cases kc3 : i_2 < (a.length : Int)
  · rw [if_pos kc3] at h
    refine Wc.condT' (t := _) (by conv => lhs; simp) (by simpa using kc3) ?_
    refine Wc.seq ?_
    refine Wc.kil (by conv => lhs; simp) ?_
    refine Wc.skip ?_
    refine Wc.seq ?_
    refine Wc.block ?_
    refine Wc.seq ?_
    obtain ⟨v_4, h5, h⟩ := bind_some h
    obtain ⟨ga5, gb5, gc5⟩ := ix_some h5
    have gn5 := ix_ne h5
    have gd5 := arr_at (E := eRelation) (b := false) gc5
    simp at gd5
    obtain ⟨v_6, h7, h⟩ := bind_some h
    obtain ⟨ga7, gb7, gc7⟩ := ix_some h7
    have gn7 := ix_ne h7
    have gd7 := arr_at (E := eRelation) (b := false) gc7
    simp at gd7
    refine Wc.evs (by conv => lhs; simp [ga5, gb5, gn5, gd5, ga7, gb7, gn7, gd7]) ?_
    obtain ⟨o8, h9, h⟩ := bind_some h
    refine Wo.call (by simp) rfl (by (conv => lhs; simp [ga5, gb5, gn5, gd5, ga7, gb7, gn7, gd7, cx, ioTab]) <;> rfl) (r121 h9) (by simp) (by simp) (by (conv => lhs; simp [ga5, gb5, gn5, gd5, ga7, gb7, gn7, gd7, cx, ioTab]) <;> rfl) (by (conv => lhs; simp [ga5, gb5, gn5, gd5, ga7, gb7, gn7, gd7]) <;> rfl) ?_
    refine Wo.evs (by conv => lhs; simp [ga5, gb5, gn5, gd5, ga7, gb7, gn7, gd7]) ?_
    refine Wo.nil ?_
    by_cases kc10 : ¬ (o8 = true)
    · rw [if_pos kc10] at h
      refine Wc.condT' (t := _) (by conv => lhs; simp) (by simpa using kc10) ?_
      refine Wc.seq ?_
      refine Wc.kil (by conv => lhs; simp) ?_
      refine Wc.seq ?_
      refine Wc.evs (by conv => lhs; simp) ?_
      refine Wo.nil ?_
      refine Wc.ret ?_
      have e0 := hx _ (Option.some.inj h).symm
      subst e0
      exact ⟨rfl, by first | rfl | simp⟩
    · rw [if_neg kc10] at h
      refine Wc.condF' (t := _) (by conv => lhs; simp) (by simpa using kc10) ?_
      refine Wc.seq ?_
      refine Wc.kil (by conv => lhs; simp) ?_
      refine Wc.skip ?_
      refine Wc.evs (by conv => lhs; simp) ?_
      refine Wo.nil ?_
      refine Wc.start (V1 := [(0, .v (ssl eRelation a)), (1, .v (ssl eRelation b)), (5, .v (.int .i64 (w64 (i_2 + 1))))]) ?_ (hk _ (Option.some.inj h).symm)
      first | rfl | simp
  · rw [if_neg kc3] at h
    refine Wc.condF' (t := _) (by conv => lhs; simp) (by simpa using kc3) ?_
    refine Wc.seq ?_
    refine Wc.kil (by conv => lhs; simp) ?_
    refine Wc.exit ?_
    have e0 := hx _ (Option.some.inj h).symm
    subst e0
    exact ⟨rfl, by first | rfl | simp⟩
theorem r53 {a : (List Relation)} {b : (List Relation)} {r : Bool} (h : f53 a b = some r) : VJx cx (.ca 53 [(ssl eRelation a), (ssl eRelation b)] (.bool r) []) := by
  unfold f53 at h
  refine ca_of rfl rfl (by decide) rfl ?_
  refine Wc.start (V1 := [(0, .v (ssl eRelation a)), (1, .v (ssl eRelation b))]) (by simp) ?_
  refine Wc.seq ?_
  refine Wc.evs (by conv => lhs; simp) ?_
  refine Wo.nil ?_
  refine Wc.seq ?_
  refine Wc.seq ?_
  refine Wc.evs (by conv => lhs; simp) ?_
  refine Wo.nil ?_
  by_cases kc1 : (a.length : Int) ≠ (b.length : Int)
  · rw [if_pos kc1] at h
    refine Wc.condT' (t := _) (by conv => lhs; simp) (by simpa using kc1) ?_
    refine Wc.seq ?_
    refine Wc.kil (by conv => lhs; simp) ?_
    refine Wc.seq ?_
    refine Wc.evs (by conv => lhs; simp) ?_
    refine Wo.nil ?_
    refine Wc.ret (res_of (.inr rfl) ?_)
    cases h
    exact ⟨_, _, _, by conv => lhs; simp, by (conv => lhs; simp [cx, ioTab, List.range, List.range.loop]) <;> rfl, by first | rfl | simp⟩
  · rw [if_neg kc1] at h
    refine Wc.condF' (t := _) (by conv => lhs; simp) (by simpa using kc1) ?_
    refine Wc.seq ?_
    refine Wc.kil (by conv => lhs; simp) ?_
    refine Wc.skip ?_
    refine Wc.seq ?_
    refine Wc.seq ?_
    refine Wc.evs (by conv => lhs; simp) ?_
    refine Wo.nil ?_
    refine Wc.block ?_
    obtain ⟨w11, h12, h⟩ := bind_some h
    refine Wc.start (V1 := [(0, .v (ssl eRelation a)), (1, .v (ssl eRelation b)), (5, .v (.int .i64 0))]) (by first | rfl | simp) ?_
    refine Wc.mono (r53_0 _ _ h12) ?_
    rcases w11 with ⟨⟩ | x_13
    · rintro ex V ⟨rfl, rfl⟩
      try dsimp only at h
      refine Wc.seq ?_
      refine Wc.evs (by conv => lhs; simp) ?_
      refine Wo.nil ?_
      refine Wc.ret (res_of (.inr rfl) ?_)
      cases h
      exact ⟨_, _, _, by conv => lhs; simp, by (conv => lhs; simp [cx, ioTab, List.range, List.range.loop]) <;> rfl, by first | rfl | simp⟩
    · rintro ex V ⟨rfl, rfl⟩
      try dsimp only at h
      refine res_of (.inr rfl) ?_
      cases h
      exact ⟨_, _, _, by conv => lhs; simp, by (conv => lhs; simp [cx, ioTab, List.range, List.range.loop]) <;> rfl, by first | rfl | simp⟩
theorem r42_0 {a : (List Int)} {b : (List Int)} : ∀ zs zo, iter (f42_0 a b) zs = some zo → Wc cx 26 (.loop L42_0) [(0, .v (ssl eI a)), (1, .v (ssl eI b)), (5, .v (.int .i64 zs))] ((QO (QX 0 (fun (y : Unit) => [])) (QR (fun (y : Bool) => [(4, .v (.bool y))]))) zo) := by
  intro zs0 zo0 zh0
  refine iter_run (f := (f42_0 a b)) (P := fun zs zo => Wc cx 26 (.loop L42_0) [(0, .v (ssl eI a)), (1, .v (ssl eI b)), (5, .v (.int .i64 zs))] ((QO (QX 0 (fun (y : Unit) => [])) (QR (fun (y : Bool) => [(4, .v (.bool y))]))) zo)) ?_ zh0
  rintro i_2 zo zr h hk hx
  try dsimp only at hk ⊢
  rw [f42_0] at h
  refine Wc.loop ?_
  refine Wc.seq ?_
  refine Wc.seq ?_
  refine Wc.evs (by conv => lhs; simp) ?_
  refine Wo.nil ?_
  by_cases kc3 : i_2 < (a.length : Int)
  · rw [if_pos kc3] at h
    refine Wc.condT' (t := _) (by conv => lhs; simp) (by simpa using kc3) ?_
    refine Wc.seq ?_
    refine Wc.kil (by conv => lhs; simp) ?_
    refine Wc.skip ?_
    refine Wc.seq ?_
    refine Wc.block ?_
    refine Wc.seq ?_
    obtain ⟨v_4, h5, h⟩ := bind_some h
    obtain ⟨ga5, gb5, gc5⟩ := ix_some h5
    have gn5 := ix_ne h5
    have gd5 := arr_at (E := eI) (b := false) gc5
    simp at gd5
    obtain ⟨v_6, h7, h⟩ := bind_some h
    obtain ⟨ga7, gb7, gc7⟩ := ix_some h7
    have gn7 := ix_ne h7
    have gd7 := arr_at (E := eI) (b := false) gc7
    simp at gd7
    refine Wc.evs (by conv => lhs; simp [ga5, gb5, gn5, gd5, ga7, gb7, gn7, gd7]) ?_
    refine Wo.nil ?_
    by_cases kc8 : v_4 ≠ v_6
    · rw [if_pos kc8] at h
      refine Wc.condT' (t := _) (by conv => lhs; simp) (by simpa using kc8) ?_
      refine Wc.seq ?_
      refine Wc.kil (by conv => lhs; simp) ?_
      refine Wc.seq ?_
      refine Wc.evs (by conv => lhs; simp) ?_
      refine Wo.nil ?_
      refine Wc.ret ?_
      have e0 := hx _ (Option.some.inj h).symm
      subst e0
      exact ⟨rfl, by first | rfl | simp⟩
    · rw [if_neg kc8] at h
      refine Wc.condF' (t := _) (by conv => lhs; simp) (by simpa using kc8) ?_
      refine Wc.seq ?_
      refine Wc.kil (by conv => lhs; simp) ?_
      refine Wc.skip ?_
      refine Wc.evs (by conv => lhs; simp) ?_
      refine Wo.nil ?_
      refine Wc.start (V1 := [(0, .v (ssl eI a)), (1, .v (ssl eI b)), (5, .v (.int .i64 (w64 (i_2 + 1))))]) ?_ (hk _ (Option.some.inj h).symm)
      first | rfl | simp
  · rw [if_neg kc3] at h
    refine Wc.condF' (t := _) (by conv => lhs; simp) (by simpa using kc3) ?_
    refine Wc.seq ?_
    refine Wc.kil (by conv => lhs; simp) ?_
    refine Wc.exit ?_
    have e0 := hx _ (Option.some.inj h).symm
    subst e0
    exact ⟨rfl, by first | rfl | simp⟩
theorem r42 {a : (List Int)} {b : (List Int)} {r : Bool} (h : f42 a b = some r) : VJx cx (.ca 42 [(ssl eI a), (ssl eI b)] (.bool r) []) := by
  unfold f42 at h
  refine ca_of rfl rfl (by decide) rfl ?_
  refine Wc.start (V1 := [(0, .v (ssl eI a)), (1, .v (ssl eI b))]) (by simp) ?_
  refine Wc.seq ?_
  refine Wc.evs (by conv => lhs; simp) ?_
  refine Wo.nil ?_
  refine Wc.seq ?_
  refine Wc.seq ?_
  refine Wc.evs (by conv => lhs; simp) ?_
  refine Wo.nil ?_
  by_cases kc1 : (a.length : Int) ≠ (b.length : Int)
  · rw [if_pos kc1] at h
    refine Wc.condT' (t := _) (by conv => lhs; simp) (by simpa using kc1) ?_
    refine Wc.seq ?_
    refine Wc.kil (by conv => lhs; simp) ?_
    refine Wc.seq ?_
    refine Wc.evs (by conv => lhs; simp) ?_
    refine Wo.nil ?_
    refine Wc.ret (res_of (.inr rfl) ?_)
    cases h
    exact ⟨_, _, _, by conv => lhs; simp, by (conv => lhs; simp [cx, ioTab, List.range, List.range.loop]) <;> rfl, by first | rfl | simp⟩
  · rw [if_neg kc1] at h
    refine Wc.condF' (t := _) (by conv => lhs; simp) (by simpa using kc1) ?_
    refine Wc.seq ?_
    refine Wc.kil (by conv => lhs; simp) ?_
    refine Wc.skip ?_
    refine Wc.seq ?_
    refine Wc.seq ?_
    refine Wc.evs (by conv => lhs; simp) ?_
    refine Wo.nil ?_
    refine Wc.block ?_
    obtain ⟨w9, h10, h⟩ := bind_some h
    refine Wc.start (V1 := [(0, .v (ssl eI a)), (1, .v (ssl eI b)), (5, .v (.int .i64 0))]) (by first | rfl | simp) ?_
    refine Wc.mono (r42_0 _ _ h10) ?_
    rcases w9 with ⟨⟩ | x_11
    · rintro ex V ⟨rfl, rfl⟩
      try dsimp only at h
      refine Wc.seq ?_
      refine Wc.evs (by conv => lhs; simp) ?_
      refine Wo.nil ?_
      refine Wc.ret (res_of (.inr rfl) ?_)
      cases h
      exact ⟨_, _, _, by conv => lhs; simp, by (conv => lhs; simp [cx, ioTab, List.range, List.range.loop]) <;> rfl, by first | rfl | simp⟩
    · rintro ex V ⟨rfl, rfl⟩
      try dsimp only at h
      refine res_of (.inr rfl) ?_
      cases h
      exact ⟨_, _, _, by conv => lhs; simp, by (conv => lhs; simp [cx, ioTab, List.range, List.range.loop]) <;> rfl, by first | rfl | simp⟩
theorem r166 {a : Atom} {b : Atom} {r : Bool} (h : f166 a b = some r) : VJx cx (.ca 166 [(.agg [(.int .i64 a.Relation), (ssl eI a.Terms)]), (.agg [(.int .i64 b.Relation), (ssl eI b.Terms)])] (.bool r) []) := by
  unfold f166 at h
  refine ca_of rfl rfl (by decide) rfl ?_
  refine Wc.start (V1 := [(0, .v (.agg [(.int .i64 a.Relation), (ssl eI a.Terms)])), (1, .v (.agg [(.int .i64 b.Relation), (ssl eI b.Terms)]))]) (by simp) ?_
  refine Wc.seq ?_
  refine Wc.evs (by conv => lhs; simp) ?_
  refine Wo.nil ?_
  refine Wc.seq ?_
  refine Wc.seq ?_
  refine Wc.evs (by conv => lhs; simp) ?_
  refine Wo.nil ?_
  by_cases kc1 : a.Relation ≠ b.Relation
  · rw [if_pos kc1] at h
    refine Wc.condT' (t := _) (by conv => lhs; simp) (by simpa using kc1) ?_
    refine Wc.seq ?_
    refine Wc.kil (by conv => lhs; simp) ?_
    refine Wc.seq ?_
    refine Wc.evs (by conv => lhs; simp) ?_
    refine Wo.nil ?_
    refine Wc.ret (res_of (.inr rfl) ?_)
    cases h
    exact ⟨_, _, _, by conv => lhs; simp, by (conv => lhs; simp [cx, ioTab, List.range, List.range.loop]) <;> rfl, by first | rfl | simp⟩
  · rw [if_neg kc1] at h
    refine Wc.condF' (t := _) (by conv => lhs; simp) (by simpa using kc1) ?_
    refine Wc.seq ?_
    refine Wc.kil (by conv => lhs; simp) ?_
    refine Wc.skip ?_
    refine Wc.seq ?_
    refine Wc.seq ?_
    refine Wc.evs (by conv => lhs; simp) ?_
    obtain ⟨o2, h3, h⟩ := bind_some h
    refine Wo.call (by simp) rfl (by (conv => lhs; simp [cx, ioTab]) <;> rfl) (r42 h3) (by simp) (by simp) (by (conv => lhs; simp [cx, ioTab]) <;> rfl) (by (conv => lhs; simp) <;> rfl) ?_
    refine Wo.evs (by conv => lhs; simp) ?_
    refine Wo.nil ?_
    by_cases kc4 : ¬ (o2 = true)
    · rw [if_pos kc4] at h
      refine Wc.condT' (t := _) (by conv => lhs; simp) (by simpa using kc4) ?_
      refine Wc.seq ?_
      refine Wc.kil (by conv => lhs; simp) ?_
      refine Wc.seq ?_
      refine Wc.evs (by conv => lhs; simp) ?_
      refine Wo.nil ?_
      refine Wc.ret (res_of (.inr rfl) ?_)
      cases h
      exact ⟨_, _, _, by conv => lhs; simp, by (conv => lhs; simp [cx, ioTab, List.range, List.range.loop]) <;> rfl, by first | rfl | simp⟩
    · rw [if_neg kc4] at h
      refine Wc.condF' (t := _) (by conv => lhs; simp) (by simpa using kc4) ?_
      refine Wc.seq ?_
      refine Wc.kil (by conv => lhs; simp) ?_
      refine Wc.skip ?_
      refine Wc.seq ?_
      refine Wc.evs (by conv => lhs; simp) ?_
      refine Wo.nil ?_
      refine Wc.ret (res_of (.inr rfl) ?_)
      cases h
      exact ⟨_, _, _, by conv => lhs; simp, by (conv => lhs; simp [cx, ioTab, List.range, List.range.loop]) <;> rfl, by first | rfl | simp⟩
theorem r122 {a : RewritingStep} {b : RewritingStep} {r : Bool} (h : f122 a b = some r) : VJx cx (.ca 122 [(.agg [(.int .i64 a.Atom.Relation), (ssl eI a.Atom.Terms), (ssl eI a.Existential), (ssl eI a.Universal)]), (.agg [(.int .i64 b.Atom.Relation), (ssl eI b.Atom.Terms), (ssl eI b.Existential), (ssl eI b.Universal)])] (.bool r) []) := by
  unfold f122 at h
  refine ca_of rfl rfl (by decide) rfl ?_
  refine Wc.start (V1 := [(0, .v (.agg [(.int .i64 a.Atom.Relation), (ssl eI a.Atom.Terms), (ssl eI a.Existential), (ssl eI a.Universal)])), (1, .v (.agg [(.int .i64 b.Atom.Relation), (ssl eI b.Atom.Terms), (ssl eI b.Existential), (ssl eI b.Universal)]))]) (by simp) ?_
  refine Wc.seq ?_
  refine Wc.evs (by conv => lhs; simp) ?_
  refine Wo.nil ?_
  refine Wc.seq ?_
  refine Wc.seq ?_
  refine Wc.evs (by conv => lhs; simp) ?_
  obtain ⟨o1, h2, h⟩ := bind_some h
  refine Wo.call (by simp) rfl (by (conv => lhs; simp [cx, ioTab]) <;> rfl) (r166 h2) (by simp) (by simp) (by (conv => lhs; simp [cx, ioTab]) <;> rfl) (by (conv => lhs; simp) <;> rfl) ?_
  refine Wo.evs (by conv => lhs; simp) ?_
  refine Wo.nil ?_
  by_cases kc3 : ¬ (o1 = true)
  · rw [if_pos kc3] at h
    refine Wc.condT' (t := _) (by conv => lhs; simp) (by simpa using kc3) ?_
    refine Wc.seq ?_
    refine Wc.kil (by conv => lhs; simp) ?_
    refine Wc.seq ?_
    refine Wc.evs (by conv => lhs; simp) ?_
    refine Wo.nil ?_
    refine Wc.ret (res_of (.inr rfl) ?_)
    cases h
    exact ⟨_, _, _, by conv => lhs; simp, by (conv => lhs; simp [cx, ioTab, List.range, List.range.loop]) <;> rfl, by first | rfl | simp⟩
  · rw [if_neg kc3] at h
    refine Wc.condF' (t := _) (by conv => lhs; simp) (by simpa using kc3) ?_
    refine Wc.seq ?_
    refine Wc.kil (by conv => lhs; simp) ?_
    refine Wc.skip ?_
    refine Wc.seq ?_
    refine Wc.seq ?_
    refine Wc.evs (by conv => lhs; simp) ?_
    obtain ⟨o4, h5, h⟩ := bind_some h
    refine Wo.call (by simp) rfl (by (conv => lhs; simp [cx, ioTab]) <;> rfl) (r42 h5) (by simp) (by simp) (by (conv => lhs; simp [cx, ioTab]) <;> rfl) (by (conv => lhs; simp) <;> rfl) ?_
    refine Wo.evs (by conv => lhs; simp) ?_
    refine Wo.nil ?_
    by_cases kc6 : ¬ (o4 = true)
    · rw [if_pos kc6] at h
      refine Wc.condT' (t := _) (by conv => lhs; simp) (by simpa using kc6) ?_
      refine Wc.seq ?_
      refine Wc.kil (by conv => lhs; simp) ?_
      refine Wc.seq ?_
      refine Wc.evs (by conv => lhs; simp) ?_
      refine Wo.nil ?_
      refine Wc.ret (res_of (.inr rfl) ?_)
      cases h
      exact ⟨_, _, _, by conv => lhs; simp, by (conv => lhs; simp [cx, ioTab, List.range, List.range.loop]) <;> rfl, by first | rfl | simp⟩
    · rw [if_neg kc6] at h
      refine Wc.condF' (t := _) (by conv => lhs; simp) (by simpa using kc6) ?_
      refine Wc.seq ?_
      refine Wc.kil (by conv => lhs; simp) ?_
      refine Wc.skip ?_
      refine Wc.seq ?_
      refine Wc.seq ?_
      refine Wc.evs (by conv => lhs; simp) ?_
      obtain ⟨o7, h8, h⟩ := bind_some h
      refine Wo.call (by simp) rfl (by (conv => lhs; simp [cx, ioTab]) <;> rfl) (r42 h8) (by simp) (by simp) (by (conv => lhs; simp [cx, ioTab]) <;> rfl) (by (conv => lhs; simp) <;> rfl) ?_
      refine Wo.evs (by conv => lhs; simp) ?_
      refine Wo.nil ?_
      by_cases kc9 : ¬ (o7 = true)
      · rw [if_pos kc9] at h
        refine Wc.condT' (t := _) (by conv => lhs; simp) (by simpa using kc9) ?_
        refine Wc.seq ?_
        refine Wc.kil (by conv => lhs; simp) ?_
        refine Wc.seq ?_
        refine Wc.evs (by conv => lhs; simp) ?_
        refine Wo.nil ?_
        refine Wc.ret (res_of (.inr rfl) ?_)
        cases h
        exact ⟨_, _, _, by conv => lhs; simp, by (conv => lhs; simp [cx, ioTab, List.range, List.range.loop]) <;> rfl, by first | rfl | simp⟩
      · rw [if_neg kc9] at h
        refine Wc.condF' (t := _) (by conv => lhs; simp) (by simpa using kc9) ?_
        refine Wc.seq ?_
        refine Wc.kil (by conv => lhs; simp) ?_
        refine Wc.skip ?_
        refine Wc.seq ?_
        refine Wc.evs (by conv => lhs; simp) ?_
        refine Wo.nil ?_
        refine Wc.ret (res_of (.inr rfl) ?_)
        cases h
        exact ⟨_, _, _, by conv => lhs; simp, by (conv => lhs; simp [cx, ioTab, List.range, List.range.loop]) <;> rfl, by first | rfl | simp⟩
theorem r54_0 {a : (List RewritingStep)} {b : (List RewritingStep)} : ∀ zs zo, iter (f54_0 a b) zs = some zo → Wc cx 27 (.loop L54_0) [(0, .v (ssl eRewritingStep a)), (1, .v (ssl eRewritingStep b)), (5, .v (.int .i64 zs))] ((QO (QX 0 (fun (y : Unit) => [])) (QR (fun (y : Bool) => [(4, .v (.bool y))]))) zo) := by
  intro zs0 zo0 zh0
  refine iter_run (f := (f54_0 a b)) (P := fun zs zo => Wc cx 27 (.loop L54_0) [(0, .v (ssl eRewritingStep a)), (1, .v (ssl eRewritingStep b)), (5, .v (.int .i64 zs))] ((QO (QX 0 (fun (y : Unit) => [])) (QR (fun (y : Bool) => [(4, .v (.bool y))]))) zo)) ?_ zh0
  rintro i_2 zo zr h hk hx
  try dsimp only at hk ⊢
  rw [f54_0] at h
  refine Wc.loop ?_
  refine Wc.seq ?_
  refine Wc.seq ?_
  refine Wc.evs (by conv => lhs; simp) ?_
  refine Wo.nil ?_
  by_cases kc3 : i_2 < (a.length : Int)
  · rw [if_pos kc3] at h
    refine Wc.condT' (t := _) (by conv => lhs; simp) (by simpa using kc3) ?_
    refine Wc.seq ?_
    refine Wc.kil (by conv => lhs; simp) ?_
    refine Wc.skip ?_
    refine Wc.seq ?_
    refine Wc.block ?_
    refine Wc.seq ?_
    obtain ⟨v_4, h5, h⟩ := bind_some h
    obtain ⟨ga5, gb5, gc5⟩ := ix_some h5
    have gn5 := ix_ne h5
    have gd5 := arr_at (E := eRewritingStep) (b := false) gc5
    simp at gd5
    obtain ⟨v_6, h7, h⟩ := bind_some h
    obtain ⟨ga7, gb7, gc7⟩ := ix_some h7
    have gn7 := ix_ne h7
    have gd7 := arr_at (E := eRewritingStep) (b := false) gc7
    simp at gd7
    refine Wc.evs (by conv => lhs; simp [ga5, gb5, gn5, gd5, ga7, gb7, gn7, gd7]) ?_
    obtain ⟨o8, h9, h⟩ := bind_some h
    refine Wo.call (by simp) rfl (by (conv => lhs; simp [ga5, gb5, gn5, gd5, ga7, gb7, gn7, gd7, cx, ioTab]) <;> rfl) (r122 h9) (by simp) (by simp) (by (conv => lhs; simp [ga5, gb5, gn5, gd5, ga7, gb7, gn7, gd7, cx, ioTab]) <;> rfl) (by (conv => lhs; simp [ga5, gb5, gn5, gd5, ga7, gb7, gn7, gd7]) <;> rfl) ?_
    refine Wo.evs (by conv => lhs; simp [ga5, gb5, gn5, gd5, ga7, gb7, gn7, gd7]) ?_
    refine Wo.nil ?_
    by_cases kc10 : ¬ (o8 = true)
    · rw [if_pos kc10] at h
      refine Wc.condT' (t := _) (by conv => lhs; simp) (by simpa using kc10) ?_
      refine Wc.seq ?_
      refine Wc.kil (by conv => lhs; simp) ?_
      refine Wc.seq ?_
      refine Wc.evs (by conv => lhs; simp) ?_
      refine Wo.nil ?_
      refine Wc.ret ?_
      have e0 := hx _ (Option.some.inj h).symm
      subst e0
      exact ⟨rfl, by first | rfl | simp⟩
    · rw [if_neg kc10] at h
      refine Wc.condF' (t := _) (by conv => lhs; simp) (by simpa using kc10) ?_
      refine Wc.seq ?_
      refine Wc.kil (by conv => lhs; simp) ?_
      refine Wc.skip ?_
      refine Wc.evs (by conv => lhs; simp) ?_
      refine Wo.nil ?_
      refine Wc.start (V1 := [(0, .v (ssl eRewritingStep a)), (1, .v (ssl eRewritingStep b)), (5, .v (.int .i64 (w64 (i_2 + 1))))]) ?_ (hk _ (Option.some.inj h).symm)
      first | rfl | simp
  · rw [if_neg kc3] at h
    refine Wc.condF' (t := _) (by conv => lhs; simp) (by simpa using kc3) ?_
    refine Wc.seq ?_
    refine Wc.kil (by conv => lhs; simp) ?_
    refine Wc.exit ?_
    have e0 := hx _ (Option.some.inj h).symm
    subst e0
    exact ⟨rfl, by first | rfl | simp⟩
theorem r54 {a : (List RewritingStep)} {b : (List RewritingStep)} {r : Bool} (h : f54 a b = some r) : VJx cx (.ca 54 [(ssl eRewritingStep a), (ssl eRewritingStep b)] (.bool r) []) := by
  unfold f54 at h
  refine ca_of rfl rfl (by decide) rfl ?_
  refine Wc.start (V1 := [(0, .v (ssl eRewritingStep a)), (1, .v (ssl eRewritingStep b))]) (by simp) ?_
  refine Wc.seq ?_
  refine Wc.evs (by conv => lhs; simp) ?_
  refine Wo.nil ?_
  refine Wc.seq ?_
  refine Wc.seq ?_
  refine Wc.evs (by conv => lhs; simp) ?_
  refine Wo.nil ?_
  by_cases kc1 : (a.length : Int) ≠ (b.length : Int)
  · rw [if_pos kc1] at h
    refine Wc.condT' (t := _) (by conv => lhs; simp) (by simpa using kc1) ?_
    refine Wc.seq ?_
    refine Wc.kil (by conv => lhs; simp) ?_
    refine Wc.seq ?_
    refine Wc.evs (by conv => lhs; simp) ?_
    refine Wo.nil ?_
    refine Wc.ret (res_of (.inr rfl) ?_)
    cases h
    exact ⟨_, _, _, by conv => lhs; simp, by (conv => lhs; simp [cx, ioTab, List.range, List.range.loop]) <;> rfl, by first | rfl | simp⟩
  · rw [if_neg kc1] at h
    refine Wc.condF' (t := _) (by conv => lhs; simp) (by simpa using kc1) ?_
    refine Wc.seq ?_
    refine Wc.kil (by conv => lhs; simp) ?_
    refine Wc.skip ?_
    refine Wc.seq ?_
    refine Wc.seq ?_
    refine Wc.evs (by conv => lhs; simp) ?_
    refine Wo.nil ?_
    refine Wc.block ?_
    obtain ⟨w11, h12, h⟩ := bind_some h
    refine Wc.start (V1 := [(0, .v (ssl eRewritingStep a)), (1, .v (ssl eRewritingStep b)), (5, .v (.int .i64 0))]) (by first | rfl | simp) ?_
    refine Wc.mono (r54_0 _ _ h12) ?_
    rcases w11 with ⟨⟩ | x_13
    · rintro ex V ⟨rfl, rfl⟩
      try dsimp only at h
      refine Wc.seq ?_
      refine Wc.evs (by conv => lhs; simp) ?_
      refine Wo.nil ?_
      refine Wc.ret (res_of (.inr rfl) ?_)
      cases h
      exact ⟨_, _, _, by conv => lhs; simp, by (conv => lhs; simp [cx, ioTab, List.range, List.range.loop]) <;> rfl, by first | rfl | simp⟩
    · rintro ex V ⟨rfl, rfl⟩
      try dsimp only at h
      refine res_of (.inr rfl) ?_
      cases h
      exact ⟨_, _, _, by conv => lhs; simp, by (conv => lhs; simp [cx, ioTab, List.range, List.range.loop]) <;> rfl, by first | rfl | simp⟩
theorem r8 {aRelations : (List Relation)} {aRewriting : (List RewritingStep)} {r : Bool} (h : f8 aRelations aRewriting = some r) : VJx cx (.ca 8 [(ssl eRelation aRelations), (ssl eRewritingStep aRewriting)] (.bool r) []) := by
  unfold f8 at h
  refine ca_of rfl rfl (by decide) rfl ?_
  refine Wc.start (V1 := [(0, .v (ssl eRelation aRelations)), (1, .v (ssl eRewritingStep aRewriting))]) (by simp) ?_
  refine Wc.seq ?_
  refine Wc.evs (by conv => lhs; simp) ?_
  refine Wo.nil ?_
  refine Wc.seq ?_
  refine Wc.evs (by conv => lhs; simp) ?_
  refine Wo.nil ?_
  refine Wc.seq ?_
  refine Wc.evs (by conv => lhs; simp) ?_
  obtain ⟨o1, h2, h⟩ := bind_some h
  refine Wo.call (by simp) rfl (by (conv => lhs; simp [cx, ioTab]) <;> rfl) (r47 h2) (by simp) (by simp) (by (conv => lhs; simp [cx, ioTab]) <;> rfl) (by (conv => lhs; simp) <;> rfl) ?_
  refine Wo.evs (by conv => lhs; simp) ?_
  refine Wo.nil ?_
  refine Wc.seq ?_
  refine Wc.seq ?_
  refine Wc.evs (by conv => lhs; simp) ?_
  refine Wo.nil ?_
  by_cases kc3 : o1 < 0
  · rw [if_pos kc3] at h
    refine Wc.condT' (t := _) (by conv => lhs; simp) (by simpa using kc3) ?_
    refine Wc.seq ?_
    refine Wc.kil (by conv => lhs; simp) ?_
    refine Wc.seq ?_
    refine Wc.evs (by conv => lhs; simp) ?_
    refine Wo.nil ?_
    refine Wc.ret (res_of (.inr rfl) ?_)
    cases h
    exact ⟨_, _, _, by conv => lhs; simp, by (conv => lhs; simp [cx, ioTab, List.range, List.range.loop]) <;> rfl, by first | rfl | simp⟩
  · rw [if_neg kc3] at h
    refine Wc.condF' (t := _) (by conv => lhs; simp) (by simpa using kc3) ?_
    refine Wc.seq ?_
    refine Wc.kil (by conv => lhs; simp) ?_
    refine Wc.skip ?_
    refine Wc.seq ?_
    refine Wc.evs (by conv => lhs; simp) ?_
    obtain ⟨o4, h5, h⟩ := bind_some h
    refine Wo.call (by simp) rfl (by (conv => lhs; simp [cx, ioTab]) <;> rfl) (r48 h5) (by simp) (by simp) (by (conv => lhs; simp [cx, ioTab]) <;> rfl) (by (conv => lhs; simp) <;> rfl) ?_
    refine Wo.evs (by conv => lhs; simp) ?_
    refine Wo.nil ?_
    refine Wc.seq ?_
    refine Wc.seq ?_
    refine Wc.evs (by conv => lhs; simp) ?_
    refine Wo.nil ?_
    by_cases kc6 : o4 < 0
    · rw [if_pos kc6] at h
      refine Wc.condT' (t := _) (by conv => lhs; simp) (by simpa using kc6) ?_
      refine Wc.seq ?_
      refine Wc.kil (by conv => lhs; simp) ?_
      refine Wc.seq ?_
      refine Wc.evs (by conv => lhs; simp) ?_
      refine Wo.nil ?_
      refine Wc.ret (res_of (.inr rfl) ?_)
      cases h
      exact ⟨_, _, _, by conv => lhs; simp, by (conv => lhs; simp [cx, ioTab, List.range, List.range.loop]) <;> rfl, by first | rfl | simp⟩
    · rw [if_neg kc6] at h
      refine Wc.condF' (t := _) (by conv => lhs; simp) (by simpa using kc6) ?_
      refine Wc.seq ?_
      refine Wc.kil (by conv => lhs; simp) ?_
      refine Wc.skip ?_
      refine Wc.seq ?_
      refine Wc.evs (by conv => lhs; simp) ?_
      obtain ⟨o7, h8, h⟩ := bind_some h
      refine Wo.call (by simp) rfl (by (conv => lhs; simp [cx, ioTab]) <;> rfl) (r50 h8) (by simp) (by simp) (by (conv => lhs; simp [cx, ioTab]) <;> rfl) (by (conv => lhs; simp) <;> rfl) ?_
      refine Wo.evs (by conv => lhs; simp) ?_
      obtain ⟨o9, h10, h⟩ := bind_some h
      refine Wo.call (by simp) rfl (by (conv => lhs; simp [cx, ioTab]) <;> rfl) (r51 h10) (by simp) (by simp) (by (conv => lhs; simp [cx, ioTab]) <;> rfl) (by (conv => lhs; simp) <;> rfl) ?_
      obtain ⟨o11, h12, h⟩ := bind_some h
      refine Wo.call (by simp) rfl (by (conv => lhs; simp [cx, ioTab]) <;> rfl) (r49 h12) (by simp) (by simp) (by (conv => lhs; simp [cx, ioTab]) <;> rfl) (by (conv => lhs; simp) <;> rfl) ?_
      refine Wo.evs (by conv => lhs; simp) ?_
      refine Wo.nil ?_
      refine Wc.seq ?_
      refine Wc.evs (by conv => lhs; simp) ?_
      obtain ⟨o13, h14, h⟩ := bind_some h
      refine Wo.call (by simp) rfl (by (conv => lhs; simp [cx, ioTab]) <;> rfl) (r50 h14) (by simp) (by simp) (by (conv => lhs; simp [cx, ioTab]) <;> rfl) (by (conv => lhs; simp) <;> rfl) ?_
      refine Wo.evs (by conv => lhs; simp) ?_
      refine Wo.nil ?_
      refine Wc.seq ?_
      refine Wc.evs (by conv => lhs; simp) ?_
      obtain ⟨o15, h16, h⟩ := bind_some h
      refine Wo.call (by simp) rfl (by (conv => lhs; simp [cx, ioTab]) <;> rfl) (r51 h16) (by simp) (by simp) (by (conv => lhs; simp [cx, ioTab]) <;> rfl) (by (conv => lhs; simp) <;> rfl) ?_
      refine Wo.evs (by conv => lhs; simp) ?_
      refine Wo.nil ?_
      refine Wc.seq ?_
      refine Wc.evs (by conv => lhs; simp) ?_
      obtain ⟨o17, h18, h⟩ := bind_some h
      refine Wo.call (by simp) rfl (by (conv => lhs; simp [cx, ioTab]) <;> rfl) (r52 h18) (by simp) (by simp) (by (conv => lhs; simp [cx, ioTab]) <;> rfl) (by (conv => lhs; simp) <;> rfl) ?_
      refine Wo.evs (by conv => lhs; simp) ?_
      refine Wo.nil ?_
      refine Wc.seq ?_
      refine Wc.seq ?_
      refine Wc.evs (by conv => lhs; simp) ?_
      refine Wo.nil ?_
      by_cases kc19 : (o17 != o11) = true
      · rw [if_pos kc19] at h
        refine Wc.condT' (t := _) (by conv => lhs; simp) (by simpa using kc19) ?_
        refine Wc.seq ?_
        refine Wc.kil (by conv => lhs; simp) ?_
        refine Wc.seq ?_
        refine Wc.evs (by conv => lhs; simp) ?_
        refine Wo.nil ?_
        refine Wc.ret (res_of (.inr rfl) ?_)
        cases h
        exact ⟨_, _, _, by conv => lhs; simp, by (conv => lhs; simp [cx, ioTab, List.range, List.range.loop]) <;> rfl, by first | rfl | simp⟩
      · rw [if_neg kc19] at h
        refine Wc.condF' (t := _) (by conv => lhs; simp) (by simpa using kc19) ?_
        refine Wc.seq ?_
        refine Wc.kil (by conv => lhs; simp) ?_
        refine Wc.skip ?_
        refine Wc.seq ?_
        refine Wc.seq ?_
        refine Wc.evs (by conv => lhs; simp) ?_
        obtain ⟨o20, h21, h⟩ := bind_some h
        refine Wo.call (by simp) rfl (by (conv => lhs; simp [cx, ioTab]) <;> rfl) (r50 h21) (by simp) (by simp) (by (conv => lhs; simp [cx, ioTab]) <;> rfl) (by (conv => lhs; simp) <;> rfl) ?_
        obtain ⟨o22, h23, h⟩ := bind_some h
        refine Wo.call (by simp) rfl (by (conv => lhs; simp [cx, ioTab]) <;> rfl) (r53 h23) (by simp) (by simp) (by (conv => lhs; simp [cx, ioTab]) <;> rfl) (by (conv => lhs; simp) <;> rfl) ?_
        refine Wo.evs (by conv => lhs; simp) ?_
        refine Wo.nil ?_
        by_cases kc24 : ¬ (o22 = true)
        · rw [if_pos kc24] at h
          refine Wc.condT' (t := _) (by conv => lhs; simp) (by simpa using kc24) ?_
          refine Wc.seq ?_
          refine Wc.kil (by conv => lhs; simp) ?_
          refine Wc.seq ?_
          refine Wc.evs (by conv => lhs; simp) ?_
          refine Wo.nil ?_
          refine Wc.ret (res_of (.inr rfl) ?_)
          cases h
          exact ⟨_, _, _, by conv => lhs; simp, by (conv => lhs; simp [cx, ioTab, List.range, List.range.loop]) <;> rfl, by first | rfl | simp⟩
        · rw [if_neg kc24] at h
          refine Wc.condF' (t := _) (by conv => lhs; simp) (by simpa using kc24) ?_
          refine Wc.seq ?_
          refine Wc.kil (by conv => lhs; simp) ?_
          refine Wc.skip ?_
          refine Wc.seq ?_
          refine Wc.seq ?_
          refine Wc.evs (by conv => lhs; simp) ?_
          obtain ⟨o25, h26, h⟩ := bind_some h
          refine Wo.call (by simp) rfl (by (conv => lhs; simp [cx, ioTab]) <;> rfl) (r51 h26) (by simp) (by simp) (by (conv => lhs; simp [cx, ioTab]) <;> rfl) (by (conv => lhs; simp) <;> rfl) ?_
          obtain ⟨o27, h28, h⟩ := bind_some h
          refine Wo.call (by simp) rfl (by (conv => lhs; simp [cx, ioTab]) <;> rfl) (r54 h28) (by simp) (by simp) (by (conv => lhs; simp [cx, ioTab]) <;> rfl) (by (conv => lhs; simp) <;> rfl) ?_
          refine Wo.evs (by conv => lhs; simp) ?_
          refine Wo.nil ?_
          by_cases kc29 : ¬ (o27 = true)
          · rw [if_pos kc29] at h
            refine Wc.condT' (t := _) (by conv => lhs; simp) (by simpa using kc29) ?_
            refine Wc.seq ?_
            refine Wc.kil (by conv => lhs; simp) ?_
            refine Wc.seq ?_
            refine Wc.evs (by conv => lhs; simp) ?_
            refine Wo.nil ?_
            refine Wc.ret (res_of (.inr rfl) ?_)
            cases h
            exact ⟨_, _, _, by conv => lhs; simp, by (conv => lhs; simp [cx, ioTab, List.range, List.range.loop]) <;> rfl, by first | rfl | simp⟩
          · rw [if_neg kc29] at h
            refine Wc.condF' (t := _) (by conv => lhs; simp) (by simpa using kc29) ?_
            refine Wc.seq ?_
            refine Wc.kil (by conv => lhs; simp) ?_
            refine Wc.skip ?_
            refine Wc.seq ?_
            refine Wc.evs (by conv => lhs; simp) ?_
            refine Wo.nil ?_
            refine Wc.ret (res_of (.inr rfl) ?_)
            cases h
            exact ⟨_, _, _, by conv => lhs; simp, by (conv => lhs; simp [cx, ioTab, List.range, List.range.loop]) <;> rfl, by first | rfl | simp⟩
end
end Go.Proofs.YtabmomjfdondnaaH
