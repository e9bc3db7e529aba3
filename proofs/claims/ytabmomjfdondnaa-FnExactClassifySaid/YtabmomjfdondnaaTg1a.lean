import Derived.Test.YtabmomjfdondnaaCx1
import Derived.Test.YtabmomjfdondnaaX3
import Derived.Test.YtabmomjfdondnaaTd1
set_option linter.unusedVariables false
set_option linter.unusedSimpArgs false
set_option maxRecDepth 100000
namespace Go.Proofs.YtabmomjfdondnaaH
open Go
noncomputable section
attribute [local simp] cx ioTab List.range List.range.loop
theorem r109 {a : Relation} {left : Int} {r : Int} (h : f109 a left = some r) : VJx cx (.ca 109 [(.agg [(.str a.Name), (.int .i64 a.Arity), (.int .i64 a.KeyLength)]), (.int .i64 left)] (.int .i64 r) []) := by
 unfold f109 at h
 refine ca_of rfl rfl (by decide) rfl ?_
 refine Wc.start (by conv => lhs; simp) ?_
 refine Wc.se (by conv => lhs; simp) ?_
 refine Wc.se (by conv => lhs; simp) ?_
 apply Wc.seq
 refine Wc.se (by conv => lhs; simp) ?_
 by_cases kc1 : (w64 (left - (a.Name.length : Int))) < 0
 ·rw [if_pos kc1] at h
  refine Wc.condT' (by conv => lhs; simp) (by simpa using kc1) ?_
  refine Wc.sk (by conv => lhs; simp) ?_
  refine Wc.se (by conv => lhs; simp) ?_
  refine Wc.ret (res_of (.inr rfl) ?_)
  cases h
  exact ⟨_, _, _, by conv => lhs; simp, by (conv => lhs; simp) <;> rfl, by first | rfl | simp⟩
 ·rw [if_neg kc1] at h
  refine Wc.condF' (by conv => lhs; simp) (by simpa using kc1) ?_
  refine Wc.sk (by conv => lhs; simp) ?_
  apply Wc.skip
  refine Wc.se (by conv => lhs; simp) ?_
  refine Wc.ret (res_of (.inr rfl) ?_)
  cases h
  exact ⟨_, _, _, by conv => lhs; simp, by (conv => lhs; simp) <;> rfl, by first | rfl | simp⟩
theorem r47_0 {a : (List Relation)} : ∀ zs zo, iter (f47_0 a) zs = some zo → Wc cx 27 (.loop L47_0) [(0, .v (ssl eRelation a)), (1, .v (.int .i64 zs.1)), (5, .v (.int .i64 zs.2))] ((QO (QX 0 (fun (y : Int) => [(1, .v (.int .i64 y))])) (QR (fun (y : Int) => [(4, .v (.int .i64 y))]))) zo) := by
 refine iter_all ?_
 rintro ⟨left_2, i_3⟩ zo zr h hk hx
 try dsimp only at hk ⊢
 rw [f47_0] at h
 apply Wc.loop
 apply Wc.seq
 refine Wc.se (by conv => lhs; simp) ?_
 by_cases kc4 : i_3 < (a.length : Int)
 ·rw [if_pos kc4] at h
  refine Wc.condT' (by conv => lhs; simp) (by simpa using kc4) ?_
  refine Wc.sk (by conv => lhs; simp) ?_
  apply Wc.skip
  apply Wc.seq
  apply Wc.block
  apply Wc.seq
  obtain ⟨v_5, h6, h⟩ := bind_some h
  obtain ⟨ga6, gb6, gc6⟩ := ix_some h6
  have gn6 := ix_ne h6
  have gd6 := arr_at (E := eRelation) (b := false) gc6
  simp at gd6
  refine Wc.evs (by conv => lhs; simp [ga6, gb6, gn6, gd6]) ?_
  obtain ⟨o7, h8, h⟩ := bind_some h
  refine Wo.cl rfl (by (conv => lhs; simp [ga6, gb6, gn6, gd6]) <;> rfl) (r109 h8) (by simp) (by (conv => lhs; simp [ga6, gb6, gn6, gd6]) <;> rfl) (by (conv => lhs; simp [ga6, gb6, gn6, gd6]) <;> rfl) ?_
  refine Wo.en (by conv => lhs; simp [ga6, gb6, gn6, gd6]) ?_
  refine Wc.se (by conv => lhs; simp) ?_
  by_cases kc9 : o7 < 0
  ·rw [if_pos kc9] at h
   refine Wc.condT' (by conv => lhs; simp) (by simpa using kc9) ?_
   refine Wc.sk (by conv => lhs; simp) ?_
   refine Wc.se (by conv => lhs; simp) ?_
   refine Wc.ret ?_
   have e0 := hx _ (Option.some.inj h).symm
   subst e0
   exact ⟨rfl, by first | rfl | simp⟩
  ·rw [if_neg kc9] at h
   refine Wc.condF' (by conv => lhs; simp) (by simpa using kc9) ?_
   refine Wc.sk (by conv => lhs; simp) ?_
   apply Wc.skip
   refine Wc.en (by conv => lhs; simp) ?_
   refine Wc.start ?_ (hk _ (Option.some.inj h).symm)
   first | rfl | simp
 ·rw [if_neg kc4] at h
  refine Wc.condF' (by conv => lhs; simp) (by simpa using kc4) ?_
  refine Wc.sk (by conv => lhs; simp) ?_
  apply Wc.exit
  have e0 := hx _ (Option.some.inj h).symm
  subst e0
  exact ⟨rfl, by first | rfl | simp⟩
theorem r47 {a : (List Relation)} {left : Int} {r : Int} (h : f47 a left = some r) : VJx cx (.ca 47 [(ssl eRelation a), (.int .i64 left)] (.int .i64 r) []) := by
 unfold f47 at h
 refine ca_of rfl rfl (by decide) rfl ?_
 refine Wc.start (by conv => lhs; simp) ?_
 refine Wc.se (by conv => lhs; simp) ?_
 refine Wc.se (by conv => lhs; simp) ?_
 apply Wc.seq
 refine Wc.se (by conv => lhs; simp) ?_
 by_cases kc1 : (w64 (left - (a.length : Int))) < 0
 ·rw [if_pos kc1] at h
  refine Wc.condT' (by conv => lhs; simp) (by simpa using kc1) ?_
  refine Wc.sk (by conv => lhs; simp) ?_
  refine Wc.se (by conv => lhs; simp) ?_
  refine Wc.ret (res_of (.inr rfl) ?_)
  cases h
  exact ⟨_, _, _, by conv => lhs; simp, by (conv => lhs; simp) <;> rfl, by first | rfl | simp⟩
 ·rw [if_neg kc1] at h
  refine Wc.condF' (by conv => lhs; simp) (by simpa using kc1) ?_
  refine Wc.sk (by conv => lhs; simp) ?_
  apply Wc.skip
  apply Wc.seq
  refine Wc.se (by conv => lhs; simp) ?_
  apply Wc.block
  obtain ⟨w10, h11, h⟩ := bind_some h
  refine Wc.start (V1 := [(0, .v (ssl eRelation a)), (1, .v (.int .i64 (w64 (left - (a.length : Int))))), (5, .v (.int .i64 0))]) (by first | rfl | simp) ?_
  refine Wc.mono (r47_0 _ _ h11) ?_
  rcases w10 with left_12 | x_13
  ·rintro ex V ⟨rfl, rfl⟩
   try dsimp only at h
   refine Wc.se (by conv => lhs; simp) ?_
   refine Wc.ret (res_of (.inr rfl) ?_)
   cases h
   exact ⟨_, _, _, by conv => lhs; simp, by (conv => lhs; simp) <;> rfl, by first | rfl | simp⟩
  ·rintro ex V ⟨rfl, rfl⟩
   try dsimp only at h
   refine res_of (.inr rfl) ?_
   cases h
   exact ⟨_, _, _, by conv => lhs; simp, by (conv => lhs; simp) <;> rfl, by first | rfl | simp⟩
theorem r64 {a : (List Int)} {left : Int} {r : Int} (h : f64 a left = some r) : VJx cx (.ca 64 [(ssl eI a), (.int .i64 left)] (.int .i64 r) []) := by
 unfold f64 at h
 refine ca_of rfl rfl (by decide) rfl ?_
 refine Wc.start (by conv => lhs; simp) ?_
 refine Wc.se (by conv => lhs; simp) ?_
 refine Wc.se (by conv => lhs; simp) ?_
 apply Wc.seq
 refine Wc.se (by conv => lhs; simp) ?_
 by_cases kc1 : (w64 (left - (a.length : Int))) < 0
 ·rw [if_pos kc1] at h
  refine Wc.condT' (by conv => lhs; simp) (by simpa using kc1) ?_
  refine Wc.sk (by conv => lhs; simp) ?_
  refine Wc.se (by conv => lhs; simp) ?_
  refine Wc.ret (res_of (.inr rfl) ?_)
  cases h
  exact ⟨_, _, _, by conv => lhs; simp, by (conv => lhs; simp) <;> rfl, by first | rfl | simp⟩
 ·rw [if_neg kc1] at h
  refine Wc.condF' (by conv => lhs; simp) (by simpa using kc1) ?_
  refine Wc.sk (by conv => lhs; simp) ?_
  apply Wc.skip
  refine Wc.se (by conv => lhs; simp) ?_
  refine Wc.ret (res_of (.inr rfl) ?_)
  cases h
  exact ⟨_, _, _, by conv => lhs; simp, by (conv => lhs; simp) <;> rfl, by first | rfl | simp⟩
theorem r161 {a : Atom} {left : Int} {r : Int} (h : f161 a left = some r) : VJx cx (.ca 161 [(.agg [(.int .i64 a.Relation), (ssl eI a.Terms)]), (.int .i64 left)] (.int .i64 r) []) := by
 unfold f161 at h
 refine ca_of rfl rfl (by decide) rfl ?_
 refine Wc.start (by conv => lhs; simp) ?_
 refine Wc.se (by conv => lhs; simp) ?_
 apply Wc.seq
 refine Wc.evs (by conv => lhs; simp) ?_
 obtain ⟨o1, h2, h⟩ := bind_some h
 refine Wo.cl rfl (by (conv => lhs; simp) <;> rfl) (r64 h2) (by simp) (by (conv => lhs; simp) <;> rfl) (by (conv => lhs; simp) <;> rfl) ?_
 refine Wo.en (by conv => lhs; simp) ?_
 apply Wc.seq
 refine Wc.se (by conv => lhs; simp) ?_
 by_cases kc3 : o1 < 0
 ·rw [if_pos kc3] at h
  refine Wc.condT' (by conv => lhs; simp) (by simpa using kc3) ?_
  refine Wc.sk (by conv => lhs; simp) ?_
  refine Wc.se (by conv => lhs; simp) ?_
  refine Wc.ret (res_of (.inr rfl) ?_)
  cases h
  exact ⟨_, _, _, by conv => lhs; simp, by (conv => lhs; simp) <;> rfl, by first | rfl | simp⟩
 ·rw [if_neg kc3] at h
  refine Wc.condF' (by conv => lhs; simp) (by simpa using kc3) ?_
  refine Wc.sk (by conv => lhs; simp) ?_
  apply Wc.skip
  refine Wc.se (by conv => lhs; simp) ?_
  refine Wc.ret (res_of (.inr rfl) ?_)
  cases h
  exact ⟨_, _, _, by conv => lhs; simp, by (conv => lhs; simp) <;> rfl, by first | rfl | simp⟩
theorem r123_0 {a : (List Atom)} : ∀ zs zo, iter (f123_0 a) zs = some zo → Wc cx 27 (.loop L123_0) [(0, .v (ssl eAtom a)), (1, .v (.int .i64 zs.1)), (5, .v (.int .i64 zs.2))] ((QO (QX 0 (fun (y : Int) => [(1, .v (.int .i64 y))])) (QR (fun (y : Int) => [(4, .v (.int .i64 y))]))) zo) := by
 refine iter_all ?_
 rintro ⟨left_2, i_3⟩ zo zr h hk hx
 try dsimp only at hk ⊢
 rw [f123_0] at h
 apply Wc.loop
 apply Wc.seq
 refine Wc.se (by conv => lhs; simp) ?_
 by_cases kc4 : i_3 < (a.length : Int)
 ·rw [if_pos kc4] at h
  refine Wc.condT' (by conv => lhs; simp) (by simpa using kc4) ?_
  refine Wc.sk (by conv => lhs; simp) ?_
  apply Wc.skip
  apply Wc.seq
  apply Wc.block
  apply Wc.seq
  obtain ⟨v_5, h6, h⟩ := bind_some h
  obtain ⟨ga6, gb6, gc6⟩ := ix_some h6
  have gn6 := ix_ne h6
  have gd6 := arr_at (E := eAtom) (b := false) gc6
  simp at gd6
  refine Wc.evs (by conv => lhs; simp [ga6, gb6, gn6, gd6]) ?_
  obtain ⟨o7, h8, h⟩ := bind_some h
  refine Wo.cl rfl (by (conv => lhs; simp [ga6, gb6, gn6, gd6]) <;> rfl) (r161 h8) (by simp) (by (conv => lhs; simp [ga6, gb6, gn6, gd6]) <;> rfl) (by (conv => lhs; simp [ga6, gb6, gn6, gd6]) <;> rfl) ?_
  refine Wo.en (by conv => lhs; simp [ga6, gb6, gn6, gd6]) ?_
  refine Wc.se (by conv => lhs; simp) ?_
  by_cases kc9 : o7 < 0
  ·rw [if_pos kc9] at h
   refine Wc.condT' (by conv => lhs; simp) (by simpa using kc9) ?_
   refine Wc.sk (by conv => lhs; simp) ?_
   refine Wc.se (by conv => lhs; simp) ?_
   refine Wc.ret ?_
   have e0 := hx _ (Option.some.inj h).symm
   subst e0
   exact ⟨rfl, by first | rfl | simp⟩
  ·rw [if_neg kc9] at h
   refine Wc.condF' (by conv => lhs; simp) (by simpa using kc9) ?_
   refine Wc.sk (by conv => lhs; simp) ?_
   apply Wc.skip
   refine Wc.en (by conv => lhs; simp) ?_
   refine Wc.start ?_ (hk _ (Option.some.inj h).symm)
   first | rfl | simp
 ·rw [if_neg kc4] at h
  refine Wc.condF' (by conv => lhs; simp) (by simpa using kc4) ?_
  refine Wc.sk (by conv => lhs; simp) ?_
  apply Wc.exit
  have e0 := hx _ (Option.some.inj h).symm
  subst e0
  exact ⟨rfl, by first | rfl | simp⟩
theorem r123 {a : (List Atom)} {left : Int} {r : Int} (h : f123 a left = some r) : VJx cx (.ca 123 [(ssl eAtom a), (.int .i64 left)] (.int .i64 r) []) := by
 unfold f123 at h
 refine ca_of rfl rfl (by decide) rfl ?_
 refine Wc.start (by conv => lhs; simp) ?_
 refine Wc.se (by conv => lhs; simp) ?_
 refine Wc.se (by conv => lhs; simp) ?_
 apply Wc.seq
 refine Wc.se (by conv => lhs; simp) ?_
 by_cases kc1 : (w64 (left - (a.length : Int))) < 0
 ·rw [if_pos kc1] at h
  refine Wc.condT' (by conv => lhs; simp) (by simpa using kc1) ?_
  refine Wc.sk (by conv => lhs; simp) ?_
  refine Wc.se (by conv => lhs; simp) ?_
  refine Wc.ret (res_of (.inr rfl) ?_)
  cases h
  exact ⟨_, _, _, by conv => lhs; simp, by (conv => lhs; simp) <;> rfl, by first | rfl | simp⟩
 ·rw [if_neg kc1] at h
  refine Wc.condF' (by conv => lhs; simp) (by simpa using kc1) ?_
  refine Wc.sk (by conv => lhs; simp) ?_
  apply Wc.skip
  apply Wc.seq
  refine Wc.se (by conv => lhs; simp) ?_
  apply Wc.block
  obtain ⟨w10, h11, h⟩ := bind_some h
  refine Wc.start (V1 := [(0, .v (ssl eAtom a)), (1, .v (.int .i64 (w64 (left - (a.length : Int))))), (5, .v (.int .i64 0))]) (by first | rfl | simp) ?_
  refine Wc.mono (r123_0 _ _ h11) ?_
  rcases w10 with left_12 | x_13
  ·rintro ex V ⟨rfl, rfl⟩
   try dsimp only at h
   refine Wc.se (by conv => lhs; simp) ?_
   refine Wc.ret (res_of (.inr rfl) ?_)
   cases h
   exact ⟨_, _, _, by conv => lhs; simp, by (conv => lhs; simp) <;> rfl, by first | rfl | simp⟩
  ·rintro ex V ⟨rfl, rfl⟩
   try dsimp only at h
   refine res_of (.inr rfl) ?_
   cases h
   exact ⟨_, _, _, by conv => lhs; simp, by (conv => lhs; simp) <;> rfl, by first | rfl | simp⟩
theorem r55 {a : Query} {left : Int} {r : Int} (h : f55 a left = some r) : VJx cx (.ca 55 [(.agg [(.int .i64 a.VariableCount), (ssl eAtom a.Atoms), (ssl eI a.Free)]), (.int .i64 left)] (.int .i64 r) []) := by
 unfold f55 at h
 refine ca_of rfl rfl (by decide) rfl ?_
 refine Wc.start (by conv => lhs; simp) ?_
 refine Wc.se (by conv => lhs; simp) ?_
 apply Wc.seq
 refine Wc.evs (by conv => lhs; simp) ?_
 obtain ⟨o1, h2, h⟩ := bind_some h
 refine Wo.cl rfl (by (conv => lhs; simp) <;> rfl) (r123 h2) (by simp) (by (conv => lhs; simp) <;> rfl) (by (conv => lhs; simp) <;> rfl) ?_
 refine Wo.en (by conv => lhs; simp) ?_
 apply Wc.seq
 refine Wc.se (by conv => lhs; simp) ?_
 by_cases kc3 : o1 < 0
 ·rw [if_pos kc3] at h
  refine Wc.condT' (by conv => lhs; simp) (by simpa using kc3) ?_
  refine Wc.sk (by conv => lhs; simp) ?_
  refine Wc.se (by conv => lhs; simp) ?_
  refine Wc.ret (res_of (.inr rfl) ?_)
  cases h
  exact ⟨_, _, _, by conv => lhs; simp, by (conv => lhs; simp) <;> rfl, by first | rfl | simp⟩
 ·rw [if_neg kc3] at h
  refine Wc.condF' (by conv => lhs; simp) (by simpa using kc3) ?_
  refine Wc.sk (by conv => lhs; simp) ?_
  apply Wc.skip
  apply Wc.seq
  refine Wc.evs (by conv => lhs; simp) ?_
  obtain ⟨o4, h5, h⟩ := bind_some h
  refine Wo.cl rfl (by (conv => lhs; simp) <;> rfl) (r64 h5) (by simp) (by (conv => lhs; simp) <;> rfl) (by (conv => lhs; simp) <;> rfl) ?_
  refine Wo.en (by conv => lhs; simp) ?_
  apply Wc.seq
  refine Wc.se (by conv => lhs; simp) ?_
  by_cases kc6 : o4 < 0
  ·rw [if_pos kc6] at h
   refine Wc.condT' (by conv => lhs; simp) (by simpa using kc6) ?_
   refine Wc.sk (by conv => lhs; simp) ?_
   refine Wc.se (by conv => lhs; simp) ?_
   refine Wc.ret (res_of (.inr rfl) ?_)
   cases h
   exact ⟨_, _, _, by conv => lhs; simp, by (conv => lhs; simp) <;> rfl, by first | rfl | simp⟩
  ·rw [if_neg kc6] at h
   refine Wc.condF' (by conv => lhs; simp) (by simpa using kc6) ?_
   refine Wc.sk (by conv => lhs; simp) ?_
   apply Wc.skip
   refine Wc.se (by conv => lhs; simp) ?_
   refine Wc.ret (res_of (.inr rfl) ?_)
   cases h
   exact ⟨_, _, _, by conv => lhs; simp, by (conv => lhs; simp) <;> rfl, by first | rfl | simp⟩
theorem r114 {a : Relation} {r : Relation} (h : f114 a = some r) : VJx cx (.ca 114 [(.agg [(.str a.Name), (.int .i64 a.Arity), (.int .i64 a.KeyLength)])] (.agg [(.str r.Name), (.int .i64 r.Arity), (.int .i64 r.KeyLength)]) []) := by
 unfold f114 at h
 refine ca_of rfl rfl (by decide) rfl ?_
 refine Wc.start (by conv => lhs; simp) ?_
 refine Wc.se (by conv => lhs; simp) ?_
 refine Wc.se (by conv => lhs; simp) ?_
 refine Wc.se (by conv => lhs; simp) ?_
 refine Wc.se (by conv => lhs; simp) ?_
 refine Wc.se (by conv => lhs; simp) ?_
 refine Wc.se (by conv => lhs; simp) ?_
 refine Wc.ret (res_of (.inr rfl) ?_)
 cases h
 exact ⟨_, _, _, by conv => lhs; simp, by (conv => lhs; simp) <;> rfl, by first | rfl | simp⟩
theorem r50_0 {a : (List Relation)} : ∀ zs zo, iter (f50_0 a) zs = some zo → Wc cx 23 (.loop L50_0) [(0, .v (ssl eRelation a)), (3, .v (osl eRelation true zs.1)), (4, .v (.int .i64 zs.2))] ((QX 0 (fun (y : (List Relation)) => [(3, .v (osl eRelation true y))])) zo) := by
 refine iter_all ?_
 rintro ⟨out_3, i_4⟩ zo zr h hk hx
 try dsimp only at hk ⊢
 rw [f50_0] at h
 apply Wc.loop
 apply Wc.seq
 refine Wc.se (by conv => lhs; simp) ?_
 by_cases kc5 : i_4 < (a.length : Int)
 ·rw [if_pos kc5] at h
  refine Wc.condT' (by conv => lhs; simp) (by simpa using kc5) ?_
  refine Wc.sk (by conv => lhs; simp) ?_
  apply Wc.skip
  apply Wc.seq
  apply Wc.block
  obtain ⟨v_6, h7, h⟩ := bind_some h
  obtain ⟨ga7, gb7, gc7⟩ := ix_some h7
  have gn7 := ix_ne h7
  have gd7 := arr_at (E := eRelation) (b := false) gc7
  simp at gd7
  refine Wc.evs (by conv => lhs; simp [ga7, gb7, gn7, gd7]) ?_
  obtain ⟨o8, h9, h⟩ := bind_some h
  refine Wo.cl rfl (by (conv => lhs; simp [ga7, gb7, gn7, gd7]) <;> rfl) (r114 h9) (by simp) (by (conv => lhs; simp [ga7, gb7, gn7, gd7]) <;> rfl) (by (conv => lhs; simp [ga7, gb7, gn7, gd7]) <;> rfl) ?_
  obtain ⟨v_10, h11, h⟩ := bind_some h
  obtain ⟨ga11, gb11, gc11⟩ := ix_some h11
  have gn11 := ix_ne h11
  have gf11 := arr_fit (E := eRelation) (b := true) (i := i_4.toNat) (l := out_3) (by omega)
  have gg11_0 := arr_get (E := eRelation) (b := true) (o := 0) gc11 (by decide)
  have gg11_1 := arr_get (E := eRelation) (b := true) (o := 1) gc11 (by decide)
  have gg11_2 := arr_get (E := eRelation) (b := true) (o := 2) gc11 (by decide)
  have gd11 := arr_at (E := eRelation) (b := true) gc11
  simp at gf11 gg11_0 gg11_1 gg11_2 gd11
  have gl11 : i_4.toNat < out_3.length := by omega
  have gy12 := lay_set (E := eRelation) (b := true) (i := i_4.toNat) (l := out_3) o8 (by omega)
  simp at gy12
  refine Wo.en (by conv => lhs; simp [ga7, gb7, gn7, gd7, -getElem?_pos, List.getElem?_cons_zero, List.getElem?_cons_succ, ga11, gb11, gn11, gf11, gg11_0, gg11_1, gg11_2, gd11, gl11, gy12]) ?_
  refine Wc.en (by conv => lhs; simp) ?_
  refine Wc.start ?_ (hk _ (Option.some.inj h).symm)
  first | rfl | simp
 ·rw [if_neg kc5] at h
  refine Wc.condF' (by conv => lhs; simp) (by simpa using kc5) ?_
  refine Wc.sk (by conv => lhs; simp) ?_
  apply Wc.exit
  have e0 := hx _ (Option.some.inj h).symm
  subst e0
  exact ⟨rfl, by first | rfl | simp⟩
theorem r50 {a : (List Relation)} {r : (List Relation)} (h : f50 a = some r) : VJx cx (.ca 50 [(ssl eRelation a)] (osl eRelation true r) []) := by
 unfold f50 at h
 refine ca_of rfl rfl (by decide) rfl ?_
 refine Wc.start (by conv => lhs; simp) ?_
 refine Wc.se (by conv => lhs; simp) ?_
 apply Wc.seq
 obtain ⟨l_1, h2, h⟩ := bind_some h
 obtain ⟨gm2, gp2, gq2, gr2⟩ := mkl_some h2
 have gx2 := rep_arr (E := eRelation) (b := true) gr2
 simp at gx2
 refine Wc.evs (by conv => lhs; simp [gm2, gp2, gq2, gx2]) ?_
 refine Wo.gh (vle_co (s := 3) (t1 := (osl eRelation true l_1)) rfl (by simp) (tle_own rfl) (by conv => lhs; simp)) ?_
 apply Wo.nil
 apply Wc.seq
 refine Wc.se (by conv => lhs; simp) ?_
 apply Wc.block
 obtain ⟨w13, h14, h⟩ := bind_some h
 refine Wc.start (V1 := [(0, .v (ssl eRelation a)), (3, .v (osl eRelation true l_1)), (4, .v (.int .i64 0))]) (by first | rfl | simp) ?_
 refine Wc.mono (r50_0 _ _ h14) ?_
 generalize w13 = out_15 at *
 rintro ex V ⟨rfl, rfl⟩
 try dsimp only at h
 refine Wc.se (by conv => lhs; simp) ?_
 refine Wc.ret (res_of (.inr rfl) ?_)
 cases h
 exact ⟨_, _, _, by conv => lhs; simp, by (conv => lhs; simp) <;> rfl, by first | rfl | simp⟩
theorem r40_0 {a : (List Int)} : ∀ zs zo, iter (f40_0 a) zs = some zo → Wc cx 22 (.loop L40_0) [(0, .v (ssl eI a)), (3, .v (osl eI true zs.1)), (4, .v (.int .i64 zs.2))] ((QX 0 (fun (y : (List Int)) => [(3, .v (osl eI true y))])) zo) := by
 refine iter_all ?_
 rintro ⟨out_3, i_4⟩ zo zr h hk hx
 try dsimp only at hk ⊢
 rw [f40_0] at h
 apply Wc.loop
 apply Wc.seq
 refine Wc.se (by conv => lhs; simp) ?_
 by_cases kc5 : i_4 < (a.length : Int)
 ·rw [if_pos kc5] at h
  refine Wc.condT' (by conv => lhs; simp) (by simpa using kc5) ?_
  refine Wc.sk (by conv => lhs; simp) ?_
  apply Wc.skip
  apply Wc.seq
  apply Wc.block
  obtain ⟨v_6, h7, h⟩ := bind_some h
  obtain ⟨ga7, gb7, gc7⟩ := ix_some h7
  have gn7 := ix_ne h7
  have gd7 := arr_at (E := eI) (b := false) gc7
  simp at gd7
  obtain ⟨v_8, h9, h⟩ := bind_some h
  obtain ⟨ga9, gb9, gc9⟩ := ix_some h9
  have gn9 := ix_ne h9
  have gf9 := arr_fit (E := eI) (b := true) (i := i_4.toNat) (l := out_3) (by omega)
  have gg9_0 := arr_get (E := eI) (b := true) (o := 0) gc9 (by decide)
  simp at gf9 gg9_0
  have gl9 : i_4.toNat < out_3.length := by omega
  have gy10 := lay_set (E := eI) (b := true) (i := i_4.toNat) (l := out_3) v_6 (by omega)
  simp at gy10
  refine Wc.en (by conv => lhs; simp [ga7, gb7, gn7, gd7, -getElem?_pos, List.getElem?_cons_zero, List.getElem?_cons_succ, ga9, gb9, gn9, gf9, gg9_0, gl9, gy10]) ?_
  refine Wc.en (by conv => lhs; simp) ?_
  refine Wc.start ?_ (hk _ (Option.some.inj h).symm)
  first | rfl | simp
 ·rw [if_neg kc5] at h
  refine Wc.condF' (by conv => lhs; simp) (by simpa using kc5) ?_
  refine Wc.sk (by conv => lhs; simp) ?_
  apply Wc.exit
  have e0 := hx _ (Option.some.inj h).symm
  subst e0
  exact ⟨rfl, by first | rfl | simp⟩
theorem r40 {a : (List Int)} {r : (List Int)} (h : f40 a = some r) : VJx cx (.ca 40 [(ssl eI a)] (osl eI true r) []) := by
 unfold f40 at h
 refine ca_of rfl rfl (by decide) rfl ?_
 refine Wc.start (by conv => lhs; simp) ?_
 refine Wc.se (by conv => lhs; simp) ?_
 apply Wc.seq
 obtain ⟨l_1, h2, h⟩ := bind_some h
 obtain ⟨gm2, gp2, gq2, gr2⟩ := mkl_some h2
 have gx2 := rep_arr (E := eI) (b := true) gr2
 simp at gx2
 refine Wc.evs (by conv => lhs; simp [gm2, gp2, gq2, gx2]) ?_
 refine Wo.gh (vle_co (s := 3) (t1 := (osl eI true l_1)) rfl (by simp) (tle_own rfl) (by conv => lhs; simp)) ?_
 apply Wo.nil
 apply Wc.seq
 refine Wc.se (by conv => lhs; simp) ?_
 apply Wc.block
 obtain ⟨w11, h12, h⟩ := bind_some h
 refine Wc.start (V1 := [(0, .v (ssl eI a)), (3, .v (osl eI true l_1)), (4, .v (.int .i64 0))]) (by first | rfl | simp) ?_
 refine Wc.mono (r40_0 _ _ h12) ?_
 generalize w11 = out_13 at *
 rintro ex V ⟨rfl, rfl⟩
 try dsimp only at h
 refine Wc.se (by conv => lhs; simp) ?_
 refine Wc.ret (res_of (.inr rfl) ?_)
 cases h
 exact ⟨_, _, _, by conv => lhs; simp, by (conv => lhs; simp) <;> rfl, by first | rfl | simp⟩
theorem r162 {a : Atom} {r : Atom} (h : f162 a = some r) : VJx cx (.ca 162 [(.agg [(.int .i64 a.Relation), (ssl eI a.Terms)])] (.agg [(.int .i64 r.Relation), (osl eI true r.Terms)]) []) := by
 unfold f162 at h
 refine ca_of rfl rfl (by decide) rfl ?_
 refine Wc.start (by conv => lhs; simp) ?_
 apply Wc.seq
 refine Wc.evs (by conv => lhs; simp) ?_
 refine Wo.gh (vle_co (s := 2) (t1 := (.ptr true [(.int .i64 0), (osl eI true ([]))])) rfl (by simp) (TLe.ptr (TLes.cons (TLe.refl _) (TLes.cons (TLe.nil rfl (by decide)) (TLes.refl _)))) (by conv => lhs; simp)) ?_
 apply Wo.nil
 apply Wc.seq
 refine Wc.evs (by conv => lhs; simp) ?_
 refine Wo.gh (vle_co (s := 3) (t1 := (.ptr true [(.int .i64 0), (osl eI true ([]))])) rfl (by simp) (TLe.ptr (TLes.cons (TLe.refl _) (TLes.cons (TLe.nil rfl (by decide)) (TLes.refl _)))) (by conv => lhs; simp)) ?_
 apply Wo.nil
 refine Wc.se (by conv => lhs; simp) ?_
 apply Wc.seq
 refine Wc.evs (by conv => lhs; simp) ?_
 obtain ⟨o1, h2, h⟩ := bind_some h
 refine Wo.cl rfl (by (conv => lhs; simp) <;> rfl) (r40 h2) (by simp) (by (conv => lhs; simp) <;> rfl) (by (conv => lhs; simp) <;> rfl) ?_
 refine Wo.en (by conv => lhs; simp) ?_
 refine Wc.se (by conv => lhs; simp) ?_
 refine Wc.ret (res_of (.inr rfl) ?_)
 cases h
 exact ⟨_, _, _, by conv => lhs; simp, by (conv => lhs; simp) <;> rfl, by first | rfl | simp⟩
theorem r126_0 {a : (List Atom)} : ∀ zs zo, iter (f126_0 a) zs = some zo → Wc cx 23 (.loop L126_0) [(0, .v (ssl eAtom a)), (3, .v (osl eAtom true zs.1)), (4, .v (.int .i64 zs.2))] ((QX 0 (fun (y : (List Atom)) => [(3, .v (osl eAtom true y))])) zo) := by
 refine iter_all ?_
 rintro ⟨out_3, i_4⟩ zo zr h hk hx
 try dsimp only at hk ⊢
 rw [f126_0] at h
 apply Wc.loop
 apply Wc.seq
 refine Wc.se (by conv => lhs; simp) ?_
 by_cases kc5 : i_4 < (a.length : Int)
 ·rw [if_pos kc5] at h
  refine Wc.condT' (by conv => lhs; simp) (by simpa using kc5) ?_
  refine Wc.sk (by conv => lhs; simp) ?_
  apply Wc.skip
  apply Wc.seq
  apply Wc.block
  obtain ⟨v_6, h7, h⟩ := bind_some h
  obtain ⟨ga7, gb7, gc7⟩ := ix_some h7
  have gn7 := ix_ne h7
  have gd7 := arr_at (E := eAtom) (b := false) gc7
  simp at gd7
  refine Wc.evs (by conv => lhs; simp [ga7, gb7, gn7, gd7]) ?_
  obtain ⟨o8, h9, h⟩ := bind_some h
  refine Wo.cl rfl (by (conv => lhs; simp [ga7, gb7, gn7, gd7]) <;> rfl) (r162 h9) (by simp) (by (conv => lhs; simp [ga7, gb7, gn7, gd7]) <;> rfl) (by (conv => lhs; simp [ga7, gb7, gn7, gd7]) <;> rfl) ?_
  obtain ⟨v_10, h11, h⟩ := bind_some h
  obtain ⟨ga11, gb11, gc11⟩ := ix_some h11
  have gn11 := ix_ne h11
  have gf11 := arr_fit (E := eAtom) (b := true) (i := i_4.toNat) (l := out_3) (by omega)
  have gg11_0 := arr_get (E := eAtom) (b := true) (o := 0) gc11 (by decide)
  have gg11_1 := arr_get (E := eAtom) (b := true) (o := 1) gc11 (by decide)
  have gd11 := arr_at (E := eAtom) (b := true) gc11
  simp at gf11 gg11_0 gg11_1 gd11
  have gl11 : i_4.toNat < out_3.length := by omega
  have gy12 := lay_set (E := eAtom) (b := true) (i := i_4.toNat) (l := out_3) o8 (by omega)
  simp at gy12
  refine Wo.en (by conv => lhs; simp [ga7, gb7, gn7, gd7, -getElem?_pos, List.getElem?_cons_zero, List.getElem?_cons_succ, ga11, gb11, gn11, gf11, gg11_0, gg11_1, gd11, gl11, gy12]) ?_
  refine Wc.en (by conv => lhs; simp) ?_
  refine Wc.start ?_ (hk _ (Option.some.inj h).symm)
  first | rfl | simp
 ·rw [if_neg kc5] at h
  refine Wc.condF' (by conv => lhs; simp) (by simpa using kc5) ?_
  refine Wc.sk (by conv => lhs; simp) ?_
  apply Wc.exit
  have e0 := hx _ (Option.some.inj h).symm
  subst e0
  exact ⟨rfl, by first | rfl | simp⟩
theorem r126 {a : (List Atom)} {r : (List Atom)} (h : f126 a = some r) : VJx cx (.ca 126 [(ssl eAtom a)] (osl eAtom true r) []) := by
 unfold f126 at h
 refine ca_of rfl rfl (by decide) rfl ?_
 refine Wc.start (by conv => lhs; simp) ?_
 refine Wc.se (by conv => lhs; simp) ?_
 apply Wc.seq
 obtain ⟨l_1, h2, h⟩ := bind_some h
 obtain ⟨gm2, gp2, gq2, gr2⟩ := mkl_some h2
 try simp at gr2
 refine Wc.evs (by conv => lhs; simp [gm2, gp2, gq2]) ?_
 refine Wo.gh (vle_co (s := 3) (t1 := (osl eAtom true l_1)) rfl (by simp) (TLe.own0 (tles_rep (E := eAtom) (b := true) gr2 (show TLes _ [(.int .i64 0), (osl eI true ([]))] from (TLes.cons (TLe.refl _) (TLes.cons (TLe.nil rfl (by decide)) (TLes.refl _)))))) (by conv => lhs; simp)) ?_
 apply Wo.nil
 apply Wc.seq
 refine Wc.se (by conv => lhs; simp) ?_
 apply Wc.block
 obtain ⟨w13, h14, h⟩ := bind_some h
 refine Wc.start (V1 := [(0, .v (ssl eAtom a)), (3, .v (osl eAtom true l_1)), (4, .v (.int .i64 0))]) (by first | rfl | simp) ?_
 refine Wc.mono (r126_0 _ _ h14) ?_
 generalize w13 = out_15 at *
 rintro ex V ⟨rfl, rfl⟩
 try dsimp only at h
 refine Wc.se (by conv => lhs; simp) ?_
 refine Wc.ret (res_of (.inr rfl) ?_)
 cases h
 exact ⟨_, _, _, by conv => lhs; simp, by (conv => lhs; simp) <;> rfl, by first | rfl | simp⟩
theorem r57 {a : Query} {r : Query} (h : f57 a = some r) : VJx cx (.ca 57 [(.agg [(.int .i64 a.VariableCount), (ssl eAtom a.Atoms), (ssl eI a.Free)])] (.agg [(.int .i64 r.VariableCount), (osl eAtom true r.Atoms), (osl eI true r.Free)]) []) := by
 unfold f57 at h
 refine ca_of rfl rfl (by decide) rfl ?_
 refine Wc.start (by conv => lhs; simp) ?_
 apply Wc.seq
 refine Wc.evs (by conv => lhs; simp) ?_
 refine Wo.gh (vle_co (s := 2) (t1 := (.ptr true [(.int .i64 0), (osl eAtom true ([])), (osl eI true ([]))])) rfl (by simp) (TLe.ptr (TLes.cons (TLe.refl _) (TLes.cons (TLe.nil rfl (by decide)) (TLes.cons (TLe.nil rfl (by decide)) (TLes.refl _))))) (by conv => lhs; simp)) ?_
 apply Wo.nil
 apply Wc.seq
 refine Wc.evs (by conv => lhs; simp) ?_
 refine Wo.gh (vle_co (s := 3) (t1 := (.ptr true [(.int .i64 0), (osl eAtom true ([])), (osl eI true ([]))])) rfl (by simp) (TLe.ptr (TLes.cons (TLe.refl _) (TLes.cons (TLe.nil rfl (by decide)) (TLes.cons (TLe.nil rfl (by decide)) (TLes.refl _))))) (by conv => lhs; simp)) ?_
 apply Wo.nil
 refine Wc.se (by conv => lhs; simp) ?_
 apply Wc.seq
 refine Wc.evs (by conv => lhs; simp) ?_
 obtain ⟨o1, h2, h⟩ := bind_some h
 refine Wo.cl rfl (by (conv => lhs; simp) <;> rfl) (r126 h2) (by simp) (by (conv => lhs; simp) <;> rfl) (by (conv => lhs; simp) <;> rfl) ?_
 refine Wo.en (by conv => lhs; simp) ?_
 apply Wc.seq
 refine Wc.evs (by conv => lhs; simp) ?_
 obtain ⟨o3, h4, h⟩ := bind_some h
 refine Wo.cl rfl (by (conv => lhs; simp) <;> rfl) (r40 h4) (by simp) (by (conv => lhs; simp) <;> rfl) (by (conv => lhs; simp) <;> rfl) ?_
 refine Wo.en (by conv => lhs; simp) ?_
 refine Wc.se (by conv => lhs; simp) ?_
 refine Wc.ret (res_of (.inr rfl) ?_)
 cases h
 exact ⟨_, _, _, by conv => lhs; simp, by (conv => lhs; simp) <;> rfl, by first | rfl | simp⟩
theorem r71 {x : Int} {low : Int} {high : Int} {r : Bool} (h : f71 x low high = some r) : VJx cx (.ca 71 [(.int .i64 x), (.int .i64 low), (.int .i64 high)] (.bool r) []) := by
 unfold f71 at h
 refine ca_of rfl rfl (by decide) rfl ?_
 refine Wc.start (by conv => lhs; simp) ?_
 refine Wc.se (by conv => lhs; simp) ?_
 apply Wc.seq
 refine Wc.evk 4 (by conv => lhs; simp) ?_
 obtain ⟨w2, h3, h⟩ := bind_some h
 refine Wo.mono (Q := fun V => V = [(6, .v (.bool w2))]) ?_ ?_
 ·by_cases knh3 : x ≥ low
  ·rw [if_pos knh3] at h3
   refine Wo.gh (vle_co (s := 10) (t1 := .bool true) rfl (by simp) (tle_bool (by simpa using knh3)) (by conv => lhs; simp)) ?_
   refine Wo.en (by conv => lhs; simp) ?_
   cases h3
   first | rfl | simp
  ·rw [if_neg knh3] at h3
   refine Wo.gh (vle_co (s := 10) (t1 := .bool false) rfl (by simp) (tle_bool (by simpa using knh3)) (by conv => lhs; simp)) ?_
   refine Wo.en (by conv => lhs; simp) ?_
   cases h3
   first | rfl | simp
 ·rintro V rfl
  generalize w2 = x_1 at *
  try dsimp only at h
  refine Wc.ret (res_of (.inr rfl) ?_)
  cases h
  exact ⟨_, _, _, by conv => lhs; simp, by (conv => lhs; simp) <;> rfl, by first | rfl | simp⟩
theorem r154 {s0 : Relation} {r : Bool} (h : f154 s0 = some r) : VJx cx (.ca 154 [(.agg [(.str s0.Name), (.int .i64 s0.Arity), (.int .i64 s0.KeyLength)])] (.bool r) []) := by
 unfold f154 at h
 refine ca_of rfl rfl (by decide) rfl ?_
 refine Wc.start (by conv => lhs; simp) ?_
 refine Wc.se (by conv => lhs; simp) ?_
 apply Wc.seq
 refine Wc.evk 5 (by conv => lhs; simp) ?_
 obtain ⟨w2, h3, h⟩ := bind_some h
 refine Wo.mono (Q := fun V => V = [(2, .v (.bool w2))]) ?_ ?_
 ·by_cases knh3 : (s0.Name.length : Int) = 1
  ·rw [if_pos knh3] at h3
   refine Wo.gh (vle_co (s := 7) (t1 := .bool true) rfl (by simp) (tle_bool (by simpa using knh3)) (by conv => lhs; simp)) ?_
   obtain ⟨c_4, h5, h3⟩ := bind_some h3
   obtain ⟨ga5, gb5, gc5⟩ := ix_some h5
   have gq5 : s0.Name[(0 : Nat)]? = some c_4 := gc5
   refine Wo.evk 6 (by conv => lhs; simp [ga5, gb5, gc5, gq5]) ?_
   obtain ⟨w7, h8, h3⟩ := bind_some h3
   refine Wo.mono (Q := fun V => V = [(2, .v (.bool w7))]) ?_ ?_
   ·by_cases knh8 : (c_4.toNat : Int) ≥ 97
    ·rw [if_pos knh8] at h8
     refine Wo.gh (vle_co (s := 13) (t1 := .bool true) rfl (by simp) (tle_bool (by simpa using knh8)) (by conv => lhs; simp)) ?_
     refine Wo.evk 6 (by conv => lhs; simp [ga5, gb5, gc5, gq5]) ?_
     obtain ⟨w10, h11, h8⟩ := bind_some h8
     refine Wo.mono (Q := fun V => V = [(2, .v (.bool w10))]) ?_ ?_
     ·by_cases knh11 : (c_4.toNat : Int) ≤ 122
      ·rw [if_pos knh11] at h11
       refine Wo.gh (vle_co (s := 19) (t1 := .bool true) rfl (by simp) (tle_bool (by simpa using knh11)) (by conv => lhs; simp)) ?_
       refine Wo.evs (by conv => lhs; simp [ga5, gb5, gc5, gq5]) ?_
       obtain ⟨o12, h13, h11⟩ := bind_some h11
       refine Wo.call (by simp [ga5, gb5, gc5, gq5]) rfl (by (conv => lhs; simp [ga5, gb5, gc5, gq5]) <;> rfl) (r71 h13) (by simp) (by simp) (by (conv => lhs; simp [ga5, gb5, gc5, gq5]) <;> rfl) (by (conv => lhs; simp [ga5, gb5, gc5, gq5]) <;> rfl) ?_
       refine Wo.evk 2 (by conv => lhs; simp [ga5, gb5, gc5, gq5]) ?_
       obtain ⟨w15, h16, h11⟩ := bind_some h11
       refine Wo.mono (Q := fun V => V = [(2, .v (.bool w15))]) ?_ ?_
       ·by_cases knh16 : o12 = true
        ·rw [if_pos knh16] at h16
         refine Wo.gh (vle_co (s := 24) (t1 := .bool true) rfl (by simp) (tle_bool (by simpa using knh16)) (by conv => lhs; simp)) ?_
         refine Wo.evs (by conv => lhs; simp [ga5, gb5, gc5, gq5]) ?_
         obtain ⟨o17, h18, h16⟩ := bind_some h16
         refine Wo.call (by simp [ga5, gb5, gc5, gq5]) rfl (by (conv => lhs; simp [ga5, gb5, gc5, gq5]) <;> rfl) (r71 h18) (by simp) (by simp) (by (conv => lhs; simp [ga5, gb5, gc5, gq5]) <;> rfl) (by (conv => lhs; simp [ga5, gb5, gc5, gq5]) <;> rfl) ?_
         refine Wo.en (by conv => lhs; simp [ga5, gb5, gc5, gq5]) ?_
         cases h16
         first | rfl | simp [ga5, gb5, gc5, gq5]
        ·rw [if_neg knh16] at h16
         refine Wo.gh (vle_co (s := 24) (t1 := .bool false) rfl (by simp) (tle_bool (by simpa using knh16)) (by conv => lhs; simp)) ?_
         refine Wo.en (by conv => lhs; simp [ga5, gb5, gc5, gq5]) ?_
         cases h16
         first | rfl | simp [ga5, gb5, gc5, gq5]
       ·rintro V rfl
        generalize w15 = x_14 at *
        try dsimp only at h11
        cases h11
        first | rfl | simp [ga5, gb5, gc5, gq5]
      ·rw [if_neg knh11] at h11
       refine Wo.gh (vle_co (s := 19) (t1 := .bool false) rfl (by simp) (tle_bool (by simpa using knh11)) (by conv => lhs; simp)) ?_
       refine Wo.en (by conv => lhs; simp [ga5, gb5, gc5, gq5]) ?_
       cases h11
       first | rfl | simp [ga5, gb5, gc5, gq5]
     ·rintro V rfl
      generalize w10 = x_9 at *
      try dsimp only at h8
      cases h8
      first | rfl | simp [ga5, gb5, gc5, gq5]
    ·rw [if_neg knh8] at h8
     refine Wo.gh (vle_co (s := 13) (t1 := .bool false) rfl (by simp) (tle_bool (by simpa using knh8)) (by conv => lhs; simp)) ?_
     refine Wo.en (by conv => lhs; simp [ga5, gb5, gc5, gq5]) ?_
     cases h8
     first | rfl | simp [ga5, gb5, gc5, gq5]
   ·rintro V rfl
    generalize w7 = x_6 at *
    try dsimp only at h3
    cases h3
    first | rfl | simp [ga5, gb5, gc5, gq5]
  ·rw [if_neg knh3] at h3
   refine Wo.gh (vle_co (s := 7) (t1 := .bool false) rfl (by simp) (tle_bool (by simpa using knh3)) (by conv => lhs; simp)) ?_
   refine Wo.en (by conv => lhs; simp) ?_
   cases h3
   first | rfl | simp
 ·rintro V rfl
  generalize w2 = x_1 at *
  try dsimp only at h
  refine Wc.ret (res_of (.inr rfl) ?_)
  cases h
  exact ⟨_, _, _, by conv => lhs; simp, by (conv => lhs; simp) <;> rfl, by first | rfl | simp⟩
theorem r94_0 {l : (List Relation)} : ∀ zs zo, iter (f94_0 l) zs = some zo → Wc cx 37 (.loop L94_0) [(0, .v (ssl eRelation l)), (3, .v (.int .i64 zs))] ((QO (QX 0 (fun (y : Unit) => [(0, .v (ssl eRelation l))])) (QR (fun (y : Bool) => [(2, .v (.bool y))]))) zo) := by
 refine iter_all ?_
 rintro i_1 zo zr h hk hx
 try dsimp only at hk ⊢
 rw [f94_0] at h
 apply Wc.loop
 apply Wc.seq
 refine Wc.se (by conv => lhs; simp) ?_
 by_cases kc2 : i_1 < (l.length : Int)
 ·rw [if_pos kc2] at h
  refine Wc.condT' (by conv => lhs; simp) (by simpa using kc2) ?_
  refine Wc.sk (by conv => lhs; simp) ?_
  apply Wc.skip
  apply Wc.seq
  apply Wc.block
  apply Wc.seq
  obtain ⟨v_3, h4, h⟩ := bind_some h
  obtain ⟨ga4, gb4, gc4⟩ := ix_some h4
  have gn4 := ix_ne h4
  have gd4 := arr_at (E := eRelation) (b := false) gc4
  simp at gd4
  refine Wc.evs (by conv => lhs; simp [ga4, gb4, gn4, gd4]) ?_
  obtain ⟨o5, h6, h⟩ := bind_some h
  refine Wo.cl rfl (by (conv => lhs; simp [ga4, gb4, gn4, gd4]) <;> rfl) (r154 h6) (by simp) (by (conv => lhs; simp [ga4, gb4, gn4, gd4]) <;> rfl) (by (conv => lhs; simp [ga4, gb4, gn4, gd4]) <;> rfl) ?_
  refine Wo.evk 2 (by conv => lhs; simp [ga4, gb4, gn4, gd4]) ?_
  obtain ⟨w8, h9, h⟩ := bind_some h
  refine Wo.mono (Q := fun V => V = [(0, .v (ssl eRelation l)), (3, .v (.int .i64 i_1)), (33, .v (.bool w8))]) ?_ ?_
  ·by_cases knh9 : ¬ (o5 = true)
   ·rw [if_pos knh9] at h9
    refine Wo.gh (vle_co (s := 16) (t1 := .bool true) rfl (by simp) (tle_bool (by simpa using knh9)) (by conv => lhs; simp)) ?_
    refine Wo.en (by conv => lhs; simp [ga4, gb4, gn4, gd4]) ?_
    cases h9
    first | rfl | simp [ga4, gb4, gn4, gd4]
   ·rw [if_neg knh9] at h9
    refine Wo.gh (vle_co (s := 16) (t1 := .bool false) rfl (by simp) (tle_bool (by simpa using knh9)) (by conv => lhs; simp)) ?_
    refine Wo.evk 3 (by conv => lhs; simp [ga4, gb4, gn4, gd4]) ?_
    obtain ⟨w11, h12, h9⟩ := bind_some h9
    refine Wo.mono (Q := fun V => V = [(0, .v (ssl eRelation l)), (3, .v (.int .i64 i_1)), (33, .v (.bool w11))]) ?_ ?_
    ·by_cases knh12 : i_1 > 0
     ·rw [if_pos knh12] at h12
      refine Wo.gh (vle_co (s := 19) (t1 := .bool true) rfl (by simp) (tle_bool (by simpa using knh12)) (by conv => lhs; simp)) ?_
      obtain ⟨v_13, h14, h12⟩ := bind_some h12
      obtain ⟨ga14, gb14, gc14⟩ := ix_some h14
      have gn14 := ix_ne h14
      have gd14 := arr_at (E := eRelation) (b := false) gc14
      simp at gd14
      refine Wo.en (by conv => lhs; simp [ga4, gb4, gn4, gd4, ga14, gb14, gn14, gd14]) ?_
      cases h12
      first | rfl | simp [ga4, gb4, gn4, gd4, ga14, gb14, gn14, gd14]
     ·rw [if_neg knh12] at h12
      refine Wo.gh (vle_co (s := 19) (t1 := .bool false) rfl (by simp) (tle_bool (by simpa using knh12)) (by conv => lhs; simp)) ?_
      refine Wo.en (by conv => lhs; simp [ga4, gb4, gn4, gd4]) ?_
      cases h12
      first | rfl | simp [ga4, gb4, gn4, gd4]
    ·rintro V rfl
     generalize w11 = x_10 at *
     try dsimp only at h9
     cases h9
     first | rfl | simp [ga4, gb4, gn4, gd4]
  ·rintro V rfl
   generalize w8 = x_7 at *
   try dsimp only at h
   by_cases kc15 : x_7 = true
   ·rw [if_pos kc15] at h
    refine Wc.condT' (by conv => lhs; simp) (by simpa using kc15) ?_
    refine Wc.sk (by conv => lhs; simp) ?_
    refine Wc.se (by conv => lhs; simp) ?_
    refine Wc.ret ?_
    have e0 := hx _ (Option.some.inj h).symm
    subst e0
    exact ⟨rfl, by first | rfl | simp⟩
   ·rw [if_neg kc15] at h
    refine Wc.condF' (by conv => lhs; simp) (by simpa using kc15) ?_
    refine Wc.sk (by conv => lhs; simp) ?_
    apply Wc.skip
    refine Wc.en (by conv => lhs; simp) ?_
    refine Wc.start ?_ (hk _ (Option.some.inj h).symm)
    first | rfl | simp
 ·rw [if_neg kc2] at h
  refine Wc.condF' (by conv => lhs; simp) (by simpa using kc2) ?_
  refine Wc.sk (by conv => lhs; simp) ?_
  apply Wc.exit
  have e0 := hx _ (Option.some.inj h).symm
  subst e0
  exact ⟨rfl, by first | rfl | simp⟩
theorem r94 {l : (List Relation)} {r : Bool} (h : f94 l = some r) : VJx cx (.ca 94 [(ssl eRelation l)] (.bool r) []) := by
 unfold f94 at h
 refine ca_of rfl rfl (by decide) rfl ?_
 refine Wc.start (by conv => lhs; simp) ?_
 refine Wc.se (by conv => lhs; simp) ?_
 apply Wc.seq
 refine Wc.se (by conv => lhs; simp) ?_
 apply Wc.block
 obtain ⟨w16, h17, h⟩ := bind_some h
 refine Wc.start (V1 := [(0, .v (ssl eRelation l)), (3, .v (.int .i64 0))]) (by first | rfl | simp) ?_
 refine Wc.mono (r94_0 _ _ h17) ?_
 rcases w16 with ⟨⟩ | x_18
 ·rintro ex V ⟨rfl, rfl⟩
  try dsimp only at h
  refine Wc.se (by conv => lhs; simp) ?_
  refine Wc.ret (res_of (.inr rfl) ?_)
  cases h
  exact ⟨_, _, _, by conv => lhs; simp, by (conv => lhs; simp) <;> rfl, by first | rfl | simp⟩
 ·rintro ex V ⟨rfl, rfl⟩
  try dsimp only at h
  refine res_of (.inr rfl) ?_
  cases h
  exact ⟨_, _, _, by conv => lhs; simp, by (conv => lhs; simp) <;> rfl, by first | rfl | simp⟩
theorem r124_3 {l : (List Relation)} {q : Query} {met_16 : (List Bool)} {i_17 : Int} {v_19 : Atom} : ∀ zs zo, iter (f124_3 q i_17 v_19) zs = some zo → Wc cx 150 (.loop L124_3) [(0, .v (ssl eRelation l)), (3, .v (.ptr true [(.int .i64 q.VariableCount), (ssl eAtom q.Atoms), (ssl eI q.Free)])), (5, .v (osl eB true met_16)), (6, .v (.int .i64 i_17)), (7, .v (.ptr true [(.int .i64 v_19.Relation), (ssl eI v_19.Terms)])), (8, .v (.int .i64 zs))] ((QO (QX 2 (fun (y : Unit) => [(0, .v (ssl eRelation l)), (3, .v (.ptr true [(.int .i64 q.VariableCount), (ssl eAtom q.Atoms), (ssl eI q.Free)])), (5, .v (osl eB true met_16)), (6, .v (.int .i64 i_17)), (7, .v (.ptr true [(.int .i64 v_19.Relation), (ssl eI v_19.Terms)]))])) (QR (fun (y : Bool) => [(4, .v (.bool y))]))) zo) := by
 refine iter_all ?_
 rintro k_29 zo zr h hk hx
 try dsimp only at hk ⊢
 rw [f124_3] at h
 apply Wc.loop
 apply Wc.seq
 refine Wc.se (by conv => lhs; simp) ?_
 by_cases kc30 : k_29 < i_17
 ·rw [if_pos kc30] at h
  refine Wc.condT' (by conv => lhs; simp) (by simpa using kc30) ?_
  refine Wc.sk (by conv => lhs; simp) ?_
  apply Wc.skip
  apply Wc.seq
  apply Wc.block
  apply Wc.seq
  obtain ⟨v_31, h32, h⟩ := bind_some h
  obtain ⟨ga32, gb32, gc32⟩ := ix_some h32
  have gn32 := ix_ne h32
  have gd32 := arr_at (E := eAtom) (b := false) gc32
  simp at gd32
  refine Wc.en (by conv => lhs; simp [ga32, gb32, gn32, gd32]) ?_
  by_cases kc33 : v_31.Relation = v_19.Relation
  ·rw [if_pos kc33] at h
   refine Wc.condT' (by conv => lhs; simp) (by simpa using kc33) ?_
   refine Wc.sk (by conv => lhs; simp) ?_
   refine Wc.se (by conv => lhs; simp) ?_
   refine Wc.ret ?_
   have e0 := hx _ (Option.some.inj h).symm
   subst e0
   exact ⟨rfl, by first | rfl | simp⟩
  ·rw [if_neg kc33] at h
   refine Wc.condF' (by conv => lhs; simp) (by simpa using kc33) ?_
   refine Wc.sk (by conv => lhs; simp) ?_
   apply Wc.skip
   refine Wc.en (by conv => lhs; simp) ?_
   refine Wc.start ?_ (hk _ (Option.some.inj h).symm)
   first | rfl | simp
 ·rw [if_neg kc30] at h
  refine Wc.condF' (by conv => lhs; simp) (by simpa using kc30) ?_
  refine Wc.sk (by conv => lhs; simp) ?_
  apply Wc.exit
  have e0 := hx _ (Option.some.inj h).symm
  subst e0
  exact ⟨rfl, by first | rfl | simp⟩
theorem r124_4 {l : (List Relation)} {q : Query} {i_17 : Int} {v_19 : Atom} : ∀ zs zo, iter (f124_4 q v_19) zs = some zo → Wc cx 150 (.loop L124_4) [(0, .v (ssl eRelation l)), (3, .v (.ptr true [(.int .i64 q.VariableCount), (ssl eAtom q.Atoms), (ssl eI q.Free)])), (5, .v (osl eB true zs.1)), (6, .v (.int .i64 i_17)), (7, .v (.ptr true [(.int .i64 v_19.Relation), (ssl eI v_19.Terms)])), (9, .v (.int .i64 zs.2))] ((QO (QX 4 (fun (y : (List Bool)) => [(0, .v (ssl eRelation l)), (3, .v (.ptr true [(.int .i64 q.VariableCount), (ssl eAtom q.Atoms), (ssl eI q.Free)])), (5, .v (osl eB true y)), (6, .v (.int .i64 i_17))])) (QR (fun (y : Bool) => [(4, .v (.bool y))]))) zo) := by
 refine iter_all ?_
 rintro ⟨met_37, k_38⟩ zo zr h hk hx
 try dsimp only at hk ⊢
 rw [f124_4] at h
 apply Wc.loop
 apply Wc.seq
 refine Wc.se (by conv => lhs; simp) ?_
 by_cases kc39 : k_38 < (v_19.Terms.length : Int)
 ·rw [if_pos kc39] at h
  refine Wc.condT' (by conv => lhs; simp) (by simpa using kc39) ?_
  refine Wc.sk (by conv => lhs; simp) ?_
  apply Wc.skip
  apply Wc.seq
  apply Wc.block
  apply Wc.seq
  apply Wc.seq
  obtain ⟨v_40, h41, h⟩ := bind_some h
  obtain ⟨ga41, gb41, gc41⟩ := ix_some h41
  have gn41 := ix_ne h41
  have gd41 := arr_at (E := eI) (b := false) gc41
  simp at gd41
  refine Wc.evs (by conv => lhs; simp [ga41, gb41, gn41, gd41]) ?_
  obtain ⟨o42, h43, h⟩ := bind_some h
  refine Wo.cl rfl (by (conv => lhs; simp [ga41, gb41, gn41, gd41]) <;> rfl) (r71 h43) (by simp) (by (conv => lhs; simp [ga41, gb41, gn41, gd41]) <;> rfl) (by (conv => lhs; simp [ga41, gb41, gn41, gd41]) <;> rfl) ?_
  refine Wo.en (by conv => lhs; simp [ga41, gb41, gn41, gd41]) ?_
  by_cases kc44 : ¬ (o42 = true)
  ·rw [if_pos kc44] at h
   refine Wc.condT' (by conv => lhs; simp) (by simpa using kc44) ?_
   refine Wc.sk (by conv => lhs; simp) ?_
   refine Wc.se (by conv => lhs; simp) ?_
   refine Wc.ret ?_
   have e0 := hx _ (Option.some.inj h).symm
   subst e0
   exact ⟨rfl, by first | rfl | simp⟩
  ·rw [if_neg kc44] at h
   refine Wc.condF' (by conv => lhs; simp) (by simpa using kc44) ?_
   refine Wc.sk (by conv => lhs; simp) ?_
   apply Wc.skip
   refine Wc.se (by conv => lhs; simp [ga41, gb41, gn41, gd41]) ?_
   obtain ⟨w45, h46, h⟩ := bind_some h
   refine Wc.mono (Q := (QN (fun (y : (List Bool)) => [(0, .v (ssl eRelation l)), (3, .v (.ptr true [(.int .i64 q.VariableCount), (ssl eAtom q.Atoms), (ssl eI q.Free)])), (5, .v (osl eB true y)), (6, .v (.int .i64 i_17)), (7, .v (.ptr true [(.int .i64 v_19.Relation), (ssl eI v_19.Terms)])), (9, .v (.int .i64 k_38))])) w45) ?_ ?_
   ·skip
    by_cases kc47 : v_40 ≥ 0
    ·rw [if_pos kc47] at h46
     refine Wc.condT' (by conv => lhs; simp) (by simpa using kc47) ?_
     refine Wc.sk (by conv => lhs; simp) ?_
     obtain ⟨v_48, h49, h46⟩ := bind_some h46
     obtain ⟨ga49, gb49, gc49⟩ := ix_some h49
     have gn49 := ix_ne h49
     have gf49 := arr_fit (E := eB) (b := true) (i := v_40.toNat) (l := met_37) (by omega)
     have gg49_0 := arr_get (E := eB) (b := true) (o := 0) gc49 (by decide)
     simp at gf49 gg49_0
     have gl49 : v_40.toNat < met_37.length := by omega
     have gy50 := lay_set (E := eB) (b := true) (i := v_40.toNat) (l := met_37) true (by omega)
     simp at gy50
     refine Wc.en (by conv => lhs; simp [ga41, gb41, gn41, gd41, -getElem?_pos, List.getElem?_cons_zero, List.getElem?_cons_succ, ga49, gb49, gn49, gf49, gg49_0, gl49, gy50]) ?_
     cases h46
     exact ⟨rfl, by first | rfl | simp [ga41, gb41, gn41, gd41, -getElem?_pos, List.getElem?_cons_zero, List.getElem?_cons_succ, ga49, gb49, gn49, gf49, gg49_0, gl49, gy50]⟩
    ·rw [if_neg kc47] at h46
     refine Wc.condF' (by conv => lhs; simp) (by simpa using kc47) ?_
     refine Wc.sk (by conv => lhs; simp) ?_
     apply Wc.skip
     cases h46
     exact ⟨rfl, by first | rfl | simp [ga41, gb41, gn41, gd41]⟩
   ·skip
    generalize w45 = met_51 at *
    rintro ex V ⟨rfl, rfl⟩
    try dsimp only at h
    refine Wc.en (by conv => lhs; simp) ?_
    refine Wc.start ?_ (hk _ (Option.some.inj h).symm)
    first | rfl | simp
 ·rw [if_neg kc39] at h
  refine Wc.condF' (by conv => lhs; simp) (by simpa using kc39) ?_
  refine Wc.sk (by conv => lhs; simp) ?_
  apply Wc.exit
  have e0 := hx _ (Option.some.inj h).symm
  subst e0
  exact ⟨rfl, by first | rfl | simp⟩
theorem r124_0 {l : (List Relation)} {q : Query} : ∀ zs zo, iter (f124_0 l q) zs = some zo → Wc cx 150 (.loop L124_0) [(0, .v (ssl eRelation l)), (3, .v (.ptr true [(.int .i64 q.VariableCount), (ssl eAtom q.Atoms), (ssl eI q.Free)])), (5, .v (osl eB true zs.1)), (6, .v (.int .i64 zs.2))] ((QO (QX 0 (fun (y : (List Bool)) => [(3, .v (.ptr true [(.int .i64 q.VariableCount), (ssl eAtom q.Atoms), (ssl eI q.Free)])), (5, .v (osl eB true y))])) (QR (fun (y : Bool) => [(4, .v (.bool y))]))) zo) := by
 refine iter_all ?_
 rintro ⟨met_16, i_17⟩ zo zr h hk hx
 try dsimp only at hk ⊢
 rw [f124_0] at h
 apply Wc.loop
 apply Wc.seq
 refine Wc.se (by conv => lhs; simp) ?_
 by_cases kc18 : i_17 < (q.Atoms.length : Int)
 ·rw [if_pos kc18] at h
  refine Wc.condT' (by conv => lhs; simp) (by simpa using kc18) ?_
  refine Wc.sk (by conv => lhs; simp) ?_
  apply Wc.skip
  apply Wc.seq
  apply Wc.block
  apply Wc.seq
  obtain ⟨v_19, h20, h⟩ := bind_some h
  obtain ⟨ga20, gb20, gc20⟩ := ix_some h20
  have gn20 := ix_ne h20
  have gd20 := arr_at (E := eAtom) (b := false) gc20
  simp at gd20
  refine Wc.en (by conv => lhs; simp [ga20, gb20, gn20, gd20]) ?_
  apply Wc.seq
  apply Wc.seq
  refine Wc.evs (by conv => lhs; simp) ?_
  obtain ⟨o21, h22, h⟩ := bind_some h
  refine Wo.cl rfl (by (conv => lhs; simp) <;> rfl) (r71 h22) (by simp) (by (conv => lhs; simp) <;> rfl) (by (conv => lhs; simp) <;> rfl) ?_
  refine Wo.evk 2 (by conv => lhs; simp) ?_
  obtain ⟨w24, h25, h⟩ := bind_some h
  refine Wo.mono (Q := fun V => V = [(0, .v (ssl eRelation l)), (3, .v (.ptr true [(.int .i64 q.VariableCount), (ssl eAtom q.Atoms), (ssl eI q.Free)])), (5, .v (osl eB true met_16)), (6, .v (.int .i64 i_17)), (7, .v (.ptr true [(.int .i64 v_19.Relation), (ssl eI v_19.Terms)])), (59, .v (.bool w24))]) ?_ ?_
  ·by_cases knh25 : ¬ (o21 = true)
   ·rw [if_pos knh25] at h25
    refine Wo.gh (vle_co (s := 48) (t1 := .bool true) rfl (by simp) (tle_bool (by simpa using knh25)) (by conv => lhs; simp)) ?_
    refine Wo.en (by conv => lhs; simp) ?_
    cases h25
    first | rfl | simp
   ·rw [if_neg knh25] at h25
    refine Wo.gh (vle_co (s := 48) (t1 := .bool false) rfl (by simp) (tle_bool (by simpa using knh25)) (by conv => lhs; simp)) ?_
    obtain ⟨v_26, h27, h25⟩ := bind_some h25
    obtain ⟨ga27, gb27, gc27⟩ := ix_some h27
    have gn27 := ix_ne h27
    have gd27 := arr_at (E := eRelation) (b := false) gc27
    simp at gd27
    refine Wo.en (by conv => lhs; simp [ga27, gb27, gn27, gd27]) ?_
    cases h25
    first | rfl | simp [ga27, gb27, gn27, gd27]
  ·rintro V rfl
   generalize w24 = x_23 at *
   try dsimp only at h
   by_cases kc28 : x_23 = true
   ·rw [if_pos kc28] at h
    refine Wc.condT' (by conv => lhs; simp) (by simpa using kc28) ?_
    refine Wc.sk (by conv => lhs; simp) ?_
    refine Wc.se (by conv => lhs; simp) ?_
    refine Wc.ret ?_
    have e0 := hx _ (Option.some.inj h).symm
    subst e0
    exact ⟨rfl, by first | rfl | simp⟩
   ·rw [if_neg kc28] at h
    refine Wc.condF' (by conv => lhs; simp) (by simpa using kc28) ?_
    refine Wc.sk (by conv => lhs; simp) ?_
    apply Wc.skip
    apply Wc.seq
    refine Wc.se (by conv => lhs; simp) ?_
    apply Wc.block
    obtain ⟨w34, h35, h⟩ := bind_some h
    refine Wc.start (V1 := [(0, .v (ssl eRelation l)), (3, .v (.ptr true [(.int .i64 q.VariableCount), (ssl eAtom q.Atoms), (ssl eI q.Free)])), (5, .v (osl eB true met_16)), (6, .v (.int .i64 i_17)), (7, .v (.ptr true [(.int .i64 v_19.Relation), (ssl eI v_19.Terms)])), (8, .v (.int .i64 0))]) (by first | rfl | simp) ?_
    refine Wc.mono (r124_3 _ _ h35) ?_
    rcases w34 with ⟨⟩ | x_36
    ·rintro ex V ⟨rfl, rfl⟩
     try dsimp only at h
     refine Wc.se (by conv => lhs; simp) ?_
     apply Wc.block
     obtain ⟨w52, h53, h⟩ := bind_some h
     refine Wc.start (V1 := [(0, .v (ssl eRelation l)), (3, .v (.ptr true [(.int .i64 q.VariableCount), (ssl eAtom q.Atoms), (ssl eI q.Free)])), (5, .v (osl eB true met_16)), (6, .v (.int .i64 i_17)), (7, .v (.ptr true [(.int .i64 v_19.Relation), (ssl eI v_19.Terms)])), (9, .v (.int .i64 0))]) (by first | rfl | simp) ?_
     refine Wc.mono (r124_4 _ _ h53) ?_
     rcases w52 with met_54 | x_55
     ·rintro ex V ⟨rfl, rfl⟩
      try dsimp only at h
      refine Wc.en (by conv => lhs; simp) ?_
      refine Wc.start ?_ (hk _ (Option.some.inj h).symm)
      first | rfl | simp
     ·rintro ex V ⟨rfl, rfl⟩
      try dsimp only at h
      have e0 := hx _ (Option.some.inj h).symm
      subst e0
      exact ⟨rfl, by first | rfl | simp⟩
    ·rintro ex V ⟨rfl, rfl⟩
     try dsimp only at h
     have e0 := hx _ (Option.some.inj h).symm
     subst e0
     exact ⟨rfl, by first | rfl | simp⟩
 ·rw [if_neg kc18] at h
  refine Wc.condF' (by conv => lhs; simp) (by simpa using kc18) ?_
  refine Wc.sk (by conv => lhs; simp) ?_
  apply Wc.exit
  have e0 := hx _ (Option.some.inj h).symm
  subst e0
  exact ⟨rfl, by first | rfl | simp⟩
theorem r124_1 {q : Query} {met_58 : (List Bool)} : ∀ zs zo, iter (f124_1 q met_58) zs = some zo → Wc cx 150 (.loop L124_1) [(3, .v (.ptr true [(.int .i64 q.VariableCount), (ssl eAtom q.Atoms), (ssl eI q.Free)])), (5, .v (osl eB true met_58)), (10, .v (.int .i64 zs))] ((QO (QX 6 (fun (y : Unit) => [(3, .v (.ptr true [(.int .i64 q.VariableCount), (ssl eAtom q.Atoms), (ssl eI q.Free)]))])) (QR (fun (y : Bool) => [(4, .v (.bool y))]))) zo) := by
 refine iter_all ?_
 rintro v_60 zo zr h hk hx
 try dsimp only at hk ⊢
 rw [f124_1] at h
 apply Wc.loop
 apply Wc.seq
 refine Wc.se (by conv => lhs; simp) ?_
 by_cases kc61 : v_60 < q.VariableCount
 ·rw [if_pos kc61] at h
  refine Wc.condT' (by conv => lhs; simp) (by simpa using kc61) ?_
  refine Wc.sk (by conv => lhs; simp) ?_
  apply Wc.skip
  apply Wc.seq
  apply Wc.block
  apply Wc.seq
  obtain ⟨v_62, h63, h⟩ := bind_some h
  obtain ⟨ga63, gb63, gc63⟩ := ix_some h63
  have gn63 := ix_ne h63
  have gf63 := arr_fit (E := eB) (b := true) (i := v_60.toNat) (l := met_58) (by omega)
  have gg63_0 := arr_get (E := eB) (b := true) (o := 0) gc63 (by decide)
  simp at gf63 gg63_0
  have gl63 : v_60.toNat < met_58.length := by omega
  refine Wc.en (by conv => lhs; simp [-getElem?_pos, List.getElem?_cons_zero, List.getElem?_cons_succ, ga63, gb63, gn63, gf63, gg63_0, gl63]) ?_
  by_cases kc64 : ¬ (v_62 = true)
  ·rw [if_pos kc64] at h
   refine Wc.condT' (by conv => lhs; simp) (by simpa using kc64) ?_
   refine Wc.sk (by conv => lhs; simp) ?_
   refine Wc.se (by conv => lhs; simp) ?_
   refine Wc.ret ?_
   have e0 := hx _ (Option.some.inj h).symm
   subst e0
   exact ⟨rfl, by first | rfl | simp⟩
  ·rw [if_neg kc64] at h
   refine Wc.condF' (by conv => lhs; simp) (by simpa using kc64) ?_
   refine Wc.sk (by conv => lhs; simp) ?_
   apply Wc.skip
   refine Wc.en (by conv => lhs; simp) ?_
   refine Wc.start ?_ (hk _ (Option.some.inj h).symm)
   first | rfl | simp
 ·rw [if_neg kc61] at h
  refine Wc.condF' (by conv => lhs; simp) (by simpa using kc61) ?_
  refine Wc.sk (by conv => lhs; simp) ?_
  apply Wc.exit
  have e0 := hx _ (Option.some.inj h).symm
  subst e0
  exact ⟨rfl, by first | rfl | simp⟩
theorem r124_2 {q : Query} : ∀ zs zo, iter (f124_2 q) zs = some zo → Wc cx 150 (.loop L124_2) [(3, .v (.ptr true [(.int .i64 q.VariableCount), (ssl eAtom q.Atoms), (ssl eI q.Free)])), (11, .v (.int .i64 zs))] ((QO (QX 8 (fun (y : Unit) => [])) (QR (fun (y : Bool) => [(4, .v (.bool y))]))) zo) := by
 refine iter_all ?_
 rintro i_68 zo zr h hk hx
 try dsimp only at hk ⊢
 rw [f124_2] at h
 apply Wc.loop
 apply Wc.seq
 refine Wc.se (by conv => lhs; simp) ?_
 by_cases kc69 : i_68 < (q.Free.length : Int)
 ·rw [if_pos kc69] at h
  refine Wc.condT' (by conv => lhs; simp) (by simpa using kc69) ?_
  refine Wc.sk (by conv => lhs; simp) ?_
  apply Wc.skip
  apply Wc.seq
  apply Wc.block
  apply Wc.seq
  obtain ⟨v_70, h71, h⟩ := bind_some h
  obtain ⟨ga71, gb71, gc71⟩ := ix_some h71
  have gn71 := ix_ne h71
  have gd71 := arr_at (E := eI) (b := false) gc71
  simp at gd71
  refine Wc.evs (by conv => lhs; simp [ga71, gb71, gn71, gd71]) ?_
  obtain ⟨o72, h73, h⟩ := bind_some h
  refine Wo.cl rfl (by (conv => lhs; simp [ga71, gb71, gn71, gd71]) <;> rfl) (r71 h73) (by simp) (by (conv => lhs; simp [ga71, gb71, gn71, gd71]) <;> rfl) (by (conv => lhs; simp [ga71, gb71, gn71, gd71]) <;> rfl) ?_
  refine Wo.evk 2 (by conv => lhs; simp [ga71, gb71, gn71, gd71]) ?_
  obtain ⟨w75, h76, h⟩ := bind_some h
  refine Wo.mono (Q := fun V => V = [(3, .v (.ptr true [(.int .i64 q.VariableCount), (ssl eAtom q.Atoms), (ssl eI q.Free)])), (11, .v (.int .i64 i_68)), (149, .v (.bool w75))]) ?_ ?_
  ·by_cases knh76 : ¬ (o72 = true)
   ·rw [if_pos knh76] at h76
    refine Wo.gh (vle_co (s := 132) (t1 := .bool true) rfl (by simp) (tle_bool (by simpa using knh76)) (by conv => lhs; simp)) ?_
    refine Wo.en (by conv => lhs; simp [ga71, gb71, gn71, gd71]) ?_
    cases h76
    first | rfl | simp [ga71, gb71, gn71, gd71]
   ·rw [if_neg knh76] at h76
    refine Wo.gh (vle_co (s := 132) (t1 := .bool false) rfl (by simp) (tle_bool (by simpa using knh76)) (by conv => lhs; simp)) ?_
    refine Wo.evk 3 (by conv => lhs; simp [ga71, gb71, gn71, gd71]) ?_
    obtain ⟨w78, h79, h76⟩ := bind_some h76
    refine Wo.mono (Q := fun V => V = [(3, .v (.ptr true [(.int .i64 q.VariableCount), (ssl eAtom q.Atoms), (ssl eI q.Free)])), (11, .v (.int .i64 i_68)), (149, .v (.bool w78))]) ?_ ?_
    ·by_cases knh79 : i_68 > 0
     ·rw [if_pos knh79] at h79
      refine Wo.gh (vle_co (s := 135) (t1 := .bool true) rfl (by simp) (tle_bool (by simpa using knh79)) (by conv => lhs; simp)) ?_
      obtain ⟨v_80, h81, h79⟩ := bind_some h79
      obtain ⟨ga81, gb81, gc81⟩ := ix_some h81
      have gn81 := ix_ne h81
      have gd81 := arr_at (E := eI) (b := false) gc81
      simp at gd81
      refine Wo.en (by conv => lhs; simp [ga71, gb71, gn71, gd71, ga81, gb81, gn81, gd81]) ?_
      cases h79
      first | rfl | simp [ga71, gb71, gn71, gd71, ga81, gb81, gn81, gd81]
     ·rw [if_neg knh79] at h79
      refine Wo.gh (vle_co (s := 135) (t1 := .bool false) rfl (by simp) (tle_bool (by simpa using knh79)) (by conv => lhs; simp)) ?_
      refine Wo.en (by conv => lhs; simp [ga71, gb71, gn71, gd71]) ?_
      cases h79
      first | rfl | simp [ga71, gb71, gn71, gd71]
    ·rintro V rfl
     generalize w78 = x_77 at *
     try dsimp only at h76
     cases h76
     first | rfl | simp [ga71, gb71, gn71, gd71]
  ·rintro V rfl
   generalize w75 = x_74 at *
   try dsimp only at h
   by_cases kc82 : x_74 = true
   ·rw [if_pos kc82] at h
    refine Wc.condT' (by conv => lhs; simp) (by simpa using kc82) ?_
    refine Wc.sk (by conv => lhs; simp) ?_
    refine Wc.se (by conv => lhs; simp) ?_
    refine Wc.ret ?_
    have e0 := hx _ (Option.some.inj h).symm
    subst e0
    exact ⟨rfl, by first | rfl | simp⟩
   ·rw [if_neg kc82] at h
    refine Wc.condF' (by conv => lhs; simp) (by simpa using kc82) ?_
    refine Wc.sk (by conv => lhs; simp) ?_
    apply Wc.skip
    refine Wc.en (by conv => lhs; simp) ?_
    refine Wc.start ?_ (hk _ (Option.some.inj h).symm)
    first | rfl | simp
 ·rw [if_neg kc69] at h
  refine Wc.condF' (by conv => lhs; simp) (by simpa using kc69) ?_
  refine Wc.sk (by conv => lhs; simp) ?_
  apply Wc.exit
  have e0 := hx _ (Option.some.inj h).symm
  subst e0
  exact ⟨rfl, by first | rfl | simp⟩
theorem r124 {l : (List Relation)} {q : Query} {r : Bool} (h : f124 l q = some r) : VJx cx (.ca 124 [(ssl eRelation l), (.agg [(.int .i64 q.VariableCount), (ssl eAtom q.Atoms), (ssl eI q.Free)])] (.bool r) []) := by
 unfold f124 at h
 refine ca_of rfl rfl (by decide) rfl ?_
 refine Wc.start (by conv => lhs; simp) ?_
 refine Wc.se (by conv => lhs; simp) ?_
 apply Wc.seq
 apply Wc.seq
 refine Wc.evs (by conv => lhs; simp) ?_
 obtain ⟨o1, h2, h⟩ := bind_some h
 refine Wo.cl rfl (by (conv => lhs; simp) <;> rfl) (r94 h2) (by simp) (by (conv => lhs; simp) <;> rfl) (by (conv => lhs; simp) <;> rfl) ?_
 refine Wo.evk 2 (by conv => lhs; simp) ?_
 obtain ⟨w4, h5, h⟩ := bind_some h
 refine Wo.mono (Q := fun V => V = [(0, .v (ssl eRelation l)), (3, .v (.ptr true [(.int .i64 q.VariableCount), (ssl eAtom q.Atoms), (ssl eI q.Free)])), (27, .v (.bool w4))]) ?_ ?_
 ·by_cases knh5 : ¬ (o1 = true)
  ·rw [if_pos knh5] at h5
   refine Wo.gh (vle_co (s := 15) (t1 := .bool true) rfl (by simp) (tle_bool (by simpa using knh5)) (by conv => lhs; simp)) ?_
   refine Wo.en (by conv => lhs; simp) ?_
   cases h5
   first | rfl | simp
  ·rw [if_neg knh5] at h5
   refine Wo.gh (vle_co (s := 15) (t1 := .bool false) rfl (by simp) (tle_bool (by simpa using knh5)) (by conv => lhs; simp)) ?_
   refine Wo.evs (by conv => lhs; simp) ?_
   obtain ⟨o6, h7, h5⟩ := bind_some h5
   refine Wo.call (by simp) rfl (by (conv => lhs; simp) <;> rfl) (r71 h7) (by simp) (by simp) (by (conv => lhs; simp) <;> rfl) (by (conv => lhs; simp) <;> rfl) ?_
   refine Wo.evk 3 (by conv => lhs; simp) ?_
   obtain ⟨w9, h10, h5⟩ := bind_some h5
   refine Wo.mono (Q := fun V => V = [(0, .v (ssl eRelation l)), (3, .v (.ptr true [(.int .i64 q.VariableCount), (ssl eAtom q.Atoms), (ssl eI q.Free)])), (27, .v (.bool w9))]) ?_ ?_
   ·by_cases knh10 : ¬ (o6 = true)
    ·rw [if_pos knh10] at h10
     refine Wo.gh (vle_co (s := 21) (t1 := .bool true) rfl (by simp) (tle_bool (by simpa using knh10)) (by conv => lhs; simp)) ?_
     refine Wo.en (by conv => lhs; simp) ?_
     cases h10
     first | rfl | simp
    ·rw [if_neg knh10] at h10
     refine Wo.gh (vle_co (s := 21) (t1 := .bool false) rfl (by simp) (tle_bool (by simpa using knh10)) (by conv => lhs; simp)) ?_
     refine Wo.evs (by conv => lhs; simp) ?_
     obtain ⟨o11, h12, h10⟩ := bind_some h10
     refine Wo.call (by simp) rfl (by (conv => lhs; simp) <;> rfl) (r71 h12) (by simp) (by simp) (by (conv => lhs; simp) <;> rfl) (by (conv => lhs; simp) <;> rfl) ?_
     refine Wo.en (by conv => lhs; simp) ?_
     cases h10
     first | rfl | simp
   ·rintro V rfl
    generalize w9 = x_8 at *
    try dsimp only at h5
    cases h5
    first | rfl | simp
 ·rintro V rfl
  generalize w4 = x_3 at *
  try dsimp only at h
  by_cases kc13 : x_3 = true
  ·rw [if_pos kc13] at h
   refine Wc.condT' (by conv => lhs; simp) (by simpa using kc13) ?_
   refine Wc.sk (by conv => lhs; simp) ?_
   refine Wc.se (by conv => lhs; simp) ?_
   refine Wc.ret (res_of (.inr rfl) ?_)
   cases h
   exact ⟨_, _, _, by conv => lhs; simp, by (conv => lhs; simp) <;> rfl, by first | rfl | simp⟩
  ·rw [if_neg kc13] at h
   refine Wc.condF' (by conv => lhs; simp) (by simpa using kc13) ?_
   refine Wc.sk (by conv => lhs; simp) ?_
   apply Wc.skip
   apply Wc.seq
   obtain ⟨l_14, h15, h⟩ := bind_some h
   obtain ⟨gm15, gp15, gq15, gr15⟩ := mkl_some h15
   have gx15 := rep_arr (E := eB) (b := true) gr15
   simp at gx15
   rw [Int.one_mul] at gp15
   refine Wc.evs (by conv => lhs; simp [gm15, gp15, gq15, gx15]) ?_
   refine Wo.gh (vle_co (s := 5) (t1 := (osl eB true l_14)) rfl (by simp) (tle_own rfl) (by conv => lhs; simp)) ?_
   apply Wo.nil
   apply Wc.seq
   refine Wc.se (by conv => lhs; simp) ?_
   apply Wc.block
   obtain ⟨w56, h57, h⟩ := bind_some h
   refine Wc.start (V1 := [(0, .v (ssl eRelation l)), (3, .v (.ptr true [(.int .i64 q.VariableCount), (ssl eAtom q.Atoms), (ssl eI q.Free)])), (5, .v (osl eB true l_14)), (6, .v (.int .i64 0))]) (by first | rfl | simp) ?_
   refine Wc.mono (r124_0 _ _ h57) ?_
   rcases w56 with met_58 | x_59
   ·rintro ex V ⟨rfl, rfl⟩
    try dsimp only at h
    apply Wc.seq
    refine Wc.se (by conv => lhs; simp) ?_
    apply Wc.block
    obtain ⟨w65, h66, h⟩ := bind_some h
    refine Wc.start (V1 := [(3, .v (.ptr true [(.int .i64 q.VariableCount), (ssl eAtom q.Atoms), (ssl eI q.Free)])), (5, .v (osl eB true met_58)), (10, .v (.int .i64 0))]) (by first | rfl | simp) ?_
    refine Wc.mono (r124_1 _ _ h66) ?_
    rcases w65 with ⟨⟩ | x_67
    ·rintro ex V ⟨rfl, rfl⟩
     try dsimp only at h
     apply Wc.seq
     refine Wc.se (by conv => lhs; simp) ?_
     apply Wc.block
     obtain ⟨w83, h84, h⟩ := bind_some h
     refine Wc.start (V1 := [(3, .v (.ptr true [(.int .i64 q.VariableCount), (ssl eAtom q.Atoms), (ssl eI q.Free)])), (11, .v (.int .i64 0))]) (by first | rfl | simp) ?_
     refine Wc.mono (r124_2 _ _ h84) ?_
     rcases w83 with ⟨⟩ | x_85
     ·rintro ex V ⟨rfl, rfl⟩
      try dsimp only at h
      refine Wc.se (by conv => lhs; simp) ?_
      refine Wc.ret (res_of (.inr rfl) ?_)
      cases h
      exact ⟨_, _, _, by conv => lhs; simp, by (conv => lhs; simp) <;> rfl, by first | rfl | simp⟩
     ·rintro ex V ⟨rfl, rfl⟩
      try dsimp only at h
      refine res_of (.inr rfl) ?_
      cases h
      exact ⟨_, _, _, by conv => lhs; simp, by (conv => lhs; simp) <;> rfl, by first | rfl | simp⟩
    ·rintro ex V ⟨rfl, rfl⟩
     try dsimp only at h
     refine res_of (.inr rfl) ?_
     cases h
     exact ⟨_, _, _, by conv => lhs; simp, by (conv => lhs; simp) <;> rfl, by first | rfl | simp⟩
   ·rintro ex V ⟨rfl, rfl⟩
    try dsimp only at h
    refine res_of (.inr rfl) ?_
    cases h
    exact ⟨_, _, _, by conv => lhs; simp, by (conv => lhs; simp) <;> rfl, by first | rfl | simp⟩
theorem r98_0 {l : (List Int)} {x : Int} : ∀ zs zo, iter (f98_0 l x) zs = some zo → Wc cx 18 (.loop L98_0) [(0, .v (ssl eI l)), (1, .v (.int .i64 x)), (5, .v (.int .i64 zs))] ((QO (QX 0 (fun (y : Unit) => [])) (QR (fun (y : Bool) => [(4, .v (.bool y))]))) zo) := by
 refine iter_all ?_
 rintro i_1 zo zr h hk hx
 try dsimp only at hk ⊢
 rw [f98_0] at h
 apply Wc.loop
 apply Wc.seq
 refine Wc.se (by conv => lhs; simp) ?_
 by_cases kc2 : i_1 < (l.length : Int)
 ·rw [if_pos kc2] at h
  refine Wc.condT' (by conv => lhs; simp) (by simpa using kc2) ?_
  refine Wc.sk (by conv => lhs; simp) ?_
  apply Wc.skip
  apply Wc.seq
  apply Wc.block
  apply Wc.seq
  obtain ⟨v_3, h4, h⟩ := bind_some h
  obtain ⟨ga4, gb4, gc4⟩ := ix_some h4
  have gn4 := ix_ne h4
  have gd4 := arr_at (E := eI) (b := false) gc4
  simp at gd4
  refine Wc.en (by conv => lhs; simp [ga4, gb4, gn4, gd4]) ?_
  by_cases kc5 : v_3 = x
  ·rw [if_pos kc5] at h
   refine Wc.condT' (by conv => lhs; simp) (by simpa using kc5) ?_
   refine Wc.sk (by conv => lhs; simp) ?_
   refine Wc.se (by conv => lhs; simp) ?_
   refine Wc.ret ?_
   have e0 := hx _ (Option.some.inj h).symm
   subst e0
   exact ⟨rfl, by first | rfl | simp⟩
  ·rw [if_neg kc5] at h
   refine Wc.condF' (by conv => lhs; simp) (by simpa using kc5) ?_
   refine Wc.sk (by conv => lhs; simp) ?_
   apply Wc.skip
   refine Wc.en (by conv => lhs; simp) ?_
   refine Wc.start ?_ (hk _ (Option.some.inj h).symm)
   first | rfl | simp
 ·rw [if_neg kc2] at h
  refine Wc.condF' (by conv => lhs; simp) (by simpa using kc2) ?_
  refine Wc.sk (by conv => lhs; simp) ?_
  apply Wc.exit
  have e0 := hx _ (Option.some.inj h).symm
  subst e0
  exact ⟨rfl, by first | rfl | simp⟩
theorem r98 {l : (List Int)} {x : Int} {r : Bool} (h : f98 l x = some r) : VJx cx (.ca 98 [(ssl eI l), (.int .i64 x)] (.bool r) []) := by
 unfold f98 at h
 refine ca_of rfl rfl (by decide) rfl ?_
 refine Wc.start (by conv => lhs; simp) ?_
 refine Wc.se (by conv => lhs; simp) ?_
 apply Wc.seq
 refine Wc.se (by conv => lhs; simp) ?_
 apply Wc.block
 obtain ⟨w6, h7, h⟩ := bind_some h
 refine Wc.start (V1 := [(0, .v (ssl eI l)), (1, .v (.int .i64 x)), (5, .v (.int .i64 0))]) (by first | rfl | simp) ?_
 refine Wc.mono (r98_0 _ _ h7) ?_
 rcases w6 with ⟨⟩ | x_8
 ·rintro ex V ⟨rfl, rfl⟩
  try dsimp only at h
  refine Wc.se (by conv => lhs; simp) ?_
  refine Wc.ret (res_of (.inr rfl) ?_)
  cases h
  exact ⟨_, _, _, by conv => lhs; simp, by (conv => lhs; simp) <;> rfl, by first | rfl | simp⟩
 ·rintro ex V ⟨rfl, rfl⟩
  try dsimp only at h
  refine res_of (.inr rfl) ?_
  cases h
  exact ⟨_, _, _, by conv => lhs; simp, by (conv => lhs; simp) <;> rfl, by first | rfl | simp⟩
theorem r113_0 {a : Atom} : ∀ zs zo, iter (f113_0 a) zs = some zo → Wc cx 19 (.loop L113_0) [(1, .v (.ptr true [(.int .i64 a.Relation), (ssl eI a.Terms)])), (3, .v (osl eI true zs.1)), (4, .v (.int .i64 zs.2))] ((QX 0 (fun (y : (List Int)) => [(3, .v (osl eI true y))])) zo) := by
 refine iter_all ?_
 rintro ⟨out_1, v_2⟩ zo zr h hk hx
 try dsimp only at hk ⊢
 rw [f113_0] at h
 apply Wc.loop
 apply Wc.seq
 refine Wc.se (by conv => lhs; simp) ?_
 by_cases kc3 : v_2 < 4
 ·rw [if_pos kc3] at h
  refine Wc.condT' (by conv => lhs; simp) (by simpa using kc3) ?_
  refine Wc.sk (by conv => lhs; simp) ?_
  apply Wc.skip
  apply Wc.seq
  apply Wc.block
  apply Wc.seq
  refine Wc.evs (by conv => lhs; simp) ?_
  obtain ⟨o4, h5, h⟩ := bind_some h
  refine Wo.cl rfl (by (conv => lhs; simp) <;> rfl) (r98 h5) (by simp) (by (conv => lhs; simp) <;> rfl) (by (conv => lhs; simp) <;> rfl) ?_
  apply Wo.nil
  obtain ⟨w6, h7, h⟩ := bind_some h
  refine Wc.mono (Q := (QN (fun (y : (List Int)) => [(1, .v (.ptr true [(.int .i64 a.Relation), (ssl eI a.Terms)])), (3, .v (osl eI true y)), (4, .v (.int .i64 v_2))])) w6) ?_ ?_
  ·skip
   by_cases kc8 : o4 = true
   ·rw [if_pos kc8] at h7
    refine Wc.condT' (by conv => lhs; simp) (by simpa using kc8) ?_
    refine Wc.sk (by conv => lhs; simp) ?_
    obtain ⟨l_9, h10, h7⟩ := bind_some h7
    have gx10 := appT_arr (E := eI) (b := true) (y := true) h10 (by decide)
    simp at gx10
    refine Wc.en (by conv => lhs; simp [gx10]) ?_
    cases h7
    exact ⟨rfl, by first | rfl | simp [gx10]⟩
   ·rw [if_neg kc8] at h7
    refine Wc.condF' (by conv => lhs; simp) (by simpa using kc8) ?_
    refine Wc.sk (by conv => lhs; simp) ?_
    apply Wc.skip
    cases h7
    exact ⟨rfl, by first | rfl | simp⟩
  ·skip
   generalize w6 = out_11 at *
   rintro ex V ⟨rfl, rfl⟩
   try dsimp only at h
   refine Wc.en (by conv => lhs; simp) ?_
   refine Wc.start ?_ (hk _ (Option.some.inj h).symm)
   first | rfl | simp
 ·rw [if_neg kc3] at h
  refine Wc.condF' (by conv => lhs; simp) (by simpa using kc3) ?_
  refine Wc.sk (by conv => lhs; simp) ?_
  apply Wc.exit
  have e0 := hx _ (Option.some.inj h).symm
  subst e0
  exact ⟨rfl, by first | rfl | simp⟩
theorem r113 {a : Atom} {r : (List Int)} (h : f113 a = some r) : VJx cx (.ca 113 [(.agg [(.int .i64 a.Relation), (ssl eI a.Terms)])] (osl eI true r) []) := by
 unfold f113 at h
 refine ca_of rfl rfl (by decide) rfl ?_
 refine Wc.start (by conv => lhs; simp) ?_
 refine Wc.se (by conv => lhs; simp) ?_
 apply Wc.seq
 refine Wc.evs (by conv => lhs; simp) ?_
 refine Wo.gh (vle_co (s := 3) (t1 := (osl eI true ([]))) rfl (by simp) (TLe.own (show TLes _ [] from (TLes.refl _)) rfl) (by conv => lhs; simp)) ?_
 apply Wo.nil
 apply Wc.seq
 refine Wc.se (by conv => lhs; simp) ?_
 apply Wc.block
 obtain ⟨w12, h13, h⟩ := bind_some h
 refine Wc.start (V1 := [(1, .v (.ptr true [(.int .i64 a.Relation), (ssl eI a.Terms)])), (3, .v (osl eI true ([]))), (4, .v (.int .i64 0))]) (by first | rfl | simp) ?_
 refine Wc.mono (r113_0 _ _ h13) ?_
 generalize w12 = out_14 at *
 rintro ex V ⟨rfl, rfl⟩
 try dsimp only at h
 refine Wc.se (by conv => lhs; simp) ?_
 refine Wc.ret (res_of (.inr rfl) ?_)
 cases h
 exact ⟨_, _, _, by conv => lhs; simp, by (conv => lhs; simp) <;> rfl, by first | rfl | simp⟩
theorem r112 {l : (List Relation)} {a : Atom} {r : (List Int)} (h : f112 l a = some r) : VJx cx (.ca 112 [(ssl eRelation l), (.agg [(.int .i64 a.Relation), (ssl eI a.Terms)])] (osl eI true r) []) := by
 unfold f112 at h
 refine ca_of rfl rfl (by decide) rfl ?_
 refine Wc.start (by conv => lhs; simp) ?_
 refine Wc.se (by conv => lhs; simp) ?_
 apply Wc.seq
 apply Wc.seq
 refine Wc.evs (by conv => lhs; simp) ?_
 obtain ⟨o1, h2, h⟩ := bind_some h
 refine Wo.cl rfl (by (conv => lhs; simp) <;> rfl) (r71 h2) (by simp) (by (conv => lhs; simp) <;> rfl) (by (conv => lhs; simp) <;> rfl) ?_
 refine Wo.evk 2 (by conv => lhs; simp) ?_
 obtain ⟨w4, h5, h⟩ := bind_some h
 refine Wo.mono (Q := fun V => V = [(0, .v (ssl eRelation l)), (3, .v (.ptr true [(.int .i64 a.Relation), (ssl eI a.Terms)])), (24, .v (.bool w4))]) ?_ ?_
 ·by_cases knh5 : ¬ (o1 = true)
  ·rw [if_pos knh5] at h5
   refine Wo.gh (vle_co (s := 12) (t1 := .bool true) rfl (by simp) (tle_bool (by simpa using knh5)) (by conv => lhs; simp)) ?_
   refine Wo.en (by conv => lhs; simp) ?_
   cases h5
   first | rfl | simp
  ·rw [if_neg knh5] at h5
   refine Wo.gh (vle_co (s := 12) (t1 := .bool false) rfl (by simp) (tle_bool (by simpa using knh5)) (by conv => lhs; simp)) ?_
   obtain ⟨v_6, h7, h5⟩ := bind_some h5
   obtain ⟨ga7, gb7, gc7⟩ := ix_some h7
   have gn7 := ix_ne h7
   have gd7 := arr_at (E := eRelation) (b := false) gc7
   simp at gd7
   refine Wo.evs (by conv => lhs; simp [ga7, gb7, gn7, gd7]) ?_
   obtain ⟨o8, h9, h5⟩ := bind_some h5
   refine Wo.call (by simp [ga7, gb7, gn7, gd7]) rfl (by (conv => lhs; simp [ga7, gb7, gn7, gd7]) <;> rfl) (r71 h9) (by simp) (by simp) (by (conv => lhs; simp [ga7, gb7, gn7, gd7]) <;> rfl) (by (conv => lhs; simp [ga7, gb7, gn7, gd7]) <;> rfl) ?_
   refine Wo.en (by conv => lhs; simp [ga7, gb7, gn7, gd7]) ?_
   cases h5
   first | rfl | simp [ga7, gb7, gn7, gd7]
 ·rintro V rfl
  generalize w4 = x_3 at *
  try dsimp only at h
  by_cases kc10 : x_3 = true
  ·rw [if_pos kc10] at h
   refine Wc.condT' (by conv => lhs; simp) (by simpa using kc10) ?_
   refine Wc.sk (by conv => lhs; simp) ?_
   apply Wc.seq
   refine Wc.evs (by conv => lhs; simp) ?_
   refine Wo.gh (vle_co (s := 4) (t1 := (osl eI true ([]))) rfl (by simp) (TLe.own (show TLes _ [] from (TLes.refl _)) rfl) (by conv => lhs; simp)) ?_
   apply Wo.nil
   refine Wc.ret (res_of (.inr rfl) ?_)
   cases h
   exact ⟨_, _, _, by conv => lhs; simp, by (conv => lhs; simp) <;> rfl, by first | rfl | simp⟩
  ·rw [if_neg kc10] at h
   refine Wc.condF' (by conv => lhs; simp) (by simpa using kc10) ?_
   refine Wc.sk (by conv => lhs; simp) ?_
   apply Wc.skip
   apply Wc.seq
   obtain ⟨v_11, h12, h⟩ := bind_some h
   obtain ⟨ga12, gb12, gc12⟩ := ix_some h12
   have gn12 := ix_ne h12
   have gd12 := arr_at (E := eRelation) (b := false) gc12
   simp at gd12
   obtain ⟨l_13, h14, h⟩ := bind_some h
   obtain ⟨ga14, gb14, gc14, ge14⟩ := cut_some h14
   simp at ge14
   refine Wc.evs (by conv => lhs; simp [ga12, gb12, gn12, gd12, ga14, gb14, gc14, ge14]) ?_
   obtain ⟨o15, h16, h⟩ := bind_some h
   refine Wo.cl rfl (by (conv => lhs; simp [ga12, gb12, gn12, gd12, ga14, gb14, gc14, ge14]) <;> rfl) (r113 h16) (by simp) (by (conv => lhs; simp [ga12, gb12, gn12, gd12, ga14, gb14, gc14, ge14]) <;> rfl) (by (conv => lhs; simp [ga12, gb12, gn12, gd12, ga14, gb14, gc14, ge14]) <;> rfl) ?_
   refine Wo.en (by conv => lhs; simp [ga12, gb12, gn12, gd12, ga14, gb14, gc14, ge14]) ?_
   refine Wc.ret (res_of (.inr rfl) ?_)
   cases h
   exact ⟨_, _, _, by conv => lhs; simp, by (conv => lhs; simp) <;> rfl, by first | rfl | simp [ga12, gb12, gn12, gd12, ga14, gb14, gc14, ge14]⟩
theorem r188_0 {a : (List Int)} {b : (List Int)} : ∀ zs zo, iter (f188_0 a b) zs = some zo → Wc cx 25 (.loop L188_0) [(0, .v (ssl eI a)), (1, .v (ssl eI b)), (5, .v (osl eI true zs.1)), (6, .v (.int .i64 zs.2))] ((QX 0 (fun (y : (List Int)) => [(5, .v (osl eI true y))])) zo) := by
 refine iter_all ?_
 rintro ⟨out_1, v_2⟩ zo zr h hk hx
 try dsimp only at hk ⊢
 rw [f188_0] at h
 apply Wc.loop
 apply Wc.seq
 refine Wc.se (by conv => lhs; simp) ?_
 by_cases kc3 : v_2 < 4
 ·rw [if_pos kc3] at h
  refine Wc.condT' (by conv => lhs; simp) (by simpa using kc3) ?_
  refine Wc.sk (by conv => lhs; simp) ?_
  apply Wc.skip
  apply Wc.seq
  apply Wc.block
  apply Wc.seq
  refine Wc.evs (by conv => lhs; simp) ?_
  obtain ⟨o4, h5, h⟩ := bind_some h
  refine Wo.cl rfl (by (conv => lhs; simp) <;> rfl) (r98 h5) (by simp) (by (conv => lhs; simp) <;> rfl) (by (conv => lhs; simp) <;> rfl) ?_
  refine Wo.evk 1 (by conv => lhs; simp) ?_
  obtain ⟨w7, h8, h⟩ := bind_some h
  refine Wo.mono (Q := fun V => V = [(0, .v (ssl eI a)), (1, .v (ssl eI b)), (5, .v (osl eI true out_1)), (6, .v (.int .i64 v_2)), (19, .v (.bool w7))]) ?_ ?_
  ·by_cases knh8 : o4 = true
   ·rw [if_pos knh8] at h8
    refine Wo.gh (vle_co (s := 15) (t1 := .bool true) rfl (by simp) (tle_bool (by simpa using knh8)) (by conv => lhs; simp)) ?_
    refine Wo.en (by conv => lhs; simp) ?_
    cases h8
    first | rfl | simp
   ·rw [if_neg knh8] at h8
    refine Wo.gh (vle_co (s := 15) (t1 := .bool false) rfl (by simp) (tle_bool (by simpa using knh8)) (by conv => lhs; simp)) ?_
    refine Wo.evs (by conv => lhs; simp) ?_
    obtain ⟨o9, h10, h8⟩ := bind_some h8
    refine Wo.call (by simp) rfl (by (conv => lhs; simp) <;> rfl) (r98 h10) (by simp) (by simp) (by (conv => lhs; simp) <;> rfl) (by (conv => lhs; simp) <;> rfl) ?_
    refine Wo.en (by conv => lhs; simp) ?_
    cases h8
    first | rfl | simp
  ·rintro V rfl
   generalize w7 = x_6 at *
   try dsimp only at h
   obtain ⟨w11, h12, h⟩ := bind_some h
   refine Wc.mono (Q := (QN (fun (y : (List Int)) => [(0, .v (ssl eI a)), (1, .v (ssl eI b)), (5, .v (osl eI true y)), (6, .v (.int .i64 v_2))])) w11) ?_ ?_
   ·skip
    by_cases kc13 : x_6 = true
    ·rw [if_pos kc13] at h12
     refine Wc.condT' (by conv => lhs; simp) (by simpa using kc13) ?_
     refine Wc.sk (by conv => lhs; simp) ?_
     obtain ⟨l_14, h15, h12⟩ := bind_some h12
     have gx15 := appT_arr (E := eI) (b := true) (y := true) h15 (by decide)
     simp at gx15
     refine Wc.en (by conv => lhs; simp [gx15]) ?_
     cases h12
     exact ⟨rfl, by first | rfl | simp [gx15]⟩
    ·rw [if_neg kc13] at h12
     refine Wc.condF' (by conv => lhs; simp) (by simpa using kc13) ?_
     refine Wc.sk (by conv => lhs; simp) ?_
     apply Wc.skip
     cases h12
     exact ⟨rfl, by first | rfl | simp⟩
   ·skip
    generalize w11 = out_16 at *
    rintro ex V ⟨rfl, rfl⟩
    try dsimp only at h
    refine Wc.en (by conv => lhs; simp) ?_
    refine Wc.start ?_ (hk _ (Option.some.inj h).symm)
    first | rfl | simp
 ·rw [if_neg kc3] at h
  refine Wc.condF' (by conv => lhs; simp) (by simpa using kc3) ?_
  refine Wc.sk (by conv => lhs; simp) ?_
  apply Wc.exit
  have e0 := hx _ (Option.some.inj h).symm
  subst e0
  exact ⟨rfl, by first | rfl | simp⟩
theorem r188 {a : (List Int)} {b : (List Int)} {r : (List Int)} (h : f188 a b = some r) : VJx cx (.ca 188 [(ssl eI a), (ssl eI b)] (osl eI true r) []) := by
 unfold f188 at h
 refine ca_of rfl rfl (by decide) rfl ?_
 refine Wc.start (by conv => lhs; simp) ?_
 refine Wc.se (by conv => lhs; simp) ?_
 apply Wc.seq
 refine Wc.evs (by conv => lhs; simp) ?_
 refine Wo.gh (vle_co (s := 5) (t1 := (osl eI true ([]))) rfl (by simp) (TLe.own (show TLes _ [] from (TLes.refl _)) rfl) (by conv => lhs; simp)) ?_
 apply Wo.nil
 apply Wc.seq
 refine Wc.se (by conv => lhs; simp) ?_
 apply Wc.block
 obtain ⟨w17, h18, h⟩ := bind_some h
 refine Wc.start (V1 := [(0, .v (ssl eI a)), (1, .v (ssl eI b)), (5, .v (osl eI true ([]))), (6, .v (.int .i64 0))]) (by first | rfl | simp) ?_
 refine Wc.mono (r188_0 _ _ h18) ?_
 generalize w17 = out_19 at *
 rintro ex V ⟨rfl, rfl⟩
 try dsimp only at h
 refine Wc.se (by conv => lhs; simp) ?_
 refine Wc.ret (res_of (.inr rfl) ?_)
 cases h
 exact ⟨_, _, _, by conv => lhs; simp, by (conv => lhs; simp) <;> rfl, by first | rfl | simp⟩
theorem r111_0 {l : (List Int)} {want : (List Int)} : ∀ zs zo, iter (f111_0 l want) zs = some zo → Wc cx 19 (.loop L111_0) [(0, .v (ssl eI l)), (1, .v (ssl eI want)), (5, .v (.int .i64 zs))] ((QO (QX 0 (fun (y : Unit) => [])) (QR (fun (y : Bool) => [(4, .v (.bool y))]))) zo) := by
 refine iter_all ?_
 rintro i_1 zo zr h hk hx
 try dsimp only at hk ⊢
 rw [f111_0] at h
 apply Wc.loop
 apply Wc.seq
 refine Wc.se (by conv => lhs; simp) ?_
 by_cases kc2 : i_1 < (want.length : Int)
 ·rw [if_pos kc2] at h
  refine Wc.condT' (by conv => lhs; simp) (by simpa using kc2) ?_
  refine Wc.sk (by conv => lhs; simp) ?_
  apply Wc.skip
  apply Wc.seq
  apply Wc.block
  apply Wc.seq
  obtain ⟨v_3, h4, h⟩ := bind_some h
  obtain ⟨ga4, gb4, gc4⟩ := ix_some h4
  have gn4 := ix_ne h4
  have gd4 := arr_at (E := eI) (b := false) gc4
  simp at gd4
  refine Wc.evs (by conv => lhs; simp [ga4, gb4, gn4, gd4]) ?_
  obtain ⟨o5, h6, h⟩ := bind_some h
  refine Wo.cl rfl (by (conv => lhs; simp [ga4, gb4, gn4, gd4]) <;> rfl) (r98 h6) (by simp) (by (conv => lhs; simp [ga4, gb4, gn4, gd4]) <;> rfl) (by (conv => lhs; simp [ga4, gb4, gn4, gd4]) <;> rfl) ?_
  refine Wo.en (by conv => lhs; simp [ga4, gb4, gn4, gd4]) ?_
  by_cases kc7 : ¬ (o5 = true)
  ·rw [if_pos kc7] at h
   refine Wc.condT' (by conv => lhs; simp) (by simpa using kc7) ?_
   refine Wc.sk (by conv => lhs; simp) ?_
   refine Wc.se (by conv => lhs; simp) ?_
   refine Wc.ret ?_
   have e0 := hx _ (Option.some.inj h).symm
   subst e0
   exact ⟨rfl, by first | rfl | simp⟩
  ·rw [if_neg kc7] at h
   refine Wc.condF' (by conv => lhs; simp) (by simpa using kc7) ?_
   refine Wc.sk (by conv => lhs; simp) ?_
   apply Wc.skip
   refine Wc.en (by conv => lhs; simp) ?_
   refine Wc.start ?_ (hk _ (Option.some.inj h).symm)
   first | rfl | simp
 ·rw [if_neg kc2] at h
  refine Wc.condF' (by conv => lhs; simp) (by simpa using kc2) ?_
  refine Wc.sk (by conv => lhs; simp) ?_
  apply Wc.exit
  have e0 := hx _ (Option.some.inj h).symm
  subst e0
  exact ⟨rfl, by first | rfl | simp⟩
theorem r111 {l : (List Int)} {want : (List Int)} {r : Bool} (h : f111 l want = some r) : VJx cx (.ca 111 [(ssl eI l), (ssl eI want)] (.bool r) []) := by
 unfold f111 at h
 refine ca_of rfl rfl (by decide) rfl ?_
 refine Wc.start (by conv => lhs; simp) ?_
 refine Wc.se (by conv => lhs; simp) ?_
 apply Wc.seq
 refine Wc.se (by conv => lhs; simp) ?_
 apply Wc.block
 obtain ⟨w8, h9, h⟩ := bind_some h
 refine Wc.start (V1 := [(0, .v (ssl eI l)), (1, .v (ssl eI want)), (5, .v (.int .i64 0))]) (by first | rfl | simp) ?_
 refine Wc.mono (r111_0 _ _ h9) ?_
 rcases w8 with ⟨⟩ | x_10
 ·rintro ex V ⟨rfl, rfl⟩
  try dsimp only at h
  refine Wc.se (by conv => lhs; simp) ?_
  refine Wc.ret (res_of (.inr rfl) ?_)
  cases h
  exact ⟨_, _, _, by conv => lhs; simp, by (conv => lhs; simp) <;> rfl, by first | rfl | simp⟩
 ·rintro ex V ⟨rfl, rfl⟩
  try dsimp only at h
  refine res_of (.inr rfl) ?_
  cases h
  exact ⟨_, _, _, by conv => lhs; simp, by (conv => lhs; simp) <;> rfl, by first | rfl | simp⟩
theorem r191_1 {l : (List Relation)} {q : Query} {skip : Int} {n_7 : Int} : ∀ zs zo, iter (f191_1 l q skip) zs = some zo → Wc cx 58 (.loop L191_1) [(0, .v (ssl eRelation l)), (2, .v (.int .i64 skip)), (5, .v (.ptr true [(.int .i64 q.VariableCount), (ssl eAtom q.Atoms), (ssl eI q.Free)])), (9, .v (osl eI true zs.1)), (10, .v (.int .i64 n_7)), (11, .v (.int .i64 zs.2))] ((QX 2 (fun (y : (List Int)) => [(0, .v (ssl eRelation l)), (2, .v (.int .i64 skip)), (5, .v (.ptr true [(.int .i64 q.VariableCount), (ssl eAtom q.Atoms), (ssl eI q.Free)])), (9, .v (osl eI true y)), (10, .v (.int .i64 n_7))])) zo) := by
 refine iter_all ?_
 rintro ⟨out_9, i_10⟩ zo zr h hk hx
 try dsimp only at hk ⊢
 rw [f191_1] at h
 apply Wc.loop
 apply Wc.seq
 refine Wc.se (by conv => lhs; simp) ?_
 by_cases kc11 : i_10 < (q.Atoms.length : Int)
 ·rw [if_pos kc11] at h
  refine Wc.condT' (by conv => lhs; simp) (by simpa using kc11) ?_
  refine Wc.sk (by conv => lhs; simp) ?_
  apply Wc.skip
  apply Wc.seq
  apply Wc.block
  apply Wc.seq
  refine Wc.evk 4 (by conv => lhs; simp) ?_
  obtain ⟨w13, h14, h⟩ := bind_some h
  refine Wo.mono (Q := fun V => V = [(0, .v (ssl eRelation l)), (2, .v (.int .i64 skip)), (5, .v (.ptr true [(.int .i64 q.VariableCount), (ssl eAtom q.Atoms), (ssl eI q.Free)])), (9, .v (osl eI true out_9)), (10, .v (.int .i64 n_7)), (11, .v (.int .i64 i_10)), (48, .v (.bool w13))]) ?_ ?_
  ·by_cases knh14 : i_10 ≠ skip
   ·rw [if_pos knh14] at h14
    refine Wo.gh (vle_co (s := 38) (t1 := .bool true) rfl (by simp) (tle_bool (by simpa using knh14)) (by conv => lhs; simp)) ?_
    obtain ⟨v_15, h16, h14⟩ := bind_some h14
    obtain ⟨ga16, gb16, gc16⟩ := ix_some h16
    have gn16 := ix_ne h16
    have gd16 := arr_at (E := eAtom) (b := false) gc16
    simp at gd16
    refine Wo.evs (by conv => lhs; simp [ga16, gb16, gn16, gd16]) ?_
    obtain ⟨o17, h18, h14⟩ := bind_some h14
    refine Wo.call (by simp [ga16, gb16, gn16, gd16]) rfl (by (conv => lhs; simp [ga16, gb16, gn16, gd16]) <;> rfl) (r112 h18) (by simp) (by simp) (by (conv => lhs; simp [ga16, gb16, gn16, gd16]) <;> rfl) (by (conv => lhs; simp [ga16, gb16, gn16, gd16]) <;> rfl) ?_
    obtain ⟨o19, h20, h14⟩ := bind_some h14
    refine Wo.call (by simp [ga16, gb16, gn16, gd16]) rfl (by (conv => lhs; simp [ga16, gb16, gn16, gd16]) <;> rfl) (r111 h20) (by simp) (by simp) (by (conv => lhs; simp [ga16, gb16, gn16, gd16]) <;> rfl) (by (conv => lhs; simp [ga16, gb16, gn16, gd16]) <;> rfl) ?_
    refine Wo.en (by conv => lhs; simp [ga16, gb16, gn16, gd16]) ?_
    cases h14
    first | rfl | simp [ga16, gb16, gn16, gd16]
   ·rw [if_neg knh14] at h14
    refine Wo.gh (vle_co (s := 38) (t1 := .bool false) rfl (by simp) (tle_bool (by simpa using knh14)) (by conv => lhs; simp)) ?_
    refine Wo.en (by conv => lhs; simp) ?_
    cases h14
    first | rfl | simp
  ·rintro V rfl
   generalize w13 = x_12 at *
   try dsimp only at h
   obtain ⟨w21, h22, h⟩ := bind_some h
   refine Wc.mono (Q := (QN (fun (y : (List Int)) => [(0, .v (ssl eRelation l)), (2, .v (.int .i64 skip)), (5, .v (.ptr true [(.int .i64 q.VariableCount), (ssl eAtom q.Atoms), (ssl eI q.Free)])), (9, .v (osl eI true y)), (10, .v (.int .i64 n_7)), (11, .v (.int .i64 i_10))])) w21) ?_ ?_
   ·skip
    by_cases kc23 : x_12 = true
    ·rw [if_pos kc23] at h22
     refine Wc.condT' (by conv => lhs; simp) (by simpa using kc23) ?_
     refine Wc.sk (by conv => lhs; simp) ?_
     obtain ⟨v_24, h25, h22⟩ := bind_some h22
     obtain ⟨ga25, gb25, gc25⟩ := ix_some h25
     have gn25 := ix_ne h25
     have gd25 := arr_at (E := eAtom) (b := false) gc25
     simp at gd25
     refine Wc.evs (by conv => lhs; simp [ga25, gb25, gn25, gd25]) ?_
     obtain ⟨o26, h27, h22⟩ := bind_some h22
     refine Wo.cl rfl (by (conv => lhs; simp [ga25, gb25, gn25, gd25]) <;> rfl) (r113 h27) (by simp) (by (conv => lhs; simp [ga25, gb25, gn25, gd25]) <;> rfl) (by (conv => lhs; simp [ga25, gb25, gn25, gd25]) <;> rfl) ?_
     obtain ⟨o28, h29, h22⟩ := bind_some h22
     refine Wo.cl rfl (by (conv => lhs; simp [ga25, gb25, gn25, gd25]) <;> rfl) (r188 h29) (by simp) (by (conv => lhs; simp [ga25, gb25, gn25, gd25]) <;> rfl) (by (conv => lhs; simp [ga25, gb25, gn25, gd25]) <;> rfl) ?_
     refine Wo.en (by conv => lhs; simp [ga25, gb25, gn25, gd25]) ?_
     cases h22
     exact ⟨rfl, by first | rfl | simp [ga25, gb25, gn25, gd25]⟩
    ·rw [if_neg kc23] at h22
     refine Wc.condF' (by conv => lhs; simp) (by simpa using kc23) ?_
     refine Wc.sk (by conv => lhs; simp) ?_
     apply Wc.skip
     cases h22
     exact ⟨rfl, by first | rfl | simp⟩
   ·skip
    generalize w21 = out_30 at *
    rintro ex V ⟨rfl, rfl⟩
    try dsimp only at h
    refine Wc.en (by conv => lhs; simp) ?_
    refine Wc.start ?_ (hk _ (Option.some.inj h).symm)
    first | rfl | simp
 ·rw [if_neg kc11] at h
  refine Wc.condF' (by conv => lhs; simp) (by simpa using kc11) ?_
  refine Wc.sk (by conv => lhs; simp) ?_
  apply Wc.exit
  have e0 := hx _ (Option.some.inj h).symm
  subst e0
  exact ⟨rfl, by first | rfl | simp⟩
theorem r191_0 {l : (List Relation)} {q : Query} {skip : Int} : ∀ zs zo, iter (f191_0 l q skip) zs = some zo → Wc cx 58 (.loop L191_0) [(0, .v (ssl eRelation l)), (2, .v (.int .i64 skip)), (5, .v (.ptr true [(.int .i64 q.VariableCount), (ssl eAtom q.Atoms), (ssl eI q.Free)])), (9, .v (osl eI true zs.1)), (10, .v (.int .i64 zs.2))] ((QX 0 (fun (y : (List Int)) => [(9, .v (osl eI true y))])) zo) := by
 refine iter_all ?_
 rintro ⟨out_6, n_7⟩ zo zr h hk hx
 try dsimp only at hk ⊢
 rw [f191_0] at h
 apply Wc.loop
 apply Wc.seq
 refine Wc.se (by conv => lhs; simp) ?_
 by_cases kc8 : n_7 < (q.Atoms.length : Int)
 ·rw [if_pos kc8] at h
  refine Wc.condT' (by conv => lhs; simp) (by simpa using kc8) ?_
  refine Wc.sk (by conv => lhs; simp) ?_
  apply Wc.skip
  apply Wc.seq
  apply Wc.block
  refine Wc.se (by conv => lhs; simp) ?_
  apply Wc.block
  obtain ⟨w31, h32, h⟩ := bind_some h
  refine Wc.start (V1 := [(0, .v (ssl eRelation l)), (2, .v (.int .i64 skip)), (5, .v (.ptr true [(.int .i64 q.VariableCount), (ssl eAtom q.Atoms), (ssl eI q.Free)])), (9, .v (osl eI true out_6)), (10, .v (.int .i64 n_7)), (11, .v (.int .i64 0))]) (by first | rfl | simp) ?_
  refine Wc.mono (r191_1 _ _ h32) ?_
  generalize w31 = out_33 at *
  rintro ex V ⟨rfl, rfl⟩
  try dsimp only at h
  refine Wc.en (by conv => lhs; simp) ?_
  refine Wc.start ?_ (hk _ (Option.some.inj h).symm)
  first | rfl | simp
 ·rw [if_neg kc8] at h
  refine Wc.condF' (by conv => lhs; simp) (by simpa using kc8) ?_
  refine Wc.sk (by conv => lhs; simp) ?_
  apply Wc.exit
  have e0 := hx _ (Option.some.inj h).symm
  subst e0
  exact ⟨rfl, by first | rfl | simp⟩
theorem r191 {l : (List Relation)} {q : Query} {skip : Int} {vars : (List Int)} {r : (List Int)} (h : f191 l q skip vars = some r) : VJx cx (.ca 191 [(ssl eRelation l), (.agg [(.int .i64 q.VariableCount), (ssl eAtom q.Atoms), (ssl eI q.Free)]), (.int .i64 skip), (ssl eI vars)] (osl eI true r) []) := by
 unfold f191 at h
 refine ca_of rfl rfl (by decide) rfl ?_
 refine Wc.start (by conv => lhs; simp) ?_
 refine Wc.se (by conv => lhs; simp) ?_
 apply Wc.seq
 apply Wc.seq
 refine Wc.evs (by conv => lhs; simp) ?_
 obtain ⟨o1, h2, h⟩ := bind_some h
 refine Wo.cl rfl (by (conv => lhs; simp) <;> rfl) (r124 h2) (by simp) (by (conv => lhs; simp) <;> rfl) (by (conv => lhs; simp) <;> rfl) ?_
 refine Wo.en (by conv => lhs; simp) ?_
 by_cases kc3 : ¬ (o1 = true)
 ·rw [if_pos kc3] at h
  refine Wc.condT' (by conv => lhs; simp) (by simpa using kc3) ?_
  refine Wc.sk (by conv => lhs; simp) ?_
  apply Wc.seq
  refine Wc.evs (by conv => lhs; simp) ?_
  refine Wo.gh (vle_co (s := 8) (t1 := (osl eI true ([]))) rfl (by simp) (TLe.own (show TLes _ [] from (TLes.refl _)) rfl) (by conv => lhs; simp)) ?_
  apply Wo.nil
  refine Wc.ret (res_of (.inr rfl) ?_)
  cases h
  exact ⟨_, _, _, by conv => lhs; simp, by (conv => lhs; simp) <;> rfl, by first | rfl | simp⟩
 ·rw [if_neg kc3] at h
  refine Wc.condF' (by conv => lhs; simp) (by simpa using kc3) ?_
  refine Wc.sk (by conv => lhs; simp) ?_
  apply Wc.skip
  apply Wc.seq
  refine Wc.evs (by conv => lhs; simp) ?_
  obtain ⟨o4, h5, h⟩ := bind_some h
  refine Wo.cl rfl (by (conv => lhs; simp) <;> rfl) (r188 h5) (by simp) (by (conv => lhs; simp) <;> rfl) (by (conv => lhs; simp) <;> rfl) ?_
  refine Wo.en (by conv => lhs; simp) ?_
  apply Wc.seq
  refine Wc.se (by conv => lhs; simp) ?_
  apply Wc.block
  obtain ⟨w34, h35, h⟩ := bind_some h
  refine Wc.start (V1 := [(0, .v (ssl eRelation l)), (2, .v (.int .i64 skip)), (5, .v (.ptr true [(.int .i64 q.VariableCount), (ssl eAtom q.Atoms), (ssl eI q.Free)])), (9, .v (osl eI true o4)), (10, .v (.int .i64 0))]) (by first | rfl | simp) ?_
  refine Wc.mono (r191_0 _ _ h35) ?_
  generalize w34 = out_36 at *
  rintro ex V ⟨rfl, rfl⟩
  try dsimp only at h
  refine Wc.se (by conv => lhs; simp) ?_
  refine Wc.ret (res_of (.inr rfl) ?_)
  cases h
  exact ⟨_, _, _, by conv => lhs; simp, by (conv => lhs; simp) <;> rfl, by first | rfl | simp⟩
theorem r187 {l : (List Relation)} {q : Query} {k : Int} {r : (List Int)} (h : f187 l q k = some r) : VJx cx (.ca 187 [(ssl eRelation l), (.agg [(.int .i64 q.VariableCount), (ssl eAtom q.Atoms), (ssl eI q.Free)]), (.int .i64 k)] (osl eI true r) []) := by
 unfold f187 at h
 refine ca_of rfl rfl (by decide) rfl ?_
 refine Wc.start (by conv => lhs; simp) ?_
 refine Wc.se (by conv => lhs; simp) ?_
 apply Wc.seq
 apply Wc.seq
 refine Wc.evs (by conv => lhs; simp) ?_
 obtain ⟨o1, h2, h⟩ := bind_some h
 refine Wo.cl rfl (by (conv => lhs; simp) <;> rfl) (r124 h2) (by simp) (by (conv => lhs; simp) <;> rfl) (by (conv => lhs; simp) <;> rfl) ?_
 refine Wo.evk 2 (by conv => lhs; simp) ?_
 obtain ⟨w4, h5, h⟩ := bind_some h
 refine Wo.mono (Q := fun V => V = [(0, .v (ssl eRelation l)), (2, .v (.int .i64 k)), (4, .v (.ptr true [(.int .i64 q.VariableCount), (ssl eAtom q.Atoms), (ssl eI q.Free)])), (19, .v (.bool w4))]) ?_ ?_
 ·by_cases knh5 : ¬ (o1 = true)
  ·rw [if_pos knh5] at h5
   refine Wo.gh (vle_co (s := 11) (t1 := .bool true) rfl (by simp) (tle_bool (by simpa using knh5)) (by conv => lhs; simp)) ?_
   refine Wo.en (by conv => lhs; simp) ?_
   cases h5
   first | rfl | simp
  ·rw [if_neg knh5] at h5
   refine Wo.gh (vle_co (s := 11) (t1 := .bool false) rfl (by simp) (tle_bool (by simpa using knh5)) (by conv => lhs; simp)) ?_
   refine Wo.evs (by conv => lhs; simp) ?_
   obtain ⟨o6, h7, h5⟩ := bind_some h5
   refine Wo.call (by simp) rfl (by (conv => lhs; simp) <;> rfl) (r71 h7) (by simp) (by simp) (by (conv => lhs; simp) <;> rfl) (by (conv => lhs; simp) <;> rfl) ?_
   refine Wo.en (by conv => lhs; simp) ?_
   cases h5
   first | rfl | simp
 ·rintro V rfl
  generalize w4 = x_3 at *
  try dsimp only at h
  by_cases kc8 : x_3 = true
  ·rw [if_pos kc8] at h
   refine Wc.condT' (by conv => lhs; simp) (by simpa using kc8) ?_
   refine Wc.sk (by conv => lhs; simp) ?_
   apply Wc.seq
   refine Wc.evs (by conv => lhs; simp) ?_
   refine Wo.gh (vle_co (s := 6) (t1 := (osl eI true ([]))) rfl (by simp) (TLe.own (show TLes _ [] from (TLes.refl _)) rfl) (by conv => lhs; simp)) ?_
   apply Wo.nil
   refine Wc.ret (res_of (.inr rfl) ?_)
   cases h
   exact ⟨_, _, _, by conv => lhs; simp, by (conv => lhs; simp) <;> rfl, by first | rfl | simp⟩
  ·rw [if_neg kc8] at h
   refine Wc.condF' (by conv => lhs; simp) (by simpa using kc8) ?_
   refine Wc.sk (by conv => lhs; simp) ?_
   apply Wc.skip
   apply Wc.seq
   obtain ⟨v_9, h10, h⟩ := bind_some h
   obtain ⟨ga10, gb10, gc10⟩ := ix_some h10
   have gn10 := ix_ne h10
   have gd10 := arr_at (E := eAtom) (b := false) gc10
   simp at gd10
   refine Wc.evs (by conv => lhs; simp [ga10, gb10, gn10, gd10]) ?_
   obtain ⟨o11, h12, h⟩ := bind_some h
   refine Wo.call (by simp) rfl (by (conv => lhs; simp [ga10, gb10, gn10, gd10]) <;> rfl) (r112 h12) (by simp) (by simp) (by (conv => lhs; simp [ga10, gb10, gn10, gd10]) <;> rfl) (by (conv => lhs; simp [ga10, gb10, gn10, gd10]) <;> rfl) ?_
   obtain ⟨o13, h14, h⟩ := bind_some h
   refine Wo.cl rfl (by (conv => lhs; simp [ga10, gb10, gn10, gd10]) <;> rfl) (r191 h14) (by simp) (by (conv => lhs; simp [ga10, gb10, gn10, gd10]) <;> rfl) (by (conv => lhs; simp [ga10, gb10, gn10, gd10]) <;> rfl) ?_
   refine Wo.en (by conv => lhs; simp [ga10, gb10, gn10, gd10]) ?_
   refine Wc.ret (res_of (.inr rfl) ?_)
   cases h
   exact ⟨_, _, _, by conv => lhs; simp, by (conv => lhs; simp) <;> rfl, by first | rfl | simp [ga10, gb10, gn10, gd10]⟩
theorem r167_2 {q : Query} {k : Int} {o9 : (List Int)} {n_12 : Int} {out_14 : (List Int)} {i_15 : Int} {o19 : (List Int)} : ∀ zs zo, iter (f167_2 out_14 o19) zs = some zo → Wc cx 96 (.loop L167_2) [(2, .v (.int .i64 k)), (4, .v (.ptr true [(.int .i64 q.VariableCount), (ssl eAtom q.Atoms), (ssl eI q.Free)])), (7, .v (osl eI true out_14)), (8, .v (osl eI true o9)), (9, .v (.int .i64 n_12)), (10, .v (.int .i64 i_15)), (11, .v (osl eI true o19)), (12, .v (.bool zs.1)), (13, .v (.int .i64 zs.2))] ((QX 4 (fun (y : Bool) => [(2, .v (.int .i64 k)), (4, .v (.ptr true [(.int .i64 q.VariableCount), (ssl eAtom q.Atoms), (ssl eI q.Free)])), (7, .v (osl eI true out_14)), (8, .v (osl eI true o9)), (9, .v (.int .i64 n_12)), (10, .v (.int .i64 i_15)), (11, .v (osl eI true o19)), (12, .v (.bool y))])) zo) := by
 refine iter_all ?_
 rintro ⟨met_21, j_22⟩ zo zr h hk hx
 try dsimp only at hk ⊢
 rw [f167_2] at h
 apply Wc.loop
 apply Wc.seq
 refine Wc.se (by conv => lhs; simp) ?_
 by_cases kc23 : j_22 < (o19.length : Int)
 ·rw [if_pos kc23] at h
  refine Wc.condT' (by conv => lhs; simp) (by simpa using kc23) ?_
  refine Wc.sk (by conv => lhs; simp) ?_
  apply Wc.skip
  apply Wc.seq
  apply Wc.block
  refine Wc.evk 2 (by conv => lhs; simp) ?_
  obtain ⟨w25, h26, h⟩ := bind_some h
  refine Wo.mono (Q := fun V => V = [(2, .v (.int .i64 k)), (4, .v (.ptr true [(.int .i64 q.VariableCount), (ssl eAtom q.Atoms), (ssl eI q.Free)])), (7, .v (osl eI true out_14)), (8, .v (osl eI true o9)), (9, .v (.int .i64 n_12)), (10, .v (.int .i64 i_15)), (11, .v (osl eI true o19)), (12, .v (.bool w25)), (13, .v (.int .i64 j_22))]) ?_ ?_
  ·by_cases knh26 : met_21 = true
   ·rw [if_pos knh26] at h26
    refine Wo.gh (vle_co (s := 64) (t1 := .bool true) rfl (by simp) (tle_bool (by simpa using knh26)) (by conv => lhs; simp)) ?_
    refine Wo.en (by conv => lhs; simp) ?_
    cases h26
    first | rfl | simp
   ·rw [if_neg knh26] at h26
    refine Wo.gh (vle_co (s := 64) (t1 := .bool false) rfl (by simp) (tle_bool (by simpa using knh26)) (by conv => lhs; simp)) ?_
    obtain ⟨v_27, h28, h26⟩ := bind_some h26
    obtain ⟨ga28, gb28, gc28⟩ := ix_some h28
    have gn28 := ix_ne h28
    have gf28 := arr_fit (E := eI) (b := true) (i := j_22.toNat) (l := o19) (by omega)
    have gg28_0 := arr_get (E := eI) (b := true) (o := 0) gc28 (by decide)
    simp at gf28 gg28_0
    have gl28 : j_22.toNat < o19.length := by omega
    refine Wo.evs (by conv => lhs; simp [-getElem?_pos, List.getElem?_cons_zero, List.getElem?_cons_succ, ga28, gb28, gn28, gf28, gg28_0, gl28]) ?_
    obtain ⟨o29, h30, h26⟩ := bind_some h26
    refine Wo.call (by simp [-getElem?_pos, List.getElem?_cons_zero, List.getElem?_cons_succ, ga28, gb28, gn28, gf28, gg28_0, gl28]) rfl (by (conv => lhs; simp [-getElem?_pos, List.getElem?_cons_zero, List.getElem?_cons_succ, ga28, gb28, gn28, gf28, gg28_0, gl28]) <;> rfl) (r98 h30) (by simp) (by simp) (by (conv => lhs; simp [-getElem?_pos, List.getElem?_cons_zero, List.getElem?_cons_succ, ga28, gb28, gn28, gf28, gg28_0, gl28]) <;> rfl) (by (conv => lhs; simp [-getElem?_pos, List.getElem?_cons_zero, List.getElem?_cons_succ, ga28, gb28, gn28, gf28, gg28_0, gl28]) <;> rfl) ?_
    refine Wo.en (by conv => lhs; simp [-getElem?_pos, List.getElem?_cons_zero, List.getElem?_cons_succ, ga28, gb28, gn28, gf28, gg28_0, gl28]) ?_
    cases h26
    first | rfl | simp [-getElem?_pos, List.getElem?_cons_zero, List.getElem?_cons_succ, ga28, gb28, gn28, gf28, gg28_0, gl28]
  ·rintro V rfl
   generalize w25 = met_24 at *
   try dsimp only at h
   refine Wc.en (by conv => lhs; simp) ?_
   refine Wc.start ?_ (hk _ (Option.some.inj h).symm)
   first | rfl | simp
 ·rw [if_neg kc23] at h
  refine Wc.condF' (by conv => lhs; simp) (by simpa using kc23) ?_
  refine Wc.sk (by conv => lhs; simp) ?_
  apply Wc.exit
  have e0 := hx _ (Option.some.inj h).symm
  subst e0
  exact ⟨rfl, by first | rfl | simp⟩
theorem r167_3 {q : Query} {k : Int} {o9 : (List Int)} {n_12 : Int} {i_15 : Int} {o19 : (List Int)} {met_33 : Bool} : ∀ zs zo, iter (f167_3 o9 o19 met_33) zs = some zo → Wc cx 96 (.loop L167_3) [(2, .v (.int .i64 k)), (4, .v (.ptr true [(.int .i64 q.VariableCount), (ssl eAtom q.Atoms), (ssl eI q.Free)])), (7, .v (osl eI true zs.1)), (8, .v (osl eI true o9)), (9, .v (.int .i64 n_12)), (10, .v (.int .i64 i_15)), (11, .v (osl eI true o19)), (12, .v (.bool met_33)), (14, .v (.int .i64 zs.2))] ((QX 6 (fun (y : (List Int)) => [(2, .v (.int .i64 k)), (4, .v (.ptr true [(.int .i64 q.VariableCount), (ssl eAtom q.Atoms), (ssl eI q.Free)])), (7, .v (osl eI true y)), (8, .v (osl eI true o9)), (9, .v (.int .i64 n_12)), (10, .v (.int .i64 i_15))])) zo) := by
 refine iter_all ?_
 rintro ⟨out_34, j_35⟩ zo zr h hk hx
 try dsimp only at hk ⊢
 rw [f167_3] at h
 apply Wc.loop
 apply Wc.seq
 apply Wc.seq
 refine Wc.evk 5 (by conv => lhs; simp) ?_
 obtain ⟨w37, h38, h⟩ := bind_some h
 refine Wo.mono (Q := fun V => V = [(2, .v (.int .i64 k)), (4, .v (.ptr true [(.int .i64 q.VariableCount), (ssl eAtom q.Atoms), (ssl eI q.Free)])), (7, .v (osl eI true out_34)), (8, .v (osl eI true o9)), (9, .v (.int .i64 n_12)), (10, .v (.int .i64 i_15)), (11, .v (osl eI true o19)), (12, .v (.bool met_33)), (14, .v (.int .i64 j_35)), (78, .v (.bool w37))]) ?_ ?_
 ·by_cases knh38 : j_35 < (o19.length : Int)
  ·rw [if_pos knh38] at h38
   refine Wo.gh (vle_co (s := 76) (t1 := .bool true) rfl (by simp) (tle_bool (by simpa using knh38)) (by conv => lhs; simp)) ?_
   refine Wo.en (by conv => lhs; simp) ?_
   cases h38
   first | rfl | simp
  ·rw [if_neg knh38] at h38
   refine Wo.gh (vle_co (s := 76) (t1 := .bool false) rfl (by simp) (tle_bool (by simpa using knh38)) (by conv => lhs; simp)) ?_
   refine Wo.en (by conv => lhs; simp) ?_
   cases h38
   first | rfl | simp
 ·rintro V rfl
  generalize w37 = x_36 at *
  try dsimp only at h
  by_cases kc39 : x_36 = true
  ·rw [if_pos kc39] at h
   refine Wc.condT' (by conv => lhs; simp) (by simpa using kc39) ?_
   refine Wc.sk (by conv => lhs; simp) ?_
   apply Wc.skip
   apply Wc.seq
   apply Wc.block
   apply Wc.seq
   obtain ⟨v_40, h41, h⟩ := bind_some h
   obtain ⟨ga41, gb41, gc41⟩ := ix_some h41
   have gn41 := ix_ne h41
   have gf41 := arr_fit (E := eI) (b := true) (i := j_35.toNat) (l := o19) (by omega)
   have gg41_0 := arr_get (E := eI) (b := true) (o := 0) gc41 (by decide)
   simp at gf41 gg41_0
   have gl41 : j_35.toNat < o19.length := by omega
   refine Wc.evs (by conv => lhs; simp [-getElem?_pos, List.getElem?_cons_zero, List.getElem?_cons_succ, ga41, gb41, gn41, gf41, gg41_0, gl41]) ?_
   obtain ⟨o42, h43, h⟩ := bind_some h
   refine Wo.cl rfl (by (conv => lhs; simp [-getElem?_pos, List.getElem?_cons_zero, List.getElem?_cons_succ, ga41, gb41, gn41, gf41, gg41_0, gl41]) <;> rfl) (r98 h43) (by simp) (by (conv => lhs; simp [-getElem?_pos, List.getElem?_cons_zero, List.getElem?_cons_succ, ga41, gb41, gn41, gf41, gg41_0, gl41]) <;> rfl) (by (conv => lhs; simp [-getElem?_pos, List.getElem?_cons_zero, List.getElem?_cons_succ, ga41, gb41, gn41, gf41, gg41_0, gl41]) <;> rfl) ?_
   refine Wo.en (by conv => lhs; simp [-getElem?_pos, List.getElem?_cons_zero, List.getElem?_cons_succ, ga41, gb41, gn41, gf41, gg41_0, gl41]) ?_
   obtain ⟨w44, h45, h⟩ := bind_some h
   refine Wc.mono (Q := (QN (fun (y : (List Int)) => [(2, .v (.int .i64 k)), (4, .v (.ptr true [(.int .i64 q.VariableCount), (ssl eAtom q.Atoms), (ssl eI q.Free)])), (7, .v (osl eI true y)), (8, .v (osl eI true o9)), (9, .v (.int .i64 n_12)), (10, .v (.int .i64 i_15)), (11, .v (osl eI true o19)), (12, .v (.bool met_33)), (14, .v (.int .i64 j_35))])) w44) ?_ ?_
   ·skip
    by_cases kc46 : ¬ (o42 = true)
    ·rw [if_pos kc46] at h45
     refine Wc.condT' (by conv => lhs; simp) (by simpa using kc46) ?_
     refine Wc.sk (by conv => lhs; simp) ?_
     refine Wc.evs (by conv => lhs; simp [-getElem?_pos, List.getElem?_cons_zero, List.getElem?_cons_succ, ga41, gb41, gn41, gf41, gg41_0, gl41]) ?_
     refine Wo.gh (vle_co (s := 93) (t1 := (osl eI true ([v_40]))) rfl (by simp) (TLe.own (show TLes _ [(.int .i64 v_40)] from (TLes.cons (TLe.refl _) (TLes.refl _))) rfl) (by conv => lhs; simp)) ?_
     obtain ⟨o47, h48, h45⟩ := bind_some h45
     refine Wo.cl rfl (by (conv => lhs; simp [-getElem?_pos, List.getElem?_cons_zero, List.getElem?_cons_succ, ga41, gb41, gn41, gf41, gg41_0, gl41]) <;> rfl) (r188 h48) (by simp) (by (conv => lhs; simp [-getElem?_pos, List.getElem?_cons_zero, List.getElem?_cons_succ, ga41, gb41, gn41, gf41, gg41_0, gl41]) <;> rfl) (by (conv => lhs; simp [-getElem?_pos, List.getElem?_cons_zero, List.getElem?_cons_succ, ga41, gb41, gn41, gf41, gg41_0, gl41]) <;> rfl) ?_
     refine Wo.en (by conv => lhs; simp [-getElem?_pos, List.getElem?_cons_zero, List.getElem?_cons_succ, ga41, gb41, gn41, gf41, gg41_0, gl41]) ?_
     cases h45
     exact ⟨rfl, by first | rfl | simp [-getElem?_pos, List.getElem?_cons_zero, List.getElem?_cons_succ, ga41, gb41, gn41, gf41, gg41_0, gl41]⟩
    ·rw [if_neg kc46] at h45
     refine Wc.condF' (by conv => lhs; simp) (by simpa using kc46) ?_
     refine Wc.sk (by conv => lhs; simp) ?_
     apply Wc.skip
     cases h45
     exact ⟨rfl, by first | rfl | simp [-getElem?_pos, List.getElem?_cons_zero, List.getElem?_cons_succ, ga41, gb41, gn41, gf41, gg41_0, gl41]⟩
   ·skip
    generalize w44 = out_49 at *
    rintro ex V ⟨rfl, rfl⟩
    try dsimp only at h
    refine Wc.en (by conv => lhs; simp) ?_
    refine Wc.start ?_ (hk _ (Option.some.inj h).symm)
    first | rfl | simp
  ·rw [if_neg kc39] at h
   refine Wc.condF' (by conv => lhs; simp) (by simpa using kc39) ?_
   refine Wc.sk (by conv => lhs; simp) ?_
   apply Wc.exit
   have e0 := hx _ (Option.some.inj h).symm
   subst e0
   exact ⟨rfl, by first | rfl | simp⟩
theorem r167_1 {q : Query} {k : Int} {o9 : (List Int)} {n_12 : Int} : ∀ zs zo, iter (f167_1 q k o9) zs = some zo → Wc cx 96 (.loop L167_1) [(2, .v (.int .i64 k)), (4, .v (.ptr true [(.int .i64 q.VariableCount), (ssl eAtom q.Atoms), (ssl eI q.Free)])), (7, .v (osl eI true zs.1)), (8, .v (osl eI true o9)), (9, .v (.int .i64 n_12)), (10, .v (.int .i64 zs.2))] ((QX 2 (fun (y : (List Int)) => [(2, .v (.int .i64 k)), (4, .v (.ptr true [(.int .i64 q.VariableCount), (ssl eAtom q.Atoms), (ssl eI q.Free)])), (7, .v (osl eI true y)), (8, .v (osl eI true o9)), (9, .v (.int .i64 n_12))])) zo) := by
 refine iter_all ?_
 rintro ⟨out_14, i_15⟩ zo zr h hk hx
 try dsimp only at hk ⊢
 rw [f167_1] at h
 apply Wc.loop
 apply Wc.seq
 refine Wc.se (by conv => lhs; simp) ?_
 by_cases kc16 : i_15 < (q.Atoms.length : Int)
 ·rw [if_pos kc16] at h
  refine Wc.condT' (by conv => lhs; simp) (by simpa using kc16) ?_
  refine Wc.sk (by conv => lhs; simp) ?_
  apply Wc.skip
  apply Wc.seq
  apply Wc.block
  apply Wc.seq
  obtain ⟨v_17, h18, h⟩ := bind_some h
  obtain ⟨ga18, gb18, gc18⟩ := ix_some h18
  have gn18 := ix_ne h18
  have gd18 := arr_at (E := eAtom) (b := false) gc18
  simp at gd18
  refine Wc.evs (by conv => lhs; simp [ga18, gb18, gn18, gd18]) ?_
  obtain ⟨o19, h20, h⟩ := bind_some h
  refine Wo.cl rfl (by (conv => lhs; simp [ga18, gb18, gn18, gd18]) <;> rfl) (r113 h20) (by simp) (by (conv => lhs; simp [ga18, gb18, gn18, gd18]) <;> rfl) (by (conv => lhs; simp [ga18, gb18, gn18, gd18]) <;> rfl) ?_
  refine Wo.en (by conv => lhs; simp [ga18, gb18, gn18, gd18]) ?_
  refine Wc.se (by conv => lhs; simp) ?_
  apply Wc.seq
  refine Wc.se (by conv => lhs; simp) ?_
  apply Wc.block
  obtain ⟨w31, h32, h⟩ := bind_some h
  refine Wc.start (V1 := [(2, .v (.int .i64 k)), (4, .v (.ptr true [(.int .i64 q.VariableCount), (ssl eAtom q.Atoms), (ssl eI q.Free)])), (7, .v (osl eI true out_14)), (8, .v (osl eI true o9)), (9, .v (.int .i64 n_12)), (10, .v (.int .i64 i_15)), (11, .v (osl eI true o19)), (12, .v (.bool (decide (i_15 = k)))), (13, .v (.int .i64 0))]) (by first | rfl | simp) ?_
  refine Wc.mono (r167_2 _ _ h32) ?_
  generalize w31 = met_33 at *
  rintro ex V ⟨rfl, rfl⟩
  try dsimp only at h
  refine Wc.se (by conv => lhs; simp) ?_
  apply Wc.block
  obtain ⟨w50, h51, h⟩ := bind_some h
  refine Wc.start (V1 := [(2, .v (.int .i64 k)), (4, .v (.ptr true [(.int .i64 q.VariableCount), (ssl eAtom q.Atoms), (ssl eI q.Free)])), (7, .v (osl eI true out_14)), (8, .v (osl eI true o9)), (9, .v (.int .i64 n_12)), (10, .v (.int .i64 i_15)), (11, .v (osl eI true o19)), (12, .v (.bool met_33)), (14, .v (.int .i64 0))]) (by first | rfl | simp) ?_
  refine Wc.mono (r167_3 _ _ h51) ?_
  generalize w50 = out_52 at *
  rintro ex V ⟨rfl, rfl⟩
  try dsimp only at h
  refine Wc.en (by conv => lhs; simp) ?_
  refine Wc.start ?_ (hk _ (Option.some.inj h).symm)
  first | rfl | simp
 ·rw [if_neg kc16] at h
  refine Wc.condF' (by conv => lhs; simp) (by simpa using kc16) ?_
  refine Wc.sk (by conv => lhs; simp) ?_
  apply Wc.exit
  have e0 := hx _ (Option.some.inj h).symm
  subst e0
  exact ⟨rfl, by first | rfl | simp⟩
theorem r167_0 {q : Query} {k : Int} {o9 : (List Int)} : ∀ zs zo, iter (f167_0 q k o9) zs = some zo → Wc cx 96 (.loop L167_0) [(2, .v (.int .i64 k)), (4, .v (.ptr true [(.int .i64 q.VariableCount), (ssl eAtom q.Atoms), (ssl eI q.Free)])), (7, .v (osl eI true zs.1)), (8, .v (osl eI true o9)), (9, .v (.int .i64 zs.2))] ((QX 0 (fun (y : (List Int)) => [(7, .v (osl eI true y))])) zo) := by
 refine iter_all ?_
 rintro ⟨out_11, n_12⟩ zo zr h hk hx
 try dsimp only at hk ⊢
 rw [f167_0] at h
 apply Wc.loop
 apply Wc.seq
 refine Wc.se (by conv => lhs; simp) ?_
 by_cases kc13 : n_12 ≤ (q.Atoms.length : Int)
 ·rw [if_pos kc13] at h
  refine Wc.condT' (by conv => lhs; simp) (by simpa using kc13) ?_
  refine Wc.sk (by conv => lhs; simp) ?_
  apply Wc.skip
  apply Wc.seq
  apply Wc.block
  refine Wc.se (by conv => lhs; simp) ?_
  apply Wc.block
  obtain ⟨w53, h54, h⟩ := bind_some h
  refine Wc.start (V1 := [(2, .v (.int .i64 k)), (4, .v (.ptr true [(.int .i64 q.VariableCount), (ssl eAtom q.Atoms), (ssl eI q.Free)])), (7, .v (osl eI true out_11)), (8, .v (osl eI true o9)), (9, .v (.int .i64 n_12)), (10, .v (.int .i64 0))]) (by first | rfl | simp) ?_
  refine Wc.mono (r167_1 _ _ h54) ?_
  generalize w53 = out_55 at *
  rintro ex V ⟨rfl, rfl⟩
  try dsimp only at h
  refine Wc.en (by conv => lhs; simp) ?_
  refine Wc.start ?_ (hk _ (Option.some.inj h).symm)
  first | rfl | simp
 ·rw [if_neg kc13] at h
  refine Wc.condF' (by conv => lhs; simp) (by simpa using kc13) ?_
  refine Wc.sk (by conv => lhs; simp) ?_
  apply Wc.exit
  have e0 := hx _ (Option.some.inj h).symm
  subst e0
  exact ⟨rfl, by first | rfl | simp⟩
theorem r167 {l : (List Relation)} {q : Query} {k : Int} {r : (List Int)} (h : f167 l q k = some r) : VJx cx (.ca 167 [(ssl eRelation l), (.agg [(.int .i64 q.VariableCount), (ssl eAtom q.Atoms), (ssl eI q.Free)]), (.int .i64 k)] (osl eI true r) []) := by
 unfold f167 at h
 refine ca_of rfl rfl (by decide) rfl ?_
 refine Wc.start (by conv => lhs; simp) ?_
 refine Wc.se (by conv => lhs; simp) ?_
 apply Wc.seq
 refine Wc.evs (by conv => lhs; simp) ?_
 refine Wo.gh (vle_co (s := 7) (t1 := (osl eI true ([]))) rfl (by simp) (TLe.own (show TLes _ [] from (TLes.refl _)) rfl) (by conv => lhs; simp)) ?_
 apply Wo.nil
 apply Wc.seq
 apply Wc.seq
 refine Wc.evs (by conv => lhs; simp) ?_
 obtain ⟨o1, h2, h⟩ := bind_some h
 refine Wo.cl rfl (by (conv => lhs; simp) <;> rfl) (r124 h2) (by simp) (by (conv => lhs; simp) <;> rfl) (by (conv => lhs; simp) <;> rfl) ?_
 refine Wo.evk 2 (by conv => lhs; simp) ?_
 obtain ⟨w4, h5, h⟩ := bind_some h
 refine Wo.mono (Q := fun V => V = [(0, .v (ssl eRelation l)), (2, .v (.int .i64 k)), (4, .v (.ptr true [(.int .i64 q.VariableCount), (ssl eAtom q.Atoms), (ssl eI q.Free)])), (7, .v (osl eI true ([]))), (28, .v (.bool w4))]) ?_ ?_
 ·by_cases knh5 : ¬ (o1 = true)
  ·rw [if_pos knh5] at h5
   refine Wo.gh (vle_co (s := 20) (t1 := .bool true) rfl (by simp) (tle_bool (by simpa using knh5)) (by conv => lhs; simp)) ?_
   refine Wo.en (by conv => lhs; simp) ?_
   cases h5
   first | rfl | simp
  ·rw [if_neg knh5] at h5
   refine Wo.gh (vle_co (s := 20) (t1 := .bool false) rfl (by simp) (tle_bool (by simpa using knh5)) (by conv => lhs; simp)) ?_
   refine Wo.evs (by conv => lhs; simp) ?_
   obtain ⟨o6, h7, h5⟩ := bind_some h5
   refine Wo.call (by simp) rfl (by (conv => lhs; simp) <;> rfl) (r71 h7) (by simp) (by simp) (by (conv => lhs; simp) <;> rfl) (by (conv => lhs; simp) <;> rfl) ?_
   refine Wo.en (by conv => lhs; simp) ?_
   cases h5
   first | rfl | simp
 ·rintro V rfl
  generalize w4 = x_3 at *
  try dsimp only at h
  by_cases kc8 : x_3 = true
  ·rw [if_pos kc8] at h
   refine Wc.condT' (by conv => lhs; simp) (by simpa using kc8) ?_
   refine Wc.sk (by conv => lhs; simp) ?_
   refine Wc.se (by conv => lhs; simp) ?_
   refine Wc.ret (res_of (.inr rfl) ?_)
   cases h
   exact ⟨_, _, _, by conv => lhs; simp, by (conv => lhs; simp) <;> rfl, by first | rfl | simp⟩
  ·rw [if_neg kc8] at h
   refine Wc.condF' (by conv => lhs; simp) (by simpa using kc8) ?_
   refine Wc.sk (by conv => lhs; simp) ?_
   apply Wc.skip
   apply Wc.seq
   refine Wc.evs (by conv => lhs; simp) ?_
   obtain ⟨o9, h10, h⟩ := bind_some h
   refine Wo.cl rfl (by (conv => lhs; simp) <;> rfl) (r187 h10) (by simp) (by (conv => lhs; simp) <;> rfl) (by (conv => lhs; simp) <;> rfl) ?_
   refine Wo.en (by conv => lhs; simp) ?_
   apply Wc.seq
   refine Wc.se (by conv => lhs; simp) ?_
   apply Wc.block
   obtain ⟨w56, h57, h⟩ := bind_some h
   refine Wc.start (V1 := [(2, .v (.int .i64 k)), (4, .v (.ptr true [(.int .i64 q.VariableCount), (ssl eAtom q.Atoms), (ssl eI q.Free)])), (7, .v (osl eI true ([]))), (8, .v (osl eI true o9)), (9, .v (.int .i64 0))]) (by first | rfl | simp) ?_
   refine Wc.mono (r167_0 _ _ h57) ?_
   generalize w56 = out_58 at *
   rintro ex V ⟨rfl, rfl⟩
   try dsimp only at h
   refine Wc.se (by conv => lhs; simp) ?_
   refine Wc.ret (res_of (.inr rfl) ?_)
   cases h
   exact ⟨_, _, _, by conv => lhs; simp, by (conv => lhs; simp) <;> rfl, by first | rfl | simp⟩
theorem r125_0 {o17 : (List Int)} {o21 : (List Int)} : ∀ zs zo, iter (f125_0 o17 o21) zs = some zo → Wc cx 61 (.loop L125_0) [(9, .v (osl eI true o17)), (10, .v (osl eI true o21)), (11, .v (.int .i64 zs))] ((QO (QX 0 (fun (y : Unit) => [])) (QR (fun (y : Bool) => [(8, .v (.bool y))]))) zo) := by
 refine iter_all ?_
 rintro j_23 zo zr h hk hx
 try dsimp only at hk ⊢
 rw [f125_0] at h
 apply Wc.loop
 apply Wc.seq
 refine Wc.se (by conv => lhs; simp) ?_
 by_cases kc24 : j_23 < (o21.length : Int)
 ·rw [if_pos kc24] at h
  refine Wc.condT' (by conv => lhs; simp) (by simpa using kc24) ?_
  refine Wc.sk (by conv => lhs; simp) ?_
  apply Wc.skip
  apply Wc.seq
  apply Wc.block
  apply Wc.seq
  obtain ⟨v_25, h26, h⟩ := bind_some h
  obtain ⟨ga26, gb26, gc26⟩ := ix_some h26
  have gn26 := ix_ne h26
  have gf26 := arr_fit (E := eI) (b := true) (i := j_23.toNat) (l := o21) (by omega)
  have gg26_0 := arr_get (E := eI) (b := true) (o := 0) gc26 (by decide)
  simp at gf26 gg26_0
  have gl26 : j_23.toNat < o21.length := by omega
  refine Wc.evs (by conv => lhs; simp [-getElem?_pos, List.getElem?_cons_zero, List.getElem?_cons_succ, ga26, gb26, gn26, gf26, gg26_0, gl26]) ?_
  obtain ⟨o27, h28, h⟩ := bind_some h
  refine Wo.cl rfl (by (conv => lhs; simp [-getElem?_pos, List.getElem?_cons_zero, List.getElem?_cons_succ, ga26, gb26, gn26, gf26, gg26_0, gl26]) <;> rfl) (r98 h28) (by simp) (by (conv => lhs; simp [-getElem?_pos, List.getElem?_cons_zero, List.getElem?_cons_succ, ga26, gb26, gn26, gf26, gg26_0, gl26]) <;> rfl) (by (conv => lhs; simp [-getElem?_pos, List.getElem?_cons_zero, List.getElem?_cons_succ, ga26, gb26, gn26, gf26, gg26_0, gl26]) <;> rfl) ?_
  apply Wo.nil
  by_cases kc29 : o27 = true
  ·rw [if_pos kc29] at h
   refine Wc.condT' (by conv => lhs; simp) (by simpa using kc29) ?_
   refine Wc.sk (by conv => lhs; simp) ?_
   refine Wc.se (by conv => lhs; simp) ?_
   refine Wc.ret ?_
   have e0 := hx _ (Option.some.inj h).symm
   subst e0
   exact ⟨rfl, by first | rfl | simp⟩
  ·rw [if_neg kc29] at h
   refine Wc.condF' (by conv => lhs; simp) (by simpa using kc29) ?_
   refine Wc.sk (by conv => lhs; simp) ?_
   apply Wc.skip
   refine Wc.en (by conv => lhs; simp) ?_
   refine Wc.start ?_ (hk _ (Option.some.inj h).symm)
   first | rfl | simp
 ·rw [if_neg kc24] at h
  refine Wc.condF' (by conv => lhs; simp) (by simpa using kc24) ?_
  refine Wc.sk (by conv => lhs; simp) ?_
  apply Wc.exit
  have e0 := hx _ (Option.some.inj h).symm
  subst e0
  exact ⟨rfl, by first | rfl | simp⟩
theorem r125 {l : (List Relation)} {q : Query} {i : Int} {k : Int} {r : Bool} (h : f125 l q i k = some r) : VJx cx (.ca 125 [(ssl eRelation l), (.agg [(.int .i64 q.VariableCount), (ssl eAtom q.Atoms), (ssl eI q.Free)]), (.int .i64 i), (.int .i64 k)] (.bool r) []) := by
 unfold f125 at h
 refine ca_of rfl rfl (by decide) rfl ?_
 refine Wc.start (by conv => lhs; simp) ?_
 refine Wc.se (by conv => lhs; simp) ?_
 apply Wc.seq
 apply Wc.seq
 refine Wc.evs (by conv => lhs; simp) ?_
 obtain ⟨o1, h2, h⟩ := bind_some h
 refine Wo.cl rfl (by (conv => lhs; simp) <;> rfl) (r124 h2) (by simp) (by (conv => lhs; simp) <;> rfl) (by (conv => lhs; simp) <;> rfl) ?_
 refine Wo.evk 2 (by conv => lhs; simp) ?_
 obtain ⟨w4, h5, h⟩ := bind_some h
 refine Wo.mono (Q := fun V => V = [(0, .v (ssl eRelation l)), (2, .v (.int .i64 i)), (3, .v (.int .i64 k)), (5, .v (.ptr true [(.int .i64 q.VariableCount), (ssl eAtom q.Atoms), (ssl eI q.Free)])), (38, .v (.bool w4))]) ?_ ?_
 ·by_cases knh5 : ¬ (o1 = true)
  ·rw [if_pos knh5] at h5
   refine Wo.gh (vle_co (s := 16) (t1 := .bool true) rfl (by simp) (tle_bool (by simpa using knh5)) (by conv => lhs; simp)) ?_
   refine Wo.en (by conv => lhs; simp) ?_
   cases h5
   first | rfl | simp
  ·rw [if_neg knh5] at h5
   refine Wo.gh (vle_co (s := 16) (t1 := .bool false) rfl (by simp) (tle_bool (by simpa using knh5)) (by conv => lhs; simp)) ?_
   refine Wo.evs (by conv => lhs; simp) ?_
   obtain ⟨o6, h7, h5⟩ := bind_some h5
   refine Wo.call (by simp) rfl (by (conv => lhs; simp) <;> rfl) (r71 h7) (by simp) (by simp) (by (conv => lhs; simp) <;> rfl) (by (conv => lhs; simp) <;> rfl) ?_
   refine Wo.evk 3 (by conv => lhs; simp) ?_
   obtain ⟨w9, h10, h5⟩ := bind_some h5
   refine Wo.mono (Q := fun V => V = [(0, .v (ssl eRelation l)), (2, .v (.int .i64 i)), (3, .v (.int .i64 k)), (5, .v (.ptr true [(.int .i64 q.VariableCount), (ssl eAtom q.Atoms), (ssl eI q.Free)])), (38, .v (.bool w9))]) ?_ ?_
   ·by_cases knh10 : ¬ (o6 = true)
    ·rw [if_pos knh10] at h10
     refine Wo.gh (vle_co (s := 25) (t1 := .bool true) rfl (by simp) (tle_bool (by simpa using knh10)) (by conv => lhs; simp)) ?_
     refine Wo.en (by conv => lhs; simp) ?_
     cases h10
     first | rfl | simp
    ·rw [if_neg knh10] at h10
     refine Wo.gh (vle_co (s := 25) (t1 := .bool false) rfl (by simp) (tle_bool (by simpa using knh10)) (by conv => lhs; simp)) ?_
     refine Wo.evs (by conv => lhs; simp) ?_
     obtain ⟨o11, h12, h10⟩ := bind_some h10
     refine Wo.call (by simp) rfl (by (conv => lhs; simp) <;> rfl) (r71 h12) (by simp) (by simp) (by (conv => lhs; simp) <;> rfl) (by (conv => lhs; simp) <;> rfl) ?_
     refine Wo.evk 3 (by conv => lhs; simp) ?_
     obtain ⟨w14, h15, h10⟩ := bind_some h10
     refine Wo.mono (Q := fun V => V = [(0, .v (ssl eRelation l)), (2, .v (.int .i64 i)), (3, .v (.int .i64 k)), (5, .v (.ptr true [(.int .i64 q.VariableCount), (ssl eAtom q.Atoms), (ssl eI q.Free)])), (38, .v (.bool w14))]) ?_ ?_
     ·by_cases knh15 : ¬ (o11 = true)
      ·rw [if_pos knh15] at h15
       refine Wo.gh (vle_co (s := 34) (t1 := .bool true) rfl (by simp) (tle_bool (by simpa using knh15)) (by conv => lhs; simp)) ?_
       refine Wo.en (by conv => lhs; simp) ?_
       cases h15
       first | rfl | simp
      ·rw [if_neg knh15] at h15
       refine Wo.gh (vle_co (s := 34) (t1 := .bool false) rfl (by simp) (tle_bool (by simpa using knh15)) (by conv => lhs; simp)) ?_
       refine Wo.en (by conv => lhs; simp) ?_
       cases h15
       first | rfl | simp
     ·rintro V rfl
      generalize w14 = x_13 at *
      try dsimp only at h10
      cases h10
      first | rfl | simp
   ·rintro V rfl
    generalize w9 = x_8 at *
    try dsimp only at h5
    cases h5
    first | rfl | simp
 ·rintro V rfl
  generalize w4 = x_3 at *
  try dsimp only at h
  by_cases kc16 : x_3 = true
  ·rw [if_pos kc16] at h
   refine Wc.condT' (by conv => lhs; simp) (by simpa using kc16) ?_
   refine Wc.sk (by conv => lhs; simp) ?_
   refine Wc.se (by conv => lhs; simp) ?_
   refine Wc.ret (res_of (.inr rfl) ?_)
   cases h
   exact ⟨_, _, _, by conv => lhs; simp, by (conv => lhs; simp) <;> rfl, by first | rfl | simp⟩
  ·rw [if_neg kc16] at h
   refine Wc.condF' (by conv => lhs; simp) (by simpa using kc16) ?_
   refine Wc.sk (by conv => lhs; simp) ?_
   apply Wc.skip
   apply Wc.seq
   refine Wc.evs (by conv => lhs; simp) ?_
   obtain ⟨o17, h18, h⟩ := bind_some h
   refine Wo.cl rfl (by (conv => lhs; simp) <;> rfl) (r167 h18) (by simp) (by (conv => lhs; simp) <;> rfl) (by (conv => lhs; simp) <;> rfl) ?_
   refine Wo.en (by conv => lhs; simp) ?_
   apply Wc.seq
   obtain ⟨v_19, h20, h⟩ := bind_some h
   obtain ⟨ga20, gb20, gc20⟩ := ix_some h20
   have gn20 := ix_ne h20
   have gd20 := arr_at (E := eAtom) (b := false) gc20
   simp at gd20
   refine Wc.evs (by conv => lhs; simp [ga20, gb20, gn20, gd20]) ?_
   obtain ⟨o21, h22, h⟩ := bind_some h
   refine Wo.cl rfl (by (conv => lhs; simp [ga20, gb20, gn20, gd20]) <;> rfl) (r113 h22) (by simp) (by (conv => lhs; simp [ga20, gb20, gn20, gd20]) <;> rfl) (by (conv => lhs; simp [ga20, gb20, gn20, gd20]) <;> rfl) ?_
   refine Wo.en (by conv => lhs; simp [ga20, gb20, gn20, gd20]) ?_
   apply Wc.seq
   refine Wc.se (by conv => lhs; simp) ?_
   apply Wc.block
   obtain ⟨w30, h31, h⟩ := bind_some h
   refine Wc.start (V1 := [(9, .v (osl eI true o17)), (10, .v (osl eI true o21)), (11, .v (.int .i64 0))]) (by first | rfl | simp) ?_
   refine Wc.mono (r125_0 _ _ h31) ?_
   rcases w30 with ⟨⟩ | x_32
   ·rintro ex V ⟨rfl, rfl⟩
    try dsimp only at h
    refine Wc.se (by conv => lhs; simp) ?_
    refine Wc.ret (res_of (.inr rfl) ?_)
    cases h
    exact ⟨_, _, _, by conv => lhs; simp, by (conv => lhs; simp) <;> rfl, by first | rfl | simp⟩
   ·rintro ex V ⟨rfl, rfl⟩
    try dsimp only at h
    refine res_of (.inr rfl) ?_
    cases h
    exact ⟨_, _, _, by conv => lhs; simp, by (conv => lhs; simp) <;> rfl, by first | rfl | simp⟩
theorem r171 {l : (List Relation)} {q : Query} {from2 : (List Int)} {to : (List Int)} {r : Bool} (h : f171 l q from2 to = some r) : VJx cx (.ca 171 [(ssl eRelation l), (.agg [(.int .i64 q.VariableCount), (ssl eAtom q.Atoms), (ssl eI q.Free)]), (ssl eI from2), (ssl eI to)] (.bool r) []) := by
 unfold f171 at h
 refine ca_of rfl rfl (by decide) rfl ?_
 refine Wc.start (by conv => lhs; simp) ?_
 refine Wc.se (by conv => lhs; simp) ?_
 apply Wc.seq
 refine Wc.evs (by conv => lhs; simp) ?_
 obtain ⟨o1, h2, h⟩ := bind_some h
 refine Wo.cl rfl (by (conv => lhs; simp) <;> rfl) (r124 h2) (by simp) (by (conv => lhs; simp) <;> rfl) (by (conv => lhs; simp) <;> rfl) ?_
 refine Wo.evk 1 (by conv => lhs; simp) ?_
 obtain ⟨w4, h5, h⟩ := bind_some h
 refine Wo.mono (Q := fun V => V = [(8, .v (.bool w4))]) ?_ ?_
 ·by_cases knh5 : o1 = true
  ·rw [if_pos knh5] at h5
   refine Wo.gh (vle_co (s := 12) (t1 := .bool true) rfl (by simp) (tle_bool (by simpa using knh5)) (by conv => lhs; simp)) ?_
   refine Wo.evs (by conv => lhs; simp) ?_
   obtain ⟨o6, h7, h5⟩ := bind_some h5
   refine Wo.call (by simp) rfl (by (conv => lhs; simp) <;> rfl) (r191 h7) (by simp) (by simp) (by (conv => lhs; simp) <;> rfl) (by (conv => lhs; simp) <;> rfl) ?_
   refine Wo.evs (by conv => lhs; simp) ?_
   obtain ⟨o8, h9, h5⟩ := bind_some h5
   refine Wo.call (by simp) rfl (by (conv => lhs; simp) <;> rfl) (r111 h9) (by simp) (by simp) (by (conv => lhs; simp) <;> rfl) (by (conv => lhs; simp) <;> rfl) ?_
   refine Wo.en (by conv => lhs; simp) ?_
   cases h5
   first | rfl | simp
  ·rw [if_neg knh5] at h5
   refine Wo.gh (vle_co (s := 12) (t1 := .bool false) rfl (by simp) (tle_bool (by simpa using knh5)) (by conv => lhs; simp)) ?_
   refine Wo.en (by conv => lhs; simp) ?_
   cases h5
   first | rfl | simp
 ·rintro V rfl
  generalize w4 = x_3 at *
  try dsimp only at h
  refine Wc.ret (res_of (.inr rfl) ?_)
  cases h
  exact ⟨_, _, _, by conv => lhs; simp, by (conv => lhs; simp) <;> rfl, by first | rfl | simp⟩
theorem r130 {l : (List Relation)} {q : Query} {i : Int} {k : Int} {r : Bool} (h : f130 l q i k = some r) : VJx cx (.ca 130 [(ssl eRelation l), (.agg [(.int .i64 q.VariableCount), (ssl eAtom q.Atoms), (ssl eI q.Free)]), (.int .i64 i), (.int .i64 k)] (.bool r) []) := by
 unfold f130 at h
 refine ca_of rfl rfl (by decide) rfl ?_
 refine Wc.start (by conv => lhs; simp) ?_
 refine Wc.se (by conv => lhs; simp) ?_
 apply Wc.seq
 refine Wc.evs (by conv => lhs; simp) ?_
 obtain ⟨o1, h2, h⟩ := bind_some h
 refine Wo.cl rfl (by (conv => lhs; simp) <;> rfl) (r125 h2) (by simp) (by (conv => lhs; simp) <;> rfl) (by (conv => lhs; simp) <;> rfl) ?_
 refine Wo.evk 1 (by conv => lhs; simp) ?_
 obtain ⟨w4, h5, h⟩ := bind_some h
 refine Wo.mono (Q := fun V => V = [(8, .v (.bool w4))]) ?_ ?_
 ·by_cases knh5 : o1 = true
  ·rw [if_pos knh5] at h5
   refine Wo.gh (vle_co (s := 14) (t1 := .bool true) rfl (by simp) (tle_bool (by simpa using knh5)) (by conv => lhs; simp)) ?_
   obtain ⟨v_6, h7, h5⟩ := bind_some h5
   obtain ⟨ga7, gb7, gc7⟩ := ix_some h7
   have gn7 := ix_ne h7
   have gd7 := arr_at (E := eAtom) (b := false) gc7
   simp at gd7
   obtain ⟨v_8, h9, h5⟩ := bind_some h5
   obtain ⟨ga9, gb9, gc9⟩ := ix_some h9
   have gn9 := ix_ne h9
   have gd9 := arr_at (E := eAtom) (b := false) gc9
   simp at gd9
   refine Wo.evs (by conv => lhs; simp [ga7, gb7, gn7, gd7, ga9, gb9, gn9, gd9]) ?_
   obtain ⟨o10, h11, h5⟩ := bind_some h5
   refine Wo.call (by simp [ga7, gb7, gn7, gd7, ga9, gb9, gn9, gd9]) rfl (by (conv => lhs; simp [ga7, gb7, gn7, gd7, ga9, gb9, gn9, gd9]) <;> rfl) (r112 h11) (by simp) (by simp) (by (conv => lhs; simp [ga7, gb7, gn7, gd7, ga9, gb9, gn9, gd9]) <;> rfl) (by (conv => lhs; simp [ga7, gb7, gn7, gd7, ga9, gb9, gn9, gd9]) <;> rfl) ?_
   obtain ⟨o12, h13, h5⟩ := bind_some h5
   refine Wo.call (by simp [ga7, gb7, gn7, gd7, ga9, gb9, gn9, gd9]) rfl (by (conv => lhs; simp [ga7, gb7, gn7, gd7, ga9, gb9, gn9, gd9]) <;> rfl) (r112 h13) (by simp) (by simp) (by (conv => lhs; simp [ga7, gb7, gn7, gd7, ga9, gb9, gn9, gd9]) <;> rfl) (by (conv => lhs; simp [ga7, gb7, gn7, gd7, ga9, gb9, gn9, gd9]) <;> rfl) ?_
   obtain ⟨o14, h15, h5⟩ := bind_some h5
   refine Wo.call (by simp [ga7, gb7, gn7, gd7, ga9, gb9, gn9, gd9]) rfl (by (conv => lhs; simp [ga7, gb7, gn7, gd7, ga9, gb9, gn9, gd9]) <;> rfl) (r171 h15) (by simp) (by simp) (by (conv => lhs; simp [ga7, gb7, gn7, gd7, ga9, gb9, gn9, gd9]) <;> rfl) (by (conv => lhs; simp [ga7, gb7, gn7, gd7, ga9, gb9, gn9, gd9]) <;> rfl) ?_
   refine Wo.en (by conv => lhs; simp [ga7, gb7, gn7, gd7, ga9, gb9, gn9, gd9]) ?_
   cases h5
   first | rfl | simp [ga7, gb7, gn7, gd7, ga9, gb9, gn9, gd9]
  ·rw [if_neg knh5] at h5
   refine Wo.gh (vle_co (s := 14) (t1 := .bool false) rfl (by simp) (tle_bool (by simpa using knh5)) (by conv => lhs; simp)) ?_
   refine Wo.en (by conv => lhs; simp) ?_
   cases h5
   first | rfl | simp
 ·rintro V rfl
  generalize w4 = x_3 at *
  try dsimp only at h
  refine Wc.ret (res_of (.inr rfl) ?_)
  cases h
  exact ⟨_, _, _, by conv => lhs; simp, by (conv => lhs; simp) <;> rfl, by first | rfl | simp⟩
theorem r56_2 {l : (List Relation)} {q : Query} {i : Int} {k : Int} {n_17 : Int} {a_20 : Int} : ∀ zs zo, iter (f56_2 l q i a_20) zs = some zo → Wc cx 83 (.loop L56_2) [(0, .v (ssl eRelation l)), (2, .v (.int .i64 i)), (3, .v (.int .i64 k)), (5, .v (.ptr true [(.int .i64 q.VariableCount), (ssl eAtom q.Atoms), (ssl eI q.Free)])), (9, .v (osl eB true zs.1)), (10, .v (.int .i64 n_17)), (11, .v (.int .i64 a_20)), (12, .v (.int .i64 zs.2))] ((QX 4 (fun (y : (List Bool)) => [(0, .v (ssl eRelation l)), (2, .v (.int .i64 i)), (3, .v (.int .i64 k)), (5, .v (.ptr true [(.int .i64 q.VariableCount), (ssl eAtom q.Atoms), (ssl eI q.Free)])), (9, .v (osl eB true y)), (10, .v (.int .i64 n_17)), (11, .v (.int .i64 a_20))])) zo) := by
 refine iter_all ?_
 rintro ⟨met_22, b_23⟩ zo zr h hk hx
 try dsimp only at hk ⊢
 rw [f56_2] at h
 apply Wc.loop
 apply Wc.seq
 refine Wc.se (by conv => lhs; simp) ?_
 by_cases kc24 : b_23 < (q.Atoms.length : Int)
 ·rw [if_pos kc24] at h
  refine Wc.condT' (by conv => lhs; simp) (by simpa using kc24) ?_
  refine Wc.sk (by conv => lhs; simp) ?_
  apply Wc.skip
  apply Wc.seq
  apply Wc.block
  apply Wc.seq
  refine Wc.evk 4 (by conv => lhs; simp) ?_
  obtain ⟨w26, h27, h⟩ := bind_some h
  refine Wo.mono (Q := fun V => V = [(0, .v (ssl eRelation l)), (2, .v (.int .i64 i)), (3, .v (.int .i64 k)), (5, .v (.ptr true [(.int .i64 q.VariableCount), (ssl eAtom q.Atoms), (ssl eI q.Free)])), (9, .v (osl eB true met_22)), (10, .v (.int .i64 n_17)), (11, .v (.int .i64 a_20)), (12, .v (.int .i64 b_23)), (75, .v (.bool w26))]) ?_ ?_
  ·by_cases knh27 : a_20 = i
   ·rw [if_pos knh27] at h27
    refine Wo.gh (vle_co (s := 63) (t1 := .bool true) rfl (by simp) (tle_bool (by simpa using knh27)) (by conv => lhs; simp)) ?_
    refine Wo.evs (by conv => lhs; simp) ?_
    obtain ⟨o28, h29, h27⟩ := bind_some h27
    refine Wo.call (by simp) rfl (by (conv => lhs; simp) <;> rfl) (r125 h29) (by simp) (by simp) (by (conv => lhs; simp) <;> rfl) (by (conv => lhs; simp) <;> rfl) ?_
    refine Wo.en (by conv => lhs; simp) ?_
    cases h27
    first | rfl | simp
   ·rw [if_neg knh27] at h27
    refine Wo.gh (vle_co (s := 63) (t1 := .bool false) rfl (by simp) (tle_bool (by simpa using knh27)) (by conv => lhs; simp)) ?_
    obtain ⟨v_30, h31, h27⟩ := bind_some h27
    obtain ⟨ga31, gb31, gc31⟩ := ix_some h31
    have gn31 := ix_ne h31
    have gf31 := arr_fit (E := eB) (b := true) (i := a_20.toNat) (l := met_22) (by omega)
    have gg31_0 := arr_get (E := eB) (b := true) (o := 0) gc31 (by decide)
    simp at gf31 gg31_0
    have gl31 : a_20.toNat < met_22.length := by omega
    refine Wo.evk 6 (by conv => lhs; simp [-getElem?_pos, List.getElem?_cons_zero, List.getElem?_cons_succ, ga31, gb31, gn31, gf31, gg31_0, gl31]) ?_
    obtain ⟨w33, h34, h27⟩ := bind_some h27
    refine Wo.mono (Q := fun V => V = [(0, .v (ssl eRelation l)), (2, .v (.int .i64 i)), (3, .v (.int .i64 k)), (5, .v (.ptr true [(.int .i64 q.VariableCount), (ssl eAtom q.Atoms), (ssl eI q.Free)])), (9, .v (osl eB true met_22)), (10, .v (.int .i64 n_17)), (11, .v (.int .i64 a_20)), (12, .v (.int .i64 b_23)), (75, .v (.bool w33))]) ?_ ?_
    ·by_cases knh34 : v_30 = true
     ·rw [if_pos knh34] at h34
      refine Wo.gh (vle_co (s := 69) (t1 := .bool true) rfl (by simp) (tle_bool (by simpa using knh34)) (by conv => lhs; simp)) ?_
      refine Wo.evs (by conv => lhs; simp [-getElem?_pos, List.getElem?_cons_zero, List.getElem?_cons_succ, ga31, gb31, gn31, gf31, gg31_0, gl31]) ?_
      obtain ⟨o35, h36, h34⟩ := bind_some h34
      refine Wo.call (by simp [-getElem?_pos, List.getElem?_cons_zero, List.getElem?_cons_succ, ga31, gb31, gn31, gf31, gg31_0, gl31]) rfl (by (conv => lhs; simp [-getElem?_pos, List.getElem?_cons_zero, List.getElem?_cons_succ, ga31, gb31, gn31, gf31, gg31_0, gl31]) <;> rfl) (r125 h36) (by simp) (by simp) (by (conv => lhs; simp [-getElem?_pos, List.getElem?_cons_zero, List.getElem?_cons_succ, ga31, gb31, gn31, gf31, gg31_0, gl31]) <;> rfl) (by (conv => lhs; simp [-getElem?_pos, List.getElem?_cons_zero, List.getElem?_cons_succ, ga31, gb31, gn31, gf31, gg31_0, gl31]) <;> rfl) ?_
      refine Wo.en (by conv => lhs; simp [-getElem?_pos, List.getElem?_cons_zero, List.getElem?_cons_succ, ga31, gb31, gn31, gf31, gg31_0, gl31]) ?_
      cases h34
      first | rfl | simp [-getElem?_pos, List.getElem?_cons_zero, List.getElem?_cons_succ, ga31, gb31, gn31, gf31, gg31_0, gl31]
     ·rw [if_neg knh34] at h34
      refine Wo.gh (vle_co (s := 69) (t1 := .bool false) rfl (by simp) (tle_bool (by simpa using knh34)) (by conv => lhs; simp)) ?_
      refine Wo.en (by conv => lhs; simp [-getElem?_pos, List.getElem?_cons_zero, List.getElem?_cons_succ, ga31, gb31, gn31, gf31, gg31_0, gl31]) ?_
      cases h34
      first | rfl | simp [-getElem?_pos, List.getElem?_cons_zero, List.getElem?_cons_succ, ga31, gb31, gn31, gf31, gg31_0, gl31]
    ·rintro V rfl
     generalize w33 = x_32 at *
     try dsimp only at h27
     cases h27
     first | rfl | simp [-getElem?_pos, List.getElem?_cons_zero, List.getElem?_cons_succ, ga31, gb31, gn31, gf31, gg31_0, gl31]
  ·rintro V rfl
   generalize w26 = x_25 at *
   try dsimp only at h
   obtain ⟨w37, h38, h⟩ := bind_some h
   refine Wc.mono (Q := (QN (fun (y : (List Bool)) => [(0, .v (ssl eRelation l)), (2, .v (.int .i64 i)), (3, .v (.int .i64 k)), (5, .v (.ptr true [(.int .i64 q.VariableCount), (ssl eAtom q.Atoms), (ssl eI q.Free)])), (9, .v (osl eB true y)), (10, .v (.int .i64 n_17)), (11, .v (.int .i64 a_20)), (12, .v (.int .i64 b_23))])) w37) ?_ ?_
   ·skip
    by_cases kc39 : x_25 = true
    ·rw [if_pos kc39] at h38
     refine Wc.condT' (by conv => lhs; simp) (by simpa using kc39) ?_
     refine Wc.sk (by conv => lhs; simp) ?_
     obtain ⟨v_40, h41, h38⟩ := bind_some h38
     obtain ⟨ga41, gb41, gc41⟩ := ix_some h41
     have gn41 := ix_ne h41
     have gf41 := arr_fit (E := eB) (b := true) (i := b_23.toNat) (l := met_22) (by omega)
     have gg41_0 := arr_get (E := eB) (b := true) (o := 0) gc41 (by decide)
     simp at gf41 gg41_0
     have gl41 : b_23.toNat < met_22.length := by omega
     have gy42 := lay_set (E := eB) (b := true) (i := b_23.toNat) (l := met_22) true (by omega)
     simp at gy42
     refine Wc.en (by conv => lhs; simp [-getElem?_pos, List.getElem?_cons_zero, List.getElem?_cons_succ, ga41, gb41, gn41, gf41, gg41_0, gl41, gy42]) ?_
     cases h38
     exact ⟨rfl, by first | rfl | simp [-getElem?_pos, List.getElem?_cons_zero, List.getElem?_cons_succ, ga41, gb41, gn41, gf41, gg41_0, gl41, gy42]⟩
    ·rw [if_neg kc39] at h38
     refine Wc.condF' (by conv => lhs; simp) (by simpa using kc39) ?_
     refine Wc.sk (by conv => lhs; simp) ?_
     apply Wc.skip
     cases h38
     exact ⟨rfl, by first | rfl | simp⟩
   ·skip
    generalize w37 = met_43 at *
    rintro ex V ⟨rfl, rfl⟩
    try dsimp only at h
    refine Wc.en (by conv => lhs; simp) ?_
    refine Wc.start ?_ (hk _ (Option.some.inj h).symm)
    first | rfl | simp
 ·rw [if_neg kc24] at h
  refine Wc.condF' (by conv => lhs; simp) (by simpa using kc24) ?_
  refine Wc.sk (by conv => lhs; simp) ?_
  apply Wc.exit
  have e0 := hx _ (Option.some.inj h).symm
  subst e0
  exact ⟨rfl, by first | rfl | simp⟩
theorem r56_1 {l : (List Relation)} {q : Query} {i : Int} {k : Int} {n_17 : Int} : ∀ zs zo, iter (f56_1 l q i) zs = some zo → Wc cx 83 (.loop L56_1) [(0, .v (ssl eRelation l)), (2, .v (.int .i64 i)), (3, .v (.int .i64 k)), (5, .v (.ptr true [(.int .i64 q.VariableCount), (ssl eAtom q.Atoms), (ssl eI q.Free)])), (9, .v (osl eB true zs.1)), (10, .v (.int .i64 n_17)), (11, .v (.int .i64 zs.2))] ((QX 2 (fun (y : (List Bool)) => [(0, .v (ssl eRelation l)), (2, .v (.int .i64 i)), (3, .v (.int .i64 k)), (5, .v (.ptr true [(.int .i64 q.VariableCount), (ssl eAtom q.Atoms), (ssl eI q.Free)])), (9, .v (osl eB true y)), (10, .v (.int .i64 n_17))])) zo) := by
 refine iter_all ?_
 rintro ⟨met_19, a_20⟩ zo zr h hk hx
 try dsimp only at hk ⊢
 rw [f56_1] at h
 apply Wc.loop
 apply Wc.seq
 refine Wc.se (by conv => lhs; simp) ?_
 by_cases kc21 : a_20 < (q.Atoms.length : Int)
 ·rw [if_pos kc21] at h
  refine Wc.condT' (by conv => lhs; simp) (by simpa using kc21) ?_
  refine Wc.sk (by conv => lhs; simp) ?_
  apply Wc.skip
  apply Wc.seq
  apply Wc.block
  refine Wc.se (by conv => lhs; simp) ?_
  apply Wc.block
  obtain ⟨w44, h45, h⟩ := bind_some h
  refine Wc.start (V1 := [(0, .v (ssl eRelation l)), (2, .v (.int .i64 i)), (3, .v (.int .i64 k)), (5, .v (.ptr true [(.int .i64 q.VariableCount), (ssl eAtom q.Atoms), (ssl eI q.Free)])), (9, .v (osl eB true met_19)), (10, .v (.int .i64 n_17)), (11, .v (.int .i64 a_20)), (12, .v (.int .i64 0))]) (by first | rfl | simp) ?_
  refine Wc.mono (r56_2 _ _ h45) ?_
  generalize w44 = met_46 at *
  rintro ex V ⟨rfl, rfl⟩
  try dsimp only at h
  refine Wc.en (by conv => lhs; simp) ?_
  refine Wc.start ?_ (hk _ (Option.some.inj h).symm)
  first | rfl | simp
 ·rw [if_neg kc21] at h
  refine Wc.condF' (by conv => lhs; simp) (by simpa using kc21) ?_
  refine Wc.sk (by conv => lhs; simp) ?_
  apply Wc.exit
  have e0 := hx _ (Option.some.inj h).symm
  subst e0
  exact ⟨rfl, by first | rfl | simp⟩
theorem r56_0 {l : (List Relation)} {q : Query} {i : Int} {k : Int} : ∀ zs zo, iter (f56_0 l q i) zs = some zo → Wc cx 83 (.loop L56_0) [(0, .v (ssl eRelation l)), (2, .v (.int .i64 i)), (3, .v (.int .i64 k)), (5, .v (.ptr true [(.int .i64 q.VariableCount), (ssl eAtom q.Atoms), (ssl eI q.Free)])), (9, .v (osl eB true zs.1)), (10, .v (.int .i64 zs.2))] ((QX 0 (fun (y : (List Bool)) => [(3, .v (.int .i64 k)), (9, .v (osl eB true y))])) zo) := by
 refine iter_all ?_
 rintro ⟨met_16, n_17⟩ zo zr h hk hx
 try dsimp only at hk ⊢
 rw [f56_0] at h
 apply Wc.loop
 apply Wc.seq
 refine Wc.se (by conv => lhs; simp) ?_
 by_cases kc18 : n_17 ≤ (q.Atoms.length : Int)
 ·rw [if_pos kc18] at h
  refine Wc.condT' (by conv => lhs; simp) (by simpa using kc18) ?_
  refine Wc.sk (by conv => lhs; simp) ?_
  apply Wc.skip
  apply Wc.seq
  apply Wc.block
  refine Wc.se (by conv => lhs; simp) ?_
  apply Wc.block
  obtain ⟨w47, h48, h⟩ := bind_some h
  refine Wc.start (V1 := [(0, .v (ssl eRelation l)), (2, .v (.int .i64 i)), (3, .v (.int .i64 k)), (5, .v (.ptr true [(.int .i64 q.VariableCount), (ssl eAtom q.Atoms), (ssl eI q.Free)])), (9, .v (osl eB true met_16)), (10, .v (.int .i64 n_17)), (11, .v (.int .i64 0))]) (by first | rfl | simp) ?_
  refine Wc.mono (r56_1 _ _ h48) ?_
  generalize w47 = met_49 at *
  rintro ex V ⟨rfl, rfl⟩
  try dsimp only at h
  refine Wc.en (by conv => lhs; simp) ?_
  refine Wc.start ?_ (hk _ (Option.some.inj h).symm)
  first | rfl | simp
 ·rw [if_neg kc18] at h
  refine Wc.condF' (by conv => lhs; simp) (by simpa using kc18) ?_
  refine Wc.sk (by conv => lhs; simp) ?_
  apply Wc.exit
  have e0 := hx _ (Option.some.inj h).symm
  subst e0
  exact ⟨rfl, by first | rfl | simp⟩
theorem r56 {l : (List Relation)} {q : Query} {i : Int} {k : Int} {r : Bool} (h : f56 l q i k = some r) : VJx cx (.ca 56 [(ssl eRelation l), (.agg [(.int .i64 q.VariableCount), (ssl eAtom q.Atoms), (ssl eI q.Free)]), (.int .i64 i), (.int .i64 k)] (.bool r) []) := by
 unfold f56 at h
 refine ca_of rfl rfl (by decide) rfl ?_
 refine Wc.start (by conv => lhs; simp) ?_
 refine Wc.se (by conv => lhs; simp) ?_
 apply Wc.seq
 apply Wc.seq
 refine Wc.evs (by conv => lhs; simp) ?_
 obtain ⟨o1, h2, h⟩ := bind_some h
 refine Wo.cl rfl (by (conv => lhs; simp) <;> rfl) (r124 h2) (by simp) (by (conv => lhs; simp) <;> rfl) (by (conv => lhs; simp) <;> rfl) ?_
 refine Wo.evk 2 (by conv => lhs; simp) ?_
 obtain ⟨w4, h5, h⟩ := bind_some h
 refine Wo.mono (Q := fun V => V = [(0, .v (ssl eRelation l)), (2, .v (.int .i64 i)), (3, .v (.int .i64 k)), (5, .v (.ptr true [(.int .i64 q.VariableCount), (ssl eAtom q.Atoms), (ssl eI q.Free)])), (34, .v (.bool w4))]) ?_ ?_
 ·by_cases knh5 : ¬ (o1 = true)
  ·rw [if_pos knh5] at h5
   refine Wo.gh (vle_co (s := 17) (t1 := .bool true) rfl (by simp) (tle_bool (by simpa using knh5)) (by conv => lhs; simp)) ?_
   refine Wo.en (by conv => lhs; simp) ?_
   cases h5
   first | rfl | simp
  ·rw [if_neg knh5] at h5
   refine Wo.gh (vle_co (s := 17) (t1 := .bool false) rfl (by simp) (tle_bool (by simpa using knh5)) (by conv => lhs; simp)) ?_
   refine Wo.evs (by conv => lhs; simp) ?_
   obtain ⟨o6, h7, h5⟩ := bind_some h5
   refine Wo.call (by simp) rfl (by (conv => lhs; simp) <;> rfl) (r71 h7) (by simp) (by simp) (by (conv => lhs; simp) <;> rfl) (by (conv => lhs; simp) <;> rfl) ?_
   refine Wo.evk 3 (by conv => lhs; simp) ?_
   obtain ⟨w9, h10, h5⟩ := bind_some h5
   refine Wo.mono (Q := fun V => V = [(0, .v (ssl eRelation l)), (2, .v (.int .i64 i)), (3, .v (.int .i64 k)), (5, .v (.ptr true [(.int .i64 q.VariableCount), (ssl eAtom q.Atoms), (ssl eI q.Free)])), (34, .v (.bool w9))]) ?_ ?_
   ·by_cases knh10 : ¬ (o6 = true)
    ·rw [if_pos knh10] at h10
     refine Wo.gh (vle_co (s := 26) (t1 := .bool true) rfl (by simp) (tle_bool (by simpa using knh10)) (by conv => lhs; simp)) ?_
     refine Wo.en (by conv => lhs; simp) ?_
     cases h10
     first | rfl | simp
    ·rw [if_neg knh10] at h10
     refine Wo.gh (vle_co (s := 26) (t1 := .bool false) rfl (by simp) (tle_bool (by simpa using knh10)) (by conv => lhs; simp)) ?_
     refine Wo.evs (by conv => lhs; simp) ?_
     obtain ⟨o11, h12, h10⟩ := bind_some h10
     refine Wo.call (by simp) rfl (by (conv => lhs; simp) <;> rfl) (r71 h12) (by simp) (by simp) (by (conv => lhs; simp) <;> rfl) (by (conv => lhs; simp) <;> rfl) ?_
     refine Wo.en (by conv => lhs; simp) ?_
     cases h10
     first | rfl | simp
   ·rintro V rfl
    generalize w9 = x_8 at *
    try dsimp only at h5
    cases h5
    first | rfl | simp
 ·rintro V rfl
  generalize w4 = x_3 at *
  try dsimp only at h
  by_cases kc13 : x_3 = true
  ·rw [if_pos kc13] at h
   refine Wc.condT' (by conv => lhs; simp) (by simpa using kc13) ?_
   refine Wc.sk (by conv => lhs; simp) ?_
   refine Wc.se (by conv => lhs; simp) ?_
   refine Wc.ret (res_of (.inr rfl) ?_)
   cases h
   exact ⟨_, _, _, by conv => lhs; simp, by (conv => lhs; simp) <;> rfl, by first | rfl | simp⟩
  ·rw [if_neg kc13] at h
   refine Wc.condF' (by conv => lhs; simp) (by simpa using kc13) ?_
   refine Wc.sk (by conv => lhs; simp) ?_
   apply Wc.skip
   apply Wc.seq
   obtain ⟨l_14, h15, h⟩ := bind_some h
   obtain ⟨gm15, gp15, gq15, gr15⟩ := mkl_some h15
   have gx15 := rep_arr (E := eB) (b := true) gr15
   simp at gx15
   rw [Int.one_mul] at gp15
   refine Wc.evs (by conv => lhs; simp [gm15, gp15, gq15, gx15]) ?_
   refine Wo.gh (vle_co (s := 9) (t1 := (osl eB true l_14)) rfl (by simp) (tle_own rfl) (by conv => lhs; simp)) ?_
   apply Wo.nil
   apply Wc.seq
   refine Wc.se (by conv => lhs; simp) ?_
   apply Wc.block
   obtain ⟨w50, h51, h⟩ := bind_some h
   refine Wc.start (V1 := [(0, .v (ssl eRelation l)), (2, .v (.int .i64 i)), (3, .v (.int .i64 k)), (5, .v (.ptr true [(.int .i64 q.VariableCount), (ssl eAtom q.Atoms), (ssl eI q.Free)])), (9, .v (osl eB true l_14)), (10, .v (.int .i64 0))]) (by first | rfl | simp) ?_
   refine Wc.mono (r56_0 _ _ h51) ?_
   generalize w50 = met_52 at *
   rintro ex V ⟨rfl, rfl⟩
   try dsimp only at h
   apply Wc.seq
   obtain ⟨v_53, h54, h⟩ := bind_some h
   obtain ⟨ga54, gb54, gc54⟩ := ix_some h54
   have gn54 := ix_ne h54
   have gf54 := arr_fit (E := eB) (b := true) (i := k.toNat) (l := met_52) (by omega)
   have gg54_0 := arr_get (E := eB) (b := true) (o := 0) gc54 (by decide)
   simp at gf54 gg54_0
   have gl54 : k.toNat < met_52.length := by omega
   refine Wc.en (by conv => lhs; simp [-getElem?_pos, List.getElem?_cons_zero, List.getElem?_cons_succ, ga54, gb54, gn54, gf54, gg54_0, gl54]) ?_
   refine Wc.ret (res_of (.inr rfl) ?_)
   cases h
   exact ⟨_, _, _, by conv => lhs; simp, by (conv => lhs; simp) <;> rfl, by first | rfl | simp [-getElem?_pos, List.getElem?_cons_zero, List.getElem?_cons_succ, ga54, gb54, gn54, gf54, gg54_0, gl54]⟩
theorem r60_0 {l : (List Relation)} {q : Query} : ∀ zs zo, iter (f60_0 l q) zs = some zo → Wc cx 18 (.loop L60_0) [(0, .v (ssl eRelation l)), (3, .v (.ptr true [(.int .i64 q.VariableCount), (ssl eAtom q.Atoms), (ssl eI q.Free)])), (5, .v (.int .i64 zs))] ((QO (QX 0 (fun (y : Unit) => [])) (QR (fun (y : Bool) => [(4, .v (.bool y))]))) zo) := by
 refine iter_all ?_
 rintro i_1 zo zr h hk hx
 try dsimp only at hk ⊢
 rw [f60_0] at h
 apply Wc.loop
 apply Wc.seq
 refine Wc.se (by conv => lhs; simp) ?_
 by_cases kc2 : i_1 < (q.Atoms.length : Int)
 ·rw [if_pos kc2] at h
  refine Wc.condT' (by conv => lhs; simp) (by simpa using kc2) ?_
  refine Wc.sk (by conv => lhs; simp) ?_
  apply Wc.skip
  apply Wc.seq
  apply Wc.block
  apply Wc.seq
  refine Wc.evs (by conv => lhs; simp) ?_
  obtain ⟨o3, h4, h⟩ := bind_some h
  refine Wo.cl rfl (by (conv => lhs; simp) <;> rfl) (r56 h4) (by simp) (by (conv => lhs; simp) <;> rfl) (by (conv => lhs; simp) <;> rfl) ?_
  apply Wo.nil
  by_cases kc5 : o3 = true
  ·rw [if_pos kc5] at h
   refine Wc.condT' (by conv => lhs; simp) (by simpa using kc5) ?_
   refine Wc.sk (by conv => lhs; simp) ?_
   refine Wc.se (by conv => lhs; simp) ?_
   refine Wc.ret ?_
   have e0 := hx _ (Option.some.inj h).symm
   subst e0
   exact ⟨rfl, by first | rfl | simp⟩
  ·rw [if_neg kc5] at h
   refine Wc.condF' (by conv => lhs; simp) (by simpa using kc5) ?_
   refine Wc.sk (by conv => lhs; simp) ?_
   apply Wc.skip
   refine Wc.en (by conv => lhs; simp) ?_
   refine Wc.start ?_ (hk _ (Option.some.inj h).symm)
   first | rfl | simp
 ·rw [if_neg kc2] at h
  refine Wc.condF' (by conv => lhs; simp) (by simpa using kc2) ?_
  refine Wc.sk (by conv => lhs; simp) ?_
  apply Wc.exit
  have e0 := hx _ (Option.some.inj h).symm
  subst e0
  exact ⟨rfl, by first | rfl | simp⟩
theorem r60 {l : (List Relation)} {q : Query} {r : Bool} (h : f60 l q = some r) : VJx cx (.ca 60 [(ssl eRelation l), (.agg [(.int .i64 q.VariableCount), (ssl eAtom q.Atoms), (ssl eI q.Free)])] (.bool r) []) := by
 unfold f60 at h
 refine ca_of rfl rfl (by decide) rfl ?_
 refine Wc.start (by conv => lhs; simp) ?_
 refine Wc.se (by conv => lhs; simp) ?_
 apply Wc.seq
 refine Wc.se (by conv => lhs; simp) ?_
 apply Wc.block
 obtain ⟨w6, h7, h⟩ := bind_some h
 refine Wc.start (V1 := [(0, .v (ssl eRelation l)), (3, .v (.ptr true [(.int .i64 q.VariableCount), (ssl eAtom q.Atoms), (ssl eI q.Free)])), (5, .v (.int .i64 0))]) (by first | rfl | simp) ?_
 refine Wc.mono (r60_0 _ _ h7) ?_
 rcases w6 with ⟨⟩ | x_8
 ·rintro ex V ⟨rfl, rfl⟩
  try dsimp only at h
  refine Wc.se (by conv => lhs; simp) ?_
  refine Wc.ret (res_of (.inr rfl) ?_)
  cases h
  exact ⟨_, _, _, by conv => lhs; simp, by (conv => lhs; simp) <;> rfl, by first | rfl | simp⟩
 ·rintro ex V ⟨rfl, rfl⟩
  try dsimp only at h
  refine res_of (.inr rfl) ?_
  cases h
  exact ⟨_, _, _, by conv => lhs; simp, by (conv => lhs; simp) <;> rfl, by first | rfl | simp⟩
theorem r62_1 {l : (List Relation)} {q : Query} {i_4 : Int} : ∀ zs zo, iter (f62_1 l q i_4) zs = some zo → Wc cx 48 (.loop L62_1) [(0, .v (ssl eRelation l)), (3, .v (.ptr true [(.int .i64 q.VariableCount), (ssl eAtom q.Atoms), (ssl eI q.Free)])), (5, .v (.int .i64 i_4)), (6, .v (.int .i64 zs))] ((QO (QX 2 (fun (y : Unit) => [(0, .v (ssl eRelation l)), (3, .v (.ptr true [(.int .i64 q.VariableCount), (ssl eAtom q.Atoms), (ssl eI q.Free)])), (5, .v (.int .i64 i_4))])) (QR (fun (y : Int) => [(4, .v (.int .i64 y))]))) zo) := by
 refine iter_all ?_
 rintro k_6 zo zr h hk hx
 try dsimp only at hk ⊢
 rw [f62_1] at h
 apply Wc.loop
 apply Wc.seq
 refine Wc.se (by conv => lhs; simp) ?_
 by_cases kc7 : k_6 < (q.Atoms.length : Int)
 ·rw [if_pos kc7] at h
  refine Wc.condT' (by conv => lhs; simp) (by simpa using kc7) ?_
  refine Wc.sk (by conv => lhs; simp) ?_
  apply Wc.skip
  apply Wc.seq
  apply Wc.block
  apply Wc.seq
  refine Wc.evs (by conv => lhs; simp) ?_
  obtain ⟨o8, h9, h⟩ := bind_some h
  refine Wo.cl rfl (by (conv => lhs; simp) <;> rfl) (r125 h9) (by simp) (by (conv => lhs; simp) <;> rfl) (by (conv => lhs; simp) <;> rfl) ?_
  refine Wo.evk 1 (by conv => lhs; simp) ?_
  obtain ⟨w11, h12, h⟩ := bind_some h
  refine Wo.mono (Q := fun V => V = [(0, .v (ssl eRelation l)), (3, .v (.ptr true [(.int .i64 q.VariableCount), (ssl eAtom q.Atoms), (ssl eI q.Free)])), (5, .v (.int .i64 i_4)), (6, .v (.int .i64 k_6)), (44, .v (.bool w11))]) ?_ ?_
  ·by_cases knh12 : o8 = true
   ·rw [if_pos knh12] at h12
    refine Wo.gh (vle_co (s := 30) (t1 := .bool true) rfl (by simp) (tle_bool (by simpa using knh12)) (by conv => lhs; simp)) ?_
    refine Wo.evs (by conv => lhs; simp) ?_
    obtain ⟨o13, h14, h12⟩ := bind_some h12
    refine Wo.call (by simp) rfl (by (conv => lhs; simp) <;> rfl) (r130 h14) (by simp) (by simp) (by (conv => lhs; simp) <;> rfl) (by (conv => lhs; simp) <;> rfl) ?_
    refine Wo.evk 3 (by conv => lhs; simp) ?_
    obtain ⟨w16, h17, h12⟩ := bind_some h12
    refine Wo.mono (Q := fun V => V = [(0, .v (ssl eRelation l)), (3, .v (.ptr true [(.int .i64 q.VariableCount), (ssl eAtom q.Atoms), (ssl eI q.Free)])), (5, .v (.int .i64 i_4)), (6, .v (.int .i64 k_6)), (44, .v (.bool w16))]) ?_ ?_
    ·by_cases knh17 : ¬ (o13 = true)
     ·rw [if_pos knh17] at h17
      refine Wo.gh (vle_co (s := 38) (t1 := .bool true) rfl (by simp) (tle_bool (by simpa using knh17)) (by conv => lhs; simp)) ?_
      refine Wo.evs (by conv => lhs; simp) ?_
      obtain ⟨o18, h19, h17⟩ := bind_some h17
      refine Wo.call (by simp) rfl (by (conv => lhs; simp) <;> rfl) (r56 h19) (by simp) (by simp) (by (conv => lhs; simp) <;> rfl) (by (conv => lhs; simp) <;> rfl) ?_
      refine Wo.en (by conv => lhs; simp) ?_
      cases h17
      first | rfl | simp
     ·rw [if_neg knh17] at h17
      refine Wo.gh (vle_co (s := 38) (t1 := .bool false) rfl (by simp) (tle_bool (by simpa using knh17)) (by conv => lhs; simp)) ?_
      refine Wo.en (by conv => lhs; simp) ?_
      cases h17
      first | rfl | simp
    ·rintro V rfl
     generalize w16 = x_15 at *
     try dsimp only at h12
     cases h12
     first | rfl | simp
   ·rw [if_neg knh12] at h12
    refine Wo.gh (vle_co (s := 30) (t1 := .bool false) rfl (by simp) (tle_bool (by simpa using knh12)) (by conv => lhs; simp)) ?_
    refine Wo.en (by conv => lhs; simp) ?_
    cases h12
    first | rfl | simp
  ·rintro V rfl
   generalize w11 = x_10 at *
   try dsimp only at h
   by_cases kc20 : x_10 = true
   ·rw [if_pos kc20] at h
    refine Wc.condT' (by conv => lhs; simp) (by simpa using kc20) ?_
    refine Wc.sk (by conv => lhs; simp) ?_
    refine Wc.se (by conv => lhs; simp) ?_
    refine Wc.ret ?_
    have e0 := hx _ (Option.some.inj h).symm
    subst e0
    exact ⟨rfl, by first | rfl | simp⟩
   ·rw [if_neg kc20] at h
    refine Wc.condF' (by conv => lhs; simp) (by simpa using kc20) ?_
    refine Wc.sk (by conv => lhs; simp) ?_
    apply Wc.skip
    refine Wc.en (by conv => lhs; simp) ?_
    refine Wc.start ?_ (hk _ (Option.some.inj h).symm)
    first | rfl | simp
 ·rw [if_neg kc7] at h
  refine Wc.condF' (by conv => lhs; simp) (by simpa using kc7) ?_
  refine Wc.sk (by conv => lhs; simp) ?_
  apply Wc.exit
  have e0 := hx _ (Option.some.inj h).symm
  subst e0
  exact ⟨rfl, by first | rfl | simp⟩
theorem r62_0 {l : (List Relation)} {q : Query} : ∀ zs zo, iter (f62_0 l q) zs = some zo → Wc cx 48 (.loop L62_0) [(0, .v (ssl eRelation l)), (3, .v (.ptr true [(.int .i64 q.VariableCount), (ssl eAtom q.Atoms), (ssl eI q.Free)])), (5, .v (.int .i64 zs))] ((QO (QX 0 (fun (y : Unit) => [(0, .v (ssl eRelation l)), (3, .v (.ptr true [(.int .i64 q.VariableCount), (ssl eAtom q.Atoms), (ssl eI q.Free)]))])) (QR (fun (y : Int) => [(4, .v (.int .i64 y))]))) zo) := by
 refine iter_all ?_
 rintro i_4 zo zr h hk hx
 try dsimp only at hk ⊢
 rw [f62_0] at h
 apply Wc.loop
 apply Wc.seq
 refine Wc.se (by conv => lhs; simp) ?_
 by_cases kc5 : i_4 < (q.Atoms.length : Int)
 ·rw [if_pos kc5] at h
  refine Wc.condT' (by conv => lhs; simp) (by simpa using kc5) ?_
  refine Wc.sk (by conv => lhs; simp) ?_
  apply Wc.skip
  apply Wc.seq
  apply Wc.block
  refine Wc.se (by conv => lhs; simp) ?_
  apply Wc.block
  obtain ⟨w21, h22, h⟩ := bind_some h
  refine Wc.start (V1 := [(0, .v (ssl eRelation l)), (3, .v (.ptr true [(.int .i64 q.VariableCount), (ssl eAtom q.Atoms), (ssl eI q.Free)])), (5, .v (.int .i64 i_4)), (6, .v (.int .i64 0))]) (by first | rfl | simp) ?_
  refine Wc.mono (r62_1 _ _ h22) ?_
  rcases w21 with ⟨⟩ | x_23
  ·rintro ex V ⟨rfl, rfl⟩
   try dsimp only at h
   refine Wc.en (by conv => lhs; simp) ?_
   refine Wc.start ?_ (hk _ (Option.some.inj h).symm)
   first | rfl | simp
  ·rintro ex V ⟨rfl, rfl⟩
   try dsimp only at h
   have e0 := hx _ (Option.some.inj h).symm
   subst e0
   exact ⟨rfl, by first | rfl | simp⟩
 ·rw [if_neg kc5] at h
  refine Wc.condF' (by conv => lhs; simp) (by simpa using kc5) ?_
  refine Wc.sk (by conv => lhs; simp) ?_
  apply Wc.exit
  have e0 := hx _ (Option.some.inj h).symm
  subst e0
  exact ⟨rfl, by first | rfl | simp⟩
theorem r62 {l : (List Relation)} {q : Query} {r : Int} (h : f62 l q = some r) : VJx cx (.ca 62 [(ssl eRelation l), (.agg [(.int .i64 q.VariableCount), (ssl eAtom q.Atoms), (ssl eI q.Free)])] (.int .i64 r) []) := by
 unfold f62 at h
 refine ca_of rfl rfl (by decide) rfl ?_
 refine Wc.start (by conv => lhs; simp) ?_
 refine Wc.se (by conv => lhs; simp) ?_
 apply Wc.seq
 apply Wc.seq
 refine Wc.evs (by conv => lhs; simp) ?_
 obtain ⟨o1, h2, h⟩ := bind_some h
 refine Wo.cl rfl (by (conv => lhs; simp) <;> rfl) (r124 h2) (by simp) (by (conv => lhs; simp) <;> rfl) (by (conv => lhs; simp) <;> rfl) ?_
 refine Wo.en (by conv => lhs; simp) ?_
 by_cases kc3 : ¬ (o1 = true)
 ·rw [if_pos kc3] at h
  refine Wc.condT' (by conv => lhs; simp) (by simpa using kc3) ?_
  refine Wc.sk (by conv => lhs; simp) ?_
  refine Wc.se (by conv => lhs; simp) ?_
  refine Wc.ret (res_of (.inr rfl) ?_)
  cases h
  exact ⟨_, _, _, by conv => lhs; simp, by (conv => lhs; simp) <;> rfl, by first | rfl | simp⟩
 ·rw [if_neg kc3] at h
  refine Wc.condF' (by conv => lhs; simp) (by simpa using kc3) ?_
  refine Wc.sk (by conv => lhs; simp) ?_
  apply Wc.skip
  apply Wc.seq
  refine Wc.se (by conv => lhs; simp) ?_
  apply Wc.block
  obtain ⟨w24, h25, h⟩ := bind_some h
  refine Wc.start (V1 := [(0, .v (ssl eRelation l)), (3, .v (.ptr true [(.int .i64 q.VariableCount), (ssl eAtom q.Atoms), (ssl eI q.Free)])), (5, .v (.int .i64 0))]) (by first | rfl | simp) ?_
  refine Wc.mono (r62_0 _ _ h25) ?_
  rcases w24 with ⟨⟩ | x_26
  ·rintro ex V ⟨rfl, rfl⟩
   try dsimp only at h
   apply Wc.seq
   apply Wc.seq
   refine Wc.evs (by conv => lhs; simp) ?_
   obtain ⟨o27, h28, h⟩ := bind_some h
   refine Wo.cl rfl (by (conv => lhs; simp) <;> rfl) (r60 h28) (by simp) (by (conv => lhs; simp) <;> rfl) (by (conv => lhs; simp) <;> rfl) ?_
   apply Wo.nil
   by_cases kc29 : o27 = true
   ·rw [if_pos kc29] at h
    refine Wc.condT' (by conv => lhs; simp) (by simpa using kc29) ?_
    refine Wc.sk (by conv => lhs; simp) ?_
    refine Wc.se (by conv => lhs; simp) ?_
    refine Wc.ret (res_of (.inr rfl) ?_)
    cases h
    exact ⟨_, _, _, by conv => lhs; simp, by (conv => lhs; simp) <;> rfl, by first | rfl | simp⟩
   ·rw [if_neg kc29] at h
    refine Wc.condF' (by conv => lhs; simp) (by simpa using kc29) ?_
    refine Wc.sk (by conv => lhs; simp) ?_
    apply Wc.skip
    refine Wc.se (by conv => lhs; simp) ?_
    refine Wc.ret (res_of (.inr rfl) ?_)
    cases h
    exact ⟨_, _, _, by conv => lhs; simp, by (conv => lhs; simp) <;> rfl, by first | rfl | simp⟩
  ·rintro ex V ⟨rfl, rfl⟩
   try dsimp only at h
   refine res_of (.inr rfl) ?_
   cases h
   exact ⟨_, _, _, by conv => lhs; simp, by (conv => lhs; simp) <;> rfl, by first | rfl | simp⟩
theorem r87 {n0 : Int} {low : Int} {high : Int} {r : Bool} (h : f87 n0 low high = some r) : VJx cx (.ca 87 [(.int .i64 n0), (.int .i64 low), (.int .i64 high)] (.bool r) []) := by
 unfold f87 at h
 refine ca_of rfl rfl (by decide) rfl ?_
 refine Wc.start (by conv => lhs; simp) ?_
 refine Wc.se (by conv => lhs; simp) ?_
 apply Wc.seq
 refine Wc.evk 4 (by conv => lhs; simp) ?_
 obtain ⟨w2, h3, h⟩ := bind_some h
 refine Wo.mono (Q := fun V => V = [(6, .v (.bool w2))]) ?_ ?_
 ·by_cases knh3 : low ≤ n0
  ·rw [if_pos knh3] at h3
   refine Wo.gh (vle_co (s := 10) (t1 := .bool true) rfl (by simp) (tle_bool (by simpa using knh3)) (by conv => lhs; simp)) ?_
   refine Wo.en (by conv => lhs; simp) ?_
   cases h3
   first | rfl | simp
  ·rw [if_neg knh3] at h3
   refine Wo.gh (vle_co (s := 10) (t1 := .bool false) rfl (by simp) (tle_bool (by simpa using knh3)) (by conv => lhs; simp)) ?_
   refine Wo.en (by conv => lhs; simp) ?_
   cases h3
   first | rfl | simp
 ·rintro V rfl
  generalize w2 = x_1 at *
  try dsimp only at h
  refine Wc.ret (res_of (.inr rfl) ?_)
  cases h
  exact ⟨_, _, _, by conv => lhs; simp, by (conv => lhs; simp) <;> rfl, by first | rfl | simp⟩
theorem r163 {relation : Relation} {r : Bool} (h : f163 relation = some r) : VJx cx (.ca 163 [(.agg [(.str relation.Name), (.int .i64 relation.Arity), (.int .i64 relation.KeyLength)])] (.bool r) []) := by
 unfold f163 at h
 refine ca_of rfl rfl (by decide) rfl ?_
 refine Wc.start (by conv => lhs; simp) ?_
 refine Wc.se (by conv => lhs; simp) ?_
 apply Wc.seq
 refine Wc.evk 5 (by conv => lhs; simp) ?_
 obtain ⟨w2, h3, h⟩ := bind_some h
 refine Wo.mono (Q := fun V => V = [(2, .v (.bool w2))]) ?_ ?_
 ·by_cases knh3 : (relation.Name.length : Int) = 1
  ·rw [if_pos knh3] at h3
   refine Wo.gh (vle_co (s := 7) (t1 := .bool true) rfl (by simp) (tle_bool (by simpa using knh3)) (by conv => lhs; simp)) ?_
   obtain ⟨c_4, h5, h3⟩ := bind_some h3
   obtain ⟨ga5, gb5, gc5⟩ := ix_some h5
   have gq5 : relation.Name[(0 : Nat)]? = some c_4 := gc5
   refine Wo.evk 6 (by conv => lhs; simp [ga5, gb5, gc5, gq5]) ?_
   obtain ⟨w7, h8, h3⟩ := bind_some h3
   refine Wo.mono (Q := fun V => V = [(2, .v (.bool w7))]) ?_ ?_
   ·by_cases knh8 : (c_4.toNat : Int) ≥ 97
    ·rw [if_pos knh8] at h8
     refine Wo.gh (vle_co (s := 13) (t1 := .bool true) rfl (by simp) (tle_bool (by simpa using knh8)) (by conv => lhs; simp)) ?_
     refine Wo.evk 6 (by conv => lhs; simp [ga5, gb5, gc5, gq5]) ?_
     obtain ⟨w10, h11, h8⟩ := bind_some h8
     refine Wo.mono (Q := fun V => V = [(2, .v (.bool w10))]) ?_ ?_
     ·by_cases knh11 : (c_4.toNat : Int) ≤ 122
      ·rw [if_pos knh11] at h11
       refine Wo.gh (vle_co (s := 19) (t1 := .bool true) rfl (by simp) (tle_bool (by simpa using knh11)) (by conv => lhs; simp)) ?_
       refine Wo.evs (by conv => lhs; simp [ga5, gb5, gc5, gq5]) ?_
       obtain ⟨o12, h13, h11⟩ := bind_some h11
       refine Wo.call (by simp [ga5, gb5, gc5, gq5]) rfl (by (conv => lhs; simp [ga5, gb5, gc5, gq5]) <;> rfl) (r87 h13) (by simp) (by simp) (by (conv => lhs; simp [ga5, gb5, gc5, gq5]) <;> rfl) (by (conv => lhs; simp [ga5, gb5, gc5, gq5]) <;> rfl) ?_
       refine Wo.evk 2 (by conv => lhs; simp [ga5, gb5, gc5, gq5]) ?_
       obtain ⟨w15, h16, h11⟩ := bind_some h11
       refine Wo.mono (Q := fun V => V = [(2, .v (.bool w15))]) ?_ ?_
       ·by_cases knh16 : o12 = true
        ·rw [if_pos knh16] at h16
         refine Wo.gh (vle_co (s := 24) (t1 := .bool true) rfl (by simp) (tle_bool (by simpa using knh16)) (by conv => lhs; simp)) ?_
         refine Wo.evs (by conv => lhs; simp [ga5, gb5, gc5, gq5]) ?_
         obtain ⟨o17, h18, h16⟩ := bind_some h16
         refine Wo.call (by simp [ga5, gb5, gc5, gq5]) rfl (by (conv => lhs; simp [ga5, gb5, gc5, gq5]) <;> rfl) (r87 h18) (by simp) (by simp) (by (conv => lhs; simp [ga5, gb5, gc5, gq5]) <;> rfl) (by (conv => lhs; simp [ga5, gb5, gc5, gq5]) <;> rfl) ?_
         refine Wo.en (by conv => lhs; simp [ga5, gb5, gc5, gq5]) ?_
         cases h16
         first | rfl | simp [ga5, gb5, gc5, gq5]
        ·rw [if_neg knh16] at h16
         refine Wo.gh (vle_co (s := 24) (t1 := .bool false) rfl (by simp) (tle_bool (by simpa using knh16)) (by conv => lhs; simp)) ?_
         refine Wo.en (by conv => lhs; simp [ga5, gb5, gc5, gq5]) ?_
         cases h16
         first | rfl | simp [ga5, gb5, gc5, gq5]
       ·rintro V rfl
        generalize w15 = x_14 at *
        try dsimp only at h11
        cases h11
        first | rfl | simp [ga5, gb5, gc5, gq5]
      ·rw [if_neg knh11] at h11
       refine Wo.gh (vle_co (s := 19) (t1 := .bool false) rfl (by simp) (tle_bool (by simpa using knh11)) (by conv => lhs; simp)) ?_
       refine Wo.en (by conv => lhs; simp [ga5, gb5, gc5, gq5]) ?_
       cases h11
       first | rfl | simp [ga5, gb5, gc5, gq5]
     ·rintro V rfl
      generalize w10 = x_9 at *
      try dsimp only at h8
      cases h8
      first | rfl | simp [ga5, gb5, gc5, gq5]
    ·rw [if_neg knh8] at h8
     refine Wo.gh (vle_co (s := 13) (t1 := .bool false) rfl (by simp) (tle_bool (by simpa using knh8)) (by conv => lhs; simp)) ?_
     refine Wo.en (by conv => lhs; simp [ga5, gb5, gc5, gq5]) ?_
     cases h8
     first | rfl | simp [ga5, gb5, gc5, gq5]
   ·rintro V rfl
    generalize w7 = x_6 at *
    try dsimp only at h3
    cases h3
    first | rfl | simp [ga5, gb5, gc5, gq5]
  ·rw [if_neg knh3] at h3
   refine Wo.gh (vle_co (s := 7) (t1 := .bool false) rfl (by simp) (tle_bool (by simpa using knh3)) (by conv => lhs; simp)) ?_
   refine Wo.en (by conv => lhs; simp) ?_
   cases h3
   first | rfl | simp
 ·rintro V rfl
  generalize w2 = x_1 at *
  try dsimp only at h
  refine Wc.ret (res_of (.inr rfl) ?_)
  cases h
  exact ⟨_, _, _, by conv => lhs; simp, by (conv => lhs; simp) <;> rfl, by first | rfl | simp⟩
theorem r116_0 {relations : (List Relation)} : ∀ zs zo, iter (f116_0 relations) zs = some zo → Wc cx 34 (.loop L116_0) [(0, .v (ssl eRelation relations)), (5, .v (ssl eRelation relations)), (6, .v (.int .i64 (relations.length : Int))), (7, .v (.int .i64 zs))] ((QO (QX 0 (fun (y : Unit) => [(0, .v (ssl eRelation relations))])) (QR (fun (y : Bool) => [(2, .v (.bool y))]))) zo) := by
 refine iter_all ?_
 rintro x_1 zo zr h hk hx
 try dsimp only at hk ⊢
 rw [f116_0] at h
 apply Wc.loop
 refine Wc.se (by conv => lhs; simp) ?_
 apply Wc.seq
 by_cases kc2 : x_1 < (relations.length : Int)
 ·rw [if_pos kc2] at h
  refine Wc.condT' (by conv => lhs; simp) (by simpa using kc2) ?_
  refine Wc.sk (by conv => lhs; simp) ?_
  apply Wc.skip
  apply Wc.seq
  apply Wc.block
  apply Wc.seq
  obtain ⟨v_3, h4, h⟩ := bind_some h
  obtain ⟨ga4, gb4, gc4⟩ := ix_some h4
  have gn4 := ix_ne h4
  have gd4 := arr_at (E := eRelation) (b := false) gc4
  simp at gd4
  refine Wc.en (by conv => lhs; simp [ga4, gb4, gn4, gd4]) ?_
  apply Wc.seq
  refine Wc.evs (by conv => lhs; simp) ?_
  obtain ⟨o5, h6, h⟩ := bind_some h
  refine Wo.cl rfl (by (conv => lhs; simp) <;> rfl) (r163 h6) (by simp) (by (conv => lhs; simp) <;> rfl) (by (conv => lhs; simp) <;> rfl) ?_
  refine Wo.evk 2 (by conv => lhs; simp) ?_
  obtain ⟨w8, h9, h⟩ := bind_some h
  refine Wo.mono (Q := fun V => V = [(0, .v (ssl eRelation relations)), (5, .v (ssl eRelation relations)), (6, .v (.int .i64 (relations.length : Int))), (7, .v (.int .i64 x_1)), (29, .v (.bool w8))]) ?_ ?_
  ·by_cases knh9 : ¬ (o5 = true)
   ·rw [if_pos knh9] at h9
    refine Wo.gh (vle_co (s := 15) (t1 := .bool true) rfl (by simp) (tle_bool (by simpa using knh9)) (by conv => lhs; simp)) ?_
    refine Wo.en (by conv => lhs; simp) ?_
    cases h9
    first | rfl | simp
   ·rw [if_neg knh9] at h9
    refine Wo.gh (vle_co (s := 15) (t1 := .bool false) rfl (by simp) (tle_bool (by simpa using knh9)) (by conv => lhs; simp)) ?_
    refine Wo.evk 3 (by conv => lhs; simp) ?_
    obtain ⟨w11, h12, h9⟩ := bind_some h9
    refine Wo.mono (Q := fun V => V = [(0, .v (ssl eRelation relations)), (5, .v (ssl eRelation relations)), (6, .v (.int .i64 (relations.length : Int))), (7, .v (.int .i64 x_1)), (29, .v (.bool w11))]) ?_ ?_
    ·by_cases knh12 : x_1 > 0
     ·rw [if_pos knh12] at h12
      refine Wo.gh (vle_co (s := 18) (t1 := .bool true) rfl (by simp) (tle_bool (by simpa using knh12)) (by conv => lhs; simp)) ?_
      obtain ⟨v_13, h14, h12⟩ := bind_some h12
      obtain ⟨ga14, gb14, gc14⟩ := ix_some h14
      have gn14 := ix_ne h14
      have gd14 := arr_at (E := eRelation) (b := false) gc14
      simp at gd14
      refine Wo.en (by conv => lhs; simp [ga14, gb14, gn14, gd14]) ?_
      cases h12
      first | rfl | simp [ga14, gb14, gn14, gd14]
     ·rw [if_neg knh12] at h12
      refine Wo.gh (vle_co (s := 18) (t1 := .bool false) rfl (by simp) (tle_bool (by simpa using knh12)) (by conv => lhs; simp)) ?_
      refine Wo.en (by conv => lhs; simp) ?_
      cases h12
      first | rfl | simp
    ·rintro V rfl
     generalize w11 = x_10 at *
     try dsimp only at h9
     cases h9
     first | rfl | simp
  ·rintro V rfl
   generalize w8 = x_7 at *
   try dsimp only at h
   by_cases kc15 : x_7 = true
   ·rw [if_pos kc15] at h
    refine Wc.condT' (by conv => lhs; simp) (by simpa using kc15) ?_
    refine Wc.sk (by conv => lhs; simp) ?_
    refine Wc.se (by conv => lhs; simp) ?_
    refine Wc.ret ?_
    have e0 := hx _ (Option.some.inj h).symm
    subst e0
    exact ⟨rfl, by first | rfl | simp⟩
   ·rw [if_neg kc15] at h
    refine Wc.condF' (by conv => lhs; simp) (by simpa using kc15) ?_
    refine Wc.sk (by conv => lhs; simp) ?_
    apply Wc.skip
    refine Wc.en (by conv => lhs; simp) ?_
    refine Wc.start ?_ (hk _ (Option.some.inj h).symm)
    first | rfl | simp
 ·rw [if_neg kc2] at h
  refine Wc.condF' (by conv => lhs; simp) (by simpa using kc2) ?_
  refine Wc.sk (by conv => lhs; simp) ?_
  apply Wc.exit
  have e0 := hx _ (Option.some.inj h).symm
  subst e0
  exact ⟨rfl, by first | rfl | simp⟩
theorem r116 {relations : (List Relation)} {r : Bool} (h : f116 relations = some r) : VJx cx (.ca 116 [(ssl eRelation relations)] (.bool r) []) := by
 unfold f116 at h
 refine ca_of rfl rfl (by decide) rfl ?_
 refine Wc.start (by conv => lhs; simp) ?_
 refine Wc.se (by conv => lhs; simp) ?_
 apply Wc.seq
 refine Wc.se (by conv => lhs; simp) ?_
 apply Wc.block
 obtain ⟨w16, h17, h⟩ := bind_some h
 refine Wc.start (V1 := [(0, .v (ssl eRelation relations)), (5, .v (ssl eRelation relations)), (6, .v (.int .i64 (relations.length : Int))), (7, .v (.int .i64 0))]) (by first | rfl | simp) ?_
 refine Wc.mono (r116_0 _ _ h17) ?_
 rcases w16 with ⟨⟩ | x_18
 ·rintro ex V ⟨rfl, rfl⟩
  try dsimp only at h
  refine Wc.se (by conv => lhs; simp) ?_
  refine Wc.ret (res_of (.inr rfl) ?_)
  cases h
  exact ⟨_, _, _, by conv => lhs; simp, by (conv => lhs; simp) <;> rfl, by first | rfl | simp⟩
 ·rintro ex V ⟨rfl, rfl⟩
  try dsimp only at h
  refine res_of (.inr rfl) ?_
  cases h
  exact ⟨_, _, _, by conv => lhs; simp, by (conv => lhs; simp) <;> rfl, by first | rfl | simp⟩
theorem r101_0 {indices : (List Int)} {n1 : Int} : ∀ zs zo, iter (f101_0 indices n1) zs = some zo → Wc cx 33 (.loop L101_0) [(0, .v (ssl eI indices)), (1, .v (.int .i64 n1)), (7, .v (ssl eI indices)), (8, .v (.int .i64 (indices.length : Int))), (9, .v (.int .i64 zs))] ((QO (QX 0 (fun (y : Unit) => [])) (QR (fun (y : Bool) => [(4, .v (.bool y))]))) zo) := by
 refine iter_all ?_
 rintro x_1 zo zr h hk hx
 try dsimp only at hk ⊢
 rw [f101_0] at h
 apply Wc.loop
 refine Wc.se (by conv => lhs; simp) ?_
 apply Wc.seq
 by_cases kc2 : x_1 < (indices.length : Int)
 ·rw [if_pos kc2] at h
  refine Wc.condT' (by conv => lhs; simp) (by simpa using kc2) ?_
  refine Wc.sk (by conv => lhs; simp) ?_
  apply Wc.skip
  apply Wc.seq
  apply Wc.block
  apply Wc.seq
  obtain ⟨v_3, h4, h⟩ := bind_some h
  obtain ⟨ga4, gb4, gc4⟩ := ix_some h4
  have gn4 := ix_ne h4
  have gd4 := arr_at (E := eI) (b := false) gc4
  simp at gd4
  refine Wc.en (by conv => lhs; simp [ga4, gb4, gn4, gd4]) ?_
  apply Wc.seq
  refine Wc.evs (by conv => lhs; simp) ?_
  obtain ⟨o5, h6, h⟩ := bind_some h
  refine Wo.cl rfl (by (conv => lhs; simp) <;> rfl) (r87 h6) (by simp) (by (conv => lhs; simp) <;> rfl) (by (conv => lhs; simp) <;> rfl) ?_
  refine Wo.evk 2 (by conv => lhs; simp) ?_
  obtain ⟨w8, h9, h⟩ := bind_some h
  refine Wo.mono (Q := fun V => V = [(0, .v (ssl eI indices)), (1, .v (.int .i64 n1)), (7, .v (ssl eI indices)), (8, .v (.int .i64 (indices.length : Int))), (9, .v (.int .i64 x_1)), (31, .v (.bool w8))]) ?_ ?_
  ·by_cases knh9 : ¬ (o5 = true)
   ·rw [if_pos knh9] at h9
    refine Wo.gh (vle_co (s := 19) (t1 := .bool true) rfl (by simp) (tle_bool (by simpa using knh9)) (by conv => lhs; simp)) ?_
    refine Wo.en (by conv => lhs; simp) ?_
    cases h9
    first | rfl | simp
   ·rw [if_neg knh9] at h9
    refine Wo.gh (vle_co (s := 19) (t1 := .bool false) rfl (by simp) (tle_bool (by simpa using knh9)) (by conv => lhs; simp)) ?_
    refine Wo.evk 3 (by conv => lhs; simp) ?_
    obtain ⟨w11, h12, h9⟩ := bind_some h9
    refine Wo.mono (Q := fun V => V = [(0, .v (ssl eI indices)), (1, .v (.int .i64 n1)), (7, .v (ssl eI indices)), (8, .v (.int .i64 (indices.length : Int))), (9, .v (.int .i64 x_1)), (31, .v (.bool w11))]) ?_ ?_
    ·by_cases knh12 : x_1 > 0
     ·rw [if_pos knh12] at h12
      refine Wo.gh (vle_co (s := 22) (t1 := .bool true) rfl (by simp) (tle_bool (by simpa using knh12)) (by conv => lhs; simp)) ?_
      obtain ⟨v_13, h14, h12⟩ := bind_some h12
      obtain ⟨ga14, gb14, gc14⟩ := ix_some h14
      have gn14 := ix_ne h14
      have gd14 := arr_at (E := eI) (b := false) gc14
      simp at gd14
      refine Wo.en (by conv => lhs; simp [ga14, gb14, gn14, gd14]) ?_
      cases h12
      first | rfl | simp [ga14, gb14, gn14, gd14]
     ·rw [if_neg knh12] at h12
      refine Wo.gh (vle_co (s := 22) (t1 := .bool false) rfl (by simp) (tle_bool (by simpa using knh12)) (by conv => lhs; simp)) ?_
      refine Wo.en (by conv => lhs; simp) ?_
      cases h12
      first | rfl | simp
    ·rintro V rfl
     generalize w11 = x_10 at *
     try dsimp only at h9
     cases h9
     first | rfl | simp
  ·rintro V rfl
   generalize w8 = x_7 at *
   try dsimp only at h
   by_cases kc15 : x_7 = true
   ·rw [if_pos kc15] at h
    refine Wc.condT' (by conv => lhs; simp) (by simpa using kc15) ?_
    refine Wc.sk (by conv => lhs; simp) ?_
    refine Wc.se (by conv => lhs; simp) ?_
    refine Wc.ret ?_
    have e0 := hx _ (Option.some.inj h).symm
    subst e0
    exact ⟨rfl, by first | rfl | simp⟩
   ·rw [if_neg kc15] at h
    refine Wc.condF' (by conv => lhs; simp) (by simpa using kc15) ?_
    refine Wc.sk (by conv => lhs; simp) ?_
    apply Wc.skip
    refine Wc.en (by conv => lhs; simp) ?_
    refine Wc.start ?_ (hk _ (Option.some.inj h).symm)
    first | rfl | simp
 ·rw [if_neg kc2] at h
  refine Wc.condF' (by conv => lhs; simp) (by simpa using kc2) ?_
  refine Wc.sk (by conv => lhs; simp) ?_
  apply Wc.exit
  have e0 := hx _ (Option.some.inj h).symm
  subst e0
  exact ⟨rfl, by first | rfl | simp⟩
theorem r101 {indices : (List Int)} {n1 : Int} {r : Bool} (h : f101 indices n1 = some r) : VJx cx (.ca 101 [(ssl eI indices), (.int .i64 n1)] (.bool r) []) := by
 unfold f101 at h
 refine ca_of rfl rfl (by decide) rfl ?_
 refine Wc.start (by conv => lhs; simp) ?_
 refine Wc.se (by conv => lhs; simp) ?_
 apply Wc.seq
 refine Wc.se (by conv => lhs; simp) ?_
 apply Wc.block
 obtain ⟨w16, h17, h⟩ := bind_some h
 refine Wc.start (V1 := [(0, .v (ssl eI indices)), (1, .v (.int .i64 n1)), (7, .v (ssl eI indices)), (8, .v (.int .i64 (indices.length : Int))), (9, .v (.int .i64 0))]) (by first | rfl | simp) ?_
 refine Wc.mono (r101_0 _ _ h17) ?_
 rcases w16 with ⟨⟩ | x_18
 ·rintro ex V ⟨rfl, rfl⟩
  try dsimp only at h
  refine Wc.se (by conv => lhs; simp) ?_
  refine Wc.ret (res_of (.inr rfl) ?_)
  cases h
  exact ⟨_, _, _, by conv => lhs; simp, by (conv => lhs; simp) <;> rfl, by first | rfl | simp⟩
 ·rintro ex V ⟨rfl, rfl⟩
  try dsimp only at h
  refine res_of (.inr rfl) ?_
  cases h
  exact ⟨_, _, _, by conv => lhs; simp, by (conv => lhs; simp) <;> rfl, by first | rfl | simp⟩
theorem r189_0 {g_f : Nat} {cp_f : List T} {f : Atom → Option Bool} (hio_f : cx.io g_f = []) (hp_f : ∀ x0 o, f x0 = some o → VJx cx (.ca g_f ([(.agg [(.int .i64 x0.Relation), (ssl eI x0.Terms)])] ++ cp_f) (.bool o) [])) {s0 : (List Atom)} : ∀ zs zo, iter (f189_0 s0 f) zs = some zo → Wc cx 19 (.loop L189_0) [(0, .v (ssl eAtom s0)), (1, .v (.fn g_f cp_f)), (7, .v (.int .i64 (s0.length : Int))), (8, .v (.int .i64 zs))] ((QO (QX 0 (fun (y : Unit) => [])) (QR (fun (y : Int) => [(4, .v (.int .i64 y))]))) zo) := by
 refine iter_all ?_
 rintro x_1 zo zr h hk hx
 try dsimp only at hk ⊢
 rw [f189_0] at h
 apply Wc.loop
 refine Wc.se (by conv => lhs; simp) ?_
 apply Wc.seq
 by_cases kc2 : x_1 < (s0.length : Int)
 ·rw [if_pos kc2] at h
  refine Wc.condT' (by conv => lhs; simp) (by simpa using kc2) ?_
  refine Wc.sk (by conv => lhs; simp) ?_
  apply Wc.skip
  apply Wc.seq
  apply Wc.block
  refine Wc.se (by conv => lhs; simp) ?_
  apply Wc.seq
  obtain ⟨v_3, h4, h⟩ := bind_some h
  obtain ⟨ga4, gb4, gc4⟩ := ix_some h4
  have gn4 := ix_ne h4
  have gd4 := arr_at (E := eAtom) (b := false) gc4
  simp at gd4
  refine Wc.evs (by conv => lhs; simp [ga4, gb4, gn4, gd4]) ?_
  obtain ⟨o5, h6, h⟩ := bind_some h
  refine Wo.cl rfl (by (conv => lhs; simp [ga4, gb4, gn4, gd4, hio_f, -cx, -ioTab]) <;> rfl) (hp_f v_3 _ h6) (by simp) (by (conv => lhs; simp [ga4, gb4, gn4, gd4, hio_f, -cx, -ioTab]) <;> rfl) (by (conv => lhs; simp [ga4, gb4, gn4, gd4]) <;> rfl) ?_
  apply Wo.nil
  by_cases kc7 : o5 = true
  ·rw [if_pos kc7] at h
   refine Wc.condT' (by conv => lhs; simp) (by simpa using kc7) ?_
   refine Wc.sk (by conv => lhs; simp) ?_
   refine Wc.se (by conv => lhs; simp) ?_
   refine Wc.ret ?_
   have e0 := hx _ (Option.some.inj h).symm
   subst e0
   exact ⟨rfl, by first | rfl | simp⟩
  ·rw [if_neg kc7] at h
   refine Wc.condF' (by conv => lhs; simp) (by simpa using kc7) ?_
   refine Wc.sk (by conv => lhs; simp) ?_
   apply Wc.skip
   refine Wc.en (by conv => lhs; simp) ?_
   refine Wc.start ?_ (hk _ (Option.some.inj h).symm)
   first | rfl | simp
 ·rw [if_neg kc2] at h
  refine Wc.condF' (by conv => lhs; simp) (by simpa using kc2) ?_
  refine Wc.sk (by conv => lhs; simp) ?_
  apply Wc.exit
  have e0 := hx _ (Option.some.inj h).symm
  subst e0
  exact ⟨rfl, by first | rfl | simp⟩
theorem r189 {s0 : (List Atom)} {g_f : Nat} {cp_f : List T} {f : Atom → Option Bool} (hio_f : cx.io g_f = []) (hp_f : ∀ x0 o, f x0 = some o → VJx cx (.ca g_f ([(.agg [(.int .i64 x0.Relation), (ssl eI x0.Terms)])] ++ cp_f) (.bool o) [])) {r : Int} (h : f189 s0 f = some r) : VJx cx (.ca 189 [(ssl eAtom s0), (.fn g_f cp_f)] (.int .i64 r) []) := by
 unfold f189 at h
 refine ca_of rfl rfl (by decide) rfl ?_
 refine Wc.start (by conv => lhs; simp) ?_
 refine Wc.se (by conv => lhs; simp) ?_
 apply Wc.seq
 refine Wc.se (by conv => lhs; simp) ?_
 apply Wc.block
 obtain ⟨w8, h9, h⟩ := bind_some h
 refine Wc.start (V1 := [(0, .v (ssl eAtom s0)), (1, .v (.fn g_f cp_f)), (7, .v (.int .i64 (s0.length : Int))), (8, .v (.int .i64 0))]) (by first | rfl | simp) ?_
 refine Wc.mono (r189_0 hio_f hp_f _ _ h9) ?_
 rcases w8 with ⟨⟩ | x_10
 ·rintro ex V ⟨rfl, rfl⟩
  try dsimp only at h
  refine Wc.se (by conv => lhs; simp) ?_
  refine Wc.ret (res_of (.inr rfl) ?_)
  cases h
  exact ⟨_, _, _, by conv => lhs; simp, by (conv => lhs; simp) <;> rfl, by first | rfl | simp⟩
 ·rintro ex V ⟨rfl, rfl⟩
  try dsimp only at h
  refine res_of (.inr rfl) ?_
  cases h
  exact ⟨_, _, _, by conv => lhs; simp, by (conv => lhs; simp) <;> rfl, by first | rfl | simp⟩
theorem r168 {s0 : (List Atom)} {g_f : Nat} {cp_f : List T} {f : Atom → Option Bool} (hio_f : cx.io g_f = []) (hp_f : ∀ x0 o, f x0 = some o → VJx cx (.ca g_f ([(.agg [(.int .i64 x0.Relation), (ssl eI x0.Terms)])] ++ cp_f) (.bool o) [])) {r : Bool} (h : f168 s0 f = some r) : VJx cx (.ca 168 [(ssl eAtom s0), (.fn g_f cp_f)] (.bool r) []) := by
 unfold f168 at h
 refine ca_of rfl rfl (by decide) rfl ?_
 refine Wc.start (by conv => lhs; simp) ?_
 refine Wc.se (by conv => lhs; simp) ?_
 apply Wc.seq
 refine Wc.evs (by conv => lhs; simp) ?_
 obtain ⟨o1, h2, h⟩ := bind_some h
 refine Wo.cl rfl (by (conv => lhs; simp) <;> rfl) (r189 hio_f hp_f h2) (by simp) (by (conv => lhs; simp) <;> rfl) (by (conv => lhs; simp) <;> rfl) ?_
 refine Wo.en (by conv => lhs; simp) ?_
 refine Wc.ret (res_of (.inr rfl) ?_)
 cases h
 exact ⟨_, _, _, by conv => lhs; simp, by (conv => lhs; simp) <;> rfl, by first | rfl | simp⟩
theorem r169 {own : Atom} {c : Atom} {r : Bool} (h : f169 own c = some r) : VJx cx (.ca 169 [(.agg [(.int .i64 own.Relation), (ssl eI own.Terms)]), (.ptr false [(.int .i64 c.Relation), (ssl eI c.Terms)])] (.bool r) []) := by
 unfold f169 at h
 refine ca_of rfl rfl (by decide) rfl ?_
 refine Wc.start (by conv => lhs; simp) ?_
 refine Wc.se (by conv => lhs; simp) ?_
 refine Wc.se (by conv => lhs; simp) ?_
 refine Wc.ret (res_of (.inr rfl) ?_)
 cases h
 exact ⟨_, _, _, by conv => lhs; simp, by (conv => lhs; simp) <;> rfl, by first | rfl | simp⟩
theorem r198 {n : Int} {r : Nat} (h : f198 n = some r) : VJx cx (.ca 198 [.nils, .int .i64 n] (.sl true true 1 r []) []) := by
 exact ca_grow (zs := [.int .i64 (0)]) (zt := [(.int .i64 0)]) rfl rfl rfl rfl (by decide) (by decide) h
theorem r184_0 {slices : (List (List Int))} : ∀ zs zo, iter (f184_0 slices) zs = some zo → Wc cx 36 (.loop L184_0) [(0, .v (ssl (eL eI) slices)), (3, .v (.int .i64 zs.1)), (9, .v (ssl (eL eI) slices)), (10, .v (.int .i64 (slices.length : Int))), (11, .v (.int .i64 zs.2))] ((QX 0 (fun (y : Int) => [(0, .v (ssl (eL eI) slices)), (3, .v (.int .i64 y))])) zo) := by
 refine iter_all ?_
 rintro ⟨size_1, x_2⟩ zo zr h hk hx
 try dsimp only at hk ⊢
 rw [f184_0] at h
 apply Wc.loop
 refine Wc.se (by conv => lhs; simp) ?_
 apply Wc.seq
 by_cases kc3 : x_2 < (slices.length : Int)
 ·rw [if_pos kc3] at h
  refine Wc.condT' (by conv => lhs; simp) (by simpa using kc3) ?_
  refine Wc.sk (by conv => lhs; simp) ?_
  apply Wc.skip
  apply Wc.seq
  apply Wc.block
  apply Wc.seq
  obtain ⟨v_4, h5, h⟩ := bind_some h
  obtain ⟨ga5, gb5, gc5⟩ := ix_some h5
  have gn5 := ix_ne h5
  have gd5 := arr_at (E := (eL eI)) (b := false) gc5
  simp at gd5
  refine Wc.en (by conv => lhs; simp [ga5, gb5, gn5, gd5]) ?_
  refine Wc.se (by conv => lhs; simp) ?_
  refine Wc.se (by conv => lhs; simp) ?_
  obtain ⟨w6, h7, h⟩ := bind_some h
  refine Wc.mono (Q := (QN (fun (y : Unit) => [(0, .v (ssl (eL eI) slices)), (3, .v (.int .i64 (w64 (size_1 + (v_4.length : Int))))), (9, .v (ssl (eL eI) slices)), (10, .v (.int .i64 (slices.length : Int))), (11, .v (.int .i64 x_2))])) w6) ?_ ?_
  ·skip
   by_cases kc8 : (w64 (size_1 + (v_4.length : Int))) < 0
   ·rw [if_pos kc8] at h7
    refine Wc.condT' (by conv => lhs; simp) (by simpa using kc8) ?_
    refine Wc.sk (by conv => lhs; simp) ?_
    refine Wc.reg ?_
    cases h7
   ·rw [if_neg kc8] at h7
    refine Wc.condF' (by conv => lhs; simp) (by simpa using kc8) ?_
    refine Wc.sk (by conv => lhs; simp) ?_
    apply Wc.skip
    cases h7
    exact ⟨rfl, by first | rfl | simp⟩
  ·skip
   obtain ⟨⟩ := w6
   rintro ex V ⟨rfl, rfl⟩
   try dsimp only at h
   refine Wc.en (by conv => lhs; simp) ?_
   refine Wc.start ?_ (hk _ (Option.some.inj h).symm)
   first | rfl | simp
 ·rw [if_neg kc3] at h
  refine Wc.condF' (by conv => lhs; simp) (by simpa using kc3) ?_
  refine Wc.sk (by conv => lhs; simp) ?_
  apply Wc.exit
  have e0 := hx _ (Option.some.inj h).symm
  subst e0
  exact ⟨rfl, by first | rfl | simp⟩
theorem r184_1 {slices : (List (List Int))} : ∀ zs zo, iter (f184_1 slices) zs = some zo → Wc cx 36 (.loop L184_1) [(6, .v (.sl true true 1 zs.1 (arr eI true zs.2.1))), (25, .v (ssl (eL eI) slices)), (26, .v (.int .i64 (slices.length : Int))), (27, .v (.int .i64 zs.2.2))] ((QX 2 (fun (y : Nat × (List Int)) => [(6, .v (.sl true true 1 y.1 (arr eI true y.2)))])) zo) := by
 refine iter_all ?_
 rintro ⟨newslice_14, newslice_15, x_16⟩ zo zr h hk hx
 try dsimp only at hk ⊢
 rw [f184_1] at h
 apply Wc.loop
 refine Wc.se (by conv => lhs; simp) ?_
 apply Wc.seq
 by_cases kc17 : x_16 < (slices.length : Int)
 ·rw [if_pos kc17] at h
  refine Wc.condT' (by conv => lhs; simp) (by simpa using kc17) ?_
  refine Wc.sk (by conv => lhs; simp) ?_
  apply Wc.skip
  apply Wc.seq
  apply Wc.block
  apply Wc.seq
  obtain ⟨v_18, h19, h⟩ := bind_some h
  obtain ⟨ga19, gb19, gc19⟩ := ix_some h19
  have gn19 := ix_ne h19
  have gd19 := arr_at (E := (eL eI)) (b := false) gc19
  simp at gd19
  refine Wc.en (by conv => lhs; simp [ga19, gb19, gn19, gd19]) ?_
  obtain ⟨l_20, h21, h⟩ := bind_some h
  have gx21 := appT_sk (E := eI) (b := true) (b' := false) (y := true) h21 (by decide) (arr_sc rfl _)
  simp at gx21
  refine Wc.en (by conv => lhs; simp [gx21]) ?_
  refine Wc.en (by conv => lhs; simp) ?_
  refine Wc.start ?_ (hk _ (Option.some.inj h).symm)
  first | rfl | simp
 ·rw [if_neg kc17] at h
  refine Wc.condF' (by conv => lhs; simp) (by simpa using kc17) ?_
  refine Wc.sk (by conv => lhs; simp) ?_
  apply Wc.exit
  have e0 := hx _ (Option.some.inj h).symm
  subst e0
  exact ⟨rfl, by first | rfl | simp⟩
theorem r184 {slices : (List (List Int))} {r : (List Int)} (h : f184 slices = some r) : VJx cx (.ca 184 [(ssl (eL eI) slices)] (osl eI true r) []) := by
 unfold f184 at h
 refine ca_of rfl rfl (by decide) rfl ?_
 refine Wc.start (by conv => lhs; simp) ?_
 refine Wc.se (by conv => lhs; simp) ?_
 refine Wc.se (by conv => lhs; simp) ?_
 apply Wc.seq
 refine Wc.se (by conv => lhs; simp) ?_
 apply Wc.block
 obtain ⟨w9, h10, h⟩ := bind_some h
 refine Wc.start (V1 := [(0, .v (ssl (eL eI) slices)), (3, .v (.int .i64 0)), (9, .v (ssl (eL eI) slices)), (10, .v (.int .i64 (slices.length : Int))), (11, .v (.int .i64 0))]) (by first | rfl | simp) ?_
 refine Wc.mono (r184_0 _ _ h10) ?_
 generalize w9 = size_11 at *
 rintro ex V ⟨rfl, rfl⟩
 try dsimp only at h
 apply Wc.seq
 refine Wc.evs (by conv => lhs; simp) ?_
 obtain ⟨o12, h13, h⟩ := bind_some h
 refine Wo.cl rfl (by (conv => lhs; simp) <;> rfl) (r198 h13) (by simp) (by (conv => lhs; simp) <;> rfl) (by (conv => lhs; simp) <;> rfl) ?_
 refine Wo.en (by conv => lhs; simp) ?_
 apply Wc.seq
 refine Wc.se (by conv => lhs; simp) ?_
 apply Wc.block
 obtain ⟨w22, h23, h⟩ := bind_some h
 refine Wc.start (V1 := [(6, .v (.sl true true 1 o12 (arr eI true ([])))), (25, .v (ssl (eL eI) slices)), (26, .v (.int .i64 (slices.length : Int))), (27, .v (.int .i64 0))]) (by first | rfl | simp) ?_
 refine Wc.mono (r184_1 _ _ h23) ?_
 obtain ⟨newslice_24, newslice_25⟩ := w22
 rintro ex V ⟨rfl, rfl⟩
 dsimp only at h ⊢
 refine Wc.se (by conv => lhs; simp) ?_
 obtain ⟨_, h26, h⟩ := bind_some h
 have gzh26 := nsk_some h26
 refine Wc.gh (vle_co (s := 2) (t1 := (osl eI true newslice_25)) rfl (by simp) (tle_eq (by rw [gzh26] <;> rfl)) (by conv => lhs; simp)) ?_
 refine Wc.ret (res_of (.inr rfl) ?_)
 cases h
 exact ⟨_, _, _, by conv => lhs; simp, by (conv => lhs; simp) <;> rfl, by first | rfl | simp⟩
theorem r214 {x : Int} {r : Int} (h : f214 x = some r) : VJx cx (.ca 214 [(.int .u64 x)] (.int .i64 r) []) := by
 unfold f214 at h
 refine ca_of rfl rfl (by decide) rfl ?_
 refine Wc.start (by conv => lhs; simp) ?_
 refine Wc.se (by conv => lhs; simp) ?_
 apply Wc.seq
 refine Wc.se (by conv => lhs; simp) ?_
 obtain ⟨w1, h2, h⟩ := bind_some h
 refine Wc.mono (Q := (QN (fun (y : Int × Int) => [(0, .v (.int .u64 y.1)), (2, .v (.int .i64 y.2))])) w1) ?_ ?_
 ·skip
  by_cases kc3 : x ≥ 4294967296
  ·rw [if_pos kc3] at h2
   refine Wc.condT' (by conv => lhs; simp) (by simpa using kc3) ?_
   refine Wc.sk (by conv => lhs; simp) ?_
   refine Wc.se (by conv => lhs; simp) ?_
   refine Wc.en (by conv => lhs; simp) ?_
   cases h2
   exact ⟨rfl, by first | rfl | simp⟩
  ·rw [if_neg kc3] at h2
   refine Wc.condF' (by conv => lhs; simp) (by simpa using kc3) ?_
   refine Wc.sk (by conv => lhs; simp) ?_
   apply Wc.skip
   cases h2
   exact ⟨rfl, by first | rfl | simp⟩
 ·skip
  obtain ⟨x_4, n_5⟩ := w1
  rintro ex V ⟨rfl, rfl⟩
  dsimp only at h ⊢
  apply Wc.seq
  refine Wc.se (by conv => lhs; simp) ?_
  obtain ⟨w6, h7, h⟩ := bind_some h
  refine Wc.mono (Q := (QN (fun (y : Int × Int) => [(0, .v (.int .u64 y.1)), (2, .v (.int .i64 y.2))])) w6) ?_ ?_
  ·skip
   by_cases kc8 : x_4 ≥ 65536
   ·rw [if_pos kc8] at h7
    refine Wc.condT' (by conv => lhs; simp) (by simpa using kc8) ?_
    refine Wc.sk (by conv => lhs; simp) ?_
    refine Wc.se (by conv => lhs; simp) ?_
    refine Wc.en (by conv => lhs; simp) ?_
    cases h7
    exact ⟨rfl, by first | rfl | simp⟩
   ·rw [if_neg kc8] at h7
    refine Wc.condF' (by conv => lhs; simp) (by simpa using kc8) ?_
    refine Wc.sk (by conv => lhs; simp) ?_
    apply Wc.skip
    cases h7
    exact ⟨rfl, by first | rfl | simp⟩
  ·skip
   obtain ⟨x_9, n_10⟩ := w6
   rintro ex V ⟨rfl, rfl⟩
   dsimp only at h ⊢
   apply Wc.seq
   refine Wc.se (by conv => lhs; simp) ?_
   obtain ⟨w11, h12, h⟩ := bind_some h
   refine Wc.mono (Q := (QN (fun (y : Int × Int) => [(0, .v (.int .u64 y.1)), (2, .v (.int .i64 y.2))])) w11) ?_ ?_
   ·skip
    by_cases kc13 : x_9 ≥ 256
    ·rw [if_pos kc13] at h12
     refine Wc.condT' (by conv => lhs; simp) (by simpa using kc13) ?_
     refine Wc.sk (by conv => lhs; simp) ?_
     refine Wc.se (by conv => lhs; simp) ?_
     refine Wc.en (by conv => lhs; simp) ?_
     cases h12
     exact ⟨rfl, by first | rfl | simp⟩
    ·rw [if_neg kc13] at h12
     refine Wc.condF' (by conv => lhs; simp) (by simpa using kc13) ?_
     refine Wc.sk (by conv => lhs; simp) ?_
     apply Wc.skip
     cases h12
     exact ⟨rfl, by first | rfl | simp⟩
   ·skip
    obtain ⟨x_14, n_15⟩ := w11
    rintro ex V ⟨rfl, rfl⟩
    dsimp only at h ⊢
    apply Wc.seq
    obtain ⟨c_16, h17, h⟩ := bind_some h
    obtain ⟨ga17, gb17, gc17⟩ := ix_some h17
    refine Wc.en (by conv => lhs; simp [-getElem?_pos, ga17, gb17, gc17]) ?_
    refine Wc.ret (res_of (.inr rfl) ?_)
    cases h
    exact ⟨_, _, _, by conv => lhs; simp, by (conv => lhs; simp) <;> rfl, by first | rfl | simp [-getElem?_pos, ga17, gb17, gc17]⟩
theorem r200 {x : Int} {r : Int} (h : f200 x = some r) : VJx cx (.ca 200 [(.int .u64 x)] (.int .i64 r) []) := by
 unfold f200 at h
 refine ca_of rfl rfl (by decide) rfl ?_
 refine Wc.start (by conv => lhs; simp) ?_
 refine Wc.se (by conv => lhs; simp) ?_
 apply Wc.seq
 refine Wc.condF (by simp) ?_
 apply Wc.skip
 apply Wc.seq
 refine Wc.evs (by conv => lhs; simp) ?_
 obtain ⟨o1, h2, h⟩ := bind_some h
 refine Wo.cl rfl (by (conv => lhs; simp) <;> rfl) (r214 h2) (by simp) (by (conv => lhs; simp) <;> rfl) (by (conv => lhs; simp) <;> rfl) ?_
 refine Wo.en (by conv => lhs; simp) ?_
 refine Wc.ret (res_of (.inr rfl) ?_)
 cases h
 exact ⟨_, _, _, by conv => lhs; simp, by (conv => lhs; simp) <;> rfl, by first | rfl | simp⟩
theorem r203 {x : Int} {r : Bool} (h : f203 x = some r) : VJx cx (.ca 203 [(.int .i64 x)] (.bool r) []) := by
 unfold f203 at h
 refine ca_of rfl rfl (by decide) rfl ?_
 refine Wc.start (by conv => lhs; simp) ?_
 refine Wc.se (by conv => lhs; simp) ?_
 refine Wc.se (by conv => lhs; simp) ?_
 refine Wc.ret (res_of (.inr rfl) ?_)
 cases h
 exact ⟨_, _, _, by conv => lhs; simp, by (conv => lhs; simp) <;> rfl, by first | rfl | simp⟩
theorem r210 {x : Int} {y : Int} {r : Bool} (h : f210 x y = some r) : VJx cx (.ca 210 [(.int .i64 x), (.int .i64 y)] (.bool r) []) := by
 unfold f210 at h
 refine ca_of rfl rfl (by decide) rfl ?_
 refine Wc.start (by conv => lhs; simp) ?_
 refine Wc.se (by conv => lhs; simp) ?_
 apply Wc.seq
 refine Wc.evs (by conv => lhs; simp) ?_
 obtain ⟨o1, h2, h⟩ := bind_some h
 refine Wo.cl rfl (by (conv => lhs; simp) <;> rfl) (r203 h2) (by simp) (by (conv => lhs; simp) <;> rfl) (by (conv => lhs; simp) <;> rfl) ?_
 refine Wo.evk 1 (by conv => lhs; simp) ?_
 obtain ⟨w4, h5, h⟩ := bind_some h
 refine Wo.mono (Q := fun V => V = [(4, .v (.bool w4))]) ?_ ?_
 ·by_cases knh5 : o1 = true
  ·rw [if_pos knh5] at h5
   refine Wo.gh (vle_co (s := 7) (t1 := .bool true) rfl (by simp) (tle_bool (by simpa using knh5)) (by conv => lhs; simp)) ?_
   refine Wo.evs (by conv => lhs; simp) ?_
   obtain ⟨o6, h7, h5⟩ := bind_some h5
   refine Wo.call (by simp) rfl (by (conv => lhs; simp) <;> rfl) (r203 h7) (by simp) (by simp) (by (conv => lhs; simp) <;> rfl) (by (conv => lhs; simp) <;> rfl) ?_
   refine Wo.evk 3 (by conv => lhs; simp) ?_
   obtain ⟨w9, h10, h5⟩ := bind_some h5
   refine Wo.mono (Q := fun V => V = [(4, .v (.bool w9))]) ?_ ?_
   ·by_cases knh10 : ¬ (o6 = true)
    ·rw [if_pos knh10] at h10
     refine Wo.gh (vle_co (s := 12) (t1 := .bool true) rfl (by simp) (tle_bool (by simpa using knh10)) (by conv => lhs; simp)) ?_
     refine Wo.en (by conv => lhs; simp) ?_
     cases h10
     first | rfl | simp
    ·rw [if_neg knh10] at h10
     refine Wo.gh (vle_co (s := 12) (t1 := .bool false) rfl (by simp) (tle_bool (by simpa using knh10)) (by conv => lhs; simp)) ?_
     refine Wo.en (by conv => lhs; simp) ?_
     cases h10
     first | rfl | simp
   ·rintro V rfl
    generalize w9 = x_8 at *
    try dsimp only at h5
    cases h5
    first | rfl | simp
  ·rw [if_neg knh5] at h5
   refine Wo.gh (vle_co (s := 7) (t1 := .bool false) rfl (by simp) (tle_bool (by simpa using knh5)) (by conv => lhs; simp)) ?_
   refine Wo.en (by conv => lhs; simp) ?_
   cases h5
   first | rfl | simp
 ·rintro V rfl
  generalize w4 = x_3 at *
  try dsimp only at h
  refine Wc.ret (res_of (.inr rfl) ?_)
  cases h
  exact ⟨_, _, _, by conv => lhs; simp, by (conv => lhs; simp) <;> rfl, by first | rfl | simp⟩
theorem r204_1 {a : Int} {b : Int} {i_2 : Int} : ∀ zs zo, iter (f204_1 a) zs = some zo → Wc cx 49 (.loop L204_1) [(0, .v (osl eI true zs.1)), (1, .v (.int .i64 a)), (2, .v (.int .i64 b)), (6, .v (.int .i64 i_2)), (7, .v (.int .i64 zs.2))] ((QX 2 (fun (y : (List Int)) => [(0, .v (osl eI true y)), (1, .v (.int .i64 a)), (2, .v (.int .i64 b)), (6, .v (.int .i64 i_2))])) zo) := by
 refine iter_all ?_
 rintro ⟨data_4, j_5⟩ zo zr h hk hx
 try dsimp only at hk ⊢
 rw [f204_1] at h
 apply Wc.loop
 apply Wc.seq
 apply Wc.seq
 refine Wc.evk 4 (by conv => lhs; simp) ?_
 obtain ⟨w7, h8, h⟩ := bind_some h
 refine Wo.mono (Q := fun V => V = [(0, .v (osl eI true data_4)), (1, .v (.int .i64 a)), (2, .v (.int .i64 b)), (6, .v (.int .i64 i_2)), (7, .v (.int .i64 j_5)), (30, .v (.bool w7))]) ?_ ?_
 ·by_cases knh8 : j_5 > a
  ·rw [if_pos knh8] at h8
   refine Wo.gh (vle_co (s := 19) (t1 := .bool true) rfl (by simp) (tle_bool (by simpa using knh8)) (by conv => lhs; simp)) ?_
   obtain ⟨v_9, h10, h8⟩ := bind_some h8
   obtain ⟨ga10, gb10, gc10⟩ := ix_some h10
   have gn10 := ix_ne h10
   have gf10 := arr_fit (E := eI) (b := true) (i := j_5.toNat) (l := data_4) (by omega)
   have gg10_0 := arr_get (E := eI) (b := true) (o := 0) gc10 (by decide)
   simp at gf10 gg10_0
   have gl10 : j_5.toNat < data_4.length := by omega
   obtain ⟨v_11, h12, h8⟩ := bind_some h8
   obtain ⟨ga12, gb12, gc12⟩ := ix_some h12
   have gn12 := ix_ne h12
   have gf12 := arr_fit (E := eI) (b := true) (i := (w64 (j_5 - 1)).toNat) (l := data_4) (by omega)
   have gg12_0 := arr_get (E := eI) (b := true) (o := 0) gc12 (by decide)
   simp at gf12 gg12_0
   have gl12 : (w64 (j_5 - 1)).toNat < data_4.length := by omega
   refine Wo.evs (by conv => lhs; simp [-getElem?_pos, List.getElem?_cons_zero, List.getElem?_cons_succ, ga10, gb10, gn10, gf10, gg10_0, gl10, ga12, gb12, gn12, gf12, gg12_0, gl12]) ?_
   obtain ⟨o13, h14, h8⟩ := bind_some h8
   refine Wo.call (by simp [-getElem?_pos, List.getElem?_cons_zero, List.getElem?_cons_succ, ga10, gb10, gn10, gf10, gg10_0, gl10, ga12, gb12, gn12, gf12, gg12_0, gl12]) rfl (by (conv => lhs; simp [-getElem?_pos, List.getElem?_cons_zero, List.getElem?_cons_succ, ga10, gb10, gn10, gf10, gg10_0, gl10, ga12, gb12, gn12, gf12, gg12_0, gl12]) <;> rfl) (r210 h14) (by simp) (by simp) (by (conv => lhs; simp [-getElem?_pos, List.getElem?_cons_zero, List.getElem?_cons_succ, ga10, gb10, gn10, gf10, gg10_0, gl10, ga12, gb12, gn12, gf12, gg12_0, gl12]) <;> rfl) (by (conv => lhs; simp [-getElem?_pos, List.getElem?_cons_zero, List.getElem?_cons_succ, ga10, gb10, gn10, gf10, gg10_0, gl10, ga12, gb12, gn12, gf12, gg12_0, gl12]) <;> rfl) ?_
   refine Wo.en (by conv => lhs; simp [-getElem?_pos, List.getElem?_cons_zero, List.getElem?_cons_succ, ga10, gb10, gn10, gf10, gg10_0, gl10, ga12, gb12, gn12, gf12, gg12_0, gl12]) ?_
   cases h8
   first | rfl | simp [-getElem?_pos, List.getElem?_cons_zero, List.getElem?_cons_succ, ga10, gb10, gn10, gf10, gg10_0, gl10, ga12, gb12, gn12, gf12, gg12_0, gl12]
  ·rw [if_neg knh8] at h8
   refine Wo.gh (vle_co (s := 19) (t1 := .bool false) rfl (by simp) (tle_bool (by simpa using knh8)) (by conv => lhs; simp)) ?_
   refine Wo.en (by conv => lhs; simp) ?_
   cases h8
   first | rfl | simp
 ·rintro V rfl
  generalize w7 = x_6 at *
  try dsimp only at h
  by_cases kc15 : x_6 = true
  ·rw [if_pos kc15] at h
   refine Wc.condT' (by conv => lhs; simp) (by simpa using kc15) ?_
   refine Wc.sk (by conv => lhs; simp) ?_
   apply Wc.skip
   apply Wc.seq
   apply Wc.block
   obtain ⟨v_16, h17, h⟩ := bind_some h
   obtain ⟨ga17, gb17, gc17⟩ := ix_some h17
   have gn17 := ix_ne h17
   have gf17 := arr_fit (E := eI) (b := true) (i := (w64 (j_5 - 1)).toNat) (l := data_4) (by omega)
   have gg17_0 := arr_get (E := eI) (b := true) (o := 0) gc17 (by decide)
   simp at gf17 gg17_0
   have gl17 : (w64 (j_5 - 1)).toNat < data_4.length := by omega
   obtain ⟨v_18, h19, h⟩ := bind_some h
   obtain ⟨ga19, gb19, gc19⟩ := ix_some h19
   have gn19 := ix_ne h19
   have gf19 := arr_fit (E := eI) (b := true) (i := j_5.toNat) (l := data_4) (by omega)
   have gg19_0 := arr_get (E := eI) (b := true) (o := 0) gc19 (by decide)
   simp at gf19 gg19_0
   have gl19 : j_5.toNat < data_4.length := by omega
   have gy20 := lay_set (E := eI) (b := true) (i := j_5.toNat) (l := data_4) v_16 (by omega)
   simp at gy20
   obtain ⟨v_21, h22, h⟩ := bind_some h
   obtain ⟨ga22, gb22, gc22⟩ := ix_some h22
   have gn22 := ix_ne h22
   have gf22 := arr_fit (E := eI) (b := true) (i := (w64 (j_5 - 1)).toNat) (l := (data_4.set j_5.toNat v_16)) (by first | omega | (simp only [List.length_set] at *; omega))
   have gg22_0 := arr_get (E := eI) (b := true) (o := 0) gc22 (by decide)
   simp at gf22 gg22_0
   have gl22 : (w64 (j_5 - 1)).toNat < (data_4.set j_5.toNat v_16).length := by first | omega | (simp only [List.length_set] at *; omega)
   try simp only [List.length_set] at gb22 gl22
   try simp at gn22
   have gy23 := lay_set (E := eI) (b := true) (i := (w64 (j_5 - 1)).toNat) (l := (data_4.set j_5.toNat v_16)) v_18 (by first | omega | (simp only [List.length_set] at *; omega))
   simp at gy23
   refine Wc.en (by conv => lhs; simp [-getElem?_pos, List.getElem?_cons_zero, List.getElem?_cons_succ, ga17, gb17, gn17, gf17, gg17_0, gl17, ga19, gb19, gn19, gf19, gg19_0, gl19, gy20, ga22, gb22, gn22, gf22, gg22_0, gl22, gy23]) ?_
   refine Wc.en (by conv => lhs; simp) ?_
   refine Wc.start ?_ (hk _ (Option.some.inj h).symm)
   first | rfl | simp
  ·rw [if_neg kc15] at h
   refine Wc.condF' (by conv => lhs; simp) (by simpa using kc15) ?_
   refine Wc.sk (by conv => lhs; simp) ?_
   apply Wc.exit
   have e0 := hx _ (Option.some.inj h).symm
   subst e0
   exact ⟨rfl, by first | rfl | simp⟩
theorem r204_0 {a : Int} {b : Int} : ∀ zs zo, iter (f204_0 a b) zs = some zo → Wc cx 49 (.loop L204_0) [(0, .v (osl eI true zs.1)), (1, .v (.int .i64 a)), (2, .v (.int .i64 b)), (6, .v (.int .i64 zs.2))] ((QX 0 (fun (y : (List Int)) => [(0, .v (osl eI true y))])) zo) := by
 refine iter_all ?_
 rintro ⟨data_1, i_2⟩ zo zr h hk hx
 try dsimp only at hk ⊢
 rw [f204_0] at h
 apply Wc.loop
 apply Wc.seq
 refine Wc.se (by conv => lhs; simp) ?_
 by_cases kc3 : i_2 < b
 ·rw [if_pos kc3] at h
  refine Wc.condT' (by conv => lhs; simp) (by simpa using kc3) ?_
  refine Wc.sk (by conv => lhs; simp) ?_
  apply Wc.skip
  apply Wc.seq
  apply Wc.block
  refine Wc.se (by conv => lhs; simp) ?_
  apply Wc.block
  obtain ⟨w24, h25, h⟩ := bind_some h
  refine Wc.start (V1 := [(0, .v (osl eI true data_1)), (1, .v (.int .i64 a)), (2, .v (.int .i64 b)), (6, .v (.int .i64 i_2)), (7, .v (.int .i64 i_2))]) (by first | rfl | simp) ?_
  refine Wc.mono (r204_1 _ _ h25) ?_
  generalize w24 = data_26 at *
  rintro ex V ⟨rfl, rfl⟩
  try dsimp only at h
  refine Wc.en (by conv => lhs; simp) ?_
  refine Wc.start ?_ (hk _ (Option.some.inj h).symm)
  first | rfl | simp
 ·rw [if_neg kc3] at h
  refine Wc.condF' (by conv => lhs; simp) (by simpa using kc3) ?_
  refine Wc.sk (by conv => lhs; simp) ?_
  apply Wc.exit
  have e0 := hx _ (Option.some.inj h).symm
  subst e0
  exact ⟨rfl, by first | rfl | simp⟩
theorem r204 {data : (List Int)} {a : Int} {b : Int} {r : (List Int)} (h : f204 data a b = some r) : VJx cx (.ca 204 [(osl eI true data), (.int .i64 a), (.int .i64 b)] (.tup []) [(osl eI true r)]) := by
 unfold f204 at h
 refine ca_of rfl rfl (by decide) rfl ?_
 refine Wc.start (by conv => lhs; simp) ?_
 refine Wc.se (by conv => lhs; simp) ?_
 apply Wc.block
 obtain ⟨w27, h28, h⟩ := bind_some h
 refine Wc.start (V1 := [(0, .v (osl eI true data)), (1, .v (.int .i64 a)), (2, .v (.int .i64 b)), (6, .v (.int .i64 (w64 (a + 1))))]) (by first | rfl | simp) ?_
 refine Wc.mono (r204_0 _ _ h28) ?_
 generalize w27 = data_29 at *
 rintro ex V ⟨rfl, rfl⟩
 try dsimp only at h
 refine res_of (.inl rfl) ?_
 cases h
 exact ⟨_, _, _, by conv => lhs; simp, by (conv => lhs; simp) <;> rfl, by first | rfl | simp⟩
theorem r215_0 {hi : Int} {first : Int} : ∀ zs zo, iter (f215_0 hi first) zs = some zo → Wc cx 76 (.loop L215_0) [(0, .v (osl eI true zs.1)), (2, .v (.int .i64 hi)), (3, .v (.int .i64 first)), (8, .v (.int .i64 zs.2))] ((QO (QX 0 (fun (y : (List Int)) => [(0, .v (osl eI true y))])) (QR (fun (y : (List Int)) => [(0, .v (osl eI true y))]))) zo) := by
 refine iter_all ?_
 rintro ⟨data_1, root_2⟩ zo zr h hk hx
 try dsimp only at hk ⊢
 rw [f215_0] at h
 apply Wc.loop
 apply Wc.block
 refine Wc.se (by conv => lhs; simp) ?_
 apply Wc.seq
 refine Wc.se (by conv => lhs; simp) ?_
 by_cases kc3 : (w64 ((w64 (2 * root_2)) + 1)) ≥ hi
 ·rw [if_pos kc3] at h
  refine Wc.condT' (by conv => lhs; simp) (by simpa using kc3) ?_
  refine Wc.sk (by conv => lhs; simp) ?_
  apply Wc.exit
  have e0 := hx _ (Option.some.inj h).symm
  subst e0
  exact ⟨rfl, by first | rfl | simp⟩
 ·rw [if_neg kc3] at h
  refine Wc.condF' (by conv => lhs; simp) (by simpa using kc3) ?_
  refine Wc.sk (by conv => lhs; simp) ?_
  apply Wc.skip
  apply Wc.seq
  apply Wc.seq
  refine Wc.evk 5 (by conv => lhs; simp) ?_
  obtain ⟨w5, h6, h⟩ := bind_some h
  refine Wo.mono (Q := fun V => V = [(0, .v (osl eI true data_1)), (2, .v (.int .i64 hi)), (3, .v (.int .i64 first)), (8, .v (.int .i64 root_2)), (9, .v (.int .i64 (w64 ((w64 (2 * root_2)) + 1)))), (36, .v (.bool w5))]) ?_ ?_
  ·by_cases knh6 : (w64 ((w64 ((w64 (2 * root_2)) + 1)) + 1)) < hi
   ·rw [if_pos knh6] at h6
    refine Wo.gh (vle_co (s := 21) (t1 := .bool true) rfl (by simp) (tle_bool (by simpa using knh6)) (by conv => lhs; simp)) ?_
    obtain ⟨v_7, h8, h6⟩ := bind_some h6
    obtain ⟨ga8, gb8, gc8⟩ := ix_some h8
    have gn8 := ix_ne h8
    have gf8 := arr_fit (E := eI) (b := true) (i := (w64 (first + (w64 ((w64 (2 * root_2)) + 1)))).toNat) (l := data_1) (by omega)
    have gg8_0 := arr_get (E := eI) (b := true) (o := 0) gc8 (by decide)
    simp at gf8 gg8_0
    have gl8 : (w64 (first + (w64 ((w64 (2 * root_2)) + 1)))).toNat < data_1.length := by omega
    obtain ⟨v_9, h10, h6⟩ := bind_some h6
    obtain ⟨ga10, gb10, gc10⟩ := ix_some h10
    have gn10 := ix_ne h10
    have gf10 := arr_fit (E := eI) (b := true) (i := (w64 ((w64 (first + (w64 ((w64 (2 * root_2)) + 1)))) + 1)).toNat) (l := data_1) (by omega)
    have gg10_0 := arr_get (E := eI) (b := true) (o := 0) gc10 (by decide)
    simp at gf10 gg10_0
    have gl10 : (w64 ((w64 (first + (w64 ((w64 (2 * root_2)) + 1)))) + 1)).toNat < data_1.length := by omega
    refine Wo.evs (by conv => lhs; simp [-getElem?_pos, List.getElem?_cons_zero, List.getElem?_cons_succ, ga8, gb8, gn8, gf8, gg8_0, gl8, ga10, gb10, gn10, gf10, gg10_0, gl10]) ?_
    obtain ⟨o11, h12, h6⟩ := bind_some h6
    refine Wo.call (by simp [-getElem?_pos, List.getElem?_cons_zero, List.getElem?_cons_succ, ga8, gb8, gn8, gf8, gg8_0, gl8, ga10, gb10, gn10, gf10, gg10_0, gl10]) rfl (by (conv => lhs; simp [-getElem?_pos, List.getElem?_cons_zero, List.getElem?_cons_succ, ga8, gb8, gn8, gf8, gg8_0, gl8, ga10, gb10, gn10, gf10, gg10_0, gl10]) <;> rfl) (r210 h12) (by simp) (by simp) (by (conv => lhs; simp [-getElem?_pos, List.getElem?_cons_zero, List.getElem?_cons_succ, ga8, gb8, gn8, gf8, gg8_0, gl8, ga10, gb10, gn10, gf10, gg10_0, gl10]) <;> rfl) (by (conv => lhs; simp [-getElem?_pos, List.getElem?_cons_zero, List.getElem?_cons_succ, ga8, gb8, gn8, gf8, gg8_0, gl8, ga10, gb10, gn10, gf10, gg10_0, gl10]) <;> rfl) ?_
    refine Wo.en (by conv => lhs; simp [-getElem?_pos, List.getElem?_cons_zero, List.getElem?_cons_succ, ga8, gb8, gn8, gf8, gg8_0, gl8, ga10, gb10, gn10, gf10, gg10_0, gl10]) ?_
    cases h6
    first | rfl | simp [-getElem?_pos, List.getElem?_cons_zero, List.getElem?_cons_succ, ga8, gb8, gn8, gf8, gg8_0, gl8, ga10, gb10, gn10, gf10, gg10_0, gl10]
   ·rw [if_neg knh6] at h6
    refine Wo.gh (vle_co (s := 21) (t1 := .bool false) rfl (by simp) (tle_bool (by simpa using knh6)) (by conv => lhs; simp)) ?_
    refine Wo.en (by conv => lhs; simp) ?_
    cases h6
    first | rfl | simp
  ·rintro V rfl
   generalize w5 = x_4 at *
   try dsimp only at h
   obtain ⟨w13, h14, h⟩ := bind_some h
   refine Wc.mono (Q := (QN (fun (y : Int) => [(0, .v (osl eI true data_1)), (2, .v (.int .i64 hi)), (3, .v (.int .i64 first)), (8, .v (.int .i64 root_2)), (9, .v (.int .i64 y))])) w13) ?_ ?_
   ·skip
    by_cases kc15 : x_4 = true
    ·rw [if_pos kc15] at h14
     refine Wc.condT' (by conv => lhs; simp) (by simpa using kc15) ?_
     refine Wc.sk (by conv => lhs; simp) ?_
     refine Wc.en (by conv => lhs; simp) ?_
     cases h14
     exact ⟨rfl, by first | rfl | simp⟩
    ·rw [if_neg kc15] at h14
     refine Wc.condF' (by conv => lhs; simp) (by simpa using kc15) ?_
     refine Wc.sk (by conv => lhs; simp) ?_
     apply Wc.skip
     cases h14
     exact ⟨rfl, by first | rfl | simp⟩
   ·skip
    generalize w13 = child_16 at *
    rintro ex V ⟨rfl, rfl⟩
    try dsimp only at h
    apply Wc.seq
    apply Wc.seq
    obtain ⟨v_17, h18, h⟩ := bind_some h
    obtain ⟨ga18, gb18, gc18⟩ := ix_some h18
    have gn18 := ix_ne h18
    have gf18 := arr_fit (E := eI) (b := true) (i := (w64 (first + root_2)).toNat) (l := data_1) (by omega)
    have gg18_0 := arr_get (E := eI) (b := true) (o := 0) gc18 (by decide)
    simp at gf18 gg18_0
    have gl18 : (w64 (first + root_2)).toNat < data_1.length := by omega
    obtain ⟨v_19, h20, h⟩ := bind_some h
    obtain ⟨ga20, gb20, gc20⟩ := ix_some h20
    have gn20 := ix_ne h20
    have gf20 := arr_fit (E := eI) (b := true) (i := (w64 (first + child_16)).toNat) (l := data_1) (by omega)
    have gg20_0 := arr_get (E := eI) (b := true) (o := 0) gc20 (by decide)
    simp at gf20 gg20_0
    have gl20 : (w64 (first + child_16)).toNat < data_1.length := by omega
    refine Wc.evs (by conv => lhs; simp [-getElem?_pos, List.getElem?_cons_zero, List.getElem?_cons_succ, ga18, gb18, gn18, gf18, gg18_0, gl18, ga20, gb20, gn20, gf20, gg20_0, gl20]) ?_
    obtain ⟨o21, h22, h⟩ := bind_some h
    refine Wo.cl rfl (by (conv => lhs; simp [-getElem?_pos, List.getElem?_cons_zero, List.getElem?_cons_succ, ga18, gb18, gn18, gf18, gg18_0, gl18, ga20, gb20, gn20, gf20, gg20_0, gl20]) <;> rfl) (r210 h22) (by simp) (by (conv => lhs; simp [-getElem?_pos, List.getElem?_cons_zero, List.getElem?_cons_succ, ga18, gb18, gn18, gf18, gg18_0, gl18, ga20, gb20, gn20, gf20, gg20_0, gl20]) <;> rfl) (by (conv => lhs; simp [-getElem?_pos, List.getElem?_cons_zero, List.getElem?_cons_succ, ga18, gb18, gn18, gf18, gg18_0, gl18, ga20, gb20, gn20, gf20, gg20_0, gl20]) <;> rfl) ?_
    refine Wo.en (by conv => lhs; simp [-getElem?_pos, List.getElem?_cons_zero, List.getElem?_cons_succ, ga18, gb18, gn18, gf18, gg18_0, gl18, ga20, gb20, gn20, gf20, gg20_0, gl20]) ?_
    by_cases kc23 : ¬ (o21 = true)
    ·rw [if_pos kc23] at h
     refine Wc.condT' (by conv => lhs; simp) (by simpa using kc23) ?_
     refine Wc.sk (by conv => lhs; simp) ?_
     refine Wc.ret ?_
     have e0 := hx _ (Option.some.inj h).symm
     subst e0
     exact ⟨rfl, by first | rfl | simp [-getElem?_pos, List.getElem?_cons_zero, List.getElem?_cons_succ, ga18, gb18, gn18, gf18, gg18_0, gl18, ga20, gb20, gn20, gf20, gg20_0, gl20]⟩
    ·rw [if_neg kc23] at h
     refine Wc.condF' (by conv => lhs; simp) (by simpa using kc23) ?_
     refine Wc.sk (by conv => lhs; simp) ?_
     apply Wc.skip
     apply Wc.seq
     have gy24 := lay_set (E := eI) (b := true) (i := (w64 (first + root_2)).toNat) (l := data_1) v_19 (by omega)
     simp at gy24
     obtain ⟨v_25, h26, h⟩ := bind_some h
     obtain ⟨ga26, gb26, gc26⟩ := ix_some h26
     have gn26 := ix_ne h26
     have gf26 := arr_fit (E := eI) (b := true) (i := (w64 (first + child_16)).toNat) (l := (data_1.set (w64 (first + root_2)).toNat v_19)) (by first | omega | (simp only [List.length_set] at *; omega))
     have gg26_0 := arr_get (E := eI) (b := true) (o := 0) gc26 (by decide)
     simp at gf26 gg26_0
     have gl26 : (w64 (first + child_16)).toNat < (data_1.set (w64 (first + root_2)).toNat v_19).length := by first | omega | (simp only [List.length_set] at *; omega)
     try simp only [List.length_set] at gb26 gl26
     try simp at gn26
     have gy27 := lay_set (E := eI) (b := true) (i := (w64 (first + child_16)).toNat) (l := (data_1.set (w64 (first + root_2)).toNat v_19)) v_17 (by first | omega | (simp only [List.length_set] at *; omega))
     simp at gy27
     refine Wc.en (by conv => lhs; simp [-getElem?_pos, List.getElem?_cons_zero, List.getElem?_cons_succ, ga20, gb20, gn20, gf20, gg20_0, gl20, ga18, gb18, gn18, gf18, gg18_0, gl18, gy24, ga26, gb26, gn26, gf26, gg26_0, gl26, gy27]) ?_
     refine Wc.en (by conv => lhs; simp) ?_
     refine Wc.start ?_ (hk _ (Option.some.inj h).symm)
     first | rfl | simp
theorem r215 {data : (List Int)} {lo : Int} {hi : Int} {first : Int} {r : (List Int)} (h : f215 data lo hi first = some r) : VJx cx (.ca 215 [(osl eI true data), (.int .i64 lo), (.int .i64 hi), (.int .i64 first)] (.tup []) [(osl eI true r)]) := by
 unfold f215 at h
 refine ca_of rfl rfl (by decide) rfl ?_
 refine Wc.start (by conv => lhs; simp) ?_
 refine Wc.se (by conv => lhs; simp) ?_
 apply Wc.block
 obtain ⟨w28, h29, h⟩ := bind_some h
 refine Wc.start (V1 := [(0, .v (osl eI true data)), (2, .v (.int .i64 hi)), (3, .v (.int .i64 first)), (8, .v (.int .i64 lo))]) (by first | rfl | simp) ?_
 refine Wc.mono (r215_0 _ _ h29) ?_
 rcases w28 with data_30 | data_31
 ·rintro ex V ⟨rfl, rfl⟩
  try dsimp only at h
  refine res_of (.inl rfl) ?_
  cases h
  exact ⟨_, _, _, by conv => lhs; simp, by (conv => lhs; simp) <;> rfl, by first | rfl | simp⟩
 ·rintro ex V ⟨rfl, rfl⟩
  try dsimp only at h
  refine res_of (.inr rfl) ?_
  cases h
  exact ⟨_, _, _, by conv => lhs; simp, by (conv => lhs; simp) <;> rfl, by first | rfl | simp⟩
theorem r205_0 {a : Int} {b : Int} : ∀ zs zo, iter (f205_0 a b) zs = some zo → Wc cx 56 (.loop L205_0) [(0, .v (osl eI true zs.1)), (6, .v (.int .i64 a)), (7, .v (.int .i64 0)), (8, .v (.int .i64 (w64 (b - a)))), (9, .v (.int .i64 zs.2))] ((QX 0 (fun (y : (List Int)) => [(0, .v (osl eI true y)), (6, .v (.int .i64 a)), (7, .v (.int .i64 0)), (8, .v (.int .i64 (w64 (b - a))))])) zo) := by
 refine iter_all ?_
 rintro ⟨data_1, i_2⟩ zo zr h hk hx
 try dsimp only at hk ⊢
 rw [f205_0] at h
 apply Wc.loop
 apply Wc.seq
 refine Wc.se (by conv => lhs; simp) ?_
 by_cases kc3 : i_2 ≥ 0
 ·rw [if_pos kc3] at h
  refine Wc.condT' (by conv => lhs; simp) (by simpa using kc3) ?_
  refine Wc.sk (by conv => lhs; simp) ?_
  apply Wc.skip
  apply Wc.seq
  apply Wc.block
  refine Wc.evs (by conv => lhs; simp) ?_
  obtain ⟨o4, h5, h⟩ := bind_some h
  refine Wo.cl rfl (by (conv => lhs; simp) <;> rfl) (r215 h5) (by simp) (by (conv => lhs; simp) <;> rfl) (by (conv => lhs; simp) <;> rfl) ?_
  apply Wo.nil
  refine Wc.en (by conv => lhs; simp) ?_
  refine Wc.start ?_ (hk _ (Option.some.inj h).symm)
  first | rfl | simp
 ·rw [if_neg kc3] at h
  refine Wc.condF' (by conv => lhs; simp) (by simpa using kc3) ?_
  refine Wc.sk (by conv => lhs; simp) ?_
  apply Wc.exit
  have e0 := hx _ (Option.some.inj h).symm
  subst e0
  exact ⟨rfl, by first | rfl | simp⟩
theorem r205_1 {a : Int} : ∀ zs zo, iter (f205_1 a) zs = some zo → Wc cx 56 (.loop L205_1) [(0, .v (osl eI true zs.1)), (6, .v (.int .i64 a)), (7, .v (.int .i64 0)), (10, .v (.int .i64 zs.2))] ((QX 2 (fun (y : (List Int)) => [(0, .v (osl eI true y))])) zo) := by
 refine iter_all ?_
 rintro ⟨data_9, i_10⟩ zo zr h hk hx
 try dsimp only at hk ⊢
 rw [f205_1] at h
 apply Wc.loop
 apply Wc.seq
 refine Wc.se (by conv => lhs; simp) ?_
 by_cases kc11 : i_10 ≥ 0
 ·rw [if_pos kc11] at h
  refine Wc.condT' (by conv => lhs; simp) (by simpa using kc11) ?_
  refine Wc.sk (by conv => lhs; simp) ?_
  apply Wc.skip
  apply Wc.seq
  apply Wc.block
  apply Wc.seq
  obtain ⟨v_12, h13, h⟩ := bind_some h
  obtain ⟨ga13, gb13, gc13⟩ := ix_some h13
  have gn13 := ix_ne h13
  have gf13 := arr_fit (E := eI) (b := true) (i := (w64 (a + i_10)).toNat) (l := data_9) (by omega)
  have gg13_0 := arr_get (E := eI) (b := true) (o := 0) gc13 (by decide)
  simp at gf13 gg13_0
  have gl13 : (w64 (a + i_10)).toNat < data_9.length := by omega
  obtain ⟨v_14, h15, h⟩ := bind_some h
  obtain ⟨ga15, gb15, gc15⟩ := ix_some h15
  have gn15 := ix_ne h15
  have gf15 := arr_fit (E := eI) (b := true) (i := a.toNat) (l := data_9) (by omega)
  have gg15_0 := arr_get (E := eI) (b := true) (o := 0) gc15 (by decide)
  simp at gf15 gg15_0
  have gl15 : a.toNat < data_9.length := by omega
  have gy16 := lay_set (E := eI) (b := true) (i := a.toNat) (l := data_9) v_12 (by omega)
  simp at gy16
  obtain ⟨v_17, h18, h⟩ := bind_some h
  obtain ⟨ga18, gb18, gc18⟩ := ix_some h18
  have gn18 := ix_ne h18
  have gf18 := arr_fit (E := eI) (b := true) (i := (w64 (a + i_10)).toNat) (l := (data_9.set a.toNat v_12)) (by first | omega | (simp only [List.length_set] at *; omega))
  have gg18_0 := arr_get (E := eI) (b := true) (o := 0) gc18 (by decide)
  simp at gf18 gg18_0
  have gl18 : (w64 (a + i_10)).toNat < (data_9.set a.toNat v_12).length := by first | omega | (simp only [List.length_set] at *; omega)
  try simp only [List.length_set] at gb18 gl18
  try simp at gn18
  have gy19 := lay_set (E := eI) (b := true) (i := (w64 (a + i_10)).toNat) (l := (data_9.set a.toNat v_12)) v_14 (by first | omega | (simp only [List.length_set] at *; omega))
  simp at gy19
  refine Wc.en (by conv => lhs; simp [-getElem?_pos, List.getElem?_cons_zero, List.getElem?_cons_succ, ga13, gb13, gn13, gf13, gg13_0, gl13, ga15, gb15, gn15, gf15, gg15_0, gl15, gy16, ga18, gb18, gn18, gf18, gg18_0, gl18, gy19]) ?_
  refine Wc.evs (by conv => lhs; simp) ?_
  obtain ⟨o20, h21, h⟩ := bind_some h
  refine Wo.cl rfl (by (conv => lhs; simp) <;> rfl) (r215 h21) (by simp) (by (conv => lhs; simp) <;> rfl) (by (conv => lhs; simp) <;> rfl) ?_
  apply Wo.nil
  refine Wc.en (by conv => lhs; simp) ?_
  refine Wc.start ?_ (hk _ (Option.some.inj h).symm)
  first | rfl | simp
 ·rw [if_neg kc11] at h
  refine Wc.condF' (by conv => lhs; simp) (by simpa using kc11) ?_
  refine Wc.sk (by conv => lhs; simp) ?_
  apply Wc.exit
  have e0 := hx _ (Option.some.inj h).symm
  subst e0
  exact ⟨rfl, by first | rfl | simp⟩
theorem r205 {data : (List Int)} {a : Int} {b : Int} {r : (List Int)} (h : f205 data a b = some r) : VJx cx (.ca 205 [(osl eI true data), (.int .i64 a), (.int .i64 b)] (.tup []) [(osl eI true r)]) := by
 unfold f205 at h
 refine ca_of rfl rfl (by decide) rfl ?_
 refine Wc.start (by conv => lhs; simp) ?_
 refine Wc.se (by conv => lhs; simp) ?_
 refine Wc.se (by conv => lhs; simp) ?_
 refine Wc.se (by conv => lhs; simp) ?_
 apply Wc.seq
 refine Wc.se (by conv => lhs; simp) ?_
 apply Wc.block
 obtain ⟨w6, h7, h⟩ := bind_some h
 refine Wc.start (V1 := [(0, .v (osl eI true data)), (6, .v (.int .i64 a)), (7, .v (.int .i64 0)), (8, .v (.int .i64 (w64 (b - a)))), (9, .v (.int .i64 (w64 ((w64 ((w64 (b - a)) - 1)).tdiv 2))))]) (by first | rfl | simp) ?_
 refine Wc.mono (r205_0 _ _ h7) ?_
 generalize w6 = data_8 at *
 rintro ex V ⟨rfl, rfl⟩
 try dsimp only at h
 refine Wc.se (by conv => lhs; simp) ?_
 apply Wc.block
 obtain ⟨w22, h23, h⟩ := bind_some h
 refine Wc.start (V1 := [(0, .v (osl eI true data_8)), (6, .v (.int .i64 a)), (7, .v (.int .i64 0)), (10, .v (.int .i64 (w64 ((w64 (b - a)) - 1))))]) (by first | rfl | simp) ?_
 refine Wc.mono (r205_1 _ _ h23) ?_
 generalize w22 = data_24 at *
 rintro ex V ⟨rfl, rfl⟩
 try dsimp only at h
 refine res_of (.inl rfl) ?_
 cases h
 exact ⟨_, _, _, by conv => lhs; simp, by (conv => lhs; simp) <;> rfl, by first | rfl | simp⟩
theorem r216 {length : Int} {r : Int} (h : f216 length = some r) : VJx cx (.ca 216 [(.int .i64 length)] (.int .u64 r) []) := by
 unfold f216 at h
 refine ca_of rfl rfl (by decide) rfl ?_
 refine Wc.start (by conv => lhs; simp) ?_
 refine Wc.se (by conv => lhs; simp) ?_
 apply Wc.seq
 refine Wc.evs (by conv => lhs; simp) ?_
 obtain ⟨o1, h2, h⟩ := bind_some h
 refine Wo.cl rfl (by (conv => lhs; simp) <;> rfl) (r200 h2) (by simp) (by (conv => lhs; simp) <;> rfl) (by (conv => lhs; simp) <;> rfl) ?_
 obtain ⟨z_3, h4, h⟩ := bind_some h
 have gz4 := nn_some h4
 refine Wo.en (by conv => lhs; simp [gz4]) ?_
 refine Wc.ret (res_of (.inr rfl) ?_)
 cases h
 exact ⟨_, _, _, by conv => lhs; simp, by (conv => lhs; simp) <;> rfl, by first | rfl | simp [gz4]⟩
theorem r217 {r0 : Int} {r : Int × Int} (h : f217 r0 = some r) : VJx cx (.ca 217 [(.ptr true [(.int .u64 r0)])] (.int .u64 r.1) [(.ptr true [(.int .u64 r.2)])]) := by
 unfold f217 at h
 refine ca_of rfl rfl (by decide) rfl ?_
 refine Wc.start (by conv => lhs; simp) ?_
 refine Wc.se (by conv => lhs; simp) ?_
 refine Wc.se (by conv => lhs; simp) ?_
 refine Wc.se (by conv => lhs; simp) ?_
 refine Wc.se (by conv => lhs; simp) ?_
 refine Wc.se (by conv => lhs; simp) ?_
 refine Wc.ret (res_of (.inr rfl) ?_)
 cases h
 exact ⟨_, _, _, by conv => lhs; simp, by (conv => lhs; simp) <;> rfl, by first | rfl | simp⟩
theorem r206_0 {a : Int} {b : Int} {o4 : Int} : ∀ zs zo, iter (f206_0 a b o4) zs = some zo → Wc cx 65 (.loop L206_0) [(0, .v (osl eI true zs.1)), (1, .v (.int .i64 a)), (6, .v (.int .i64 (w64 (b - a)))), (7, .v (.ptr true [(.int .u64 zs.2.1)])), (8, .v (.int .u64 o4)), (9, .v (.int .i64 zs.2.2))] ((QX 0 (fun (y : (List Int)) => [(0, .v (osl eI true y))])) zo) := by
 refine iter_all ?_
 rintro ⟨data_6, random_7, idx_8⟩ zo zr h hk hx
 try dsimp only at hk ⊢
 rw [f206_0] at h
 apply Wc.loop
 apply Wc.seq
 refine Wc.se (by conv => lhs; simp) ?_
 by_cases kc9 : idx_8 ≤ (w64 ((w64 (a + (w64 ((w64 ((w64 (b - a)).tdiv 4)) * 2)))) + 1))
 ·rw [if_pos kc9] at h
  refine Wc.condT' (by conv => lhs; simp) (by simpa using kc9) ?_
  refine Wc.sk (by conv => lhs; simp) ?_
  apply Wc.skip
  apply Wc.seq
  apply Wc.block
  apply Wc.seq
  refine Wc.reg ?_
  obtain ⟨o10, h11, h⟩ := bind_some h
  refine Wo.cl rfl (by (conv => lhs; simp) <;> rfl) (r217 h11) (by simp) (by (conv => lhs; simp) <;> rfl) (by (conv => lhs; simp) <;> rfl) ?_
  refine Wo.en (by conv => lhs; simp) ?_
  apply Wc.seq
  refine Wc.se (by conv => lhs; simp) ?_
  obtain ⟨w12, h13, h⟩ := bind_some h
  refine Wc.mono (Q := (QN (fun (y : Int) => [(0, .v (osl eI true data_6)), (1, .v (.int .i64 a)), (6, .v (.int .i64 (w64 (b - a)))), (7, .v (.ptr true [(.int .u64 o10.2)])), (8, .v (.int .u64 o4)), (9, .v (.int .i64 idx_8)), (10, .v (.int .i64 y))])) w12) ?_ ?_
  ·skip
   by_cases kc14 : (w64 (band .u64 o10.1 (IntKind.u64.wrap (o4 - 1)))) ≥ (w64 (b - a))
   ·rw [if_pos kc14] at h13
    refine Wc.condT' (by conv => lhs; simp) (by simpa using kc14) ?_
    refine Wc.sk (by conv => lhs; simp) ?_
    refine Wc.en (by conv => lhs; simp) ?_
    cases h13
    exact ⟨rfl, by first | rfl | simp⟩
   ·rw [if_neg kc14] at h13
    refine Wc.condF' (by conv => lhs; simp) (by simpa using kc14) ?_
    refine Wc.sk (by conv => lhs; simp) ?_
    apply Wc.skip
    cases h13
    exact ⟨rfl, by first | rfl | simp⟩
  ·skip
   generalize w12 = other_15 at *
   rintro ex V ⟨rfl, rfl⟩
   try dsimp only at h
   obtain ⟨v_16, h17, h⟩ := bind_some h
   obtain ⟨ga17, gb17, gc17⟩ := ix_some h17
   have gn17 := ix_ne h17
   have gf17 := arr_fit (E := eI) (b := true) (i := (w64 (a + other_15)).toNat) (l := data_6) (by omega)
   have gg17_0 := arr_get (E := eI) (b := true) (o := 0) gc17 (by decide)
   simp at gf17 gg17_0
   have gl17 : (w64 (a + other_15)).toNat < data_6.length := by omega
   obtain ⟨v_18, h19, h⟩ := bind_some h
   obtain ⟨ga19, gb19, gc19⟩ := ix_some h19
   have gn19 := ix_ne h19
   have gf19 := arr_fit (E := eI) (b := true) (i := idx_8.toNat) (l := data_6) (by omega)
   have gg19_0 := arr_get (E := eI) (b := true) (o := 0) gc19 (by decide)
   simp at gf19 gg19_0
   have gl19 : idx_8.toNat < data_6.length := by omega
   have gy20 := lay_set (E := eI) (b := true) (i := idx_8.toNat) (l := data_6) v_16 (by omega)
   simp at gy20
   obtain ⟨v_21, h22, h⟩ := bind_some h
   obtain ⟨ga22, gb22, gc22⟩ := ix_some h22
   have gn22 := ix_ne h22
   have gf22 := arr_fit (E := eI) (b := true) (i := (w64 (a + other_15)).toNat) (l := (data_6.set idx_8.toNat v_16)) (by first | omega | (simp only [List.length_set] at *; omega))
   have gg22_0 := arr_get (E := eI) (b := true) (o := 0) gc22 (by decide)
   simp at gf22 gg22_0
   have gl22 : (w64 (a + other_15)).toNat < (data_6.set idx_8.toNat v_16).length := by first | omega | (simp only [List.length_set] at *; omega)
   try simp only [List.length_set] at gb22 gl22
   try simp at gn22
   have gy23 := lay_set (E := eI) (b := true) (i := (w64 (a + other_15)).toNat) (l := (data_6.set idx_8.toNat v_16)) v_18 (by first | omega | (simp only [List.length_set] at *; omega))
   simp at gy23
   refine Wc.en (by conv => lhs; simp [-getElem?_pos, List.getElem?_cons_zero, List.getElem?_cons_succ, ga17, gb17, gn17, gf17, gg17_0, gl17, ga19, gb19, gn19, gf19, gg19_0, gl19, gy20, ga22, gb22, gn22, gf22, gg22_0, gl22, gy23]) ?_
   refine Wc.en (by conv => lhs; simp) ?_
   refine Wc.start ?_ (hk _ (Option.some.inj h).symm)
   first | rfl | simp
 ·rw [if_neg kc9] at h
  refine Wc.condF' (by conv => lhs; simp) (by simpa using kc9) ?_
  refine Wc.sk (by conv => lhs; simp) ?_
  apply Wc.exit
  have e0 := hx _ (Option.some.inj h).symm
  subst e0
  exact ⟨rfl, by first | rfl | simp⟩
theorem r206 {data : (List Int)} {a : Int} {b : Int} {r : (List Int)} (h : f206 data a b = some r) : VJx cx (.ca 206 [(osl eI true data), (.int .i64 a), (.int .i64 b)] (.tup []) [(osl eI true r)]) := by
 unfold f206 at h
 refine ca_of rfl rfl (by decide) rfl ?_
 refine Wc.start (by conv => lhs; simp) ?_
 refine Wc.se (by conv => lhs; simp) ?_
 refine Wc.se (by conv => lhs; simp) ?_
 obtain ⟨w1, h2, h⟩ := bind_some h
 refine Wc.mono (Q := (QN (fun (y : (List Int)) => [(0, .v (osl eI true y))])) w1) ?_ ?_
 ·skip
  by_cases kc3 : (w64 (b - a)) ≥ 8
  ·rw [if_pos kc3] at h2
   refine Wc.condT' (by conv => lhs; simp) (by simpa using kc3) ?_
   refine Wc.sk (by conv => lhs; simp) ?_
   refine Wc.se (by conv => lhs; simp) ?_
   apply Wc.seq
   refine Wc.evs (by conv => lhs; simp) ?_
   obtain ⟨o4, h5, h2⟩ := bind_some h2
   refine Wo.cl rfl (by (conv => lhs; simp) <;> rfl) (r216 h5) (by simp) (by (conv => lhs; simp) <;> rfl) (by (conv => lhs; simp) <;> rfl) ?_
   refine Wo.en (by conv => lhs; simp) ?_
   refine Wc.se (by conv => lhs; simp) ?_
   apply Wc.block
   obtain ⟨w24, h25, h2⟩ := bind_some h2
   refine Wc.start (V1 := [(0, .v (osl eI true data)), (1, .v (.int .i64 a)), (6, .v (.int .i64 (w64 (b - a)))), (7, .v (.ptr true [(.int .u64 (IntKind.u64.wrap (w64 (b - a))))])), (8, .v (.int .u64 o4)), (9, .v (.int .i64 (w64 ((w64 (a + (w64 ((w64 ((w64 (b - a)).tdiv 4)) * 2)))) - 1))))]) (by first | rfl | simp) ?_
   refine Wc.mono (r206_0 _ _ h25) ?_
   generalize w24 = data_26 at *
   rintro ex V ⟨rfl, rfl⟩
   try dsimp only at h2
   cases h2
   exact ⟨rfl, by first | rfl | simp⟩
  ·rw [if_neg kc3] at h2
   refine Wc.condF' (by conv => lhs; simp) (by simpa using kc3) ?_
   refine Wc.sk (by conv => lhs; simp) ?_
   apply Wc.skip
   cases h2
   exact ⟨rfl, by first | rfl | simp⟩
 ·skip
  generalize w1 = data_27 at *
  rintro ex V ⟨rfl, rfl⟩
  try dsimp only at h
  refine res_of (.inl rfl) ?_
  cases h
  exact ⟨_, _, _, by conv => lhs; simp, by (conv => lhs; simp) <;> rfl, by first | rfl | simp⟩
theorem r220 {data : (List Int)} {a : Int} {b : Int} {swaps : Int} {r : Int × Int × Int} (h : f220 data a b swaps = some r) : VJx cx (.ca 220 [(ssl eI data), (.int .i64 a), (.int .i64 b), (.ptr true [(.int .i64 swaps)])] (.tup [(.int .i64 r.1), (.int .i64 r.2.1)]) [(.ptr true [(.int .i64 r.2.2)])]) := by
 unfold f220 at h
 refine ca_of rfl rfl (by decide) rfl ?_
 refine Wc.start (by conv => lhs; simp) ?_
 refine Wc.se (by conv => lhs; simp) ?_
 apply Wc.seq
 apply Wc.seq
 obtain ⟨v_1, h2, h⟩ := bind_some h
 obtain ⟨ga2, gb2, gc2⟩ := ix_some h2
 have gn2 := ix_ne h2
 have gd2 := arr_at (E := eI) (b := false) gc2
 simp at gd2
 obtain ⟨v_3, h4, h⟩ := bind_some h
 obtain ⟨ga4, gb4, gc4⟩ := ix_some h4
 have gn4 := ix_ne h4
 have gd4 := arr_at (E := eI) (b := false) gc4
 simp at gd4
 refine Wc.evs (by conv => lhs; simp [ga2, gb2, gn2, gd2, ga4, gb4, gn4, gd4]) ?_
 obtain ⟨o5, h6, h⟩ := bind_some h
 refine Wo.cl rfl (by (conv => lhs; simp [ga2, gb2, gn2, gd2, ga4, gb4, gn4, gd4]) <;> rfl) (r210 h6) (by simp) (by (conv => lhs; simp [ga2, gb2, gn2, gd2, ga4, gb4, gn4, gd4]) <;> rfl) (by (conv => lhs; simp [ga2, gb2, gn2, gd2, ga4, gb4, gn4, gd4]) <;> rfl) ?_
 apply Wo.nil
 by_cases kc7 : o5 = true
 ·rw [if_pos kc7] at h
  refine Wc.condT' (by conv => lhs; simp) (by simpa using kc7) ?_
  refine Wc.sk (by conv => lhs; simp) ?_
  refine Wc.se (by conv => lhs; simp) ?_
  refine Wc.se (by conv => lhs; simp) ?_
  refine Wc.ret (res_of (.inr rfl) ?_)
  cases h
  exact ⟨_, _, _, by conv => lhs; simp, by (conv => lhs; simp) <;> rfl, by first | rfl | simp⟩
 ·rw [if_neg kc7] at h
  refine Wc.condF' (by conv => lhs; simp) (by simpa using kc7) ?_
  refine Wc.sk (by conv => lhs; simp) ?_
  apply Wc.skip
  refine Wc.se (by conv => lhs; simp) ?_
  refine Wc.ret (res_of (.inr rfl) ?_)
  cases h
  exact ⟨_, _, _, by conv => lhs; simp, by (conv => lhs; simp) <;> rfl, by first | rfl | simp⟩
theorem r219 {data : (List Int)} {a : Int} {b : Int} {c : Int} {swaps : Int} {r : Int × Int} (h : f219 data a b c swaps = some r) : VJx cx (.ca 219 [(ssl eI data), (.int .i64 a), (.int .i64 b), (.int .i64 c), (.ptr true [(.int .i64 swaps)])] (.int .i64 r.1) [(.ptr true [(.int .i64 r.2)])]) := by
 unfold f219 at h
 refine ca_of rfl rfl (by decide) rfl ?_
 refine Wc.start (by conv => lhs; simp) ?_
 refine Wc.se (by conv => lhs; simp) ?_
 apply Wc.seq
 refine Wc.evs (by conv => lhs; simp) ?_
 obtain ⟨o1, h2, h⟩ := bind_some h
 refine Wo.cl rfl (by (conv => lhs; simp) <;> rfl) (r220 h2) (by simp) (by (conv => lhs; simp) <;> rfl) (by (conv => lhs; simp) <;> rfl) ?_
 refine Wo.en (by conv => lhs; simp) ?_
 apply Wc.seq
 refine Wc.evs (by conv => lhs; simp) ?_
 obtain ⟨o3, h4, h⟩ := bind_some h
 refine Wo.cl rfl (by (conv => lhs; simp) <;> rfl) (r220 h4) (by simp) (by (conv => lhs; simp) <;> rfl) (by (conv => lhs; simp) <;> rfl) ?_
 refine Wo.en (by conv => lhs; simp) ?_
 apply Wc.seq
 refine Wc.evs (by conv => lhs; simp) ?_
 obtain ⟨o5, h6, h⟩ := bind_some h
 refine Wo.cl rfl (by (conv => lhs; simp) <;> rfl) (r220 h6) (by simp) (by (conv => lhs; simp) <;> rfl) (by (conv => lhs; simp) <;> rfl) ?_
 refine Wo.en (by conv => lhs; simp) ?_
 refine Wc.se (by conv => lhs; simp) ?_
 refine Wc.ret (res_of (.inr rfl) ?_)
 cases h
 exact ⟨_, _, _, by conv => lhs; simp, by (conv => lhs; simp) <;> rfl, by first | rfl | simp⟩
theorem r218 {data : (List Int)} {a : Int} {swaps : Int} {r : Int × Int} (h : f218 data a swaps = some r) : VJx cx (.ca 218 [(ssl eI data), (.int .i64 a), (.ptr true [(.int .i64 swaps)])] (.int .i64 r.1) [(.ptr true [(.int .i64 r.2)])]) := by
 unfold f218 at h
 refine ca_of rfl rfl (by decide) rfl ?_
 refine Wc.start (by conv => lhs; simp) ?_
 refine Wc.se (by conv => lhs; simp) ?_
 apply Wc.seq
 refine Wc.evs (by conv => lhs; simp) ?_
 obtain ⟨o1, h2, h⟩ := bind_some h
 refine Wo.cl rfl (by (conv => lhs; simp) <;> rfl) (r219 h2) (by simp) (by (conv => lhs; simp) <;> rfl) (by (conv => lhs; simp) <;> rfl) ?_
 refine Wo.en (by conv => lhs; simp) ?_
 refine Wc.ret (res_of (.inr rfl) ?_)
 cases h
 exact ⟨_, _, _, by conv => lhs; simp, by (conv => lhs; simp) <;> rfl, by first | rfl | simp⟩
theorem r207 {data : (List Int)} {a : Int} {b : Int} {r : Int × Int} (h : f207 data a b = some r) : VJx cx (.ca 207 [(ssl eI data), (.int .i64 a), (.int .i64 b)] (.tup [(.int .i64 r.1), (.int .i64 r.2)]) []) := by
 unfold f207 at h
 refine ca_of rfl rfl (by decide) rfl ?_
 refine Wc.start (by conv => lhs; simp) ?_
 refine Wc.se (by conv => lhs; simp) ?_
 refine Wc.se (by conv => lhs; simp) ?_
 refine Wc.se (by conv => lhs; simp) ?_
 refine Wc.se (by conv => lhs; simp) ?_
 refine Wc.se (by conv => lhs; simp) ?_
 refine Wc.se (by conv => lhs; simp) ?_
 apply Wc.seq
 refine Wc.se (by conv => lhs; simp) ?_
 obtain ⟨w1, h2, h⟩ := bind_some h
 refine Wc.mono (Q := (QN (fun (y : Int × Int) => [(9, .v (.ptr true [(.int .i64 y.1)])), (11, .v (.int .i64 y.2))])) w1) ?_ ?_
 ·skip
  by_cases kc3 : (w64 (b - a)) ≥ 8
  ·rw [if_pos kc3] at h2
   refine Wc.condT' (by conv => lhs; simp) (by simpa using kc3) ?_
   refine Wc.sk (by conv => lhs; simp) ?_
   apply Wc.seq
   refine Wc.se (by conv => lhs; simp) ?_
   obtain ⟨w4, h5, h2⟩ := bind_some h2
   refine Wc.mono (Q := (QN (fun (y : Int × Int × Int × Int) => [(0, .v (ssl eI data)), (9, .v (.ptr true [(.int .i64 y.1)])), (10, .v (.int .i64 y.2.1)), (11, .v (.int .i64 y.2.2.1)), (12, .v (.int .i64 y.2.2.2))])) w4) ?_ ?_
   ·skip
    by_cases kc6 : (w64 (b - a)) ≥ 50
    ·rw [if_pos kc6] at h5
     refine Wc.condT' (by conv => lhs; simp) (by simpa using kc6) ?_
     refine Wc.sk (by conv => lhs; simp) ?_
     apply Wc.seq
     refine Wc.evs (by conv => lhs; simp) ?_
     obtain ⟨o7, h8, h5⟩ := bind_some h5
     refine Wo.cl rfl (by (conv => lhs; simp) <;> rfl) (r218 h8) (by simp) (by (conv => lhs; simp) <;> rfl) (by (conv => lhs; simp) <;> rfl) ?_
     refine Wo.en (by conv => lhs; simp) ?_
     apply Wc.seq
     refine Wc.evs (by conv => lhs; simp) ?_
     obtain ⟨o9, h10, h5⟩ := bind_some h5
     refine Wo.cl rfl (by (conv => lhs; simp) <;> rfl) (r218 h10) (by simp) (by (conv => lhs; simp) <;> rfl) (by (conv => lhs; simp) <;> rfl) ?_
     refine Wo.en (by conv => lhs; simp) ?_
     refine Wc.evs (by conv => lhs; simp) ?_
     obtain ⟨o11, h12, h5⟩ := bind_some h5
     refine Wo.cl rfl (by (conv => lhs; simp) <;> rfl) (r218 h12) (by simp) (by (conv => lhs; simp) <;> rfl) (by (conv => lhs; simp) <;> rfl) ?_
     refine Wo.en (by conv => lhs; simp) ?_
     cases h5
     exact ⟨rfl, by first | rfl | simp⟩
    ·rw [if_neg kc6] at h5
     refine Wc.condF' (by conv => lhs; simp) (by simpa using kc6) ?_
     refine Wc.sk (by conv => lhs; simp) ?_
     apply Wc.skip
     cases h5
     exact ⟨rfl, by first | rfl | simp⟩
   ·skip
    obtain ⟨swaps_13, i_14, j_15, k_16⟩ := w4
    rintro ex V ⟨rfl, rfl⟩
    dsimp only at h2 ⊢
    refine Wc.evs (by conv => lhs; simp) ?_
    obtain ⟨o17, h18, h2⟩ := bind_some h2
    refine Wo.cl rfl (by (conv => lhs; simp) <;> rfl) (r219 h18) (by simp) (by (conv => lhs; simp) <;> rfl) (by (conv => lhs; simp) <;> rfl) ?_
    refine Wo.en (by conv => lhs; simp) ?_
    cases h2
    exact ⟨rfl, by first | rfl | simp⟩
  ·rw [if_neg kc3] at h2
   refine Wc.condF' (by conv => lhs; simp) (by simpa using kc3) ?_
   refine Wc.sk (by conv => lhs; simp) ?_
   apply Wc.skip
   cases h2
   exact ⟨rfl, by first | rfl | simp⟩
 ·skip
  obtain ⟨swaps_19, j_20⟩ := w1
  rintro ex V ⟨rfl, rfl⟩
  dsimp only at h ⊢
  refine Wc.se (by conv => lhs; simp) ?_
  apply Wc.block
  refine Wc.se (by conv => lhs; simp) ?_
  by_cases kc21 : swaps_19 = 0
  ·rw [if_pos kc21] at h
   refine Wc.condT' (by conv => lhs; simp) (by simpa using kc21) ?_
   refine Wc.sk (by conv => lhs; simp) ?_
   refine Wc.se (by conv => lhs; simp) ?_
   refine Wc.ret (res_of (.inr rfl) ?_)
   cases h
   exact ⟨_, _, _, by conv => lhs; simp, by (conv => lhs; simp) <;> rfl, by first | rfl | simp⟩
  ·rw [if_neg kc21] at h
   refine Wc.condF' (by conv => lhs; simp) (by simpa using kc21) ?_
   refine Wc.sk (by conv => lhs; simp) ?_
   refine Wc.se (by conv => lhs; simp) ?_
   by_cases kc22 : swaps_19 = 12
   ·rw [if_pos kc22] at h
    refine Wc.condT' (by conv => lhs; simp) (by simpa using kc22) ?_
    refine Wc.sk (by conv => lhs; simp) ?_
    refine Wc.se (by conv => lhs; simp) ?_
    refine Wc.ret (res_of (.inr rfl) ?_)
    cases h
    exact ⟨_, _, _, by conv => lhs; simp, by (conv => lhs; simp) <;> rfl, by first | rfl | simp⟩
   ·rw [if_neg kc22] at h
    refine Wc.condF' (by conv => lhs; simp) (by simpa using kc22) ?_
    refine Wc.sk (by conv => lhs; simp) ?_
    refine Wc.se (by conv => lhs; simp) ?_
    refine Wc.ret (res_of (.inr rfl) ?_)
    cases h
    exact ⟨_, _, _, by conv => lhs; simp, by (conv => lhs; simp) <;> rfl, by first | rfl | simp⟩
theorem r208_0 : ∀ zs zo, iter f208_0 zs = some zo → Wc cx 32 (.loop L208_0) [(0, .v (osl eI true zs.1)), (6, .v (.int .i64 zs.2.1)), (7, .v (.int .i64 zs.2.2))] ((QX 0 (fun (y : (List Int)) => [(0, .v (osl eI true y))])) zo) := by
 refine iter_all ?_
 rintro ⟨data_1, i_2, j_3⟩ zo zr h hk hx
 try dsimp only at hk ⊢
 rw [f208_0] at h
 apply Wc.loop
 apply Wc.seq
 refine Wc.se (by conv => lhs; simp) ?_
 by_cases kc4 : i_2 < j_3
 ·rw [if_pos kc4] at h
  refine Wc.condT' (by conv => lhs; simp) (by simpa using kc4) ?_
  refine Wc.sk (by conv => lhs; simp) ?_
  apply Wc.skip
  apply Wc.block
  apply Wc.seq
  obtain ⟨v_5, h6, h⟩ := bind_some h
  obtain ⟨ga6, gb6, gc6⟩ := ix_some h6
  have gn6 := ix_ne h6
  have gf6 := arr_fit (E := eI) (b := true) (i := j_3.toNat) (l := data_1) (by omega)
  have gg6_0 := arr_get (E := eI) (b := true) (o := 0) gc6 (by decide)
  simp at gf6 gg6_0
  have gl6 : j_3.toNat < data_1.length := by omega
  obtain ⟨v_7, h8, h⟩ := bind_some h
  obtain ⟨ga8, gb8, gc8⟩ := ix_some h8
  have gn8 := ix_ne h8
  have gf8 := arr_fit (E := eI) (b := true) (i := i_2.toNat) (l := data_1) (by omega)
  have gg8_0 := arr_get (E := eI) (b := true) (o := 0) gc8 (by decide)
  simp at gf8 gg8_0
  have gl8 : i_2.toNat < data_1.length := by omega
  have gy9 := lay_set (E := eI) (b := true) (i := i_2.toNat) (l := data_1) v_5 (by omega)
  simp at gy9
  obtain ⟨v_10, h11, h⟩ := bind_some h
  obtain ⟨ga11, gb11, gc11⟩ := ix_some h11
  have gn11 := ix_ne h11
  have gf11 := arr_fit (E := eI) (b := true) (i := j_3.toNat) (l := (data_1.set i_2.toNat v_5)) (by first | omega | (simp only [List.length_set] at *; omega))
  have gg11_0 := arr_get (E := eI) (b := true) (o := 0) gc11 (by decide)
  simp at gf11 gg11_0
  have gl11 : j_3.toNat < (data_1.set i_2.toNat v_5).length := by first | omega | (simp only [List.length_set] at *; omega)
  try simp only [List.length_set] at gb11 gl11
  try simp at gn11
  have gy12 := lay_set (E := eI) (b := true) (i := j_3.toNat) (l := (data_1.set i_2.toNat v_5)) v_7 (by first | omega | (simp only [List.length_set] at *; omega))
  simp at gy12
  refine Wc.en (by conv => lhs; simp [-getElem?_pos, List.getElem?_cons_zero, List.getElem?_cons_succ, ga6, gb6, gn6, gf6, gg6_0, gl6, ga8, gb8, gn8, gf8, gg8_0, gl8, gy9, ga11, gb11, gn11, gf11, gg11_0, gl11, gy12]) ?_
  refine Wc.se (by conv => lhs; simp) ?_
  refine Wc.en (by conv => lhs; simp) ?_
  refine Wc.start ?_ (hk _ (Option.some.inj h).symm)
  first | rfl | simp
 ·rw [if_neg kc4] at h
  refine Wc.condF' (by conv => lhs; simp) (by simpa using kc4) ?_
  refine Wc.sk (by conv => lhs; simp) ?_
  apply Wc.exit
  have e0 := hx _ (Option.some.inj h).symm
  subst e0
  exact ⟨rfl, by first | rfl | simp⟩
theorem r208 {data : (List Int)} {a : Int} {b : Int} {r : (List Int)} (h : f208 data a b = some r) : VJx cx (.ca 208 [(osl eI true data), (.int .i64 a), (.int .i64 b)] (.tup []) [(osl eI true r)]) := by
 unfold f208 at h
 refine ca_of rfl rfl (by decide) rfl ?_
 refine Wc.start (by conv => lhs; simp) ?_
 refine Wc.se (by conv => lhs; simp) ?_
 refine Wc.se (by conv => lhs; simp) ?_
 apply Wc.block
 obtain ⟨w13, h14, h⟩ := bind_some h
 refine Wc.start (V1 := [(0, .v (osl eI true data)), (6, .v (.int .i64 a)), (7, .v (.int .i64 (w64 (b - 1))))]) (by first | rfl | simp) ?_
 refine Wc.mono (r208_0 _ _ h14) ?_
 generalize w13 = data_15 at *
 rintro ex V ⟨rfl, rfl⟩
 try dsimp only at h
 refine res_of (.inl rfl) ?_
 cases h
 exact ⟨_, _, _, by conv => lhs; simp, by (conv => lhs; simp) <;> rfl, by first | rfl | simp⟩
theorem r209_1 {a : Int} {b : Int} {data_1 : (List Int)} {j_3 : Int} : ∀ zs zo, iter (f209_1 b data_1) zs = some zo → Wc cx 133 (.loop L209_1) [(0, .v (osl eI true data_1)), (1, .v (.int .i64 a)), (2, .v (.int .i64 b)), (7, .v (.int .i64 zs)), (8, .v (.int .i64 j_3))] ((QX 2 (fun (y : Int) => [(0, .v (osl eI true data_1)), (1, .v (.int .i64 a)), (2, .v (.int .i64 b)), (7, .v (.int .i64 y)), (8, .v (.int .i64 j_3))])) zo) := by
 refine iter_all ?_
 rintro i_5 zo zr h hk hx
 try dsimp only at hk ⊢
 rw [f209_1] at h
 apply Wc.loop
 apply Wc.seq
 apply Wc.seq
 refine Wc.evk 4 (by conv => lhs; simp) ?_
 obtain ⟨w7, h8, h⟩ := bind_some h
 refine Wo.mono (Q := fun V => V = [(0, .v (osl eI true data_1)), (1, .v (.int .i64 a)), (2, .v (.int .i64 b)), (7, .v (.int .i64 i_5)), (8, .v (.int .i64 j_3)), (32, .v (.bool w7))]) ?_ ?_
 ·by_cases knh8 : i_5 < b
  ·rw [if_pos knh8] at h8
   refine Wo.gh (vle_co (s := 20) (t1 := .bool true) rfl (by simp) (tle_bool (by simpa using knh8)) (by conv => lhs; simp)) ?_
   obtain ⟨v_9, h10, h8⟩ := bind_some h8
   obtain ⟨ga10, gb10, gc10⟩ := ix_some h10
   have gn10 := ix_ne h10
   have gf10 := arr_fit (E := eI) (b := true) (i := i_5.toNat) (l := data_1) (by omega)
   have gg10_0 := arr_get (E := eI) (b := true) (o := 0) gc10 (by decide)
   simp at gf10 gg10_0
   have gl10 : i_5.toNat < data_1.length := by omega
   obtain ⟨v_11, h12, h8⟩ := bind_some h8
   obtain ⟨ga12, gb12, gc12⟩ := ix_some h12
   have gn12 := ix_ne h12
   have gf12 := arr_fit (E := eI) (b := true) (i := (w64 (i_5 - 1)).toNat) (l := data_1) (by omega)
   have gg12_0 := arr_get (E := eI) (b := true) (o := 0) gc12 (by decide)
   simp at gf12 gg12_0
   have gl12 : (w64 (i_5 - 1)).toNat < data_1.length := by omega
   refine Wo.evs (by conv => lhs; simp [-getElem?_pos, List.getElem?_cons_zero, List.getElem?_cons_succ, ga10, gb10, gn10, gf10, gg10_0, gl10, ga12, gb12, gn12, gf12, gg12_0, gl12]) ?_
   obtain ⟨o13, h14, h8⟩ := bind_some h8
   refine Wo.call (by simp [-getElem?_pos, List.getElem?_cons_zero, List.getElem?_cons_succ, ga10, gb10, gn10, gf10, gg10_0, gl10, ga12, gb12, gn12, gf12, gg12_0, gl12]) rfl (by (conv => lhs; simp [-getElem?_pos, List.getElem?_cons_zero, List.getElem?_cons_succ, ga10, gb10, gn10, gf10, gg10_0, gl10, ga12, gb12, gn12, gf12, gg12_0, gl12]) <;> rfl) (r210 h14) (by simp) (by simp) (by (conv => lhs; simp [-getElem?_pos, List.getElem?_cons_zero, List.getElem?_cons_succ, ga10, gb10, gn10, gf10, gg10_0, gl10, ga12, gb12, gn12, gf12, gg12_0, gl12]) <;> rfl) (by (conv => lhs; simp [-getElem?_pos, List.getElem?_cons_zero, List.getElem?_cons_succ, ga10, gb10, gn10, gf10, gg10_0, gl10, ga12, gb12, gn12, gf12, gg12_0, gl12]) <;> rfl) ?_
   refine Wo.en (by conv => lhs; simp [-getElem?_pos, List.getElem?_cons_zero, List.getElem?_cons_succ, ga10, gb10, gn10, gf10, gg10_0, gl10, ga12, gb12, gn12, gf12, gg12_0, gl12]) ?_
   cases h8
   first | rfl | simp [-getElem?_pos, List.getElem?_cons_zero, List.getElem?_cons_succ, ga10, gb10, gn10, gf10, gg10_0, gl10, ga12, gb12, gn12, gf12, gg12_0, gl12]
  ·rw [if_neg knh8] at h8
   refine Wo.gh (vle_co (s := 20) (t1 := .bool false) rfl (by simp) (tle_bool (by simpa using knh8)) (by conv => lhs; simp)) ?_
   refine Wo.en (by conv => lhs; simp) ?_
   cases h8
   first | rfl | simp
 ·rintro V rfl
  generalize w7 = x_6 at *
  try dsimp only at h
  by_cases kc15 : x_6 = true
  ·rw [if_pos kc15] at h
   refine Wc.condT' (by conv => lhs; simp) (by simpa using kc15) ?_
   refine Wc.sk (by conv => lhs; simp) ?_
   apply Wc.skip
   apply Wc.block
   refine Wc.en (by conv => lhs; simp) ?_
   refine Wc.start ?_ (hk _ (Option.some.inj h).symm)
   first | rfl | simp
  ·rw [if_neg kc15] at h
   refine Wc.condF' (by conv => lhs; simp) (by simpa using kc15) ?_
   refine Wc.sk (by conv => lhs; simp) ?_
   apply Wc.exit
   have e0 := hx _ (Option.some.inj h).symm
   subst e0
   exact ⟨rfl, by first | rfl | simp⟩
theorem r209_2 {a : Int} {b : Int} {j_3 : Int} {i_18 : Int} : ∀ zs zo, iter f209_2 zs = some zo → Wc cx 133 (.loop L209_2) [(0, .v (osl eI true zs.1)), (1, .v (.int .i64 a)), (2, .v (.int .i64 b)), (7, .v (.int .i64 i_18)), (8, .v (.int .i64 j_3)), (9, .v (.int .i64 zs.2))] ((QX 4 (fun (y : (List Int)) => [(0, .v (osl eI true y)), (1, .v (.int .i64 a)), (2, .v (.int .i64 b)), (7, .v (.int .i64 i_18)), (8, .v (.int .i64 j_3))])) zo) := by
 refine iter_all ?_
 rintro ⟨data_32, j_33⟩ zo zr h hk hx
 try dsimp only at hk ⊢
 rw [f209_2] at h
 apply Wc.loop
 apply Wc.seq
 refine Wc.se (by conv => lhs; simp) ?_
 by_cases kc34 : j_33 ≥ 1
 ·rw [if_pos kc34] at h
  refine Wc.condT' (by conv => lhs; simp) (by simpa using kc34) ?_
  refine Wc.sk (by conv => lhs; simp) ?_
  apply Wc.skip
  apply Wc.seq
  apply Wc.block
  apply Wc.seq
  apply Wc.seq
  obtain ⟨v_35, h36, h⟩ := bind_some h
  obtain ⟨ga36, gb36, gc36⟩ := ix_some h36
  have gn36 := ix_ne h36
  have gf36 := arr_fit (E := eI) (b := true) (i := j_33.toNat) (l := data_32) (by omega)
  have gg36_0 := arr_get (E := eI) (b := true) (o := 0) gc36 (by decide)
  simp at gf36 gg36_0
  have gl36 : j_33.toNat < data_32.length := by omega
  obtain ⟨v_37, h38, h⟩ := bind_some h
  obtain ⟨ga38, gb38, gc38⟩ := ix_some h38
  have gn38 := ix_ne h38
  have gf38 := arr_fit (E := eI) (b := true) (i := (w64 (j_33 - 1)).toNat) (l := data_32) (by omega)
  have gg38_0 := arr_get (E := eI) (b := true) (o := 0) gc38 (by decide)
  simp at gf38 gg38_0
  have gl38 : (w64 (j_33 - 1)).toNat < data_32.length := by omega
  refine Wc.evs (by conv => lhs; simp [-getElem?_pos, List.getElem?_cons_zero, List.getElem?_cons_succ, ga36, gb36, gn36, gf36, gg36_0, gl36, ga38, gb38, gn38, gf38, gg38_0, gl38]) ?_
  obtain ⟨o39, h40, h⟩ := bind_some h
  refine Wo.cl rfl (by (conv => lhs; simp [-getElem?_pos, List.getElem?_cons_zero, List.getElem?_cons_succ, ga36, gb36, gn36, gf36, gg36_0, gl36, ga38, gb38, gn38, gf38, gg38_0, gl38]) <;> rfl) (r210 h40) (by simp) (by (conv => lhs; simp [-getElem?_pos, List.getElem?_cons_zero, List.getElem?_cons_succ, ga36, gb36, gn36, gf36, gg36_0, gl36, ga38, gb38, gn38, gf38, gg38_0, gl38]) <;> rfl) (by (conv => lhs; simp [-getElem?_pos, List.getElem?_cons_zero, List.getElem?_cons_succ, ga36, gb36, gn36, gf36, gg36_0, gl36, ga38, gb38, gn38, gf38, gg38_0, gl38]) <;> rfl) ?_
  refine Wo.en (by conv => lhs; simp [-getElem?_pos, List.getElem?_cons_zero, List.getElem?_cons_succ, ga36, gb36, gn36, gf36, gg36_0, gl36, ga38, gb38, gn38, gf38, gg38_0, gl38]) ?_
  by_cases kc41 : ¬ (o39 = true)
  ·rw [if_pos kc41] at h
   refine Wc.condT' (by conv => lhs; simp) (by simpa using kc41) ?_
   refine Wc.sk (by conv => lhs; simp) ?_
   apply Wc.exit
   have e0 := hx _ (Option.some.inj h).symm
   subst e0
   exact ⟨rfl, by first | rfl | simp [-getElem?_pos, List.getElem?_cons_zero, List.getElem?_cons_succ, ga36, gb36, gn36, gf36, gg36_0, gl36, ga38, gb38, gn38, gf38, gg38_0, gl38]⟩
  ·rw [if_neg kc41] at h
   refine Wc.condF' (by conv => lhs; simp) (by simpa using kc41) ?_
   refine Wc.sk (by conv => lhs; simp) ?_
   apply Wc.skip
   have gy42 := lay_set (E := eI) (b := true) (i := j_33.toNat) (l := data_32) v_37 (by omega)
   simp at gy42
   obtain ⟨v_43, h44, h⟩ := bind_some h
   obtain ⟨ga44, gb44, gc44⟩ := ix_some h44
   have gn44 := ix_ne h44
   have gf44 := arr_fit (E := eI) (b := true) (i := (w64 (j_33 - 1)).toNat) (l := (data_32.set j_33.toNat v_37)) (by first | omega | (simp only [List.length_set] at *; omega))
   have gg44_0 := arr_get (E := eI) (b := true) (o := 0) gc44 (by decide)
   simp at gf44 gg44_0
   have gl44 : (w64 (j_33 - 1)).toNat < (data_32.set j_33.toNat v_37).length := by first | omega | (simp only [List.length_set] at *; omega)
   try simp only [List.length_set] at gb44 gl44
   try simp at gn44
   have gy45 := lay_set (E := eI) (b := true) (i := (w64 (j_33 - 1)).toNat) (l := (data_32.set j_33.toNat v_37)) v_35 (by first | omega | (simp only [List.length_set] at *; omega))
   simp at gy45
   refine Wc.en (by conv => lhs; simp [-getElem?_pos, List.getElem?_cons_zero, List.getElem?_cons_succ, ga38, gb38, gn38, gf38, gg38_0, gl38, ga36, gb36, gn36, gf36, gg36_0, gl36, gy42, ga44, gb44, gn44, gf44, gg44_0, gl44, gy45]) ?_
   refine Wc.en (by conv => lhs; simp) ?_
   refine Wc.start ?_ (hk _ (Option.some.inj h).symm)
   first | rfl | simp
 ·rw [if_neg kc34] at h
  refine Wc.condF' (by conv => lhs; simp) (by simpa using kc34) ?_
  refine Wc.sk (by conv => lhs; simp) ?_
  apply Wc.exit
  have e0 := hx _ (Option.some.inj h).symm
  subst e0
  exact ⟨rfl, by first | rfl | simp⟩
theorem r209_3 {a : Int} {b : Int} {j_3 : Int} {i_18 : Int} : ∀ zs zo, iter (f209_3 b) zs = some zo → Wc cx 133 (.loop L209_3) [(0, .v (osl eI true zs.1)), (1, .v (.int .i64 a)), (2, .v (.int .i64 b)), (7, .v (.int .i64 i_18)), (8, .v (.int .i64 j_3)), (10, .v (.int .i64 zs.2))] ((QX 6 (fun (y : (List Int)) => [(0, .v (osl eI true y)), (1, .v (.int .i64 a)), (2, .v (.int .i64 b)), (7, .v (.int .i64 i_18)), (8, .v (.int .i64 j_3))])) zo) := by
 refine iter_all ?_
 rintro ⟨data_53, j_54⟩ zo zr h hk hx
 try dsimp only at hk ⊢
 rw [f209_3] at h
 apply Wc.loop
 apply Wc.seq
 refine Wc.se (by conv => lhs; simp) ?_
 by_cases kc55 : j_54 < b
 ·rw [if_pos kc55] at h
  refine Wc.condT' (by conv => lhs; simp) (by simpa using kc55) ?_
  refine Wc.sk (by conv => lhs; simp) ?_
  apply Wc.skip
  apply Wc.seq
  apply Wc.block
  apply Wc.seq
  apply Wc.seq
  obtain ⟨v_56, h57, h⟩ := bind_some h
  obtain ⟨ga57, gb57, gc57⟩ := ix_some h57
  have gn57 := ix_ne h57
  have gf57 := arr_fit (E := eI) (b := true) (i := j_54.toNat) (l := data_53) (by omega)
  have gg57_0 := arr_get (E := eI) (b := true) (o := 0) gc57 (by decide)
  simp at gf57 gg57_0
  have gl57 : j_54.toNat < data_53.length := by omega
  obtain ⟨v_58, h59, h⟩ := bind_some h
  obtain ⟨ga59, gb59, gc59⟩ := ix_some h59
  have gn59 := ix_ne h59
  have gf59 := arr_fit (E := eI) (b := true) (i := (w64 (j_54 - 1)).toNat) (l := data_53) (by omega)
  have gg59_0 := arr_get (E := eI) (b := true) (o := 0) gc59 (by decide)
  simp at gf59 gg59_0
  have gl59 : (w64 (j_54 - 1)).toNat < data_53.length := by omega
  refine Wc.evs (by conv => lhs; simp [-getElem?_pos, List.getElem?_cons_zero, List.getElem?_cons_succ, ga57, gb57, gn57, gf57, gg57_0, gl57, ga59, gb59, gn59, gf59, gg59_0, gl59]) ?_
  obtain ⟨o60, h61, h⟩ := bind_some h
  refine Wo.cl rfl (by (conv => lhs; simp [-getElem?_pos, List.getElem?_cons_zero, List.getElem?_cons_succ, ga57, gb57, gn57, gf57, gg57_0, gl57, ga59, gb59, gn59, gf59, gg59_0, gl59]) <;> rfl) (r210 h61) (by simp) (by (conv => lhs; simp [-getElem?_pos, List.getElem?_cons_zero, List.getElem?_cons_succ, ga57, gb57, gn57, gf57, gg57_0, gl57, ga59, gb59, gn59, gf59, gg59_0, gl59]) <;> rfl) (by (conv => lhs; simp [-getElem?_pos, List.getElem?_cons_zero, List.getElem?_cons_succ, ga57, gb57, gn57, gf57, gg57_0, gl57, ga59, gb59, gn59, gf59, gg59_0, gl59]) <;> rfl) ?_
  refine Wo.en (by conv => lhs; simp [-getElem?_pos, List.getElem?_cons_zero, List.getElem?_cons_succ, ga57, gb57, gn57, gf57, gg57_0, gl57, ga59, gb59, gn59, gf59, gg59_0, gl59]) ?_
  by_cases kc62 : ¬ (o60 = true)
  ·rw [if_pos kc62] at h
   refine Wc.condT' (by conv => lhs; simp) (by simpa using kc62) ?_
   refine Wc.sk (by conv => lhs; simp) ?_
   apply Wc.exit
   have e0 := hx _ (Option.some.inj h).symm
   subst e0
   exact ⟨rfl, by first | rfl | simp [-getElem?_pos, List.getElem?_cons_zero, List.getElem?_cons_succ, ga57, gb57, gn57, gf57, gg57_0, gl57, ga59, gb59, gn59, gf59, gg59_0, gl59]⟩
  ·rw [if_neg kc62] at h
   refine Wc.condF' (by conv => lhs; simp) (by simpa using kc62) ?_
   refine Wc.sk (by conv => lhs; simp) ?_
   apply Wc.skip
   have gy63 := lay_set (E := eI) (b := true) (i := j_54.toNat) (l := data_53) v_58 (by omega)
   simp at gy63
   obtain ⟨v_64, h65, h⟩ := bind_some h
   obtain ⟨ga65, gb65, gc65⟩ := ix_some h65
   have gn65 := ix_ne h65
   have gf65 := arr_fit (E := eI) (b := true) (i := (w64 (j_54 - 1)).toNat) (l := (data_53.set j_54.toNat v_58)) (by first | omega | (simp only [List.length_set] at *; omega))
   have gg65_0 := arr_get (E := eI) (b := true) (o := 0) gc65 (by decide)
   simp at gf65 gg65_0
   have gl65 : (w64 (j_54 - 1)).toNat < (data_53.set j_54.toNat v_58).length := by first | omega | (simp only [List.length_set] at *; omega)
   try simp only [List.length_set] at gb65 gl65
   try simp at gn65
   have gy66 := lay_set (E := eI) (b := true) (i := (w64 (j_54 - 1)).toNat) (l := (data_53.set j_54.toNat v_58)) v_56 (by first | omega | (simp only [List.length_set] at *; omega))
   simp at gy66
   refine Wc.en (by conv => lhs; simp [-getElem?_pos, List.getElem?_cons_zero, List.getElem?_cons_succ, ga59, gb59, gn59, gf59, gg59_0, gl59, ga57, gb57, gn57, gf57, gg57_0, gl57, gy63, ga65, gb65, gn65, gf65, gg65_0, gl65, gy66]) ?_
   refine Wc.en (by conv => lhs; simp) ?_
   refine Wc.start ?_ (hk _ (Option.some.inj h).symm)
   first | rfl | simp
 ·rw [if_neg kc55] at h
  refine Wc.condF' (by conv => lhs; simp) (by simpa using kc55) ?_
  refine Wc.sk (by conv => lhs; simp) ?_
  apply Wc.exit
  have e0 := hx _ (Option.some.inj h).symm
  subst e0
  exact ⟨rfl, by first | rfl | simp⟩
theorem r209_0 {a : Int} {b : Int} : ∀ zs zo, iter (f209_0 a b) zs = some zo → Wc cx 133 (.loop L209_0) [(0, .v (osl eI true zs.1)), (1, .v (.int .i64 a)), (2, .v (.int .i64 b)), (7, .v (.int .i64 zs.2.1)), (8, .v (.int .i64 zs.2.2))] ((QO (QX 0 (fun (y : (List Int)) => [(0, .v (osl eI true y))])) (QR (fun (y : (List Int) × Bool) => [(0, .v (osl eI true y.1)), (6, .v (.bool y.2))]))) zo) := by
 refine iter_all ?_
 rintro ⟨data_1, i_2, j_3⟩ zo zr h hk hx
 try dsimp only at hk ⊢
 rw [f209_0] at h
 apply Wc.loop
 apply Wc.seq
 refine Wc.se (by conv => lhs; simp) ?_
 by_cases kc4 : j_3 < 5
 ·rw [if_pos kc4] at h
  refine Wc.condT' (by conv => lhs; simp) (by simpa using kc4) ?_
  refine Wc.sk (by conv => lhs; simp) ?_
  apply Wc.skip
  apply Wc.seq
  apply Wc.block
  apply Wc.seq
  apply Wc.block
  obtain ⟨w16, h17, h⟩ := bind_some h
  refine Wc.start (V1 := [(0, .v (osl eI true data_1)), (1, .v (.int .i64 a)), (2, .v (.int .i64 b)), (7, .v (.int .i64 i_2)), (8, .v (.int .i64 j_3))]) (by first | rfl | simp) ?_
  refine Wc.mono (r209_1 _ _ h17) ?_
  generalize w16 = i_18 at *
  rintro ex V ⟨rfl, rfl⟩
  try dsimp only at h
  apply Wc.seq
  refine Wc.se (by conv => lhs; simp) ?_
  by_cases kc19 : i_18 = b
  ·rw [if_pos kc19] at h
   refine Wc.condT' (by conv => lhs; simp) (by simpa using kc19) ?_
   refine Wc.sk (by conv => lhs; simp) ?_
   refine Wc.se (by conv => lhs; simp) ?_
   refine Wc.ret ?_
   have e0 := hx _ (Option.some.inj h).symm
   subst e0
   exact ⟨rfl, by first | rfl | simp⟩
  ·rw [if_neg kc19] at h
   refine Wc.condF' (by conv => lhs; simp) (by simpa using kc19) ?_
   refine Wc.sk (by conv => lhs; simp) ?_
   apply Wc.skip
   apply Wc.seq
   refine Wc.se (by conv => lhs; simp) ?_
   by_cases kc20 : (w64 (b - a)) < 50
   ·rw [if_pos kc20] at h
    refine Wc.condT' (by conv => lhs; simp) (by simpa using kc20) ?_
    refine Wc.sk (by conv => lhs; simp) ?_
    refine Wc.se (by conv => lhs; simp) ?_
    refine Wc.ret ?_
    have e0 := hx _ (Option.some.inj h).symm
    subst e0
    exact ⟨rfl, by first | rfl | simp⟩
   ·rw [if_neg kc20] at h
    refine Wc.condF' (by conv => lhs; simp) (by simpa using kc20) ?_
    refine Wc.sk (by conv => lhs; simp) ?_
    apply Wc.skip
    apply Wc.seq
    obtain ⟨v_21, h22, h⟩ := bind_some h
    obtain ⟨ga22, gb22, gc22⟩ := ix_some h22
    have gn22 := ix_ne h22
    have gf22 := arr_fit (E := eI) (b := true) (i := (w64 (i_18 - 1)).toNat) (l := data_1) (by omega)
    have gg22_0 := arr_get (E := eI) (b := true) (o := 0) gc22 (by decide)
    simp at gf22 gg22_0
    have gl22 : (w64 (i_18 - 1)).toNat < data_1.length := by omega
    obtain ⟨v_23, h24, h⟩ := bind_some h
    obtain ⟨ga24, gb24, gc24⟩ := ix_some h24
    have gn24 := ix_ne h24
    have gf24 := arr_fit (E := eI) (b := true) (i := i_18.toNat) (l := data_1) (by omega)
    have gg24_0 := arr_get (E := eI) (b := true) (o := 0) gc24 (by decide)
    simp at gf24 gg24_0
    have gl24 : i_18.toNat < data_1.length := by omega
    have gy25 := lay_set (E := eI) (b := true) (i := i_18.toNat) (l := data_1) v_21 (by omega)
    simp at gy25
    obtain ⟨v_26, h27, h⟩ := bind_some h
    obtain ⟨ga27, gb27, gc27⟩ := ix_some h27
    have gn27 := ix_ne h27
    have gf27 := arr_fit (E := eI) (b := true) (i := (w64 (i_18 - 1)).toNat) (l := (data_1.set i_18.toNat v_21)) (by first | omega | (simp only [List.length_set] at *; omega))
    have gg27_0 := arr_get (E := eI) (b := true) (o := 0) gc27 (by decide)
    simp at gf27 gg27_0
    have gl27 : (w64 (i_18 - 1)).toNat < (data_1.set i_18.toNat v_21).length := by first | omega | (simp only [List.length_set] at *; omega)
    try simp only [List.length_set] at gb27 gl27
    try simp at gn27
    have gy28 := lay_set (E := eI) (b := true) (i := (w64 (i_18 - 1)).toNat) (l := (data_1.set i_18.toNat v_21)) v_23 (by first | omega | (simp only [List.length_set] at *; omega))
    simp at gy28
    refine Wc.en (by conv => lhs; simp [-getElem?_pos, List.getElem?_cons_zero, List.getElem?_cons_succ, ga22, gb22, gn22, gf22, gg22_0, gl22, ga24, gb24, gn24, gf24, gg24_0, gl24, gy25, ga27, gb27, gn27, gf27, gg27_0, gl27, gy28]) ?_
    apply Wc.seq
    refine Wc.se (by conv => lhs; simp) ?_
    obtain ⟨w29, h30, h⟩ := bind_some h
    refine Wc.mono (Q := (QN (fun (y : (List Int)) => [(0, .v (osl eI true y)), (1, .v (.int .i64 a)), (2, .v (.int .i64 b)), (7, .v (.int .i64 i_18)), (8, .v (.int .i64 j_3))])) w29) ?_ ?_
    ·skip
     by_cases kc31 : (w64 (i_18 - a)) ≥ 2
     ·rw [if_pos kc31] at h30
      refine Wc.condT' (by conv => lhs; simp) (by simpa using kc31) ?_
      refine Wc.sk (by conv => lhs; simp) ?_
      refine Wc.se (by conv => lhs; simp) ?_
      apply Wc.block
      obtain ⟨w46, h47, h30⟩ := bind_some h30
      refine Wc.start (V1 := [(0, .v (osl eI true ((data_1.set i_18.toNat v_21).set (w64 (i_18 - 1)).toNat v_23))), (1, .v (.int .i64 a)), (2, .v (.int .i64 b)), (7, .v (.int .i64 i_18)), (8, .v (.int .i64 j_3)), (9, .v (.int .i64 (w64 (i_18 - 1))))]) (by first | rfl | simp) ?_
      refine Wc.mono (r209_2 _ _ h47) ?_
      generalize w46 = data_48 at *
      rintro ex V ⟨rfl, rfl⟩
      try dsimp only at h30
      cases h30
      exact ⟨rfl, by first | rfl | simp⟩
     ·rw [if_neg kc31] at h30
      refine Wc.condF' (by conv => lhs; simp) (by simpa using kc31) ?_
      refine Wc.sk (by conv => lhs; simp) ?_
      apply Wc.skip
      cases h30
      exact ⟨rfl, by first | rfl | simp⟩
    ·skip
     generalize w29 = data_49 at *
     rintro ex V ⟨rfl, rfl⟩
     try dsimp only at h
     refine Wc.se (by conv => lhs; simp) ?_
     obtain ⟨w50, h51, h⟩ := bind_some h
     refine Wc.mono (Q := (QN (fun (y : (List Int)) => [(0, .v (osl eI true y)), (1, .v (.int .i64 a)), (2, .v (.int .i64 b)), (7, .v (.int .i64 i_18)), (8, .v (.int .i64 j_3))])) w50) ?_ ?_
     ·skip
      by_cases kc52 : (w64 (b - i_18)) ≥ 2
      ·rw [if_pos kc52] at h51
       refine Wc.condT' (by conv => lhs; simp) (by simpa using kc52) ?_
       refine Wc.sk (by conv => lhs; simp) ?_
       refine Wc.se (by conv => lhs; simp) ?_
       apply Wc.block
       obtain ⟨w67, h68, h51⟩ := bind_some h51
       refine Wc.start (V1 := [(0, .v (osl eI true data_49)), (1, .v (.int .i64 a)), (2, .v (.int .i64 b)), (7, .v (.int .i64 i_18)), (8, .v (.int .i64 j_3)), (10, .v (.int .i64 (w64 (i_18 + 1))))]) (by first | rfl | simp) ?_
       refine Wc.mono (r209_3 _ _ h68) ?_
       generalize w67 = data_69 at *
       rintro ex V ⟨rfl, rfl⟩
       try dsimp only at h51
       cases h51
       exact ⟨rfl, by first | rfl | simp⟩
      ·rw [if_neg kc52] at h51
       refine Wc.condF' (by conv => lhs; simp) (by simpa using kc52) ?_
       refine Wc.sk (by conv => lhs; simp) ?_
       apply Wc.skip
       cases h51
       exact ⟨rfl, by first | rfl | simp⟩
     ·skip
      generalize w50 = data_70 at *
      rintro ex V ⟨rfl, rfl⟩
      try dsimp only at h
      refine Wc.en (by conv => lhs; simp) ?_
      refine Wc.start ?_ (hk _ (Option.some.inj h).symm)
      first | rfl | simp
 ·rw [if_neg kc4] at h
  refine Wc.condF' (by conv => lhs; simp) (by simpa using kc4) ?_
  refine Wc.sk (by conv => lhs; simp) ?_
  apply Wc.exit
  have e0 := hx _ (Option.some.inj h).symm
  subst e0
  exact ⟨rfl, by first | rfl | simp⟩
theorem r209 {data : (List Int)} {a : Int} {b : Int} {r : Bool × (List Int)} (h : f209 data a b = some r) : VJx cx (.ca 209 [(osl eI true data), (.int .i64 a), (.int .i64 b)] (.bool r.1) [(osl eI true r.2)]) := by
 unfold f209 at h
 refine ca_of rfl rfl (by decide) rfl ?_
 refine Wc.start (by conv => lhs; simp) ?_
 refine Wc.se (by conv => lhs; simp) ?_
 refine Wc.se (by conv => lhs; simp) ?_
 apply Wc.seq
 refine Wc.se (by conv => lhs; simp) ?_
 apply Wc.block
 obtain ⟨w71, h72, h⟩ := bind_some h
 refine Wc.start (V1 := [(0, .v (osl eI true data)), (1, .v (.int .i64 a)), (2, .v (.int .i64 b)), (7, .v (.int .i64 (w64 (a + 1)))), (8, .v (.int .i64 0))]) (by first | rfl | simp) ?_
 refine Wc.mono (r209_0 _ _ h72) ?_
 rcases w71 with data_73 | ⟨data_74, x_75⟩
 ·rintro ex V ⟨rfl, rfl⟩
  try dsimp only at h
  refine Wc.se (by conv => lhs; simp) ?_
  refine Wc.ret (res_of (.inr rfl) ?_)
  cases h
  exact ⟨_, _, _, by conv => lhs; simp, by (conv => lhs; simp) <;> rfl, by first | rfl | simp⟩
 ·rintro ex V ⟨rfl, rfl⟩
  dsimp only at h ⊢
  refine res_of (.inr rfl) ?_
  cases h
  exact ⟨_, _, _, by conv => lhs; simp, by (conv => lhs; simp) <;> rfl, by first | rfl | simp⟩
theorem r211_1 {a : Int} {data_9 : (List Int)} {j_11 : Int} : ∀ zs zo, iter (f211_1 a data_9 j_11) zs = some zo → Wc cx 84 (.loop L211_1) [(0, .v (osl eI true data_9)), (1, .v (.int .i64 a)), (9, .v (.int .i64 zs)), (10, .v (.int .i64 j_11))] ((QX 2 (fun (y : Int) => [(0, .v (osl eI true data_9)), (1, .v (.int .i64 a)), (9, .v (.int .i64 y)), (10, .v (.int .i64 j_11))])) zo) := by
 refine iter_all ?_
 rintro i_12 zo zr h hk hx
 try dsimp only at hk ⊢
 rw [f211_1] at h
 apply Wc.loop
 apply Wc.seq
 apply Wc.seq
 refine Wc.evk 4 (by conv => lhs; simp) ?_
 obtain ⟨w14, h15, h⟩ := bind_some h
 refine Wo.mono (Q := fun V => V = [(0, .v (osl eI true data_9)), (1, .v (.int .i64 a)), (9, .v (.int .i64 i_12)), (10, .v (.int .i64 j_11)), (43, .v (.bool w14))]) ?_ ?_
 ·by_cases knh15 : i_12 ≤ j_11
  ·rw [if_pos knh15] at h15
   refine Wo.gh (vle_co (s := 32) (t1 := .bool true) rfl (by simp) (tle_bool (by simpa using knh15)) (by conv => lhs; simp)) ?_
   obtain ⟨v_16, h17, h15⟩ := bind_some h15
   obtain ⟨ga17, gb17, gc17⟩ := ix_some h17
   have gn17 := ix_ne h17
   have gf17 := arr_fit (E := eI) (b := true) (i := a.toNat) (l := data_9) (by omega)
   have gg17_0 := arr_get (E := eI) (b := true) (o := 0) gc17 (by decide)
   simp at gf17 gg17_0
   have gl17 : a.toNat < data_9.length := by omega
   obtain ⟨v_18, h19, h15⟩ := bind_some h15
   obtain ⟨ga19, gb19, gc19⟩ := ix_some h19
   have gn19 := ix_ne h19
   have gf19 := arr_fit (E := eI) (b := true) (i := i_12.toNat) (l := data_9) (by omega)
   have gg19_0 := arr_get (E := eI) (b := true) (o := 0) gc19 (by decide)
   simp at gf19 gg19_0
   have gl19 : i_12.toNat < data_9.length := by omega
   refine Wo.evs (by conv => lhs; simp [-getElem?_pos, List.getElem?_cons_zero, List.getElem?_cons_succ, ga17, gb17, gn17, gf17, gg17_0, gl17, ga19, gb19, gn19, gf19, gg19_0, gl19]) ?_
   obtain ⟨o20, h21, h15⟩ := bind_some h15
   refine Wo.call (by simp [-getElem?_pos, List.getElem?_cons_zero, List.getElem?_cons_succ, ga17, gb17, gn17, gf17, gg17_0, gl17, ga19, gb19, gn19, gf19, gg19_0, gl19]) rfl (by (conv => lhs; simp [-getElem?_pos, List.getElem?_cons_zero, List.getElem?_cons_succ, ga17, gb17, gn17, gf17, gg17_0, gl17, ga19, gb19, gn19, gf19, gg19_0, gl19]) <;> rfl) (r210 h21) (by simp) (by simp) (by (conv => lhs; simp [-getElem?_pos, List.getElem?_cons_zero, List.getElem?_cons_succ, ga17, gb17, gn17, gf17, gg17_0, gl17, ga19, gb19, gn19, gf19, gg19_0, gl19]) <;> rfl) (by (conv => lhs; simp [-getElem?_pos, List.getElem?_cons_zero, List.getElem?_cons_succ, ga17, gb17, gn17, gf17, gg17_0, gl17, ga19, gb19, gn19, gf19, gg19_0, gl19]) <;> rfl) ?_
   refine Wo.en (by conv => lhs; simp [-getElem?_pos, List.getElem?_cons_zero, List.getElem?_cons_succ, ga17, gb17, gn17, gf17, gg17_0, gl17, ga19, gb19, gn19, gf19, gg19_0, gl19]) ?_
   cases h15
   first | rfl | simp [-getElem?_pos, List.getElem?_cons_zero, List.getElem?_cons_succ, ga17, gb17, gn17, gf17, gg17_0, gl17, ga19, gb19, gn19, gf19, gg19_0, gl19]
  ·rw [if_neg knh15] at h15
   refine Wo.gh (vle_co (s := 32) (t1 := .bool false) rfl (by simp) (tle_bool (by simpa using knh15)) (by conv => lhs; simp)) ?_
   refine Wo.en (by conv => lhs; simp) ?_
   cases h15
   first | rfl | simp
 ·rintro V rfl
  generalize w14 = x_13 at *
  try dsimp only at h
  by_cases kc22 : x_13 = true
  ·rw [if_pos kc22] at h
   refine Wc.condT' (by conv => lhs; simp) (by simpa using kc22) ?_
   refine Wc.sk (by conv => lhs; simp) ?_
   apply Wc.skip
   apply Wc.block
   refine Wc.en (by conv => lhs; simp) ?_
   refine Wc.start ?_ (hk _ (Option.some.inj h).symm)
   first | rfl | simp
  ·rw [if_neg kc22] at h
   refine Wc.condF' (by conv => lhs; simp) (by simpa using kc22) ?_
   refine Wc.sk (by conv => lhs; simp) ?_
   apply Wc.exit
   have e0 := hx _ (Option.some.inj h).symm
   subst e0
   exact ⟨rfl, by first | rfl | simp⟩
theorem r211_2 {a : Int} {data_9 : (List Int)} {i_25 : Int} : ∀ zs zo, iter (f211_2 a data_9 i_25) zs = some zo → Wc cx 84 (.loop L211_2) [(0, .v (osl eI true data_9)), (1, .v (.int .i64 a)), (9, .v (.int .i64 i_25)), (10, .v (.int .i64 zs))] ((QX 4 (fun (y : Int) => [(0, .v (osl eI true data_9)), (1, .v (.int .i64 a)), (9, .v (.int .i64 i_25)), (10, .v (.int .i64 y))])) zo) := by
 refine iter_all ?_
 rintro j_26 zo zr h hk hx
 try dsimp only at hk ⊢
 rw [f211_2] at h
 apply Wc.loop
 apply Wc.seq
 apply Wc.seq
 refine Wc.evk 4 (by conv => lhs; simp) ?_
 obtain ⟨w28, h29, h⟩ := bind_some h
 refine Wo.mono (Q := fun V => V = [(0, .v (osl eI true data_9)), (1, .v (.int .i64 a)), (9, .v (.int .i64 i_25)), (10, .v (.int .i64 j_26)), (59, .v (.bool w28))]) ?_ ?_
 ·by_cases knh29 : i_25 ≤ j_26
  ·rw [if_pos knh29] at h29
   refine Wo.gh (vle_co (s := 49) (t1 := .bool true) rfl (by simp) (tle_bool (by simpa using knh29)) (by conv => lhs; simp)) ?_
   obtain ⟨v_30, h31, h29⟩ := bind_some h29
   obtain ⟨ga31, gb31, gc31⟩ := ix_some h31
   have gn31 := ix_ne h31
   have gf31 := arr_fit (E := eI) (b := true) (i := a.toNat) (l := data_9) (by omega)
   have gg31_0 := arr_get (E := eI) (b := true) (o := 0) gc31 (by decide)
   simp at gf31 gg31_0
   have gl31 : a.toNat < data_9.length := by omega
   obtain ⟨v_32, h33, h29⟩ := bind_some h29
   obtain ⟨ga33, gb33, gc33⟩ := ix_some h33
   have gn33 := ix_ne h33
   have gf33 := arr_fit (E := eI) (b := true) (i := j_26.toNat) (l := data_9) (by omega)
   have gg33_0 := arr_get (E := eI) (b := true) (o := 0) gc33 (by decide)
   simp at gf33 gg33_0
   have gl33 : j_26.toNat < data_9.length := by omega
   refine Wo.evs (by conv => lhs; simp [-getElem?_pos, List.getElem?_cons_zero, List.getElem?_cons_succ, ga31, gb31, gn31, gf31, gg31_0, gl31, ga33, gb33, gn33, gf33, gg33_0, gl33]) ?_
   obtain ⟨o34, h35, h29⟩ := bind_some h29
   refine Wo.call (by simp [-getElem?_pos, List.getElem?_cons_zero, List.getElem?_cons_succ, ga31, gb31, gn31, gf31, gg31_0, gl31, ga33, gb33, gn33, gf33, gg33_0, gl33]) rfl (by (conv => lhs; simp [-getElem?_pos, List.getElem?_cons_zero, List.getElem?_cons_succ, ga31, gb31, gn31, gf31, gg31_0, gl31, ga33, gb33, gn33, gf33, gg33_0, gl33]) <;> rfl) (r210 h35) (by simp) (by simp) (by (conv => lhs; simp [-getElem?_pos, List.getElem?_cons_zero, List.getElem?_cons_succ, ga31, gb31, gn31, gf31, gg31_0, gl31, ga33, gb33, gn33, gf33, gg33_0, gl33]) <;> rfl) (by (conv => lhs; simp [-getElem?_pos, List.getElem?_cons_zero, List.getElem?_cons_succ, ga31, gb31, gn31, gf31, gg31_0, gl31, ga33, gb33, gn33, gf33, gg33_0, gl33]) <;> rfl) ?_
   refine Wo.en (by conv => lhs; simp [-getElem?_pos, List.getElem?_cons_zero, List.getElem?_cons_succ, ga31, gb31, gn31, gf31, gg31_0, gl31, ga33, gb33, gn33, gf33, gg33_0, gl33]) ?_
   cases h29
   first | rfl | simp [-getElem?_pos, List.getElem?_cons_zero, List.getElem?_cons_succ, ga31, gb31, gn31, gf31, gg31_0, gl31, ga33, gb33, gn33, gf33, gg33_0, gl33]
  ·rw [if_neg knh29] at h29
   refine Wo.gh (vle_co (s := 49) (t1 := .bool false) rfl (by simp) (tle_bool (by simpa using knh29)) (by conv => lhs; simp)) ?_
   refine Wo.en (by conv => lhs; simp) ?_
   cases h29
   first | rfl | simp
 ·rintro V rfl
  generalize w28 = x_27 at *
  try dsimp only at h
  by_cases kc36 : x_27 = true
  ·rw [if_pos kc36] at h
   refine Wc.condT' (by conv => lhs; simp) (by simpa using kc36) ?_
   refine Wc.sk (by conv => lhs; simp) ?_
   apply Wc.skip
   apply Wc.block
   refine Wc.en (by conv => lhs; simp) ?_
   refine Wc.start ?_ (hk _ (Option.some.inj h).symm)
   first | rfl | simp
  ·rw [if_neg kc36] at h
   refine Wc.condF' (by conv => lhs; simp) (by simpa using kc36) ?_
   refine Wc.sk (by conv => lhs; simp) ?_
   apply Wc.exit
   have e0 := hx _ (Option.some.inj h).symm
   subst e0
   exact ⟨rfl, by first | rfl | simp⟩
theorem r211_0 {a : Int} : ∀ zs zo, iter (f211_0 a) zs = some zo → Wc cx 84 (.loop L211_0) [(0, .v (osl eI true zs.1)), (1, .v (.int .i64 a)), (9, .v (.int .i64 zs.2.1)), (10, .v (.int .i64 zs.2.2))] ((QX 0 (fun (y : (List Int) × Int) => [(0, .v (osl eI true y.1)), (9, .v (.int .i64 y.2))])) zo) := by
 refine iter_all ?_
 rintro ⟨data_9, i_10, j_11⟩ zo zr h hk hx
 try dsimp only at hk ⊢
 rw [f211_0] at h
 apply Wc.loop
 apply Wc.block
 apply Wc.seq
 apply Wc.block
 obtain ⟨w23, h24, h⟩ := bind_some h
 refine Wc.start (V1 := [(0, .v (osl eI true data_9)), (1, .v (.int .i64 a)), (9, .v (.int .i64 i_10)), (10, .v (.int .i64 j_11))]) (by first | rfl | simp) ?_
 refine Wc.mono (r211_1 _ _ h24) ?_
 generalize w23 = i_25 at *
 rintro ex V ⟨rfl, rfl⟩
 try dsimp only at h
 apply Wc.seq
 apply Wc.block
 obtain ⟨w37, h38, h⟩ := bind_some h
 refine Wc.start (V1 := [(0, .v (osl eI true data_9)), (1, .v (.int .i64 a)), (9, .v (.int .i64 i_25)), (10, .v (.int .i64 j_11))]) (by first | rfl | simp) ?_
 refine Wc.mono (r211_2 _ _ h38) ?_
 generalize w37 = j_39 at *
 rintro ex V ⟨rfl, rfl⟩
 try dsimp only at h
 apply Wc.seq
 refine Wc.se (by conv => lhs; simp) ?_
 by_cases kc40 : i_25 > j_39
 ·rw [if_pos kc40] at h
  refine Wc.condT' (by conv => lhs; simp) (by simpa using kc40) ?_
  refine Wc.sk (by conv => lhs; simp) ?_
  apply Wc.exit
  have e0 := hx _ (Option.some.inj h).symm
  subst e0
  exact ⟨rfl, by first | rfl | simp⟩
 ·rw [if_neg kc40] at h
  refine Wc.condF' (by conv => lhs; simp) (by simpa using kc40) ?_
  refine Wc.sk (by conv => lhs; simp) ?_
  apply Wc.skip
  apply Wc.seq
  obtain ⟨v_41, h42, h⟩ := bind_some h
  obtain ⟨ga42, gb42, gc42⟩ := ix_some h42
  have gn42 := ix_ne h42
  have gf42 := arr_fit (E := eI) (b := true) (i := j_39.toNat) (l := data_9) (by omega)
  have gg42_0 := arr_get (E := eI) (b := true) (o := 0) gc42 (by decide)
  simp at gf42 gg42_0
  have gl42 : j_39.toNat < data_9.length := by omega
  obtain ⟨v_43, h44, h⟩ := bind_some h
  obtain ⟨ga44, gb44, gc44⟩ := ix_some h44
  have gn44 := ix_ne h44
  have gf44 := arr_fit (E := eI) (b := true) (i := i_25.toNat) (l := data_9) (by omega)
  have gg44_0 := arr_get (E := eI) (b := true) (o := 0) gc44 (by decide)
  simp at gf44 gg44_0
  have gl44 : i_25.toNat < data_9.length := by omega
  have gy45 := lay_set (E := eI) (b := true) (i := i_25.toNat) (l := data_9) v_41 (by omega)
  simp at gy45
  obtain ⟨v_46, h47, h⟩ := bind_some h
  obtain ⟨ga47, gb47, gc47⟩ := ix_some h47
  have gn47 := ix_ne h47
  have gf47 := arr_fit (E := eI) (b := true) (i := j_39.toNat) (l := (data_9.set i_25.toNat v_41)) (by first | omega | (simp only [List.length_set] at *; omega))
  have gg47_0 := arr_get (E := eI) (b := true) (o := 0) gc47 (by decide)
  simp at gf47 gg47_0
  have gl47 : j_39.toNat < (data_9.set i_25.toNat v_41).length := by first | omega | (simp only [List.length_set] at *; omega)
  try simp only [List.length_set] at gb47 gl47
  try simp at gn47
  have gy48 := lay_set (E := eI) (b := true) (i := j_39.toNat) (l := (data_9.set i_25.toNat v_41)) v_43 (by first | omega | (simp only [List.length_set] at *; omega))
  simp at gy48
  refine Wc.en (by conv => lhs; simp [-getElem?_pos, List.getElem?_cons_zero, List.getElem?_cons_succ, ga42, gb42, gn42, gf42, gg42_0, gl42, ga44, gb44, gn44, gf44, gg44_0, gl44, gy45, ga47, gb47, gn47, gf47, gg47_0, gl47, gy48]) ?_
  refine Wc.se (by conv => lhs; simp) ?_
  refine Wc.en (by conv => lhs; simp) ?_
  refine Wc.start ?_ (hk _ (Option.some.inj h).symm)
  first | rfl | simp
theorem r211 {data : (List Int)} {a : Int} {b : Int} {pivot : Int} {r : Int × (List Int)} (h : f211 data a b pivot = some r) : VJx cx (.ca 211 [(osl eI true data), (.int .i64 a), (.int .i64 b), (.int .i64 pivot)] (.int .i64 r.1) [(osl eI true r.2)]) := by
 unfold f211 at h
 refine ca_of rfl rfl (by decide) rfl ?_
 refine Wc.start (by conv => lhs; simp) ?_
 refine Wc.se (by conv => lhs; simp) ?_
 apply Wc.seq
 obtain ⟨v_1, h2, h⟩ := bind_some h
 obtain ⟨ga2, gb2, gc2⟩ := ix_some h2
 have gn2 := ix_ne h2
 have gf2 := arr_fit (E := eI) (b := true) (i := pivot.toNat) (l := data) (by omega)
 have gg2_0 := arr_get (E := eI) (b := true) (o := 0) gc2 (by decide)
 simp at gf2 gg2_0
 have gl2 : pivot.toNat < data.length := by omega
 obtain ⟨v_3, h4, h⟩ := bind_some h
 obtain ⟨ga4, gb4, gc4⟩ := ix_some h4
 have gn4 := ix_ne h4
 have gf4 := arr_fit (E := eI) (b := true) (i := a.toNat) (l := data) (by omega)
 have gg4_0 := arr_get (E := eI) (b := true) (o := 0) gc4 (by decide)
 simp at gf4 gg4_0
 have gl4 : a.toNat < data.length := by omega
 have gy5 := lay_set (E := eI) (b := true) (i := a.toNat) (l := data) v_1 (by omega)
 simp at gy5
 obtain ⟨v_6, h7, h⟩ := bind_some h
 obtain ⟨ga7, gb7, gc7⟩ := ix_some h7
 have gn7 := ix_ne h7
 have gf7 := arr_fit (E := eI) (b := true) (i := pivot.toNat) (l := (data.set a.toNat v_1)) (by first | omega | (simp only [List.length_set] at *; omega))
 have gg7_0 := arr_get (E := eI) (b := true) (o := 0) gc7 (by decide)
 simp at gf7 gg7_0
 have gl7 : pivot.toNat < (data.set a.toNat v_1).length := by first | omega | (simp only [List.length_set] at *; omega)
 try simp only [List.length_set] at gb7 gl7
 try simp at gn7
 have gy8 := lay_set (E := eI) (b := true) (i := pivot.toNat) (l := (data.set a.toNat v_1)) v_3 (by first | omega | (simp only [List.length_set] at *; omega))
 simp at gy8
 refine Wc.en (by conv => lhs; simp [-getElem?_pos, List.getElem?_cons_zero, List.getElem?_cons_succ, ga2, gb2, gn2, gf2, gg2_0, gl2, ga4, gb4, gn4, gf4, gg4_0, gl4, gy5, ga7, gb7, gn7, gf7, gg7_0, gl7, gy8]) ?_
 refine Wc.se (by conv => lhs; simp) ?_
 apply Wc.seq
 apply Wc.block
 obtain ⟨w49, h50, h⟩ := bind_some h
 refine Wc.start (V1 := [(0, .v (osl eI true ((data.set a.toNat v_1).set pivot.toNat v_3))), (1, .v (.int .i64 a)), (9, .v (.int .i64 (w64 (a + 1)))), (10, .v (.int .i64 (w64 (b - 1))))]) (by first | rfl | simp) ?_
 refine Wc.mono (r211_0 _ _ h50) ?_
 obtain ⟨data_51, i_52⟩ := w49
 rintro ex V ⟨rfl, rfl⟩
 dsimp only at h ⊢
 refine Wc.se (by conv => lhs; simp) ?_
 refine Wc.ret (res_of (.inr rfl) ?_)
 cases h
 exact ⟨_, _, _, by conv => lhs; simp, by (conv => lhs; simp) <;> rfl, by first | rfl | simp⟩
theorem r212_0 {data : (List Int)} {a : Int} {b : Int} {pivot : Int} {v_1 : Int} {v_3 : Int} : ∀ zs zo, iter (f212_0 data a b pivot v_1 v_3) zs = some zo → Wc cx 168 (.loop L212_0) [(0, .v (osl eI true ((data.set a.toNat v_1).set pivot.toNat v_3))), (1, .v (.int .i64 a)), (10, .v (.int .i64 zs)), (11, .v (.int .i64 (w64 (b - 1))))] ((QX 0 (fun (y : Int) => [(0, .v (osl eI true ((data.set a.toNat v_1).set pivot.toNat v_3))), (1, .v (.int .i64 a)), (10, .v (.int .i64 y)), (11, .v (.int .i64 (w64 (b - 1))))])) zo) := by
 refine iter_all ?_
 rintro i_9 zo zr h hk hx
 try dsimp only at hk ⊢
 rw [f212_0] at h
 apply Wc.loop
 apply Wc.seq
 apply Wc.seq
 refine Wc.evk 4 (by conv => lhs; simp) ?_
 obtain ⟨w11, h12, h⟩ := bind_some h
 refine Wo.mono (Q := fun V => V = [(0, .v (osl eI true ((data.set a.toNat v_1).set pivot.toNat v_3))), (1, .v (.int .i64 a)), (10, .v (.int .i64 i_9)), (11, .v (.int .i64 (w64 (b - 1)))), (43, .v (.bool w11))]) ?_ ?_
 ·by_cases knh12 : i_9 ≤ (w64 (b - 1))
  ·rw [if_pos knh12] at h12
   refine Wo.gh (vle_co (s := 33) (t1 := .bool true) rfl (by simp) (tle_bool (by simpa using knh12)) (by conv => lhs; simp)) ?_
   obtain ⟨v_13, h14, h12⟩ := bind_some h12
   obtain ⟨ga14, gb14, gc14⟩ := ix_some h14
   have gn14 := ix_ne h14
   have gf14 := arr_fit (E := eI) (b := true) (i := i_9.toNat) (l := ((data.set a.toNat v_1).set pivot.toNat v_3)) (by first | omega | (simp only [List.length_set] at *; omega))
   have gg14_0 := arr_get (E := eI) (b := true) (o := 0) gc14 (by decide)
   simp at gf14 gg14_0
   have gl14 : i_9.toNat < ((data.set a.toNat v_1).set pivot.toNat v_3).length := by first | omega | (simp only [List.length_set] at *; omega)
   try simp only [List.length_set] at gb14 gl14
   try simp at gn14
   obtain ⟨v_15, h16, h12⟩ := bind_some h12
   obtain ⟨ga16, gb16, gc16⟩ := ix_some h16
   have gn16 := ix_ne h16
   have gf16 := arr_fit (E := eI) (b := true) (i := a.toNat) (l := ((data.set a.toNat v_1).set pivot.toNat v_3)) (by first | omega | (simp only [List.length_set] at *; omega))
   have gg16_0 := arr_get (E := eI) (b := true) (o := 0) gc16 (by decide)
   simp at gf16 gg16_0
   have gl16 : a.toNat < ((data.set a.toNat v_1).set pivot.toNat v_3).length := by first | omega | (simp only [List.length_set] at *; omega)
   try simp only [List.length_set] at gb16 gl16
   try simp at gn16
   refine Wo.evs (by conv => lhs; simp [-getElem?_pos, List.getElem?_cons_zero, List.getElem?_cons_succ, ga14, gb14, gn14, gf14, gg14_0, gl14, ga16, gb16, gn16, gf16, gg16_0, gl16]) ?_
   obtain ⟨o17, h18, h12⟩ := bind_some h12
   refine Wo.call (by simp [-getElem?_pos, List.getElem?_cons_zero, List.getElem?_cons_succ, ga14, gb14, gn14, gf14, gg14_0, gl14, ga16, gb16, gn16, gf16, gg16_0, gl16]) rfl (by (conv => lhs; simp [-getElem?_pos, List.getElem?_cons_zero, List.getElem?_cons_succ, ga14, gb14, gn14, gf14, gg14_0, gl14, ga16, gb16, gn16, gf16, gg16_0, gl16]) <;> rfl) (r210 h18) (by simp) (by simp) (by (conv => lhs; simp [-getElem?_pos, List.getElem?_cons_zero, List.getElem?_cons_succ, ga14, gb14, gn14, gf14, gg14_0, gl14, ga16, gb16, gn16, gf16, gg16_0, gl16]) <;> rfl) (by (conv => lhs; simp [-getElem?_pos, List.getElem?_cons_zero, List.getElem?_cons_succ, ga14, gb14, gn14, gf14, gg14_0, gl14, ga16, gb16, gn16, gf16, gg16_0, gl16]) <;> rfl) ?_
   refine Wo.en (by conv => lhs; simp [-getElem?_pos, List.getElem?_cons_zero, List.getElem?_cons_succ, ga14, gb14, gn14, gf14, gg14_0, gl14, ga16, gb16, gn16, gf16, gg16_0, gl16]) ?_
   cases h12
   first | rfl | simp [-getElem?_pos, List.getElem?_cons_zero, List.getElem?_cons_succ, ga14, gb14, gn14, gf14, gg14_0, gl14, ga16, gb16, gn16, gf16, gg16_0, gl16]
  ·rw [if_neg knh12] at h12
   refine Wo.gh (vle_co (s := 33) (t1 := .bool false) rfl (by simp) (tle_bool (by simpa using knh12)) (by conv => lhs; simp)) ?_
   refine Wo.en (by conv => lhs; simp) ?_
   cases h12
   first | rfl | simp
 ·rintro V rfl
  generalize w11 = x_10 at *
  try dsimp only at h
  by_cases kc19 : x_10 = true
  ·rw [if_pos kc19] at h
   refine Wc.condT' (by conv => lhs; simp) (by simpa using kc19) ?_
   refine Wc.sk (by conv => lhs; simp) ?_
   apply Wc.skip
   apply Wc.block
   refine Wc.en (by conv => lhs; simp) ?_
   refine Wc.start ?_ (hk _ (Option.some.inj h).symm)
   first | rfl | simp
  ·rw [if_neg kc19] at h
   refine Wc.condF' (by conv => lhs; simp) (by simpa using kc19) ?_
   refine Wc.sk (by conv => lhs; simp) ?_
   apply Wc.exit
   have e0 := hx _ (Option.some.inj h).symm
   subst e0
   exact ⟨rfl, by first | rfl | simp⟩
theorem r212_1 {data : (List Int)} {a : Int} {pivot : Int} {v_1 : Int} {v_3 : Int} {i_22 : Int} : ∀ zs zo, iter (f212_1 data a pivot v_1 v_3 i_22) zs = some zo → Wc cx 168 (.loop L212_1) [(0, .v (osl eI true ((data.set a.toNat v_1).set pivot.toNat v_3))), (1, .v (.int .i64 a)), (10, .v (.int .i64 i_22)), (11, .v (.int .i64 zs))] ((QX 2 (fun (y : Int) => [(0, .v (osl eI true ((data.set a.toNat v_1).set pivot.toNat v_3))), (1, .v (.int .i64 a)), (10, .v (.int .i64 i_22)), (11, .v (.int .i64 y))])) zo) := by
 refine iter_all ?_
 rintro j_23 zo zr h hk hx
 try dsimp only at hk ⊢
 rw [f212_1] at h
 apply Wc.loop
 apply Wc.seq
 apply Wc.seq
 refine Wc.evk 4 (by conv => lhs; simp) ?_
 obtain ⟨w25, h26, h⟩ := bind_some h
 refine Wo.mono (Q := fun V => V = [(0, .v (osl eI true ((data.set a.toNat v_1).set pivot.toNat v_3))), (1, .v (.int .i64 a)), (10, .v (.int .i64 i_22)), (11, .v (.int .i64 j_23)), (60, .v (.bool w25))]) ?_ ?_
 ·by_cases knh26 : i_22 ≤ j_23
  ·rw [if_pos knh26] at h26
   refine Wo.gh (vle_co (s := 49) (t1 := .bool true) rfl (by simp) (tle_bool (by simpa using knh26)) (by conv => lhs; simp)) ?_
   obtain ⟨v_27, h28, h26⟩ := bind_some h26
   obtain ⟨ga28, gb28, gc28⟩ := ix_some h28
   have gn28 := ix_ne h28
   have gf28 := arr_fit (E := eI) (b := true) (i := j_23.toNat) (l := ((data.set a.toNat v_1).set pivot.toNat v_3)) (by first | omega | (simp only [List.length_set] at *; omega))
   have gg28_0 := arr_get (E := eI) (b := true) (o := 0) gc28 (by decide)
   simp at gf28 gg28_0
   have gl28 : j_23.toNat < ((data.set a.toNat v_1).set pivot.toNat v_3).length := by first | omega | (simp only [List.length_set] at *; omega)
   try simp only [List.length_set] at gb28 gl28
   try simp at gn28
   obtain ⟨v_29, h30, h26⟩ := bind_some h26
   obtain ⟨ga30, gb30, gc30⟩ := ix_some h30
   have gn30 := ix_ne h30
   have gf30 := arr_fit (E := eI) (b := true) (i := a.toNat) (l := ((data.set a.toNat v_1).set pivot.toNat v_3)) (by first | omega | (simp only [List.length_set] at *; omega))
   have gg30_0 := arr_get (E := eI) (b := true) (o := 0) gc30 (by decide)
   simp at gf30 gg30_0
   have gl30 : a.toNat < ((data.set a.toNat v_1).set pivot.toNat v_3).length := by first | omega | (simp only [List.length_set] at *; omega)
   try simp only [List.length_set] at gb30 gl30
   try simp at gn30
   refine Wo.evs (by conv => lhs; simp [-getElem?_pos, List.getElem?_cons_zero, List.getElem?_cons_succ, ga28, gb28, gn28, gf28, gg28_0, gl28, ga30, gb30, gn30, gf30, gg30_0, gl30]) ?_
   obtain ⟨o31, h32, h26⟩ := bind_some h26
   refine Wo.call (by simp [-getElem?_pos, List.getElem?_cons_zero, List.getElem?_cons_succ, ga28, gb28, gn28, gf28, gg28_0, gl28, ga30, gb30, gn30, gf30, gg30_0, gl30]) rfl (by (conv => lhs; simp [-getElem?_pos, List.getElem?_cons_zero, List.getElem?_cons_succ, ga28, gb28, gn28, gf28, gg28_0, gl28, ga30, gb30, gn30, gf30, gg30_0, gl30]) <;> rfl) (r210 h32) (by simp) (by simp) (by (conv => lhs; simp [-getElem?_pos, List.getElem?_cons_zero, List.getElem?_cons_succ, ga28, gb28, gn28, gf28, gg28_0, gl28, ga30, gb30, gn30, gf30, gg30_0, gl30]) <;> rfl) (by (conv => lhs; simp [-getElem?_pos, List.getElem?_cons_zero, List.getElem?_cons_succ, ga28, gb28, gn28, gf28, gg28_0, gl28, ga30, gb30, gn30, gf30, gg30_0, gl30]) <;> rfl) ?_
   refine Wo.en (by conv => lhs; simp [-getElem?_pos, List.getElem?_cons_zero, List.getElem?_cons_succ, ga28, gb28, gn28, gf28, gg28_0, gl28, ga30, gb30, gn30, gf30, gg30_0, gl30]) ?_
   cases h26
   first | rfl | simp [-getElem?_pos, List.getElem?_cons_zero, List.getElem?_cons_succ, ga28, gb28, gn28, gf28, gg28_0, gl28, ga30, gb30, gn30, gf30, gg30_0, gl30]
  ·rw [if_neg knh26] at h26
   refine Wo.gh (vle_co (s := 49) (t1 := .bool false) rfl (by simp) (tle_bool (by simpa using knh26)) (by conv => lhs; simp)) ?_
   refine Wo.en (by conv => lhs; simp) ?_
   cases h26
   first | rfl | simp
 ·rintro V rfl
  generalize w25 = x_24 at *
  try dsimp only at h
  by_cases kc33 : x_24 = true
  ·rw [if_pos kc33] at h
   refine Wc.condT' (by conv => lhs; simp) (by simpa using kc33) ?_
   refine Wc.sk (by conv => lhs; simp) ?_
   apply Wc.skip
   apply Wc.block
   refine Wc.en (by conv => lhs; simp) ?_
   refine Wc.start ?_ (hk _ (Option.some.inj h).symm)
   first | rfl | simp
  ·rw [if_neg kc33] at h
   refine Wc.condF' (by conv => lhs; simp) (by simpa using kc33) ?_
   refine Wc.sk (by conv => lhs; simp) ?_
   apply Wc.exit
   have e0 := hx _ (Option.some.inj h).symm
   subst e0
   exact ⟨rfl, by first | rfl | simp⟩
theorem r212_3 {a : Int} {data_54 : (List Int)} {j_56 : Int} : ∀ zs zo, iter (f212_3 a data_54 j_56) zs = some zo → Wc cx 168 (.loop L212_3) [(0, .v (osl eI true data_54)), (1, .v (.int .i64 a)), (10, .v (.int .i64 zs)), (11, .v (.int .i64 j_56))] ((QX 6 (fun (y : Int) => [(0, .v (osl eI true data_54)), (1, .v (.int .i64 a)), (10, .v (.int .i64 y)), (11, .v (.int .i64 j_56))])) zo) := by
 refine iter_all ?_
 rintro i_57 zo zr h hk hx
 try dsimp only at hk ⊢
 rw [f212_3] at h
 apply Wc.loop
 apply Wc.seq
 apply Wc.seq
 refine Wc.evk 4 (by conv => lhs; simp) ?_
 obtain ⟨w59, h60, h⟩ := bind_some h
 refine Wo.mono (Q := fun V => V = [(0, .v (osl eI true data_54)), (1, .v (.int .i64 a)), (10, .v (.int .i64 i_57)), (11, .v (.int .i64 j_56)), (112, .v (.bool w59))]) ?_ ?_
 ·by_cases knh60 : i_57 ≤ j_56
  ·rw [if_pos knh60] at h60
   refine Wo.gh (vle_co (s := 102) (t1 := .bool true) rfl (by simp) (tle_bool (by simpa using knh60)) (by conv => lhs; simp)) ?_
   obtain ⟨v_61, h62, h60⟩ := bind_some h60
   obtain ⟨ga62, gb62, gc62⟩ := ix_some h62
   have gn62 := ix_ne h62
   have gf62 := arr_fit (E := eI) (b := true) (i := i_57.toNat) (l := data_54) (by omega)
   have gg62_0 := arr_get (E := eI) (b := true) (o := 0) gc62 (by decide)
   simp at gf62 gg62_0
   have gl62 : i_57.toNat < data_54.length := by omega
   obtain ⟨v_63, h64, h60⟩ := bind_some h60
   obtain ⟨ga64, gb64, gc64⟩ := ix_some h64
   have gn64 := ix_ne h64
   have gf64 := arr_fit (E := eI) (b := true) (i := a.toNat) (l := data_54) (by omega)
   have gg64_0 := arr_get (E := eI) (b := true) (o := 0) gc64 (by decide)
   simp at gf64 gg64_0
   have gl64 : a.toNat < data_54.length := by omega
   refine Wo.evs (by conv => lhs; simp [-getElem?_pos, List.getElem?_cons_zero, List.getElem?_cons_succ, ga62, gb62, gn62, gf62, gg62_0, gl62, ga64, gb64, gn64, gf64, gg64_0, gl64]) ?_
   obtain ⟨o65, h66, h60⟩ := bind_some h60
   refine Wo.call (by simp [-getElem?_pos, List.getElem?_cons_zero, List.getElem?_cons_succ, ga62, gb62, gn62, gf62, gg62_0, gl62, ga64, gb64, gn64, gf64, gg64_0, gl64]) rfl (by (conv => lhs; simp [-getElem?_pos, List.getElem?_cons_zero, List.getElem?_cons_succ, ga62, gb62, gn62, gf62, gg62_0, gl62, ga64, gb64, gn64, gf64, gg64_0, gl64]) <;> rfl) (r210 h66) (by simp) (by simp) (by (conv => lhs; simp [-getElem?_pos, List.getElem?_cons_zero, List.getElem?_cons_succ, ga62, gb62, gn62, gf62, gg62_0, gl62, ga64, gb64, gn64, gf64, gg64_0, gl64]) <;> rfl) (by (conv => lhs; simp [-getElem?_pos, List.getElem?_cons_zero, List.getElem?_cons_succ, ga62, gb62, gn62, gf62, gg62_0, gl62, ga64, gb64, gn64, gf64, gg64_0, gl64]) <;> rfl) ?_
   refine Wo.en (by conv => lhs; simp [-getElem?_pos, List.getElem?_cons_zero, List.getElem?_cons_succ, ga62, gb62, gn62, gf62, gg62_0, gl62, ga64, gb64, gn64, gf64, gg64_0, gl64]) ?_
   cases h60
   first | rfl | simp [-getElem?_pos, List.getElem?_cons_zero, List.getElem?_cons_succ, ga62, gb62, gn62, gf62, gg62_0, gl62, ga64, gb64, gn64, gf64, gg64_0, gl64]
  ·rw [if_neg knh60] at h60
   refine Wo.gh (vle_co (s := 102) (t1 := .bool false) rfl (by simp) (tle_bool (by simpa using knh60)) (by conv => lhs; simp)) ?_
   refine Wo.en (by conv => lhs; simp) ?_
   cases h60
   first | rfl | simp
 ·rintro V rfl
  generalize w59 = x_58 at *
  try dsimp only at h
  by_cases kc67 : x_58 = true
  ·rw [if_pos kc67] at h
   refine Wc.condT' (by conv => lhs; simp) (by simpa using kc67) ?_
   refine Wc.sk (by conv => lhs; simp) ?_
   apply Wc.skip
   apply Wc.block
   refine Wc.en (by conv => lhs; simp) ?_
   refine Wc.start ?_ (hk _ (Option.some.inj h).symm)
   first | rfl | simp
  ·rw [if_neg kc67] at h
   refine Wc.condF' (by conv => lhs; simp) (by simpa using kc67) ?_
   refine Wc.sk (by conv => lhs; simp) ?_
   apply Wc.exit
   have e0 := hx _ (Option.some.inj h).symm
   subst e0
   exact ⟨rfl, by first | rfl | simp⟩
theorem r212_4 {a : Int} {data_54 : (List Int)} {i_70 : Int} : ∀ zs zo, iter (f212_4 a data_54 i_70) zs = some zo → Wc cx 168 (.loop L212_4) [(0, .v (osl eI true data_54)), (1, .v (.int .i64 a)), (10, .v (.int .i64 i_70)), (11, .v (.int .i64 zs))] ((QX 8 (fun (y : Int) => [(0, .v (osl eI true data_54)), (1, .v (.int .i64 a)), (10, .v (.int .i64 i_70)), (11, .v (.int .i64 y))])) zo) := by
 refine iter_all ?_
 rintro j_71 zo zr h hk hx
 try dsimp only at hk ⊢
 rw [f212_4] at h
 apply Wc.loop
 apply Wc.seq
 apply Wc.seq
 refine Wc.evk 4 (by conv => lhs; simp) ?_
 obtain ⟨w73, h74, h⟩ := bind_some h
 refine Wo.mono (Q := fun V => V = [(0, .v (osl eI true data_54)), (1, .v (.int .i64 a)), (10, .v (.int .i64 i_70)), (11, .v (.int .i64 j_71)), (129, .v (.bool w73))]) ?_ ?_
 ·by_cases knh74 : i_70 ≤ j_71
  ·rw [if_pos knh74] at h74
   refine Wo.gh (vle_co (s := 118) (t1 := .bool true) rfl (by simp) (tle_bool (by simpa using knh74)) (by conv => lhs; simp)) ?_
   obtain ⟨v_75, h76, h74⟩ := bind_some h74
   obtain ⟨ga76, gb76, gc76⟩ := ix_some h76
   have gn76 := ix_ne h76
   have gf76 := arr_fit (E := eI) (b := true) (i := j_71.toNat) (l := data_54) (by omega)
   have gg76_0 := arr_get (E := eI) (b := true) (o := 0) gc76 (by decide)
   simp at gf76 gg76_0
   have gl76 : j_71.toNat < data_54.length := by omega
   obtain ⟨v_77, h78, h74⟩ := bind_some h74
   obtain ⟨ga78, gb78, gc78⟩ := ix_some h78
   have gn78 := ix_ne h78
   have gf78 := arr_fit (E := eI) (b := true) (i := a.toNat) (l := data_54) (by omega)
   have gg78_0 := arr_get (E := eI) (b := true) (o := 0) gc78 (by decide)
   simp at gf78 gg78_0
   have gl78 : a.toNat < data_54.length := by omega
   refine Wo.evs (by conv => lhs; simp [-getElem?_pos, List.getElem?_cons_zero, List.getElem?_cons_succ, ga76, gb76, gn76, gf76, gg76_0, gl76, ga78, gb78, gn78, gf78, gg78_0, gl78]) ?_
   obtain ⟨o79, h80, h74⟩ := bind_some h74
   refine Wo.call (by simp [-getElem?_pos, List.getElem?_cons_zero, List.getElem?_cons_succ, ga76, gb76, gn76, gf76, gg76_0, gl76, ga78, gb78, gn78, gf78, gg78_0, gl78]) rfl (by (conv => lhs; simp [-getElem?_pos, List.getElem?_cons_zero, List.getElem?_cons_succ, ga76, gb76, gn76, gf76, gg76_0, gl76, ga78, gb78, gn78, gf78, gg78_0, gl78]) <;> rfl) (r210 h80) (by simp) (by simp) (by (conv => lhs; simp [-getElem?_pos, List.getElem?_cons_zero, List.getElem?_cons_succ, ga76, gb76, gn76, gf76, gg76_0, gl76, ga78, gb78, gn78, gf78, gg78_0, gl78]) <;> rfl) (by (conv => lhs; simp [-getElem?_pos, List.getElem?_cons_zero, List.getElem?_cons_succ, ga76, gb76, gn76, gf76, gg76_0, gl76, ga78, gb78, gn78, gf78, gg78_0, gl78]) <;> rfl) ?_
   refine Wo.en (by conv => lhs; simp [-getElem?_pos, List.getElem?_cons_zero, List.getElem?_cons_succ, ga76, gb76, gn76, gf76, gg76_0, gl76, ga78, gb78, gn78, gf78, gg78_0, gl78]) ?_
   cases h74
   first | rfl | simp [-getElem?_pos, List.getElem?_cons_zero, List.getElem?_cons_succ, ga76, gb76, gn76, gf76, gg76_0, gl76, ga78, gb78, gn78, gf78, gg78_0, gl78]
  ·rw [if_neg knh74] at h74
   refine Wo.gh (vle_co (s := 118) (t1 := .bool false) rfl (by simp) (tle_bool (by simpa using knh74)) (by conv => lhs; simp)) ?_
   refine Wo.en (by conv => lhs; simp) ?_
   cases h74
   first | rfl | simp
 ·rintro V rfl
  generalize w73 = x_72 at *
  try dsimp only at h
  by_cases kc81 : x_72 = true
  ·rw [if_pos kc81] at h
   refine Wc.condT' (by conv => lhs; simp) (by simpa using kc81) ?_
   refine Wc.sk (by conv => lhs; simp) ?_
   apply Wc.skip
   apply Wc.block
   refine Wc.en (by conv => lhs; simp) ?_
   refine Wc.start ?_ (hk _ (Option.some.inj h).symm)
   first | rfl | simp
  ·rw [if_neg kc81] at h
   refine Wc.condF' (by conv => lhs; simp) (by simpa using kc81) ?_
   refine Wc.sk (by conv => lhs; simp) ?_
   apply Wc.exit
   have e0 := hx _ (Option.some.inj h).symm
   subst e0
   exact ⟨rfl, by first | rfl | simp⟩
end
end Go.Proofs.YtabmomjfdondnaaH
