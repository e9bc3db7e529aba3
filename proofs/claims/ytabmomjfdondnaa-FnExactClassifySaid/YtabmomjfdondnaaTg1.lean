import Derived.Test.YtabmomjfdondnaaTg1a
set_option linter.unusedVariables false
set_option linter.unusedSimpArgs false
set_option maxRecDepth 100000
namespace Go.Proofs.YtabmomjfdondnaaH
open Go
noncomputable section
attribute [local simp] cx ioTab List.range List.range.loop
theorem r212_2 {a : Int} : ∀ zs zo, iter (f212_2 a) zs = some zo → Wc cx 168 (.loop L212_2) [(0, .v (osl eI true zs.1)), (1, .v (.int .i64 a)), (10, .v (.int .i64 zs.2.1)), (11, .v (.int .i64 zs.2.2))] ((QX 4 (fun (y : (List Int) × Int) => [(0, .v (osl eI true y.1)), (1, .v (.int .i64 a)), (11, .v (.int .i64 y.2))])) zo) := by
 refine iter_all ?_
 rintro ⟨data_54, i_55, j_56⟩ zo zr h hk hx
 try dsimp only at hk ⊢
 rw [f212_2] at h
 apply Wc.loop
 apply Wc.block
 apply Wc.seq
 apply Wc.block
 obtain ⟨w68, h69, h⟩ := bind_some h
 refine Wc.start (V1 := [(0, .v (osl eI true data_54)), (1, .v (.int .i64 a)), (10, .v (.int .i64 i_55)), (11, .v (.int .i64 j_56))]) (by first | rfl | simp) ?_
 refine Wc.mono (r212_3 _ _ h69) ?_
 generalize w68 = i_70 at *
 rintro ex V ⟨rfl, rfl⟩
 try dsimp only at h
 apply Wc.seq
 apply Wc.block
 obtain ⟨w82, h83, h⟩ := bind_some h
 refine Wc.start (V1 := [(0, .v (osl eI true data_54)), (1, .v (.int .i64 a)), (10, .v (.int .i64 i_70)), (11, .v (.int .i64 j_56))]) (by first | rfl | simp) ?_
 refine Wc.mono (r212_4 _ _ h83) ?_
 generalize w82 = j_84 at *
 rintro ex V ⟨rfl, rfl⟩
 try dsimp only at h
 apply Wc.seq
 refine Wc.se (by conv => lhs; simp) ?_
 by_cases kc85 : i_70 > j_84
 ·rw [if_pos kc85] at h
  refine Wc.condT' (by conv => lhs; simp) (by simpa using kc85) ?_
  refine Wc.sk (by conv => lhs; simp) ?_
  apply Wc.exit
  have e0 := hx _ (Option.some.inj h).symm
  subst e0
  exact ⟨rfl, by first | rfl | simp⟩
 ·rw [if_neg kc85] at h
  refine Wc.condF' (by conv => lhs; simp) (by simpa using kc85) ?_
  refine Wc.sk (by conv => lhs; simp) ?_
  apply Wc.skip
  apply Wc.seq
  obtain ⟨v_86, h87, h⟩ := bind_some h
  obtain ⟨ga87, gb87, gc87⟩ := ix_some h87
  have gn87 := ix_ne h87
  have gf87 := arr_fit (E := eI) (b := true) (i := j_84.toNat) (l := data_54) (by omega)
  have gg87_0 := arr_get (E := eI) (b := true) (o := 0) gc87 (by decide)
  simp at gf87 gg87_0
  have gl87 : j_84.toNat < data_54.length := by omega
  obtain ⟨v_88, h89, h⟩ := bind_some h
  obtain ⟨ga89, gb89, gc89⟩ := ix_some h89
  have gn89 := ix_ne h89
  have gf89 := arr_fit (E := eI) (b := true) (i := i_70.toNat) (l := data_54) (by omega)
  have gg89_0 := arr_get (E := eI) (b := true) (o := 0) gc89 (by decide)
  simp at gf89 gg89_0
  have gl89 : i_70.toNat < data_54.length := by omega
  have gy90 := lay_set (E := eI) (b := true) (i := i_70.toNat) (l := data_54) v_86 (by omega)
  simp at gy90
  obtain ⟨v_91, h92, h⟩ := bind_some h
  obtain ⟨ga92, gb92, gc92⟩ := ix_some h92
  have gn92 := ix_ne h92
  have gf92 := arr_fit (E := eI) (b := true) (i := j_84.toNat) (l := (data_54.set i_70.toNat v_86)) (by first | omega | (simp only [List.length_set] at *; omega))
  have gg92_0 := arr_get (E := eI) (b := true) (o := 0) gc92 (by decide)
  simp at gf92 gg92_0
  have gl92 : j_84.toNat < (data_54.set i_70.toNat v_86).length := by first | omega | (simp only [List.length_set] at *; omega)
  try simp only [List.length_set] at gb92 gl92
  try simp at gn92
  have gy93 := lay_set (E := eI) (b := true) (i := j_84.toNat) (l := (data_54.set i_70.toNat v_86)) v_88 (by first | omega | (simp only [List.length_set] at *; omega))
  simp at gy93
  refine Wc.en (by conv => lhs; simp [-getElem?_pos, List.getElem?_cons_zero, List.getElem?_cons_succ, ga87, gb87, gn87, gf87, gg87_0, gl87, ga89, gb89, gn89, gf89, gg89_0, gl89, gy90, ga92, gb92, gn92, gf92, gg92_0, gl92, gy93]) ?_
  refine Wc.se (by conv => lhs; simp) ?_
  refine Wc.en (by conv => lhs; simp) ?_
  refine Wc.start ?_ (hk _ (Option.some.inj h).symm)
  first | rfl | simp
theorem r212 {data : (List Int)} {a : Int} {b : Int} {pivot : Int} {r : Int × Bool × (List Int)} (h : f212 data a b pivot = some r) : VJx cx (.ca 212 [(osl eI true data), (.int .i64 a), (.int .i64 b), (.int .i64 pivot)] (.tup [(.int .i64 r.1), (.bool r.2.1)]) [(osl eI true r.2.2)]) := by
 unfold f212 at h
 refine ca_of rfl rfl (by decide) rfl ?_
 refine Wc.start (by conv => lhs; simp) ?_
 refine Wc.se (by conv => lhs; simp) ?_
 apply Wc.seq
 obtain ⟨v_1, h2, h⟩ := bind_some h
 obtain ⟨ga2, gb2, gc2⟩ := ix_some h2
 have gn2 := ix_ne h2
 have gf2 := arr_fit (E := eI) (b := true) (i := pivot.toNat) (l := data) (by omega)
 have gg2_0 := arr_get (E := eI) (b := true) (o := 0) gc2 (by decide)
 simp at gf2 gg2_0
 have gl2 : pivot.toNat < data.length := by omega
 obtain ⟨v_3, h4, h⟩ := bind_some h
 obtain ⟨ga4, gb4, gc4⟩ := ix_some h4
 have gn4 := ix_ne h4
 have gf4 := arr_fit (E := eI) (b := true) (i := a.toNat) (l := data) (by omega)
 have gg4_0 := arr_get (E := eI) (b := true) (o := 0) gc4 (by decide)
 simp at gf4 gg4_0
 have gl4 : a.toNat < data.length := by omega
 have gy5 := lay_set (E := eI) (b := true) (i := a.toNat) (l := data) v_1 (by omega)
 simp at gy5
 obtain ⟨v_6, h7, h⟩ := bind_some h
 obtain ⟨ga7, gb7, gc7⟩ := ix_some h7
 have gn7 := ix_ne h7
 have gf7 := arr_fit (E := eI) (b := true) (i := pivot.toNat) (l := (data.set a.toNat v_1)) (by first | omega | (simp only [List.length_set] at *; omega))
 have gg7_0 := arr_get (E := eI) (b := true) (o := 0) gc7 (by decide)
 simp at gf7 gg7_0
 have gl7 : pivot.toNat < (data.set a.toNat v_1).length := by first | omega | (simp only [List.length_set] at *; omega)
 try simp only [List.length_set] at gb7 gl7
 try simp at gn7
 have gy8 := lay_set (E := eI) (b := true) (i := pivot.toNat) (l := (data.set a.toNat v_1)) v_3 (by first | omega | (simp only [List.length_set] at *; omega))
 simp at gy8
 refine Wc.en (by conv => lhs; simp [-getElem?_pos, List.getElem?_cons_zero, List.getElem?_cons_succ, ga2, gb2, gn2, gf2, gg2_0, gl2, ga4, gb4, gn4, gf4, gg4_0, gl4, gy5, ga7, gb7, gn7, gf7, gg7_0, gl7, gy8]) ?_
 refine Wc.se (by conv => lhs; simp) ?_
 apply Wc.seq
 apply Wc.block
 obtain ⟨w20, h21, h⟩ := bind_some h
 refine Wc.start (V1 := [(0, .v (osl eI true ((data.set a.toNat v_1).set pivot.toNat v_3))), (1, .v (.int .i64 a)), (10, .v (.int .i64 (w64 (a + 1)))), (11, .v (.int .i64 (w64 (b - 1))))]) (by first | rfl | simp) ?_
 refine Wc.mono (r212_0 _ _ h21) ?_
 generalize w20 = i_22 at *
 rintro ex V ⟨rfl, rfl⟩
 try dsimp only at h
 apply Wc.seq
 apply Wc.block
 obtain ⟨w34, h35, h⟩ := bind_some h
 refine Wc.start (V1 := [(0, .v (osl eI true ((data.set a.toNat v_1).set pivot.toNat v_3))), (1, .v (.int .i64 a)), (10, .v (.int .i64 i_22)), (11, .v (.int .i64 (w64 (b - 1))))]) (by first | rfl | simp) ?_
 refine Wc.mono (r212_1 _ _ h35) ?_
 generalize w34 = j_36 at *
 rintro ex V ⟨rfl, rfl⟩
 try dsimp only at h
 apply Wc.seq
 refine Wc.se (by conv => lhs; simp) ?_
 by_cases kc37 : i_22 > j_36
 ·rw [if_pos kc37] at h
  refine Wc.condT' (by conv => lhs; simp) (by simpa using kc37) ?_
  refine Wc.sk (by conv => lhs; simp) ?_
  apply Wc.seq
  obtain ⟨v_38, h39, h⟩ := bind_some h
  obtain ⟨ga39, gb39, gc39⟩ := ix_some h39
  have gn39 := ix_ne h39
  have gf39 := arr_fit (E := eI) (b := true) (i := a.toNat) (l := ((data.set a.toNat v_1).set pivot.toNat v_3)) (by first | omega | (simp only [List.length_set] at *; omega))
  have gg39_0 := arr_get (E := eI) (b := true) (o := 0) gc39 (by decide)
  simp at gf39 gg39_0
  have gl39 : a.toNat < ((data.set a.toNat v_1).set pivot.toNat v_3).length := by first | omega | (simp only [List.length_set] at *; omega)
  try simp only [List.length_set] at gb39 gl39
  try simp at gn39
  obtain ⟨v_40, h41, h⟩ := bind_some h
  obtain ⟨ga41, gb41, gc41⟩ := ix_some h41
  have gn41 := ix_ne h41
  have gf41 := arr_fit (E := eI) (b := true) (i := j_36.toNat) (l := ((data.set a.toNat v_1).set pivot.toNat v_3)) (by first | omega | (simp only [List.length_set] at *; omega))
  have gg41_0 := arr_get (E := eI) (b := true) (o := 0) gc41 (by decide)
  simp at gf41 gg41_0
  have gl41 : j_36.toNat < ((data.set a.toNat v_1).set pivot.toNat v_3).length := by first | omega | (simp only [List.length_set] at *; omega)
  try simp only [List.length_set] at gb41 gl41
  try simp at gn41
  have gy42 := lay_set (E := eI) (b := true) (i := j_36.toNat) (l := ((data.set a.toNat v_1).set pivot.toNat v_3)) v_38 (by first | omega | (simp only [List.length_set] at *; omega))
  simp at gy42
  obtain ⟨v_43, h44, h⟩ := bind_some h
  obtain ⟨ga44, gb44, gc44⟩ := ix_some h44
  have gn44 := ix_ne h44
  have gf44 := arr_fit (E := eI) (b := true) (i := a.toNat) (l := (((data.set a.toNat v_1).set pivot.toNat v_3).set j_36.toNat v_38)) (by first | omega | (simp only [List.length_set] at *; omega))
  have gg44_0 := arr_get (E := eI) (b := true) (o := 0) gc44 (by decide)
  simp at gf44 gg44_0
  have gl44 : a.toNat < (((data.set a.toNat v_1).set pivot.toNat v_3).set j_36.toNat v_38).length := by first | omega | (simp only [List.length_set] at *; omega)
  try simp only [List.length_set] at gb44 gl44
  try simp at gn44
  have gy45 := lay_set (E := eI) (b := true) (i := a.toNat) (l := (((data.set a.toNat v_1).set pivot.toNat v_3).set j_36.toNat v_38)) v_40 (by first | omega | (simp only [List.length_set] at *; omega))
  simp at gy45
  refine Wc.en (by conv => lhs; simp [-getElem?_pos, List.getElem?_cons_zero, List.getElem?_cons_succ, ga39, gb39, gn39, gf39, gg39_0, gl39, ga41, gb41, gn41, gf41, gg41_0, gl41, gy42, ga44, gb44, gn44, gf44, gg44_0, gl44, gy45]) ?_
  refine Wc.se (by conv => lhs; simp) ?_
  refine Wc.ret (res_of (.inr rfl) ?_)
  cases h
  exact ⟨_, _, _, by conv => lhs; simp, by (conv => lhs; simp) <;> rfl, by first | rfl | simp⟩
 ·rw [if_neg kc37] at h
  refine Wc.condF' (by conv => lhs; simp) (by simpa using kc37) ?_
  refine Wc.sk (by conv => lhs; simp) ?_
  apply Wc.skip
  apply Wc.seq
  obtain ⟨v_46, h47, h⟩ := bind_some h
  obtain ⟨ga47, gb47, gc47⟩ := ix_some h47
  have gn47 := ix_ne h47
  have gf47 := arr_fit (E := eI) (b := true) (i := j_36.toNat) (l := ((data.set a.toNat v_1).set pivot.toNat v_3)) (by first | omega | (simp only [List.length_set] at *; omega))
  have gg47_0 := arr_get (E := eI) (b := true) (o := 0) gc47 (by decide)
  simp at gf47 gg47_0
  have gl47 : j_36.toNat < ((data.set a.toNat v_1).set pivot.toNat v_3).length := by first | omega | (simp only [List.length_set] at *; omega)
  try simp only [List.length_set] at gb47 gl47
  try simp at gn47
  obtain ⟨v_48, h49, h⟩ := bind_some h
  obtain ⟨ga49, gb49, gc49⟩ := ix_some h49
  have gn49 := ix_ne h49
  have gf49 := arr_fit (E := eI) (b := true) (i := i_22.toNat) (l := ((data.set a.toNat v_1).set pivot.toNat v_3)) (by first | omega | (simp only [List.length_set] at *; omega))
  have gg49_0 := arr_get (E := eI) (b := true) (o := 0) gc49 (by decide)
  simp at gf49 gg49_0
  have gl49 : i_22.toNat < ((data.set a.toNat v_1).set pivot.toNat v_3).length := by first | omega | (simp only [List.length_set] at *; omega)
  try simp only [List.length_set] at gb49 gl49
  try simp at gn49
  have gy50 := lay_set (E := eI) (b := true) (i := i_22.toNat) (l := ((data.set a.toNat v_1).set pivot.toNat v_3)) v_46 (by first | omega | (simp only [List.length_set] at *; omega))
  simp at gy50
  obtain ⟨v_51, h52, h⟩ := bind_some h
  obtain ⟨ga52, gb52, gc52⟩ := ix_some h52
  have gn52 := ix_ne h52
  have gf52 := arr_fit (E := eI) (b := true) (i := j_36.toNat) (l := (((data.set a.toNat v_1).set pivot.toNat v_3).set i_22.toNat v_46)) (by first | omega | (simp only [List.length_set] at *; omega))
  have gg52_0 := arr_get (E := eI) (b := true) (o := 0) gc52 (by decide)
  simp at gf52 gg52_0
  have gl52 : j_36.toNat < (((data.set a.toNat v_1).set pivot.toNat v_3).set i_22.toNat v_46).length := by first | omega | (simp only [List.length_set] at *; omega)
  try simp only [List.length_set] at gb52 gl52
  try simp at gn52
  have gy53 := lay_set (E := eI) (b := true) (i := j_36.toNat) (l := (((data.set a.toNat v_1).set pivot.toNat v_3).set i_22.toNat v_46)) v_48 (by first | omega | (simp only [List.length_set] at *; omega))
  simp at gy53
  refine Wc.en (by conv => lhs; simp [-getElem?_pos, List.getElem?_cons_zero, List.getElem?_cons_succ, ga47, gb47, gn47, gf47, gg47_0, gl47, ga49, gb49, gn49, gf49, gg49_0, gl49, gy50, ga52, gb52, gn52, gf52, gg52_0, gl52, gy53]) ?_
  refine Wc.se (by conv => lhs; simp) ?_
  refine Wc.se (by conv => lhs; simp) ?_
  apply Wc.seq
  apply Wc.block
  obtain ⟨w94, h95, h⟩ := bind_some h
  refine Wc.start (V1 := [(0, .v (osl eI true ((((data.set a.toNat v_1).set pivot.toNat v_3).set i_22.toNat v_46).set j_36.toNat v_48))), (1, .v (.int .i64 a)), (10, .v (.int .i64 (w64 (i_22 + 1)))), (11, .v (.int .i64 (w64 (j_36 - 1))))]) (by first | rfl | simp) ?_
  refine Wc.mono (r212_2 _ _ h95) ?_
  obtain ⟨data_96, j_97⟩ := w94
  rintro ex V ⟨rfl, rfl⟩
  dsimp only at h ⊢
  apply Wc.seq
  obtain ⟨v_98, h99, h⟩ := bind_some h
  obtain ⟨ga99, gb99, gc99⟩ := ix_some h99
  have gn99 := ix_ne h99
  have gf99 := arr_fit (E := eI) (b := true) (i := a.toNat) (l := data_96) (by omega)
  have gg99_0 := arr_get (E := eI) (b := true) (o := 0) gc99 (by decide)
  simp at gf99 gg99_0
  have gl99 : a.toNat < data_96.length := by omega
  obtain ⟨v_100, h101, h⟩ := bind_some h
  obtain ⟨ga101, gb101, gc101⟩ := ix_some h101
  have gn101 := ix_ne h101
  have gf101 := arr_fit (E := eI) (b := true) (i := j_97.toNat) (l := data_96) (by omega)
  have gg101_0 := arr_get (E := eI) (b := true) (o := 0) gc101 (by decide)
  simp at gf101 gg101_0
  have gl101 : j_97.toNat < data_96.length := by omega
  have gy102 := lay_set (E := eI) (b := true) (i := j_97.toNat) (l := data_96) v_98 (by omega)
  simp at gy102
  obtain ⟨v_103, h104, h⟩ := bind_some h
  obtain ⟨ga104, gb104, gc104⟩ := ix_some h104
  have gn104 := ix_ne h104
  have gf104 := arr_fit (E := eI) (b := true) (i := a.toNat) (l := (data_96.set j_97.toNat v_98)) (by first | omega | (simp only [List.length_set] at *; omega))
  have gg104_0 := arr_get (E := eI) (b := true) (o := 0) gc104 (by decide)
  simp at gf104 gg104_0
  have gl104 : a.toNat < (data_96.set j_97.toNat v_98).length := by first | omega | (simp only [List.length_set] at *; omega)
  try simp only [List.length_set] at gb104 gl104
  try simp at gn104
  have gy105 := lay_set (E := eI) (b := true) (i := a.toNat) (l := (data_96.set j_97.toNat v_98)) v_100 (by first | omega | (simp only [List.length_set] at *; omega))
  simp at gy105
  refine Wc.en (by conv => lhs; simp [-getElem?_pos, List.getElem?_cons_zero, List.getElem?_cons_succ, ga99, gb99, gn99, gf99, gg99_0, gl99, ga101, gb101, gn101, gf101, gg101_0, gl101, gy102, ga104, gb104, gn104, gf104, gg104_0, gl104, gy105]) ?_
  refine Wc.se (by conv => lhs; simp) ?_
  refine Wc.ret (res_of (.inr rfl) ?_)
  cases h
  exact ⟨_, _, _, by conv => lhs; simp, by (conv => lhs; simp) <;> rfl, by first | rfl | simp⟩
theorem r199_0 {rec : (List Int) → Int → Int → Int → Option (List Int)} (hrec : ∀ data a b limit o, rec data a b limit = some o → VJx cx (.ca 199 [(osl eI true data), (.int .i64 a), (.int .i64 b), (.int .i64 limit)] (.tup []) [(osl eI true o)])) : ∀ zs zo, iter (f199_0 rec) zs = some zo → Wc cx 134 (.loop L199_0) [(0, .v (osl eI true zs.1)), (1, .v (.int .i64 zs.2.1)), (2, .v (.int .i64 zs.2.2.1)), (3, .v (.int .i64 zs.2.2.2.1)), (8, .v (.bool zs.2.2.2.2.1)), (9, .v (.bool zs.2.2.2.2.2))] ((QR (fun (y : (List Int)) => [(0, .v (osl eI true y))])) zo) := by
 refine iter_all ?_
 rintro ⟨data_1, a_2, b_3, limit_4, wasBalanced_5, wasPartitioned_6⟩ zo zr h hk hx
 try dsimp only at hk ⊢
 rw [f199_0] at h
 apply Wc.loop
 obtain ⟨w7, h8, h⟩ := bind_some h
 refine Wc.mono (Q := (QO (QN (fun (y : (List Int) × Int × Int × Int × Bool × Bool) => [(0, .v (osl eI true y.1)), (1, .v (.int .i64 y.2.1)), (2, .v (.int .i64 y.2.2.1)), (3, .v (.int .i64 y.2.2.2.1)), (8, .v (.bool y.2.2.2.2.1)), (9, .v (.bool y.2.2.2.2.2))])) (QR (fun (y : (List Int)) => [(0, .v (osl eI true y))]))) w7) ?_ ?_
 ·skip
  apply Wc.block
  refine Wc.se (by conv => lhs; simp) ?_
  apply Wc.seq
  refine Wc.se (by conv => lhs; simp) ?_
  by_cases kc9 : (w64 (b_3 - a_2)) ≤ 12
  ·rw [if_pos kc9] at h8
   refine Wc.condT' (by conv => lhs; simp) (by simpa using kc9) ?_
   refine Wc.sk (by conv => lhs; simp) ?_
   apply Wc.seq
   refine Wc.evs (by conv => lhs; simp) ?_
   obtain ⟨o10, h11, h8⟩ := bind_some h8
   refine Wo.cl rfl (by (conv => lhs; simp) <;> rfl) (r204 h11) (by simp) (by (conv => lhs; simp) <;> rfl) (by (conv => lhs; simp) <;> rfl) ?_
   apply Wo.nil
   refine Wc.ret ?_
   cases h8
   exact ⟨rfl, by first | rfl | simp⟩
  ·rw [if_neg kc9] at h8
   refine Wc.condF' (by conv => lhs; simp) (by simpa using kc9) ?_
   refine Wc.sk (by conv => lhs; simp) ?_
   apply Wc.skip
   apply Wc.seq
   refine Wc.se (by conv => lhs; simp) ?_
   by_cases kc12 : limit_4 = 0
   ·rw [if_pos kc12] at h8
    refine Wc.condT' (by conv => lhs; simp) (by simpa using kc12) ?_
    refine Wc.sk (by conv => lhs; simp) ?_
    apply Wc.seq
    refine Wc.evs (by conv => lhs; simp) ?_
    obtain ⟨o13, h14, h8⟩ := bind_some h8
    refine Wo.cl rfl (by (conv => lhs; simp) <;> rfl) (r205 h14) (by simp) (by (conv => lhs; simp) <;> rfl) (by (conv => lhs; simp) <;> rfl) ?_
    apply Wo.nil
    refine Wc.ret ?_
    cases h8
    exact ⟨rfl, by first | rfl | simp⟩
   ·rw [if_neg kc12] at h8
    refine Wc.condF' (by conv => lhs; simp) (by simpa using kc12) ?_
    refine Wc.sk (by conv => lhs; simp) ?_
    apply Wc.skip
    apply Wc.seq
    refine Wc.se (by conv => lhs; simp) ?_
    obtain ⟨w15, h16, h8⟩ := bind_some h8
    refine Wc.mono (Q := (QN (fun (y : (List Int) × Int) => [(0, .v (osl eI true y.1)), (1, .v (.int .i64 a_2)), (2, .v (.int .i64 b_3)), (3, .v (.int .i64 y.2)), (8, .v (.bool wasBalanced_5)), (9, .v (.bool wasPartitioned_6)), (10, .v (.int .i64 (w64 (b_3 - a_2))))])) w15) ?_ ?_
    ·skip
     by_cases kc17 : ¬ (wasBalanced_5 = true)
     ·rw [if_pos kc17] at h16
      refine Wc.condT' (by conv => lhs; simp) (by simpa using kc17) ?_
      refine Wc.sk (by conv => lhs; simp) ?_
      apply Wc.seq
      refine Wc.evs (by conv => lhs; simp) ?_
      obtain ⟨o18, h19, h16⟩ := bind_some h16
      refine Wo.cl rfl (by (conv => lhs; simp) <;> rfl) (r206 h19) (by simp) (by (conv => lhs; simp) <;> rfl) (by (conv => lhs; simp) <;> rfl) ?_
      apply Wo.nil
      refine Wc.en (by conv => lhs; simp) ?_
      cases h16
      exact ⟨rfl, by first | rfl | simp⟩
     ·rw [if_neg kc17] at h16
      refine Wc.condF' (by conv => lhs; simp) (by simpa using kc17) ?_
      refine Wc.sk (by conv => lhs; simp) ?_
      apply Wc.skip
      cases h16
      exact ⟨rfl, by first | rfl | simp⟩
    ·skip
     obtain ⟨data_20, limit_21⟩ := w15
     rintro ex V ⟨rfl, rfl⟩
     dsimp only at h8 ⊢
     apply Wc.seq
     refine Wc.evs (by conv => lhs; simp) ?_
     obtain ⟨o22, h23, h8⟩ := bind_some h8
     refine Wo.cl rfl (by (conv => lhs; simp) <;> rfl) (r207 h23) (by simp) (by (conv => lhs; simp) <;> rfl) (by (conv => lhs; simp) <;> rfl) ?_
     refine Wo.en (by conv => lhs; simp) ?_
     apply Wc.seq
     refine Wc.se (by conv => lhs; simp) ?_
     obtain ⟨w24, h25, h8⟩ := bind_some h8
     refine Wc.mono (Q := (QN (fun (y : (List Int) × Int × Int) => [(0, .v (osl eI true y.1)), (1, .v (.int .i64 a_2)), (2, .v (.int .i64 b_3)), (3, .v (.int .i64 limit_21)), (8, .v (.bool wasBalanced_5)), (9, .v (.bool wasPartitioned_6)), (10, .v (.int .i64 (w64 (b_3 - a_2)))), (11, .v (.int .i64 y.2.1)), (12, .v (.int .i64 y.2.2))])) w24) ?_ ?_
     ·skip
      by_cases kc26 : o22.2 = 2
      ·rw [if_pos kc26] at h25
       refine Wc.condT' (by conv => lhs; simp) (by simpa using kc26) ?_
       refine Wc.sk (by conv => lhs; simp) ?_
       apply Wc.seq
       refine Wc.evs (by conv => lhs; simp) ?_
       obtain ⟨o27, h28, h25⟩ := bind_some h25
       refine Wo.cl rfl (by (conv => lhs; simp) <;> rfl) (r208 h28) (by simp) (by (conv => lhs; simp) <;> rfl) (by (conv => lhs; simp) <;> rfl) ?_
       apply Wo.nil
       refine Wc.se (by conv => lhs; simp) ?_
       refine Wc.en (by conv => lhs; simp) ?_
       cases h25
       exact ⟨rfl, by first | rfl | simp⟩
      ·rw [if_neg kc26] at h25
       refine Wc.condF' (by conv => lhs; simp) (by simpa using kc26) ?_
       refine Wc.sk (by conv => lhs; simp) ?_
       apply Wc.skip
       cases h25
       exact ⟨rfl, by first | rfl | simp⟩
     ·skip
      obtain ⟨data_29, pivot_30, hint_31⟩ := w24
      rintro ex V ⟨rfl, rfl⟩
      dsimp only at h8 ⊢
      apply Wc.seq
      apply Wc.seq
      refine Wc.evk 2 (by conv => lhs; simp) ?_
      obtain ⟨w33, h34, h8⟩ := bind_some h8
      refine Wo.mono (Q := fun V => V = [(0, .v (osl eI true data_29)), (1, .v (.int .i64 a_2)), (2, .v (.int .i64 b_3)), (3, .v (.int .i64 limit_21)), (8, .v (.bool wasBalanced_5)), (9, .v (.bool wasPartitioned_6)), (10, .v (.int .i64 (w64 (b_3 - a_2)))), (11, .v (.int .i64 pivot_30)), (68, .v (.bool w33))]) ?_ ?_
      ·by_cases knh34 : wasBalanced_5 = true
       ·rw [if_pos knh34] at h34
        refine Wo.gh (vle_co (s := 62) (t1 := .bool true) rfl (by simp) (tle_bool (by simpa using knh34)) (by conv => lhs; simp)) ?_
        refine Wo.evk 3 (by conv => lhs; simp) ?_
        obtain ⟨w36, h37, h34⟩ := bind_some h34
        refine Wo.mono (Q := fun V => V = [(0, .v (osl eI true data_29)), (1, .v (.int .i64 a_2)), (2, .v (.int .i64 b_3)), (3, .v (.int .i64 limit_21)), (8, .v (.bool wasBalanced_5)), (9, .v (.bool wasPartitioned_6)), (10, .v (.int .i64 (w64 (b_3 - a_2)))), (11, .v (.int .i64 pivot_30)), (68, .v (.bool w36))]) ?_ ?_
        ·by_cases knh37 : wasPartitioned_6 = true
         ·rw [if_pos knh37] at h37
          refine Wo.gh (vle_co (s := 65) (t1 := .bool true) rfl (by simp) (tle_bool (by simpa using knh37)) (by conv => lhs; simp)) ?_
          refine Wo.en (by conv => lhs; simp) ?_
          cases h37
          first | rfl | simp
         ·rw [if_neg knh37] at h37
          refine Wo.gh (vle_co (s := 65) (t1 := .bool false) rfl (by simp) (tle_bool (by simpa using knh37)) (by conv => lhs; simp)) ?_
          refine Wo.en (by conv => lhs; simp) ?_
          cases h37
          first | rfl | simp
        ·rintro V rfl
         generalize w36 = x_35 at *
         try dsimp only at h34
         cases h34
         first | rfl | simp
       ·rw [if_neg knh34] at h34
        refine Wo.gh (vle_co (s := 62) (t1 := .bool false) rfl (by simp) (tle_bool (by simpa using knh34)) (by conv => lhs; simp)) ?_
        refine Wo.en (by conv => lhs; simp) ?_
        cases h34
        first | rfl | simp
      ·rintro V rfl
       generalize w33 = x_32 at *
       try dsimp only at h8
       obtain ⟨w38, h39, h8⟩ := bind_some h8
       refine Wc.mono (Q := (QO (QN (fun (y : (List Int)) => [(0, .v (osl eI true y)), (1, .v (.int .i64 a_2)), (2, .v (.int .i64 b_3)), (3, .v (.int .i64 limit_21)), (8, .v (.bool wasBalanced_5)), (9, .v (.bool wasPartitioned_6)), (10, .v (.int .i64 (w64 (b_3 - a_2)))), (11, .v (.int .i64 pivot_30))])) (QR (fun (y : (List Int)) => [(0, .v (osl eI true y))]))) w38) ?_ ?_
       ·skip
        by_cases kc40 : x_32 = true
        ·rw [if_pos kc40] at h39
         refine Wc.condT' (by conv => lhs; simp) (by simpa using kc40) ?_
         refine Wc.sk (by conv => lhs; simp) ?_
         apply Wc.seq
         refine Wc.evs (by conv => lhs; simp) ?_
         obtain ⟨o41, h42, h39⟩ := bind_some h39
         refine Wo.cl rfl (by (conv => lhs; simp) <;> rfl) (r209 h42) (by simp) (by (conv => lhs; simp) <;> rfl) (by (conv => lhs; simp) <;> rfl) ?_
         apply Wo.nil
         by_cases kc43 : o41.1 = true
         ·rw [if_pos kc43] at h39
          refine Wc.condT' (by conv => lhs; simp) (by simpa using kc43) ?_
          refine Wc.sk (by conv => lhs; simp) ?_
          refine Wc.ret ?_
          cases h39
          exact ⟨rfl, by first | rfl | simp⟩
         ·rw [if_neg kc43] at h39
          refine Wc.condF' (by conv => lhs; simp) (by simpa using kc43) ?_
          refine Wc.sk (by conv => lhs; simp) ?_
          apply Wc.skip
          cases h39
          exact ⟨rfl, by first | rfl | simp⟩
        ·rw [if_neg kc40] at h39
         refine Wc.condF' (by conv => lhs; simp) (by simpa using kc40) ?_
         refine Wc.sk (by conv => lhs; simp) ?_
         apply Wc.skip
         cases h39
         exact ⟨rfl, by first | rfl | simp⟩
       ·skip
        rcases w38 with data_44 | data_45
        ·rintro ex V ⟨rfl, rfl⟩
         try dsimp only at h8
         apply Wc.seq
         apply Wc.seq
         refine Wc.evk 3 (by conv => lhs; simp) ?_
         obtain ⟨w47, h48, h8⟩ := bind_some h8
         refine Wo.mono (Q := fun V => V = [(0, .v (osl eI true data_44)), (1, .v (.int .i64 a_2)), (2, .v (.int .i64 b_3)), (3, .v (.int .i64 limit_21)), (8, .v (.bool wasBalanced_5)), (9, .v (.bool wasPartitioned_6)), (10, .v (.int .i64 (w64 (b_3 - a_2)))), (11, .v (.int .i64 pivot_30)), (87, .v (.bool w47))]) ?_ ?_
         ·by_cases knh48 : a_2 > 0
          ·rw [if_pos knh48] at h48
           refine Wo.gh (vle_co (s := 75) (t1 := .bool true) rfl (by simp) (tle_bool (by simpa using knh48)) (by conv => lhs; simp)) ?_
           obtain ⟨v_49, h50, h48⟩ := bind_some h48
           obtain ⟨ga50, gb50, gc50⟩ := ix_some h50
           have gn50 := ix_ne h50
           have gf50 := arr_fit (E := eI) (b := true) (i := (w64 (a_2 - 1)).toNat) (l := data_44) (by omega)
           have gg50_0 := arr_get (E := eI) (b := true) (o := 0) gc50 (by decide)
           simp at gf50 gg50_0
           have gl50 : (w64 (a_2 - 1)).toNat < data_44.length := by omega
           obtain ⟨v_51, h52, h48⟩ := bind_some h48
           obtain ⟨ga52, gb52, gc52⟩ := ix_some h52
           have gn52 := ix_ne h52
           have gf52 := arr_fit (E := eI) (b := true) (i := pivot_30.toNat) (l := data_44) (by omega)
           have gg52_0 := arr_get (E := eI) (b := true) (o := 0) gc52 (by decide)
           simp at gf52 gg52_0
           have gl52 : pivot_30.toNat < data_44.length := by omega
           refine Wo.evs (by conv => lhs; simp [-getElem?_pos, List.getElem?_cons_zero, List.getElem?_cons_succ, ga50, gb50, gn50, gf50, gg50_0, gl50, ga52, gb52, gn52, gf52, gg52_0, gl52]) ?_
           obtain ⟨o53, h54, h48⟩ := bind_some h48
           refine Wo.call (by simp [-getElem?_pos, List.getElem?_cons_zero, List.getElem?_cons_succ, ga50, gb50, gn50, gf50, gg50_0, gl50, ga52, gb52, gn52, gf52, gg52_0, gl52]) rfl (by (conv => lhs; simp [-getElem?_pos, List.getElem?_cons_zero, List.getElem?_cons_succ, ga50, gb50, gn50, gf50, gg50_0, gl50, ga52, gb52, gn52, gf52, gg52_0, gl52]) <;> rfl) (r210 h54) (by simp) (by simp) (by (conv => lhs; simp [-getElem?_pos, List.getElem?_cons_zero, List.getElem?_cons_succ, ga50, gb50, gn50, gf50, gg50_0, gl50, ga52, gb52, gn52, gf52, gg52_0, gl52]) <;> rfl) (by (conv => lhs; simp [-getElem?_pos, List.getElem?_cons_zero, List.getElem?_cons_succ, ga50, gb50, gn50, gf50, gg50_0, gl50, ga52, gb52, gn52, gf52, gg52_0, gl52]) <;> rfl) ?_
           refine Wo.en (by conv => lhs; simp [-getElem?_pos, List.getElem?_cons_zero, List.getElem?_cons_succ, ga50, gb50, gn50, gf50, gg50_0, gl50, ga52, gb52, gn52, gf52, gg52_0, gl52]) ?_
           cases h48
           first | rfl | simp [-getElem?_pos, List.getElem?_cons_zero, List.getElem?_cons_succ, ga50, gb50, gn50, gf50, gg50_0, gl50, ga52, gb52, gn52, gf52, gg52_0, gl52]
          ·rw [if_neg knh48] at h48
           refine Wo.gh (vle_co (s := 75) (t1 := .bool false) rfl (by simp) (tle_bool (by simpa using knh48)) (by conv => lhs; simp)) ?_
           refine Wo.en (by conv => lhs; simp) ?_
           cases h48
           first | rfl | simp
         ·rintro V rfl
          generalize w47 = x_46 at *
          try dsimp only at h8
          by_cases kc55 : x_46 = true
          ·rw [if_pos kc55] at h8
           refine Wc.condT' (by conv => lhs; simp) (by simpa using kc55) ?_
           refine Wc.sk (by conv => lhs; simp) ?_
           apply Wc.seq
           refine Wc.evs (by conv => lhs; simp) ?_
           obtain ⟨o56, h57, h8⟩ := bind_some h8
           refine Wo.cl rfl (by (conv => lhs; simp) <;> rfl) (r211 h57) (by simp) (by (conv => lhs; simp) <;> rfl) (by (conv => lhs; simp) <;> rfl) ?_
           refine Wo.en (by conv => lhs; simp) ?_
           refine Wc.se (by conv => lhs; simp) ?_
           apply Wc.exit
           cases h8
           exact ⟨rfl, by first | rfl | simp⟩
          ·rw [if_neg kc55] at h8
           refine Wc.condF' (by conv => lhs; simp) (by simpa using kc55) ?_
           refine Wc.sk (by conv => lhs; simp) ?_
           apply Wc.skip
           apply Wc.seq
           refine Wc.evs (by conv => lhs; simp) ?_
           obtain ⟨o58, h59, h8⟩ := bind_some h8
           refine Wo.cl rfl (by (conv => lhs; simp) <;> rfl) (r212 h59) (by simp) (by (conv => lhs; simp) <;> rfl) (by (conv => lhs; simp) <;> rfl) ?_
           refine Wo.en (by conv => lhs; simp) ?_
           refine Wc.se (by conv => lhs; simp) ?_
           refine Wc.se (by conv => lhs; simp) ?_
           refine Wc.se (by conv => lhs; simp) ?_
           refine Wc.se (by conv => lhs; simp) ?_
           obtain ⟨w60, h61, h8⟩ := bind_some h8
           refine Wc.mono (Q := (QN (fun (y : (List Int) × Int × Int × Bool) => [(0, .v (osl eI true y.1)), (1, .v (.int .i64 y.2.1)), (2, .v (.int .i64 y.2.2.1)), (3, .v (.int .i64 limit_21)), (8, .v (.bool y.2.2.2)), (9, .v (.bool o58.2.1))])) w60) ?_ ?_
           ·skip
            by_cases kc62 : (w64 (o58.1 - a_2)) < (w64 (b_3 - o58.1))
            ·rw [if_pos kc62] at h61
             refine Wc.condT' (by conv => lhs; simp) (by simpa using kc62) ?_
             refine Wc.sk (by conv => lhs; simp) ?_
             refine Wc.se (by conv => lhs; simp) ?_
             apply Wc.seq
             refine Wc.evs (by conv => lhs; simp) ?_
             obtain ⟨o63, h64, h61⟩ := bind_some h61
             refine Wo.cl rfl (by (conv => lhs; simp) <;> rfl) (hrec o58.2.2 a_2 o58.1 limit_21 _ h64) (by simp) (by (conv => lhs; simp) <;> rfl) (by (conv => lhs; simp) <;> rfl) ?_
             apply Wo.nil
             refine Wc.en (by conv => lhs; simp) ?_
             cases h61
             exact ⟨rfl, by first | rfl | simp⟩
            ·rw [if_neg kc62] at h61
             refine Wc.condF' (by conv => lhs; simp) (by simpa using kc62) ?_
             refine Wc.sk (by conv => lhs; simp) ?_
             refine Wc.se (by conv => lhs; simp) ?_
             apply Wc.seq
             refine Wc.evs (by conv => lhs; simp) ?_
             obtain ⟨o65, h66, h61⟩ := bind_some h61
             refine Wo.cl rfl (by (conv => lhs; simp) <;> rfl) (hrec o58.2.2 (w64 (o58.1 + 1)) b_3 limit_21 _ h66) (by simp) (by (conv => lhs; simp) <;> rfl) (by (conv => lhs; simp) <;> rfl) ?_
             apply Wo.nil
             refine Wc.en (by conv => lhs; simp) ?_
             cases h61
             exact ⟨rfl, by first | rfl | simp⟩
           ·skip
            obtain ⟨data_67, a_68, b_69, wasBalanced_70⟩ := w60
            rintro ex V ⟨rfl, rfl⟩
            dsimp only at h8 ⊢
            cases h8
            exact ⟨rfl, by first | rfl | simp⟩
        ·rintro ex V ⟨rfl, rfl⟩
         try dsimp only at h8
         cases h8
         exact ⟨rfl, by first | rfl | simp⟩
 ·skip
  rcases w7 with ⟨data_71, a_72, b_73, limit_74, wasBalanced_75, wasPartitioned_76⟩ | data_77
  ·rintro ex V ⟨rfl, rfl⟩
   dsimp only at h ⊢
   refine Wc.start ?_ (hk _ (Option.some.inj h).symm)
   first | rfl | simp
  ·rintro ex V ⟨rfl, rfl⟩
   try dsimp only at h
   have e0 := hx _ (Option.some.inj h).symm
   subst e0
   exact ⟨rfl, by first | rfl | simp⟩
theorem r199 : ∀ (n : Nat) data a b limit r, f199 n data a b limit = some r → VJx cx (.ca 199 [(osl eI true data), (.int .i64 a), (.int .i64 b), (.int .i64 limit)] (.tup []) [(osl eI true r)]) := by
 intro n
 induction n with
 | zero => intro data a b limit r h; simp [f199] at h
 | succ n ih =>
  intro data a b limit r h
  simp only [f199] at h
  refine ca_of rfl rfl (by decide) rfl ?_
  refine Wc.start (by conv => lhs; simp) ?_
  refine Wc.se (by conv => lhs; simp) ?_
  refine Wc.se (by conv => lhs; simp) ?_
  apply Wc.block
  obtain ⟨w78, h79, h⟩ := bind_some h
  refine Wc.start (V1 := [(0, .v (osl eI true data)), (1, .v (.int .i64 a)), (2, .v (.int .i64 b)), (3, .v (.int .i64 limit)), (8, .v (.bool true)), (9, .v (.bool true))]) (by first | rfl | simp) ?_
  refine Wc.mono (r199_0 ih _ _ h79) ?_
  generalize w78 = data_80 at *
  rintro ex V ⟨rfl, rfl⟩
  try dsimp only at h
  refine res_of (.inr rfl) ?_
  cases h
  exact ⟨_, _, _, by conv => lhs; simp, by (conv => lhs; simp) <;> rfl, by first | rfl | simp⟩
theorem r185 {x : (List Int)} {r : (List Int)} (h : f185 x = some r) : VJx cx (.ca 185 [(osl eI true x)] (.tup []) [(osl eI true r)]) := by
 unfold f185 at h
 refine ca_of rfl rfl (by decide) rfl ?_
 refine Wc.start (by conv => lhs; simp) ?_
 refine Wc.se (by conv => lhs; simp) ?_
 refine Wc.evs (by conv => lhs; simp) ?_
 obtain ⟨o1, h2, h⟩ := bind_some h
 refine Wo.cl rfl (by (conv => lhs; simp) <;> rfl) (r200 h2) (by simp) (by (conv => lhs; simp) <;> rfl) (by (conv => lhs; simp) <;> rfl) ?_
 obtain ⟨o3, h4, h⟩ := bind_some h
 refine Wo.cl rfl (by (conv => lhs; simp) <;> rfl) (r199 64 x 0 (x.length : Int) o1 _ h4) (by simp) (by (conv => lhs; simp) <;> rfl) (by (conv => lhs; simp) <;> rfl) ?_
 apply Wo.nil
 refine res_of (.inl rfl) ?_
 cases h
 exact ⟨_, _, _, by conv => lhs; simp, by (conv => lhs; simp) <;> rfl, by first | rfl | simp⟩
theorem r186 {l r : List Int} (h : f186 l = some r) : VJx cx (.ca 186 [osl eI true l] (ssl eI r) [.und]) := by
 exact ca_compact (X := noExt) (fun _ _ _ _ h => h) rfl rfl h
theorem r165 {a : (List Int)} {b : (List Int)} {r : (List Int)} (h : f165 a b = some r) : VJx cx (.ca 165 [(ssl eI a), (ssl eI b)] (ssl eI r) []) := by
 unfold f165 at h
 refine ca_of rfl rfl (by decide) rfl ?_
 refine Wc.start (by conv => lhs; simp) ?_
 refine Wc.se (by conv => lhs; simp) ?_
 apply Wc.seq
 refine Wc.evs (by conv => lhs; simp) ?_
 refine Wo.gh (vle_co (s := 8) (t1 := (osl (eL eI) false ([a, b]))) rfl (by simp) (TLe.own (show TLes _ [(ssl eI a), (ssl eI b)] from (TLes.cons (TLe.refl _) (TLes.cons (TLe.refl _) (TLes.refl _)))) rfl) (by conv => lhs; simp)) ?_
 obtain ⟨o1, h2, h⟩ := bind_some h
 refine Wo.cl rfl (by (conv => lhs; simp) <;> rfl) (r184 h2) (by simp) (by (conv => lhs; simp) <;> rfl) (by (conv => lhs; simp) <;> rfl) ?_
 refine Wo.en (by conv => lhs; simp) ?_
 apply Wc.seq
 refine Wc.evs (by conv => lhs; simp) ?_
 obtain ⟨o3, h4, h⟩ := bind_some h
 refine Wo.cl rfl (by (conv => lhs; simp) <;> rfl) (r185 h4) (by simp) (by (conv => lhs; simp) <;> rfl) (by (conv => lhs; simp) <;> rfl) ?_
 apply Wo.nil
 apply Wc.seq
 refine Wc.evs (by conv => lhs; simp) ?_
 obtain ⟨o5, h6, h⟩ := bind_some h
 refine Wo.cl rfl (by (conv => lhs; simp) <;> rfl) (r186 h6) (by simp) (by (conv => lhs; simp) <;> rfl) (by (conv => lhs; simp) <;> rfl) ?_
 refine Wo.en (by conv => lhs; simp) ?_
 refine Wc.ret (res_of (.inr rfl) ?_)
 cases h
 exact ⟨_, _, _, by conv => lhs; simp, by (conv => lhs; simp) <;> rfl, by first | rfl | simp⟩
theorem r120_0 {atom : Atom} : ∀ zs zo, iter (f120_0 atom) zs = some zo → Wc cx 23 (.loop L120_0) [(1, .v (.ptr true [(.int .i64 atom.Relation), (ssl eI atom.Terms)])), (3, .v (osl eI true zs.1)), (8, .v (ssl eI atom.Terms)), (9, .v (.int .i64 (atom.Terms.length : Int))), (10, .v (.int .i64 zs.2))] ((QX 0 (fun (y : (List Int)) => [(3, .v (osl eI true y))])) zo) := by
 refine iter_all ?_
 rintro ⟨out_1, x_2⟩ zo zr h hk hx
 try dsimp only at hk ⊢
 rw [f120_0] at h
 apply Wc.loop
 refine Wc.se (by conv => lhs; simp) ?_
 apply Wc.seq
 by_cases kc3 : x_2 < (atom.Terms.length : Int)
 ·rw [if_pos kc3] at h
  refine Wc.condT' (by conv => lhs; simp) (by simpa using kc3) ?_
  refine Wc.sk (by conv => lhs; simp) ?_
  apply Wc.skip
  apply Wc.seq
  apply Wc.block
  apply Wc.seq
  obtain ⟨v_4, h5, h⟩ := bind_some h
  obtain ⟨ga5, gb5, gc5⟩ := ix_some h5
  have gn5 := ix_ne h5
  have gd5 := arr_at (E := eI) (b := false) gc5
  simp at gd5
  refine Wc.en (by conv => lhs; simp [ga5, gb5, gn5, gd5]) ?_
  apply Wc.seq
  refine Wc.evs (by conv => lhs; simp) ?_
  obtain ⟨o6, h7, h⟩ := bind_some h
  refine Wo.cl rfl (by (conv => lhs; simp) <;> rfl) (r87 h7) (by simp) (by (conv => lhs; simp) <;> rfl) (by (conv => lhs; simp) <;> rfl) ?_
  apply Wo.nil
  obtain ⟨w8, h9, h⟩ := bind_some h
  refine Wc.mono (Q := (QN (fun (y : (List Int)) => [(1, .v (.ptr true [(.int .i64 atom.Relation), (ssl eI atom.Terms)])), (3, .v (osl eI true y)), (8, .v (ssl eI atom.Terms)), (9, .v (.int .i64 (atom.Terms.length : Int))), (10, .v (.int .i64 x_2))])) w8) ?_ ?_
  ·skip
   by_cases kc10 : o6 = true
   ·rw [if_pos kc10] at h9
    refine Wc.condT' (by conv => lhs; simp) (by simpa using kc10) ?_
    refine Wc.sk (by conv => lhs; simp) ?_
    obtain ⟨l_11, h12, h9⟩ := bind_some h9
    have gx12 := appT_arr (E := eI) (b := true) (y := true) h12 (by decide)
    simp at gx12
    refine Wc.en (by conv => lhs; simp [gx12]) ?_
    cases h9
    exact ⟨rfl, by first | rfl | simp [gx12]⟩
   ·rw [if_neg kc10] at h9
    refine Wc.condF' (by conv => lhs; simp) (by simpa using kc10) ?_
    refine Wc.sk (by conv => lhs; simp) ?_
    apply Wc.skip
    cases h9
    exact ⟨rfl, by first | rfl | simp⟩
  ·skip
   generalize w8 = out_13 at *
   rintro ex V ⟨rfl, rfl⟩
   try dsimp only at h
   refine Wc.en (by conv => lhs; simp) ?_
   refine Wc.start ?_ (hk _ (Option.some.inj h).symm)
   first | rfl | simp
 ·rw [if_neg kc3] at h
  refine Wc.condF' (by conv => lhs; simp) (by simpa using kc3) ?_
  refine Wc.sk (by conv => lhs; simp) ?_
  apply Wc.exit
  have e0 := hx _ (Option.some.inj h).symm
  subst e0
  exact ⟨rfl, by first | rfl | simp⟩
theorem r120 {atom : Atom} {r : (List Int)} (h : f120 atom = some r) : VJx cx (.ca 120 [(.agg [(.int .i64 atom.Relation), (ssl eI atom.Terms)])] (ssl eI r) []) := by
 unfold f120 at h
 refine ca_of rfl rfl (by decide) rfl ?_
 refine Wc.start (by conv => lhs; simp) ?_
 refine Wc.se (by conv => lhs; simp) ?_
 apply Wc.seq
 refine Wc.evs (by conv => lhs; simp) ?_
 refine Wo.gh (vle_co (s := 3) (t1 := (osl eI true ([]))) rfl (by simp) (TLe.own (show TLes _ [] from (TLes.refl _)) rfl) (by conv => lhs; simp)) ?_
 apply Wo.nil
 apply Wc.seq
 refine Wc.se (by conv => lhs; simp) ?_
 apply Wc.block
 obtain ⟨w14, h15, h⟩ := bind_some h
 refine Wc.start (V1 := [(1, .v (.ptr true [(.int .i64 atom.Relation), (ssl eI atom.Terms)])), (3, .v (osl eI true ([]))), (8, .v (ssl eI atom.Terms)), (9, .v (.int .i64 (atom.Terms.length : Int))), (10, .v (.int .i64 0))]) (by first | rfl | simp) ?_
 refine Wc.mono (r120_0 _ _ h15) ?_
 generalize w14 = out_16 at *
 rintro ex V ⟨rfl, rfl⟩
 try dsimp only at h
 apply Wc.seq
 refine Wc.evs (by conv => lhs; simp) ?_
 refine Wo.gh (vle_fz (s := 21) rfl (by simp) (by conv => lhs; simp)) ?_
 obtain ⟨o17, h18, h⟩ := bind_some h
 refine Wo.cl rfl (by (conv => lhs; simp) <;> rfl) ((r165 h18).res (TLes.cons (TLe.refl _) (TLes.cons (TLe.nil rfl (by decide)) (TLes.refl _))) (TLe.refl _) (TLes.refl _)) (by simp) (by (conv => lhs; simp) <;> rfl) (by (conv => lhs; simp) <;> rfl) ?_
 refine Wo.en (by conv => lhs; simp) ?_
 refine Wc.ret (res_of (.inr rfl) ?_)
 cases h
 exact ⟨_, _, _, by conv => lhs; simp, by (conv => lhs; simp) <;> rfl, by first | rfl | simp⟩
theorem r127_1 {relations : (List Relation)} {query : Query} {occurring_19 : (List Int)} {x_20 : Int} {v_22 : Atom} : ∀ zs zo, iter (f127_1 query v_22) zs = some zo → Wc cx 94 (.loop L127_1) [(0, .v (ssl eRelation relations)), (3, .v (.ptr true [(.int .i64 query.VariableCount), (ssl eAtom query.Atoms), (ssl eI query.Free)])), (5, .v (ssl eI occurring_19)), (7, .v (.ptr true [(.int .i64 v_22.Relation), (ssl eI v_22.Terms)])), (36, .v (ssl eAtom query.Atoms)), (37, .v (.int .i64 (query.Atoms.length : Int))), (38, .v (.int .i64 x_20)), (71, .v (ssl eI v_22.Terms)), (72, .v (.int .i64 (v_22.Terms.length : Int))), (73, .v (.int .i64 zs))] ((QO (QX 2 (fun (y : Unit) => [(0, .v (ssl eRelation relations)), (3, .v (.ptr true [(.int .i64 query.VariableCount), (ssl eAtom query.Atoms), (ssl eI query.Free)])), (5, .v (ssl eI occurring_19)), (7, .v (.ptr true [(.int .i64 v_22.Relation), (ssl eI v_22.Terms)])), (36, .v (ssl eAtom query.Atoms)), (37, .v (.int .i64 (query.Atoms.length : Int))), (38, .v (.int .i64 x_20))])) (QR (fun (y : Bool) => [(4, .v (.bool y))]))) zo) := by
 refine iter_all ?_
 rintro x_39 zo zr h hk hx
 try dsimp only at hk ⊢
 rw [f127_1] at h
 apply Wc.loop
 refine Wc.se (by conv => lhs; simp) ?_
 apply Wc.seq
 by_cases kc40 : x_39 < (v_22.Terms.length : Int)
 ·rw [if_pos kc40] at h
  refine Wc.condT' (by conv => lhs; simp) (by simpa using kc40) ?_
  refine Wc.sk (by conv => lhs; simp) ?_
  apply Wc.skip
  apply Wc.seq
  apply Wc.block
  apply Wc.seq
  obtain ⟨v_41, h42, h⟩ := bind_some h
  obtain ⟨ga42, gb42, gc42⟩ := ix_some h42
  have gn42 := ix_ne h42
  have gd42 := arr_at (E := eI) (b := false) gc42
  simp at gd42
  refine Wc.en (by conv => lhs; simp [ga42, gb42, gn42, gd42]) ?_
  apply Wc.seq
  refine Wc.evs (by conv => lhs; simp) ?_
  obtain ⟨o43, h44, h⟩ := bind_some h
  refine Wo.cl rfl (by (conv => lhs; simp) <;> rfl) (r87 h44) (by simp) (by (conv => lhs; simp) <;> rfl) (by (conv => lhs; simp) <;> rfl) ?_
  refine Wo.en (by conv => lhs; simp) ?_
  by_cases kc45 : ¬ (o43 = true)
  ·rw [if_pos kc45] at h
   refine Wc.condT' (by conv => lhs; simp) (by simpa using kc45) ?_
   refine Wc.sk (by conv => lhs; simp) ?_
   refine Wc.se (by conv => lhs; simp) ?_
   refine Wc.ret ?_
   have e0 := hx _ (Option.some.inj h).symm
   subst e0
   exact ⟨rfl, by first | rfl | simp⟩
  ·rw [if_neg kc45] at h
   refine Wc.condF' (by conv => lhs; simp) (by simpa using kc45) ?_
   refine Wc.sk (by conv => lhs; simp) ?_
   apply Wc.skip
   refine Wc.en (by conv => lhs; simp) ?_
   refine Wc.start ?_ (hk _ (Option.some.inj h).symm)
   first | rfl | simp
 ·rw [if_neg kc40] at h
  refine Wc.condF' (by conv => lhs; simp) (by simpa using kc40) ?_
  refine Wc.sk (by conv => lhs; simp) ?_
  apply Wc.exit
  have e0 := hx _ (Option.some.inj h).symm
  subst e0
  exact ⟨rfl, by first | rfl | simp⟩
theorem r127_0 {relations : (List Relation)} {query : Query} : ∀ zs zo, iter (f127_0 relations query) zs = some zo → Wc cx 94 (.loop L127_0) [(0, .v (ssl eRelation relations)), (3, .v (.ptr true [(.int .i64 query.VariableCount), (ssl eAtom query.Atoms), (ssl eI query.Free)])), (5, .v (ssl eI zs.1)), (36, .v (ssl eAtom query.Atoms)), (37, .v (.int .i64 (query.Atoms.length : Int))), (38, .v (.int .i64 zs.2))] ((QO (QX 0 (fun (y : (List Int)) => [(3, .v (.ptr true [(.int .i64 query.VariableCount), (ssl eAtom query.Atoms), (ssl eI query.Free)])), (5, .v (ssl eI y))])) (QR (fun (y : Bool) => [(4, .v (.bool y))]))) zo) := by
 refine iter_all ?_
 rintro ⟨occurring_19, x_20⟩ zo zr h hk hx
 try dsimp only at hk ⊢
 rw [f127_0] at h
 apply Wc.loop
 refine Wc.se (by conv => lhs; simp) ?_
 apply Wc.seq
 by_cases kc21 : x_20 < (query.Atoms.length : Int)
 ·rw [if_pos kc21] at h
  refine Wc.condT' (by conv => lhs; simp) (by simpa using kc21) ?_
  refine Wc.sk (by conv => lhs; simp) ?_
  apply Wc.skip
  apply Wc.seq
  apply Wc.block
  apply Wc.seq
  obtain ⟨v_22, h23, h⟩ := bind_some h
  obtain ⟨ga23, gb23, gc23⟩ := ix_some h23
  have gn23 := ix_ne h23
  have gd23 := arr_at (E := eAtom) (b := false) gc23
  simp at gd23
  refine Wc.en (by conv => lhs; simp [ga23, gb23, gn23, gd23]) ?_
  apply Wc.seq
  apply Wc.seq
  refine Wc.evs (by conv => lhs; simp) ?_
  obtain ⟨o24, h25, h⟩ := bind_some h
  refine Wo.cl rfl (by (conv => lhs; simp) <;> rfl) (r87 h25) (by simp) (by (conv => lhs; simp) <;> rfl) (by (conv => lhs; simp) <;> rfl) ?_
  refine Wo.evk 2 (by conv => lhs; simp) ?_
  obtain ⟨w27, h28, h⟩ := bind_some h
  refine Wo.mono (Q := fun V => V = [(0, .v (ssl eRelation relations)), (3, .v (.ptr true [(.int .i64 query.VariableCount), (ssl eAtom query.Atoms), (ssl eI query.Free)])), (5, .v (ssl eI occurring_19)), (7, .v (.ptr true [(.int .i64 v_22.Relation), (ssl eI v_22.Terms)])), (36, .v (ssl eAtom query.Atoms)), (37, .v (.int .i64 (query.Atoms.length : Int))), (38, .v (.int .i64 x_20)), (69, .v (.bool w27))]) ?_ ?_
  ·by_cases knh28 : ¬ (o24 = true)
   ·rw [if_pos knh28] at h28
    refine Wo.gh (vle_co (s := 50) (t1 := .bool true) rfl (by simp) (tle_bool (by simpa using knh28)) (by conv => lhs; simp)) ?_
    refine Wo.en (by conv => lhs; simp) ?_
    cases h28
    first | rfl | simp
   ·rw [if_neg knh28] at h28
    refine Wo.gh (vle_co (s := 50) (t1 := .bool false) rfl (by simp) (tle_bool (by simpa using knh28)) (by conv => lhs; simp)) ?_
    obtain ⟨v_29, h30, h28⟩ := bind_some h28
    obtain ⟨ga30, gb30, gc30⟩ := ix_some h30
    have gn30 := ix_ne h30
    have gd30 := arr_at (E := eRelation) (b := false) gc30
    simp at gd30
    refine Wo.evk 12 (by conv => lhs; simp [ga30, gb30, gn30, gd30]) ?_
    obtain ⟨w32, h33, h28⟩ := bind_some h28
    refine Wo.mono (Q := fun V => V = [(0, .v (ssl eRelation relations)), (3, .v (.ptr true [(.int .i64 query.VariableCount), (ssl eAtom query.Atoms), (ssl eI query.Free)])), (5, .v (ssl eI occurring_19)), (7, .v (.ptr true [(.int .i64 v_22.Relation), (ssl eI v_22.Terms)])), (36, .v (ssl eAtom query.Atoms)), (37, .v (.int .i64 (query.Atoms.length : Int))), (38, .v (.int .i64 x_20)), (69, .v (.bool w32))]) ?_ ?_
    ·by_cases knh33 : (v_22.Terms.length : Int) ≠ v_29.Arity
     ·rw [if_pos knh33] at h33
      refine Wo.gh (vle_co (s := 62) (t1 := .bool true) rfl (by simp) (tle_bool (by simpa using knh33)) (by conv => lhs; simp)) ?_
      refine Wo.en (by conv => lhs; simp [ga30, gb30, gn30, gd30]) ?_
      cases h33
      first | rfl | simp [ga30, gb30, gn30, gd30]
     ·rw [if_neg knh33] at h33
      refine Wo.gh (vle_co (s := 62) (t1 := .bool false) rfl (by simp) (tle_bool (by simpa using knh33)) (by conv => lhs; simp)) ?_
      obtain ⟨l_34, h35, h33⟩ := bind_some h33
      obtain ⟨ga35, gb35, gc35, ge35⟩ := cut_some h35
      simp at ge35
      have gz35 := cut_arr (E := eAtom) (b := false) h35
      simp at gz35
      refine Wo.evs (by conv => lhs; simp [ga30, gb30, gn30, gd30, ga35, gb35, gc35, ge35, gz35]) ?_
      obtain ⟨o36, h37, h33⟩ := bind_some h33
      refine Wo.call (by simp [ga30, gb30, gn30, gd30, ga35, gb35, gc35, ge35, gz35]) rfl (by (conv => lhs; simp [ga30, gb30, gn30, gd30, ga35, gb35, gc35, ge35, gz35]) <;> rfl) (r168 (g_f := 169) (cp_f := [(.ptr false [(.int .i64 v_22.Relation), (ssl eI v_22.Terms)])]) rfl (fun x0 o h => r169 h) h37) (by simp) (by simp) (by (conv => lhs; simp [ga30, gb30, gn30, gd30, ga35, gb35, gc35, ge35, gz35]) <;> rfl) (by (conv => lhs; simp [ga30, gb30, gn30, gd30, ga35, gb35, gc35, ge35, gz35]) <;> rfl) ?_
      refine Wo.en (by conv => lhs; simp [ga30, gb30, gn30, gd30, ga35, gb35, gc35, ge35, gz35]) ?_
      cases h33
      first | rfl | simp [ga30, gb30, gn30, gd30, ga35, gb35, gc35, ge35, gz35]
    ·rintro V rfl
     generalize w32 = x_31 at *
     try dsimp only at h28
     cases h28
     first | rfl | simp [ga30, gb30, gn30, gd30]
  ·rintro V rfl
   generalize w27 = x_26 at *
   try dsimp only at h
   by_cases kc38 : x_26 = true
   ·rw [if_pos kc38] at h
    refine Wc.condT' (by conv => lhs; simp) (by simpa using kc38) ?_
    refine Wc.sk (by conv => lhs; simp) ?_
    refine Wc.se (by conv => lhs; simp) ?_
    refine Wc.ret ?_
    have e0 := hx _ (Option.some.inj h).symm
    subst e0
    exact ⟨rfl, by first | rfl | simp⟩
   ·rw [if_neg kc38] at h
    refine Wc.condF' (by conv => lhs; simp) (by simpa using kc38) ?_
    refine Wc.sk (by conv => lhs; simp) ?_
    apply Wc.skip
    apply Wc.seq
    refine Wc.se (by conv => lhs; simp) ?_
    apply Wc.block
    obtain ⟨w46, h47, h⟩ := bind_some h
    refine Wc.start (V1 := [(0, .v (ssl eRelation relations)), (3, .v (.ptr true [(.int .i64 query.VariableCount), (ssl eAtom query.Atoms), (ssl eI query.Free)])), (5, .v (ssl eI occurring_19)), (7, .v (.ptr true [(.int .i64 v_22.Relation), (ssl eI v_22.Terms)])), (36, .v (ssl eAtom query.Atoms)), (37, .v (.int .i64 (query.Atoms.length : Int))), (38, .v (.int .i64 x_20)), (71, .v (ssl eI v_22.Terms)), (72, .v (.int .i64 (v_22.Terms.length : Int))), (73, .v (.int .i64 0))]) (by first | rfl | simp) ?_
    refine Wc.mono (r127_1 _ _ h47) ?_
    rcases w46 with ⟨⟩ | x_48
    ·rintro ex V ⟨rfl, rfl⟩
     try dsimp only at h
     refine Wc.evs (by conv => lhs; simp) ?_
     obtain ⟨o49, h50, h⟩ := bind_some h
     refine Wo.cl rfl (by (conv => lhs; simp) <;> rfl) (r120 h50) (by simp) (by (conv => lhs; simp) <;> rfl) (by (conv => lhs; simp) <;> rfl) ?_
     obtain ⟨o51, h52, h⟩ := bind_some h
     refine Wo.cl rfl (by (conv => lhs; simp) <;> rfl) (r165 h52) (by simp) (by (conv => lhs; simp) <;> rfl) (by (conv => lhs; simp) <;> rfl) ?_
     refine Wo.en (by conv => lhs; simp) ?_
     refine Wc.en (by conv => lhs; simp) ?_
     refine Wc.start ?_ (hk _ (Option.some.inj h).symm)
     first | rfl | simp
    ·rintro ex V ⟨rfl, rfl⟩
     try dsimp only at h
     have e0 := hx _ (Option.some.inj h).symm
     subst e0
     exact ⟨rfl, by first | rfl | simp⟩
 ·rw [if_neg kc21] at h
  refine Wc.condF' (by conv => lhs; simp) (by simpa using kc21) ?_
  refine Wc.sk (by conv => lhs; simp) ?_
  apply Wc.exit
  have e0 := hx _ (Option.some.inj h).symm
  subst e0
  exact ⟨rfl, by first | rfl | simp⟩
theorem r127 {relations : (List Relation)} {query : Query} {r : Bool} (h : f127 relations query = some r) : VJx cx (.ca 127 [(ssl eRelation relations), (.agg [(.int .i64 query.VariableCount), (ssl eAtom query.Atoms), (ssl eI query.Free)])] (.bool r) []) := by
 unfold f127 at h
 refine ca_of rfl rfl (by decide) rfl ?_
 refine Wc.start (by conv => lhs; simp) ?_
 refine Wc.se (by conv => lhs; simp) ?_
 apply Wc.seq
 apply Wc.seq
 refine Wc.evs (by conv => lhs; simp) ?_
 obtain ⟨o1, h2, h⟩ := bind_some h
 refine Wo.cl rfl (by (conv => lhs; simp) <;> rfl) (r116 h2) (by simp) (by (conv => lhs; simp) <;> rfl) (by (conv => lhs; simp) <;> rfl) ?_
 refine Wo.evk 2 (by conv => lhs; simp) ?_
 obtain ⟨w4, h5, h⟩ := bind_some h
 refine Wo.mono (Q := fun V => V = [(0, .v (ssl eRelation relations)), (3, .v (.ptr true [(.int .i64 query.VariableCount), (ssl eAtom query.Atoms), (ssl eI query.Free)])), (33, .v (.bool w4))]) ?_ ?_
 ·by_cases knh5 : ¬ (o1 = true)
  ·rw [if_pos knh5] at h5
   refine Wo.gh (vle_co (s := 13) (t1 := .bool true) rfl (by simp) (tle_bool (by simpa using knh5)) (by conv => lhs; simp)) ?_
   refine Wo.en (by conv => lhs; simp) ?_
   cases h5
   first | rfl | simp
  ·rw [if_neg knh5] at h5
   refine Wo.gh (vle_co (s := 13) (t1 := .bool false) rfl (by simp) (tle_bool (by simpa using knh5)) (by conv => lhs; simp)) ?_
   refine Wo.evs (by conv => lhs; simp) ?_
   obtain ⟨o6, h7, h5⟩ := bind_some h5
   refine Wo.call (by simp) rfl (by (conv => lhs; simp) <;> rfl) (r87 h7) (by simp) (by simp) (by (conv => lhs; simp) <;> rfl) (by (conv => lhs; simp) <;> rfl) ?_
   refine Wo.evk 3 (by conv => lhs; simp) ?_
   obtain ⟨w9, h10, h5⟩ := bind_some h5
   refine Wo.mono (Q := fun V => V = [(0, .v (ssl eRelation relations)), (3, .v (.ptr true [(.int .i64 query.VariableCount), (ssl eAtom query.Atoms), (ssl eI query.Free)])), (33, .v (.bool w9))]) ?_ ?_
   ·by_cases knh10 : ¬ (o6 = true)
    ·rw [if_pos knh10] at h10
     refine Wo.gh (vle_co (s := 19) (t1 := .bool true) rfl (by simp) (tle_bool (by simpa using knh10)) (by conv => lhs; simp)) ?_
     refine Wo.en (by conv => lhs; simp) ?_
     cases h10
     first | rfl | simp
    ·rw [if_neg knh10] at h10
     refine Wo.gh (vle_co (s := 19) (t1 := .bool false) rfl (by simp) (tle_bool (by simpa using knh10)) (by conv => lhs; simp)) ?_
     refine Wo.evs (by conv => lhs; simp) ?_
     obtain ⟨o11, h12, h10⟩ := bind_some h10
     refine Wo.call (by simp) rfl (by (conv => lhs; simp) <;> rfl) (r87 h12) (by simp) (by simp) (by (conv => lhs; simp) <;> rfl) (by (conv => lhs; simp) <;> rfl) ?_
     refine Wo.evk 3 (by conv => lhs; simp) ?_
     obtain ⟨w14, h15, h10⟩ := bind_some h10
     refine Wo.mono (Q := fun V => V = [(0, .v (ssl eRelation relations)), (3, .v (.ptr true [(.int .i64 query.VariableCount), (ssl eAtom query.Atoms), (ssl eI query.Free)])), (33, .v (.bool w14))]) ?_ ?_
     ·by_cases knh15 : ¬ (o11 = true)
      ·rw [if_pos knh15] at h15
       refine Wo.gh (vle_co (s := 26) (t1 := .bool true) rfl (by simp) (tle_bool (by simpa using knh15)) (by conv => lhs; simp)) ?_
       refine Wo.en (by conv => lhs; simp) ?_
       cases h15
       first | rfl | simp
      ·rw [if_neg knh15] at h15
       refine Wo.gh (vle_co (s := 26) (t1 := .bool false) rfl (by simp) (tle_bool (by simpa using knh15)) (by conv => lhs; simp)) ?_
       refine Wo.evs (by conv => lhs; simp) ?_
       obtain ⟨o16, h17, h15⟩ := bind_some h15
       refine Wo.call (by simp) rfl (by (conv => lhs; simp) <;> rfl) (r101 h17) (by simp) (by simp) (by (conv => lhs; simp) <;> rfl) (by (conv => lhs; simp) <;> rfl) ?_
       refine Wo.en (by conv => lhs; simp) ?_
       cases h15
       first | rfl | simp
     ·rintro V rfl
      generalize w14 = x_13 at *
      try dsimp only at h10
      cases h10
      first | rfl | simp
   ·rintro V rfl
    generalize w9 = x_8 at *
    try dsimp only at h5
    cases h5
    first | rfl | simp
 ·rintro V rfl
  generalize w4 = x_3 at *
  try dsimp only at h
  by_cases kc18 : x_3 = true
  ·rw [if_pos kc18] at h
   refine Wc.condT' (by conv => lhs; simp) (by simpa using kc18) ?_
   refine Wc.sk (by conv => lhs; simp) ?_
   refine Wc.se (by conv => lhs; simp) ?_
   refine Wc.ret (res_of (.inr rfl) ?_)
   cases h
   exact ⟨_, _, _, by conv => lhs; simp, by (conv => lhs; simp) <;> rfl, by first | rfl | simp⟩
  ·rw [if_neg kc18] at h
   refine Wc.condF' (by conv => lhs; simp) (by simpa using kc18) ?_
   refine Wc.sk (by conv => lhs; simp) ?_
   apply Wc.skip
   apply Wc.seq
   refine Wc.evs (by conv => lhs; simp) ?_
   refine Wo.gh (vle_co (s := 5) (t1 := (osl eI true ([]))) rfl (by simp) (TLe.own (show TLes _ [] from (TLes.refl _)) rfl) (by conv => lhs; simp)) ?_
   refine Wo.gh (vle_fz (s := 5) rfl (by simp) (by conv => lhs; simp)) ?_
   apply Wo.nil
   apply Wc.seq
   refine Wc.se (by conv => lhs; simp) ?_
   apply Wc.block
   obtain ⟨w53, h54, h⟩ := bind_some h
   refine Wc.start (V1 := [(0, .v (ssl eRelation relations)), (3, .v (.ptr true [(.int .i64 query.VariableCount), (ssl eAtom query.Atoms), (ssl eI query.Free)])), (5, .v (ssl eI ([]))), (36, .v (ssl eAtom query.Atoms)), (37, .v (.int .i64 (query.Atoms.length : Int))), (38, .v (.int .i64 0))]) (by first | rfl | simp) ?_
   refine Wc.mono (r127_0 _ _ h54) ?_
   rcases w53 with occurring_55 | x_56
   ·rintro ex V ⟨rfl, rfl⟩
    try dsimp only at h
    refine Wc.se (by conv => lhs; simp) ?_
    refine Wc.ret (res_of (.inr rfl) ?_)
    cases h
    exact ⟨_, _, _, by conv => lhs; simp, by (conv => lhs; simp) <;> rfl, by first | rfl | simp⟩
   ·rintro ex V ⟨rfl, rfl⟩
    try dsimp only at h
    refine res_of (.inr rfl) ?_
    cases h
    exact ⟨_, _, _, by conv => lhs; simp, by (conv => lhs; simp) <;> rfl, by first | rfl | simp⟩
theorem r119 {relations : (List Relation)} {atom : Atom} {r : (List Int)} (h : f119 relations atom = some r) : VJx cx (.ca 119 [(ssl eRelation relations), (.agg [(.int .i64 atom.Relation), (ssl eI atom.Terms)])] (ssl eI r) []) := by
 unfold f119 at h
 refine ca_of rfl rfl (by decide) rfl ?_
 refine Wc.start (by conv => lhs; simp) ?_
 refine Wc.se (by conv => lhs; simp) ?_
 apply Wc.seq
 apply Wc.seq
 refine Wc.evs (by conv => lhs; simp) ?_
 obtain ⟨o1, h2, h⟩ := bind_some h
 refine Wo.cl rfl (by (conv => lhs; simp) <;> rfl) (r87 h2) (by simp) (by (conv => lhs; simp) <;> rfl) (by (conv => lhs; simp) <;> rfl) ?_
 refine Wo.evk 2 (by conv => lhs; simp) ?_
 obtain ⟨w4, h5, h⟩ := bind_some h
 refine Wo.mono (Q := fun V => V = [(0, .v (ssl eRelation relations)), (3, .v (.ptr true [(.int .i64 atom.Relation), (ssl eI atom.Terms)])), (24, .v (.bool w4))]) ?_ ?_
 ·by_cases knh5 : ¬ (o1 = true)
  ·rw [if_pos knh5] at h5
   refine Wo.gh (vle_co (s := 12) (t1 := .bool true) rfl (by simp) (tle_bool (by simpa using knh5)) (by conv => lhs; simp)) ?_
   refine Wo.en (by conv => lhs; simp) ?_
   cases h5
   first | rfl | simp
  ·rw [if_neg knh5] at h5
   refine Wo.gh (vle_co (s := 12) (t1 := .bool false) rfl (by simp) (tle_bool (by simpa using knh5)) (by conv => lhs; simp)) ?_
   obtain ⟨v_6, h7, h5⟩ := bind_some h5
   obtain ⟨ga7, gb7, gc7⟩ := ix_some h7
   have gn7 := ix_ne h7
   have gd7 := arr_at (E := eRelation) (b := false) gc7
   simp at gd7
   refine Wo.evs (by conv => lhs; simp [ga7, gb7, gn7, gd7]) ?_
   obtain ⟨o8, h9, h5⟩ := bind_some h5
   refine Wo.call (by simp [ga7, gb7, gn7, gd7]) rfl (by (conv => lhs; simp [ga7, gb7, gn7, gd7]) <;> rfl) (r87 h9) (by simp) (by simp) (by (conv => lhs; simp [ga7, gb7, gn7, gd7]) <;> rfl) (by (conv => lhs; simp [ga7, gb7, gn7, gd7]) <;> rfl) ?_
   refine Wo.en (by conv => lhs; simp [ga7, gb7, gn7, gd7]) ?_
   cases h5
   first | rfl | simp [ga7, gb7, gn7, gd7]
 ·rintro V rfl
  generalize w4 = x_3 at *
  try dsimp only at h
  by_cases kc10 : x_3 = true
  ·rw [if_pos kc10] at h
   refine Wc.condT' (by conv => lhs; simp) (by simpa using kc10) ?_
   refine Wc.sk (by conv => lhs; simp) ?_
   apply Wc.seq
   refine Wc.evs (by conv => lhs; simp) ?_
   refine Wo.gh (vle_co (s := 4) (t1 := (osl eI true ([]))) rfl (by simp) (TLe.nil rfl (by decide)) (by conv => lhs; simp)) ?_
   apply Wo.nil
   refine Wc.gh (vle_fz (s := 4) rfl (by simp) (by conv => lhs; simp)) ?_
   refine Wc.ret (res_of (.inr rfl) ?_)
   cases h
   exact ⟨_, _, _, by conv => lhs; simp, by (conv => lhs; simp) <;> rfl, by first | rfl | simp⟩
  ·rw [if_neg kc10] at h
   refine Wc.condF' (by conv => lhs; simp) (by simpa using kc10) ?_
   refine Wc.sk (by conv => lhs; simp) ?_
   apply Wc.skip
   apply Wc.seq
   obtain ⟨v_11, h12, h⟩ := bind_some h
   obtain ⟨ga12, gb12, gc12⟩ := ix_some h12
   have gn12 := ix_ne h12
   have gd12 := arr_at (E := eRelation) (b := false) gc12
   simp at gd12
   obtain ⟨l_13, h14, h⟩ := bind_some h
   obtain ⟨ga14, gb14, gc14, ge14⟩ := cut_some h14
   simp at ge14
   refine Wc.evs (by conv => lhs; simp [ga12, gb12, gn12, gd12, ga14, gb14, gc14, ge14]) ?_
   obtain ⟨o15, h16, h⟩ := bind_some h
   refine Wo.cl rfl (by (conv => lhs; simp [ga12, gb12, gn12, gd12, ga14, gb14, gc14, ge14]) <;> rfl) (r120 h16) (by simp) (by (conv => lhs; simp [ga12, gb12, gn12, gd12, ga14, gb14, gc14, ge14]) <;> rfl) (by (conv => lhs; simp [ga12, gb12, gn12, gd12, ga14, gb14, gc14, ge14]) <;> rfl) ?_
   refine Wo.en (by conv => lhs; simp [ga12, gb12, gn12, gd12, ga14, gb14, gc14, ge14]) ?_
   refine Wc.ret (res_of (.inr rfl) ?_)
   cases h
   exact ⟨_, _, _, by conv => lhs; simp, by (conv => lhs; simp) <;> rfl, by first | rfl | simp [ga12, gb12, gn12, gd12, ga14, gb14, gc14, ge14]⟩
theorem r103_0 {g_f : Nat} {cp_f : List T} {f : Int → Option Bool} (hio_f : cx.io g_f = []) (hp_f : ∀ x0 o, f x0 = some o → VJx cx (.ca g_f ([(.int .i64 x0)] ++ cp_f) (.bool o) [])) {s0 : (List Int)} : ∀ zs zo, iter (f103_0 s0 f) zs = some zo → Wc cx 19 (.loop L103_0) [(0, .v (ssl eI s0)), (1, .v (.fn g_f cp_f)), (7, .v (.int .i64 (s0.length : Int))), (8, .v (.int .i64 zs))] ((QO (QX 0 (fun (y : Unit) => [])) (QR (fun (y : Int) => [(4, .v (.int .i64 y))]))) zo) := by
 refine iter_all ?_
 rintro x_1 zo zr h hk hx
 try dsimp only at hk ⊢
 rw [f103_0] at h
 apply Wc.loop
 refine Wc.se (by conv => lhs; simp) ?_
 apply Wc.seq
 by_cases kc2 : x_1 < (s0.length : Int)
 ·rw [if_pos kc2] at h
  refine Wc.condT' (by conv => lhs; simp) (by simpa using kc2) ?_
  refine Wc.sk (by conv => lhs; simp) ?_
  apply Wc.skip
  apply Wc.seq
  apply Wc.block
  refine Wc.se (by conv => lhs; simp) ?_
  apply Wc.seq
  obtain ⟨v_3, h4, h⟩ := bind_some h
  obtain ⟨ga4, gb4, gc4⟩ := ix_some h4
  have gn4 := ix_ne h4
  have gd4 := arr_at (E := eI) (b := false) gc4
  simp at gd4
  refine Wc.evs (by conv => lhs; simp [ga4, gb4, gn4, gd4]) ?_
  obtain ⟨o5, h6, h⟩ := bind_some h
  refine Wo.cl rfl (by (conv => lhs; simp [ga4, gb4, gn4, gd4, hio_f, -cx, -ioTab]) <;> rfl) (hp_f v_3 _ h6) (by simp) (by (conv => lhs; simp [ga4, gb4, gn4, gd4, hio_f, -cx, -ioTab]) <;> rfl) (by (conv => lhs; simp [ga4, gb4, gn4, gd4]) <;> rfl) ?_
  apply Wo.nil
  by_cases kc7 : o5 = true
  ·rw [if_pos kc7] at h
   refine Wc.condT' (by conv => lhs; simp) (by simpa using kc7) ?_
   refine Wc.sk (by conv => lhs; simp) ?_
   refine Wc.se (by conv => lhs; simp) ?_
   refine Wc.ret ?_
   have e0 := hx _ (Option.some.inj h).symm
   subst e0
   exact ⟨rfl, by first | rfl | simp⟩
  ·rw [if_neg kc7] at h
   refine Wc.condF' (by conv => lhs; simp) (by simpa using kc7) ?_
   refine Wc.sk (by conv => lhs; simp) ?_
   apply Wc.skip
   refine Wc.en (by conv => lhs; simp) ?_
   refine Wc.start ?_ (hk _ (Option.some.inj h).symm)
   first | rfl | simp
 ·rw [if_neg kc2] at h
  refine Wc.condF' (by conv => lhs; simp) (by simpa using kc2) ?_
  refine Wc.sk (by conv => lhs; simp) ?_
  apply Wc.exit
  have e0 := hx _ (Option.some.inj h).symm
  subst e0
  exact ⟨rfl, by first | rfl | simp⟩
theorem r103 {s0 : (List Int)} {g_f : Nat} {cp_f : List T} {f : Int → Option Bool} (hio_f : cx.io g_f = []) (hp_f : ∀ x0 o, f x0 = some o → VJx cx (.ca g_f ([(.int .i64 x0)] ++ cp_f) (.bool o) [])) {r : Int} (h : f103 s0 f = some r) : VJx cx (.ca 103 [(ssl eI s0), (.fn g_f cp_f)] (.int .i64 r) []) := by
 unfold f103 at h
 refine ca_of rfl rfl (by decide) rfl ?_
 refine Wc.start (by conv => lhs; simp) ?_
 refine Wc.se (by conv => lhs; simp) ?_
 apply Wc.seq
 refine Wc.se (by conv => lhs; simp) ?_
 apply Wc.block
 obtain ⟨w8, h9, h⟩ := bind_some h
 refine Wc.start (V1 := [(0, .v (ssl eI s0)), (1, .v (.fn g_f cp_f)), (7, .v (.int .i64 (s0.length : Int))), (8, .v (.int .i64 0))]) (by first | rfl | simp) ?_
 refine Wc.mono (r103_0 hio_f hp_f _ _ h9) ?_
 rcases w8 with ⟨⟩ | x_10
 ·rintro ex V ⟨rfl, rfl⟩
  try dsimp only at h
  refine Wc.se (by conv => lhs; simp) ?_
  refine Wc.ret (res_of (.inr rfl) ?_)
  cases h
  exact ⟨_, _, _, by conv => lhs; simp, by (conv => lhs; simp) <;> rfl, by first | rfl | simp⟩
 ·rintro ex V ⟨rfl, rfl⟩
  try dsimp only at h
  refine res_of (.inr rfl) ?_
  cases h
  exact ⟨_, _, _, by conv => lhs; simp, by (conv => lhs; simp) <;> rfl, by first | rfl | simp⟩
theorem r74 {s0 : (List Int)} {g_f : Nat} {cp_f : List T} {f : Int → Option Bool} (hio_f : cx.io g_f = []) (hp_f : ∀ x0 o, f x0 = some o → VJx cx (.ca g_f ([(.int .i64 x0)] ++ cp_f) (.bool o) [])) {r : Bool} (h : f74 s0 f = some r) : VJx cx (.ca 74 [(ssl eI s0), (.fn g_f cp_f)] (.bool r) []) := by
 unfold f74 at h
 refine ca_of rfl rfl (by decide) rfl ?_
 refine Wc.start (by conv => lhs; simp) ?_
 refine Wc.se (by conv => lhs; simp) ?_
 apply Wc.seq
 refine Wc.evs (by conv => lhs; simp) ?_
 obtain ⟨o1, h2, h⟩ := bind_some h
 refine Wo.cl rfl (by (conv => lhs; simp) <;> rfl) (r103 hio_f hp_f h2) (by simp) (by (conv => lhs; simp) <;> rfl) (by (conv => lhs; simp) <;> rfl) ?_
 refine Wo.en (by conv => lhs; simp) ?_
 refine Wc.ret (res_of (.inr rfl) ?_)
 cases h
 exact ⟨_, _, _, by conv => lhs; simp, by (conv => lhs; simp) <;> rfl, by first | rfl | simp⟩
theorem r158_0 {s0 : (List Int)} {v : Int} : ∀ zs zo, iter (f158_0 s0 v) zs = some zo → Wc cx 19 (.loop L158_0) [(0, .v (ssl eI s0)), (1, .v (.int .i64 v)), (7, .v (.int .i64 (s0.length : Int))), (8, .v (.int .i64 zs))] ((QO (QX 0 (fun (y : Unit) => [])) (QR (fun (y : Int) => [(4, .v (.int .i64 y))]))) zo) := by
 refine iter_all ?_
 rintro x_1 zo zr h hk hx
 try dsimp only at hk ⊢
 rw [f158_0] at h
 apply Wc.loop
 refine Wc.se (by conv => lhs; simp) ?_
 apply Wc.seq
 by_cases kc2 : x_1 < (s0.length : Int)
 ·rw [if_pos kc2] at h
  refine Wc.condT' (by conv => lhs; simp) (by simpa using kc2) ?_
  refine Wc.sk (by conv => lhs; simp) ?_
  apply Wc.skip
  apply Wc.seq
  apply Wc.block
  refine Wc.se (by conv => lhs; simp) ?_
  apply Wc.seq
  obtain ⟨v_3, h4, h⟩ := bind_some h
  obtain ⟨ga4, gb4, gc4⟩ := ix_some h4
  have gn4 := ix_ne h4
  have gd4 := arr_at (E := eI) (b := false) gc4
  simp at gd4
  refine Wc.en (by conv => lhs; simp [ga4, gb4, gn4, gd4]) ?_
  by_cases kc5 : v = v_3
  ·rw [if_pos kc5] at h
   refine Wc.condT' (by conv => lhs; simp) (by simpa using kc5) ?_
   refine Wc.sk (by conv => lhs; simp) ?_
   refine Wc.se (by conv => lhs; simp) ?_
   refine Wc.ret ?_
   have e0 := hx _ (Option.some.inj h).symm
   subst e0
   exact ⟨rfl, by first | rfl | simp⟩
  ·rw [if_neg kc5] at h
   refine Wc.condF' (by conv => lhs; simp) (by simpa using kc5) ?_
   refine Wc.sk (by conv => lhs; simp) ?_
   apply Wc.skip
   refine Wc.en (by conv => lhs; simp) ?_
   refine Wc.start ?_ (hk _ (Option.some.inj h).symm)
   first | rfl | simp
 ·rw [if_neg kc2] at h
  refine Wc.condF' (by conv => lhs; simp) (by simpa using kc2) ?_
  refine Wc.sk (by conv => lhs; simp) ?_
  apply Wc.exit
  have e0 := hx _ (Option.some.inj h).symm
  subst e0
  exact ⟨rfl, by first | rfl | simp⟩
theorem r158 {s0 : (List Int)} {v : Int} {r : Int} (h : f158 s0 v = some r) : VJx cx (.ca 158 [(ssl eI s0), (.int .i64 v)] (.int .i64 r) []) := by
 unfold f158 at h
 refine ca_of rfl rfl (by decide) rfl ?_
 refine Wc.start (by conv => lhs; simp) ?_
 refine Wc.se (by conv => lhs; simp) ?_
 apply Wc.seq
 refine Wc.se (by conv => lhs; simp) ?_
 apply Wc.block
 obtain ⟨w6, h7, h⟩ := bind_some h
 refine Wc.start (V1 := [(0, .v (ssl eI s0)), (1, .v (.int .i64 v)), (7, .v (.int .i64 (s0.length : Int))), (8, .v (.int .i64 0))]) (by first | rfl | simp) ?_
 refine Wc.mono (r158_0 _ _ h7) ?_
 rcases w6 with ⟨⟩ | x_8
 ·rintro ex V ⟨rfl, rfl⟩
  try dsimp only at h
  refine Wc.se (by conv => lhs; simp) ?_
  refine Wc.ret (res_of (.inr rfl) ?_)
  cases h
  exact ⟨_, _, _, by conv => lhs; simp, by (conv => lhs; simp) <;> rfl, by first | rfl | simp⟩
 ·rintro ex V ⟨rfl, rfl⟩
  try dsimp only at h
  refine res_of (.inr rfl) ?_
  cases h
  exact ⟨_, _, _, by conv => lhs; simp, by (conv => lhs; simp) <;> rfl, by first | rfl | simp⟩
theorem r105 {s0 : (List Int)} {v : Int} {r : Bool} (h : f105 s0 v = some r) : VJx cx (.ca 105 [(ssl eI s0), (.int .i64 v)] (.bool r) []) := by
 unfold f105 at h
 refine ca_of rfl rfl (by decide) rfl ?_
 refine Wc.start (by conv => lhs; simp) ?_
 refine Wc.se (by conv => lhs; simp) ?_
 apply Wc.seq
 refine Wc.evs (by conv => lhs; simp) ?_
 obtain ⟨o1, h2, h⟩ := bind_some h
 refine Wo.cl rfl (by (conv => lhs; simp) <;> rfl) (r158 h2) (by simp) (by (conv => lhs; simp) <;> rfl) (by (conv => lhs; simp) <;> rfl) ?_
 refine Wo.en (by conv => lhs; simp) ?_
 refine Wc.ret (res_of (.inr rfl) ?_)
 cases h
 exact ⟨_, _, _, by conv => lhs; simp, by (conv => lhs; simp) <;> rfl, by first | rfl | simp⟩
theorem r164 {n0 : Int} {c : (List Int)} {r : Bool} (h : f164 n0 c = some r) : VJx cx (.ca 164 [(.int .i64 n0), (.ptr false [(ssl eI c)])] (.bool r) []) := by
 unfold f164 at h
 refine ca_of rfl rfl (by decide) rfl ?_
 refine Wc.start (by conv => lhs; simp) ?_
 refine Wc.se (by conv => lhs; simp) ?_
 apply Wc.seq
 refine Wc.evs (by conv => lhs; simp) ?_
 obtain ⟨o1, h2, h⟩ := bind_some h
 refine Wo.cl rfl (by (conv => lhs; simp) <;> rfl) (r105 h2) (by simp) (by (conv => lhs; simp) <;> rfl) (by (conv => lhs; simp) <;> rfl) ?_
 refine Wo.en (by conv => lhs; simp) ?_
 refine Wc.ret (res_of (.inr rfl) ?_)
 cases h
 exact ⟨_, _, _, by conv => lhs; simp, by (conv => lhs; simp) <;> rfl, by first | rfl | simp⟩
theorem r118 {a : (List Int)} {b : (List Int)} {r : Bool} (h : f118 a b = some r) : VJx cx (.ca 118 [(ssl eI a), (ssl eI b)] (.bool r) []) := by
 unfold f118 at h
 refine ca_of rfl rfl (by decide) rfl ?_
 refine Wc.start (by conv => lhs; simp) ?_
 refine Wc.se (by conv => lhs; simp) ?_
 apply Wc.seq
 refine Wc.evs (by conv => lhs; simp) ?_
 obtain ⟨o1, h2, h⟩ := bind_some h
 refine Wo.cl rfl (by (conv => lhs; simp) <;> rfl) (r74 (g_f := 164) (cp_f := [(.ptr false [(ssl eI b)])]) rfl (fun x0 o h => r164 h) h2) (by simp) (by (conv => lhs; simp) <;> rfl) (by (conv => lhs; simp) <;> rfl) ?_
 refine Wo.en (by conv => lhs; simp) ?_
 refine Wc.ret (res_of (.inr rfl) ?_)
 cases h
 exact ⟨_, _, _, by conv => lhs; simp, by (conv => lhs; simp) <;> rfl, by first | rfl | simp⟩
theorem r201_1 {relations : (List Relation)} {atoms : (List Atom)} {skip : Int} {out_3 : (List Int)} : ∀ zs zo, iter (f201_1 relations atoms skip) zs = some zo → Wc cx 45 (.loop L201_1) [(0, .v (ssl eRelation relations)), (1, .v (ssl eAtom atoms)), (2, .v (.int .i64 skip)), (9, .v (ssl eI out_3)), (10, .v (ssl eI zs.1)), (16, .v (ssl eAtom atoms)), (17, .v (.int .i64 (atoms.length : Int))), (18, .v (.int .i64 zs.2))] ((QX 2 (fun (y : (List Int)) => [(0, .v (ssl eRelation relations)), (1, .v (ssl eAtom atoms)), (2, .v (.int .i64 skip)), (9, .v (ssl eI out_3)), (10, .v (ssl eI y))])) zo) := by
 refine iter_all ?_
 rintro ⟨larger_4, x_5⟩ zo zr h hk hx
 try dsimp only at hk ⊢
 rw [f201_1] at h
 apply Wc.loop
 refine Wc.se (by conv => lhs; simp) ?_
 apply Wc.seq
 by_cases kc6 : x_5 < (atoms.length : Int)
 ·rw [if_pos kc6] at h
  refine Wc.condT' (by conv => lhs; simp) (by simpa using kc6) ?_
  refine Wc.sk (by conv => lhs; simp) ?_
  apply Wc.skip
  apply Wc.seq
  apply Wc.block
  apply Wc.seq
  obtain ⟨v_7, h8, h⟩ := bind_some h
  obtain ⟨ga8, gb8, gc8⟩ := ix_some h8
  have gn8 := ix_ne h8
  have gd8 := arr_at (E := eAtom) (b := false) gc8
  simp at gd8
  refine Wc.en (by conv => lhs; simp [ga8, gb8, gn8, gd8]) ?_
  apply Wc.seq
  refine Wc.evk 4 (by conv => lhs; simp) ?_
  obtain ⟨w10, h11, h⟩ := bind_some h
  refine Wo.mono (Q := fun V => V = [(0, .v (ssl eRelation relations)), (1, .v (ssl eAtom atoms)), (2, .v (.int .i64 skip)), (9, .v (ssl eI out_3)), (10, .v (ssl eI larger_4)), (12, .v (.ptr true [(.int .i64 v_7.Relation), (ssl eI v_7.Terms)])), (16, .v (ssl eAtom atoms)), (17, .v (.int .i64 (atoms.length : Int))), (18, .v (.int .i64 x_5)), (32, .v (.bool w10))]) ?_ ?_
  ·by_cases knh11 : x_5 ≠ skip
   ·rw [if_pos knh11] at h11
    refine Wo.gh (vle_co (s := 26) (t1 := .bool true) rfl (by simp) (tle_bool (by simpa using knh11)) (by conv => lhs; simp)) ?_
    refine Wo.evs (by conv => lhs; simp) ?_
    obtain ⟨o12, h13, h11⟩ := bind_some h11
    refine Wo.call (by simp) rfl (by (conv => lhs; simp) <;> rfl) (r119 h13) (by simp) (by simp) (by (conv => lhs; simp) <;> rfl) (by (conv => lhs; simp) <;> rfl) ?_
    refine Wo.evs (by conv => lhs; simp) ?_
    obtain ⟨o14, h15, h11⟩ := bind_some h11
    refine Wo.call (by simp) rfl (by (conv => lhs; simp) <;> rfl) (r118 h15) (by simp) (by simp) (by (conv => lhs; simp) <;> rfl) (by (conv => lhs; simp) <;> rfl) ?_
    refine Wo.en (by conv => lhs; simp) ?_
    cases h11
    first | rfl | simp
   ·rw [if_neg knh11] at h11
    refine Wo.gh (vle_co (s := 26) (t1 := .bool false) rfl (by simp) (tle_bool (by simpa using knh11)) (by conv => lhs; simp)) ?_
    refine Wo.en (by conv => lhs; simp) ?_
    cases h11
    first | rfl | simp
  ·rintro V rfl
   generalize w10 = x_9 at *
   try dsimp only at h
   obtain ⟨w16, h17, h⟩ := bind_some h
   refine Wc.mono (Q := (QN (fun (y : (List Int)) => [(0, .v (ssl eRelation relations)), (1, .v (ssl eAtom atoms)), (2, .v (.int .i64 skip)), (9, .v (ssl eI out_3)), (10, .v (ssl eI y)), (16, .v (ssl eAtom atoms)), (17, .v (.int .i64 (atoms.length : Int))), (18, .v (.int .i64 x_5))])) w16) ?_ ?_
   ·skip
    by_cases kc18 : x_9 = true
    ·rw [if_pos kc18] at h17
     refine Wc.condT' (by conv => lhs; simp) (by simpa using kc18) ?_
     refine Wc.sk (by conv => lhs; simp) ?_
     refine Wc.evs (by conv => lhs; simp) ?_
     obtain ⟨o19, h20, h17⟩ := bind_some h17
     refine Wo.cl rfl (by (conv => lhs; simp) <;> rfl) (r120 h20) (by simp) (by (conv => lhs; simp) <;> rfl) (by (conv => lhs; simp) <;> rfl) ?_
     obtain ⟨o21, h22, h17⟩ := bind_some h17
     refine Wo.cl rfl (by (conv => lhs; simp) <;> rfl) (r165 h22) (by simp) (by (conv => lhs; simp) <;> rfl) (by (conv => lhs; simp) <;> rfl) ?_
     refine Wo.en (by conv => lhs; simp) ?_
     cases h17
     exact ⟨rfl, by first | rfl | simp⟩
    ·rw [if_neg kc18] at h17
     refine Wc.condF' (by conv => lhs; simp) (by simpa using kc18) ?_
     refine Wc.sk (by conv => lhs; simp) ?_
     apply Wc.skip
     cases h17
     exact ⟨rfl, by first | rfl | simp⟩
   ·skip
    generalize w16 = larger_23 at *
    rintro ex V ⟨rfl, rfl⟩
    try dsimp only at h
    refine Wc.en (by conv => lhs; simp) ?_
    refine Wc.start ?_ (hk _ (Option.some.inj h).symm)
    first | rfl | simp
 ·rw [if_neg kc6] at h
  refine Wc.condF' (by conv => lhs; simp) (by simpa using kc6) ?_
  refine Wc.sk (by conv => lhs; simp) ?_
  apply Wc.exit
  have e0 := hx _ (Option.some.inj h).symm
  subst e0
  exact ⟨rfl, by first | rfl | simp⟩
theorem r201_0 {relations : (List Relation)} {atoms : (List Atom)} {skip : Int} : ∀ zs zo, iter (f201_0 relations atoms skip) zs = some zo → Wc cx 45 (.loop L201_0) [(0, .v (ssl eRelation relations)), (1, .v (ssl eAtom atoms)), (2, .v (.int .i64 skip)), (9, .v (ssl eI zs))] ((QR (fun (y : (List Int)) => [(8, .v (ssl eI y))])) zo) := by
 refine iter_all ?_
 rintro out_3 zo zr h hk hx
 try dsimp only at hk ⊢
 rw [f201_0] at h
 apply Wc.loop
 apply Wc.block
 refine Wc.se (by conv => lhs; simp) ?_
 apply Wc.seq
 refine Wc.se (by conv => lhs; simp) ?_
 apply Wc.block
 obtain ⟨w24, h25, h⟩ := bind_some h
 refine Wc.start (V1 := [(0, .v (ssl eRelation relations)), (1, .v (ssl eAtom atoms)), (2, .v (.int .i64 skip)), (9, .v (ssl eI out_3)), (10, .v (ssl eI out_3)), (16, .v (ssl eAtom atoms)), (17, .v (.int .i64 (atoms.length : Int))), (18, .v (.int .i64 0))]) (by first | rfl | simp) ?_
 refine Wc.mono (r201_1 _ _ h25) ?_
 generalize w24 = larger_26 at *
 rintro ex V ⟨rfl, rfl⟩
 try dsimp only at h
 apply Wc.seq
 refine Wc.se (by conv => lhs; simp) ?_
 by_cases kc27 : (larger_26.length : Int) = (out_3.length : Int)
 ·rw [if_pos kc27] at h
  refine Wc.condT' (by conv => lhs; simp) (by simpa using kc27) ?_
  refine Wc.sk (by conv => lhs; simp) ?_
  refine Wc.se (by conv => lhs; simp) ?_
  refine Wc.ret ?_
  have e0 := hx _ (Option.some.inj h).symm
  subst e0
  exact ⟨rfl, by first | rfl | simp⟩
 ·rw [if_neg kc27] at h
  refine Wc.condF' (by conv => lhs; simp) (by simpa using kc27) ?_
  refine Wc.sk (by conv => lhs; simp) ?_
  apply Wc.skip
  refine Wc.en (by conv => lhs; simp) ?_
  refine Wc.start ?_ (hk _ (Option.some.inj h).symm)
  first | rfl | simp
theorem r201 {relations : (List Relation)} {atoms : (List Atom)} {skip : Int} {variables : (List Int)} {r : (List Int)} (h : f201 relations atoms skip variables = some r) : VJx cx (.ca 201 [(ssl eRelation relations), (ssl eAtom atoms), (.int .i64 skip), (ssl eI variables)] (ssl eI r) []) := by
 unfold f201 at h
 refine ca_of rfl rfl (by decide) rfl ?_
 refine Wc.start (by conv => lhs; simp) ?_
 refine Wc.se (by conv => lhs; simp) ?_
 apply Wc.seq
 refine Wc.evs (by conv => lhs; simp) ?_
 obtain ⟨o1, h2, h⟩ := bind_some h
 refine Wo.cl rfl (by (conv => lhs; simp) <;> rfl) ((r165 h2).res (TLes.cons (TLe.refl _) (TLes.cons (TLe.nil rfl (by decide)) (TLes.refl _))) (TLe.refl _) (TLes.refl _)) (by simp) (by (conv => lhs; simp) <;> rfl) (by (conv => lhs; simp) <;> rfl) ?_
 refine Wo.en (by conv => lhs; simp) ?_
 apply Wc.block
 obtain ⟨w28, h29, h⟩ := bind_some h
 refine Wc.start (V1 := [(0, .v (ssl eRelation relations)), (1, .v (ssl eAtom atoms)), (2, .v (.int .i64 skip)), (9, .v (ssl eI o1))]) (by first | rfl | simp) ?_
 refine Wc.mono (r201_0 _ _ h29) ?_
 generalize w28 = x_30 at *
 rintro ex V ⟨rfl, rfl⟩
 try dsimp only at h
 refine res_of (.inr rfl) ?_
 cases h
 exact ⟨_, _, _, by conv => lhs; simp, by (conv => lhs; simp) <;> rfl, by first | rfl | simp⟩
theorem r141_0 {a : (List Int)} {b : (List Int)} : ∀ zs zo, iter (f141_0 a b) zs = some zo → Wc cx 25 (.loop L141_0) [(1, .v (ssl eI b)), (5, .v (osl eI true zs.1)), (9, .v (ssl eI a)), (10, .v (.int .i64 (a.length : Int))), (11, .v (.int .i64 zs.2))] ((QX 0 (fun (y : (List Int)) => [(5, .v (osl eI true y))])) zo) := by
 refine iter_all ?_
 rintro ⟨out_1, x_2⟩ zo zr h hk hx
 try dsimp only at hk ⊢
 rw [f141_0] at h
 apply Wc.loop
 refine Wc.se (by conv => lhs; simp) ?_
 apply Wc.seq
 by_cases kc3 : x_2 < (a.length : Int)
 ·rw [if_pos kc3] at h
  refine Wc.condT' (by conv => lhs; simp) (by simpa using kc3) ?_
  refine Wc.sk (by conv => lhs; simp) ?_
  apply Wc.skip
  apply Wc.seq
  apply Wc.block
  apply Wc.seq
  obtain ⟨v_4, h5, h⟩ := bind_some h
  obtain ⟨ga5, gb5, gc5⟩ := ix_some h5
  have gn5 := ix_ne h5
  have gd5 := arr_at (E := eI) (b := false) gc5
  simp at gd5
  refine Wc.en (by conv => lhs; simp [ga5, gb5, gn5, gd5]) ?_
  apply Wc.seq
  refine Wc.evs (by conv => lhs; simp) ?_
  obtain ⟨o6, h7, h⟩ := bind_some h
  refine Wo.cl rfl (by (conv => lhs; simp) <;> rfl) (r105 h7) (by simp) (by (conv => lhs; simp) <;> rfl) (by (conv => lhs; simp) <;> rfl) ?_
  refine Wo.en (by conv => lhs; simp) ?_
  obtain ⟨w8, h9, h⟩ := bind_some h
  refine Wc.mono (Q := (QN (fun (y : (List Int)) => [(1, .v (ssl eI b)), (5, .v (osl eI true y)), (9, .v (ssl eI a)), (10, .v (.int .i64 (a.length : Int))), (11, .v (.int .i64 x_2))])) w8) ?_ ?_
  ·skip
   by_cases kc10 : ¬ (o6 = true)
   ·rw [if_pos kc10] at h9
    refine Wc.condT' (by conv => lhs; simp) (by simpa using kc10) ?_
    refine Wc.sk (by conv => lhs; simp) ?_
    obtain ⟨l_11, h12, h9⟩ := bind_some h9
    have gx12 := appT_arr (E := eI) (b := true) (y := true) h12 (by decide)
    simp at gx12
    refine Wc.en (by conv => lhs; simp [gx12]) ?_
    cases h9
    exact ⟨rfl, by first | rfl | simp [gx12]⟩
   ·rw [if_neg kc10] at h9
    refine Wc.condF' (by conv => lhs; simp) (by simpa using kc10) ?_
    refine Wc.sk (by conv => lhs; simp) ?_
    apply Wc.skip
    cases h9
    exact ⟨rfl, by first | rfl | simp⟩
  ·skip
   generalize w8 = out_13 at *
   rintro ex V ⟨rfl, rfl⟩
   try dsimp only at h
   refine Wc.en (by conv => lhs; simp) ?_
   refine Wc.start ?_ (hk _ (Option.some.inj h).symm)
   first | rfl | simp
 ·rw [if_neg kc3] at h
  refine Wc.condF' (by conv => lhs; simp) (by simpa using kc3) ?_
  refine Wc.sk (by conv => lhs; simp) ?_
  apply Wc.exit
  have e0 := hx _ (Option.some.inj h).symm
  subst e0
  exact ⟨rfl, by first | rfl | simp⟩
theorem r141 {a : (List Int)} {b : (List Int)} {r : (List Int)} (h : f141 a b = some r) : VJx cx (.ca 141 [(ssl eI a), (ssl eI b)] (osl eI true r) []) := by
 unfold f141 at h
 refine ca_of rfl rfl (by decide) rfl ?_
 refine Wc.start (by conv => lhs; simp) ?_
 refine Wc.se (by conv => lhs; simp) ?_
 apply Wc.seq
 refine Wc.evs (by conv => lhs; simp) ?_
 refine Wo.gh (vle_co (s := 5) (t1 := (osl eI true ([]))) rfl (by simp) (TLe.own (show TLes _ [] from (TLes.refl _)) rfl) (by conv => lhs; simp)) ?_
 apply Wo.nil
 apply Wc.seq
 refine Wc.se (by conv => lhs; simp) ?_
 apply Wc.block
 obtain ⟨w14, h15, h⟩ := bind_some h
 refine Wc.start (V1 := [(1, .v (ssl eI b)), (5, .v (osl eI true ([]))), (9, .v (ssl eI a)), (10, .v (.int .i64 (a.length : Int))), (11, .v (.int .i64 0))]) (by first | rfl | simp) ?_
 refine Wc.mono (r141_0 _ _ h15) ?_
 generalize w14 = out_16 at *
 rintro ex V ⟨rfl, rfl⟩
 try dsimp only at h
 refine Wc.se (by conv => lhs; simp) ?_
 refine Wc.ret (res_of (.inr rfl) ?_)
 cases h
 exact ⟨_, _, _, by conv => lhs; simp, by (conv => lhs; simp) <;> rfl, by first | rfl | simp⟩
theorem r190_1 {atoms : (List Atom)} {o7 : (List Int)} {out_13 : (List Int)} : ∀ zs zo, iter (f190_1 atoms o7) zs = some zo → Wc cx 64 (.loop L190_1) [(1, .v (ssl eAtom atoms)), (9, .v (ssl eI o7)), (10, .v (ssl eI out_13)), (11, .v (ssl eI zs.1)), (36, .v (ssl eAtom atoms)), (37, .v (.int .i64 (atoms.length : Int))), (38, .v (.int .i64 zs.2))] ((QX 2 (fun (y : (List Int)) => [(1, .v (ssl eAtom atoms)), (9, .v (ssl eI o7)), (10, .v (ssl eI out_13)), (11, .v (ssl eI y))])) zo) := by
 refine iter_all ?_
 rintro ⟨larger_14, x_15⟩ zo zr h hk hx
 try dsimp only at hk ⊢
 rw [f190_1] at h
 apply Wc.loop
 refine Wc.se (by conv => lhs; simp) ?_
 apply Wc.seq
 by_cases kc16 : x_15 < (atoms.length : Int)
 ·rw [if_pos kc16] at h
  refine Wc.condT' (by conv => lhs; simp) (by simpa using kc16) ?_
  refine Wc.sk (by conv => lhs; simp) ?_
  apply Wc.skip
  apply Wc.seq
  apply Wc.block
  apply Wc.seq
  obtain ⟨v_17, h18, h⟩ := bind_some h
  obtain ⟨ga18, gb18, gc18⟩ := ix_some h18
  have gn18 := ix_ne h18
  have gd18 := arr_at (E := eAtom) (b := false) gc18
  simp at gd18
  refine Wc.en (by conv => lhs; simp [ga18, gb18, gn18, gd18]) ?_
  apply Wc.seq
  refine Wc.evs (by conv => lhs; simp) ?_
  obtain ⟨o19, h20, h⟩ := bind_some h
  refine Wo.cl rfl (by (conv => lhs; simp) <;> rfl) (r120 h20) (by simp) (by (conv => lhs; simp) <;> rfl) (by (conv => lhs; simp) <;> rfl) ?_
  refine Wo.evs (by conv => lhs; simp) ?_
  obtain ⟨o21, h22, h⟩ := bind_some h
  refine Wo.cl rfl (by (conv => lhs; simp) <;> rfl) (r141 h22) (by simp) (by (conv => lhs; simp) <;> rfl) (by (conv => lhs; simp) <;> rfl) ?_
  refine Wo.en (by conv => lhs; simp) ?_
  apply Wc.seq
  refine Wc.evs (by conv => lhs; simp) ?_
  obtain ⟨o23, h24, h⟩ := bind_some h
  refine Wo.cl rfl (by (conv => lhs; simp) <;> rfl) (r141 h24) (by simp) (by (conv => lhs; simp) <;> rfl) (by (conv => lhs; simp) <;> rfl) ?_
  refine Wo.en (by conv => lhs; simp) ?_
  obtain ⟨w25, h26, h⟩ := bind_some h
  refine Wc.mono (Q := (QN (fun (y : (List Int)) => [(1, .v (ssl eAtom atoms)), (9, .v (ssl eI o7)), (10, .v (ssl eI out_13)), (11, .v (ssl eI y)), (36, .v (ssl eAtom atoms)), (37, .v (.int .i64 (atoms.length : Int))), (38, .v (.int .i64 x_15))])) w25) ?_ ?_
  ·skip
   by_cases kc27 : (o23.length : Int) < (o21.length : Int)
   ·rw [if_pos kc27] at h26
    refine Wc.condT' (by conv => lhs; simp) (by simpa using kc27) ?_
    refine Wc.sk (by conv => lhs; simp) ?_
    refine Wc.evs (by conv => lhs; simp) ?_
    refine Wo.gh (vle_fz (s := 54) rfl (by simp) (by conv => lhs; simp)) ?_
    obtain ⟨o28, h29, h26⟩ := bind_some h26
    refine Wo.cl rfl (by (conv => lhs; simp) <;> rfl) (r165 h29) (by simp) (by (conv => lhs; simp) <;> rfl) (by (conv => lhs; simp) <;> rfl) ?_
    refine Wo.en (by conv => lhs; simp) ?_
    cases h26
    exact ⟨rfl, by first | rfl | simp⟩
   ·rw [if_neg kc27] at h26
    refine Wc.condF' (by conv => lhs; simp) (by simpa using kc27) ?_
    refine Wc.sk (by conv => lhs; simp) ?_
    apply Wc.skip
    cases h26
    exact ⟨rfl, by first | rfl | simp⟩
  ·skip
   generalize w25 = larger_30 at *
   rintro ex V ⟨rfl, rfl⟩
   try dsimp only at h
   refine Wc.en (by conv => lhs; simp) ?_
   refine Wc.start ?_ (hk _ (Option.some.inj h).symm)
   first | rfl | simp
 ·rw [if_neg kc16] at h
  refine Wc.condF' (by conv => lhs; simp) (by simpa using kc16) ?_
  refine Wc.sk (by conv => lhs; simp) ?_
  apply Wc.exit
  have e0 := hx _ (Option.some.inj h).symm
  subst e0
  exact ⟨rfl, by first | rfl | simp⟩
theorem r190_0 {atoms : (List Atom)} {o7 : (List Int)} : ∀ zs zo, iter (f190_0 atoms o7) zs = some zo → Wc cx 64 (.loop L190_0) [(1, .v (ssl eAtom atoms)), (9, .v (ssl eI o7)), (10, .v (ssl eI zs))] ((QR (fun (y : (List Int)) => [(8, .v (ssl eI y))])) zo) := by
 refine iter_all ?_
 rintro out_13 zo zr h hk hx
 try dsimp only at hk ⊢
 rw [f190_0] at h
 apply Wc.loop
 apply Wc.block
 refine Wc.se (by conv => lhs; simp) ?_
 apply Wc.seq
 refine Wc.se (by conv => lhs; simp) ?_
 apply Wc.block
 obtain ⟨w31, h32, h⟩ := bind_some h
 refine Wc.start (V1 := [(1, .v (ssl eAtom atoms)), (9, .v (ssl eI o7)), (10, .v (ssl eI out_13)), (11, .v (ssl eI out_13)), (36, .v (ssl eAtom atoms)), (37, .v (.int .i64 (atoms.length : Int))), (38, .v (.int .i64 0))]) (by first | rfl | simp) ?_
 refine Wc.mono (r190_1 _ _ h32) ?_
 generalize w31 = larger_33 at *
 rintro ex V ⟨rfl, rfl⟩
 try dsimp only at h
 apply Wc.seq
 refine Wc.se (by conv => lhs; simp) ?_
 by_cases kc34 : (larger_33.length : Int) = (out_13.length : Int)
 ·rw [if_pos kc34] at h
  refine Wc.condT' (by conv => lhs; simp) (by simpa using kc34) ?_
  refine Wc.sk (by conv => lhs; simp) ?_
  refine Wc.se (by conv => lhs; simp) ?_
  refine Wc.ret ?_
  have e0 := hx _ (Option.some.inj h).symm
  subst e0
  exact ⟨rfl, by first | rfl | simp⟩
 ·rw [if_neg kc34] at h
  refine Wc.condF' (by conv => lhs; simp) (by simpa using kc34) ?_
  refine Wc.sk (by conv => lhs; simp) ?_
  apply Wc.skip
  refine Wc.en (by conv => lhs; simp) ?_
  refine Wc.start ?_ (hk _ (Option.some.inj h).symm)
  first | rfl | simp
theorem r190 {relations : (List Relation)} {atoms : (List Atom)} {free : (List Int)} {atom : Int} {r : (List Int)} (h : f190 relations atoms free atom = some r) : VJx cx (.ca 190 [(ssl eRelation relations), (ssl eAtom atoms), (ssl eI free), (.int .i64 atom)] (ssl eI r) []) := by
 unfold f190 at h
 refine ca_of rfl rfl (by decide) rfl ?_
 refine Wc.start (by conv => lhs; simp) ?_
 refine Wc.se (by conv => lhs; simp) ?_
 apply Wc.seq
 obtain ⟨v_1, h2, h⟩ := bind_some h
 obtain ⟨ga2, gb2, gc2⟩ := ix_some h2
 have gn2 := ix_ne h2
 have gd2 := arr_at (E := eAtom) (b := false) gc2
 simp at gd2
 refine Wc.evs (by conv => lhs; simp [ga2, gb2, gn2, gd2]) ?_
 obtain ⟨o3, h4, h⟩ := bind_some h
 refine Wo.cl rfl (by (conv => lhs; simp [ga2, gb2, gn2, gd2]) <;> rfl) (r119 h4) (by simp) (by (conv => lhs; simp [ga2, gb2, gn2, gd2]) <;> rfl) (by (conv => lhs; simp [ga2, gb2, gn2, gd2]) <;> rfl) ?_
 refine Wo.evs (by conv => lhs; simp [ga2, gb2, gn2, gd2]) ?_
 refine Wo.gh (vle_co (s := 25) (t1 := (osl (eL eI) false ([free, o3]))) rfl (by simp) (TLe.own (show TLes _ [(ssl eI free), (ssl eI o3)] from (TLes.cons (TLe.refl _) (TLes.cons (TLe.refl _) (TLes.refl _)))) rfl) (by conv => lhs; simp)) ?_
 obtain ⟨o5, h6, h⟩ := bind_some h
 refine Wo.cl rfl (by (conv => lhs; simp [ga2, gb2, gn2, gd2]) <;> rfl) (r184 h6) (by simp) (by (conv => lhs; simp [ga2, gb2, gn2, gd2]) <;> rfl) (by (conv => lhs; simp [ga2, gb2, gn2, gd2]) <;> rfl) ?_
 refine Wo.gh (vle_fz (s := 26) rfl (by simp) (by conv => lhs; simp)) ?_
 obtain ⟨o7, h8, h⟩ := bind_some h
 refine Wo.cl rfl (by (conv => lhs; simp [ga2, gb2, gn2, gd2]) <;> rfl) (r201 h8) (by simp) (by (conv => lhs; simp [ga2, gb2, gn2, gd2]) <;> rfl) (by (conv => lhs; simp [ga2, gb2, gn2, gd2]) <;> rfl) ?_
 refine Wo.en (by conv => lhs; simp [ga2, gb2, gn2, gd2]) ?_
 apply Wc.seq
 refine Wc.evs (by conv => lhs; simp [ga2, gb2, gn2, gd2]) ?_
 obtain ⟨o9, h10, h⟩ := bind_some h
 refine Wo.cl rfl (by (conv => lhs; simp [ga2, gb2, gn2, gd2]) <;> rfl) (r120 h10) (by simp) (by (conv => lhs; simp [ga2, gb2, gn2, gd2]) <;> rfl) (by (conv => lhs; simp [ga2, gb2, gn2, gd2]) <;> rfl) ?_
 refine Wo.evs (by conv => lhs; simp [ga2, gb2, gn2, gd2]) ?_
 obtain ⟨o11, h12, h⟩ := bind_some h
 refine Wo.cl rfl (by (conv => lhs; simp [ga2, gb2, gn2, gd2]) <;> rfl) (r141 h12) (by simp) (by (conv => lhs; simp [ga2, gb2, gn2, gd2]) <;> rfl) (by (conv => lhs; simp [ga2, gb2, gn2, gd2]) <;> rfl) ?_
 refine Wo.evs (by conv => lhs; simp [ga2, gb2, gn2, gd2]) ?_
 refine Wo.gh (vle_fz (s := 10) rfl (by simp) (by conv => lhs; simp)) ?_
 apply Wo.nil
 apply Wc.block
 obtain ⟨w35, h36, h⟩ := bind_some h
 refine Wc.start (V1 := [(1, .v (ssl eAtom atoms)), (9, .v (ssl eI o7)), (10, .v (ssl eI o11))]) (by first | rfl | simp [ga2, gb2, gn2, gd2]) ?_
 refine Wc.mono (r190_0 _ _ h36) ?_
 generalize w35 = x_37 at *
 rintro ex V ⟨rfl, rfl⟩
 try dsimp only at h
 refine res_of (.inr rfl) ?_
 cases h
 exact ⟨_, _, _, by conv => lhs; simp, by (conv => lhs; simp) <;> rfl, by first | rfl | simp [ga2, gb2, gn2, gd2]⟩
theorem r170 {relations : (List Relation)} {atoms : (List Atom)} {free : (List Int)} {from3 : Int} {to : Int} {r : Bool} (h : f170 relations atoms free from3 to = some r) : VJx cx (.ca 170 [(ssl eRelation relations), (ssl eAtom atoms), (ssl eI free), (.int .i64 from3), (.int .i64 to)] (.bool r) []) := by
 unfold f170 at h
 refine ca_of rfl rfl (by decide) rfl ?_
 refine Wc.start (by conv => lhs; simp) ?_
 refine Wc.se (by conv => lhs; simp) ?_
 apply Wc.seq
 obtain ⟨v_1, h2, h⟩ := bind_some h
 obtain ⟨ga2, gb2, gc2⟩ := ix_some h2
 have gn2 := ix_ne h2
 have gd2 := arr_at (E := eAtom) (b := false) gc2
 simp at gd2
 refine Wc.evs (by conv => lhs; simp [ga2, gb2, gn2, gd2]) ?_
 obtain ⟨o3, h4, h⟩ := bind_some h
 refine Wo.cl rfl (by (conv => lhs; simp [ga2, gb2, gn2, gd2]) <;> rfl) (r120 h4) (by simp) (by (conv => lhs; simp [ga2, gb2, gn2, gd2]) <;> rfl) (by (conv => lhs; simp [ga2, gb2, gn2, gd2]) <;> rfl) ?_
 refine Wo.en (by conv => lhs; simp [ga2, gb2, gn2, gd2]) ?_
 apply Wc.seq
 refine Wc.evk 4 (by conv => lhs; simp) ?_
 obtain ⟨w6, h7, h⟩ := bind_some h
 refine Wo.mono (Q := fun V => V = [(10, .v (.bool w6))]) ?_ ?_
 ·by_cases knh7 : from3 ≠ to
  ·rw [if_pos knh7] at h7
   refine Wo.gh (vle_co (s := 20) (t1 := .bool true) rfl (by simp) (tle_bool (by simpa using knh7)) (by conv => lhs; simp)) ?_
   refine Wo.evs (by conv => lhs; simp) ?_
   obtain ⟨o8, h9, h7⟩ := bind_some h7
   refine Wo.call (by simp) rfl (by (conv => lhs; simp) <;> rfl) (r190 h9) (by simp) (by simp) (by (conv => lhs; simp) <;> rfl) (by (conv => lhs; simp) <;> rfl) ?_
   obtain ⟨o10, h11, h7⟩ := bind_some h7
   refine Wo.call (by simp) rfl (by (conv => lhs; simp) <;> rfl) (r141 h11) (by simp) (by simp) (by (conv => lhs; simp) <;> rfl) (by (conv => lhs; simp) <;> rfl) ?_
   refine Wo.en (by conv => lhs; simp) ?_
   cases h7
   first | rfl | simp
  ·rw [if_neg knh7] at h7
   refine Wo.gh (vle_co (s := 20) (t1 := .bool false) rfl (by simp) (tle_bool (by simpa using knh7)) (by conv => lhs; simp)) ?_
   refine Wo.en (by conv => lhs; simp) ?_
   cases h7
   first | rfl | simp
 ·rintro V rfl
  generalize w6 = x_5 at *
  try dsimp only at h
  refine Wc.ret (res_of (.inr rfl) ?_)
  cases h
  exact ⟨_, _, _, by conv => lhs; simp, by (conv => lhs; simp) <;> rfl, by first | rfl | simp⟩
theorem r128 {relations : (List Relation)} {query : Query} {from2 : Int} {to : Int} {r : Bool} (h : f128 relations query from2 to = some r) : VJx cx (.ca 128 [(ssl eRelation relations), (.agg [(.int .i64 query.VariableCount), (ssl eAtom query.Atoms), (ssl eI query.Free)]), (.int .i64 from2), (.int .i64 to)] (.bool r) []) := by
 unfold f128 at h
 refine ca_of rfl rfl (by decide) rfl ?_
 refine Wc.start (by conv => lhs; simp) ?_
 refine Wc.se (by conv => lhs; simp) ?_
 refine Wc.se (by conv => lhs; simp) ?_
 apply Wc.seq
 refine Wc.evs (by conv => lhs; simp) ?_
 obtain ⟨o1, h2, h⟩ := bind_some h
 refine Wo.cl rfl (by (conv => lhs; simp) <;> rfl) (r127 h2) (by simp) (by (conv => lhs; simp) <;> rfl) (by (conv => lhs; simp) <;> rfl) ?_
 refine Wo.evk 1 (by conv => lhs; simp) ?_
 obtain ⟨w4, h5, h⟩ := bind_some h
 refine Wo.mono (Q := fun V => V = [(8, .v (.bool w4))]) ?_ ?_
 ·by_cases knh5 : o1 = true
  ·rw [if_pos knh5] at h5
   refine Wo.gh (vle_co (s := 17) (t1 := .bool true) rfl (by simp) (tle_bool (by simpa using knh5)) (by conv => lhs; simp)) ?_
   refine Wo.evs (by conv => lhs; simp) ?_
   obtain ⟨o6, h7, h5⟩ := bind_some h5
   refine Wo.call (by simp) rfl (by (conv => lhs; simp) <;> rfl) (r87 h7) (by simp) (by simp) (by (conv => lhs; simp) <;> rfl) (by (conv => lhs; simp) <;> rfl) ?_
   refine Wo.evk 2 (by conv => lhs; simp) ?_
   obtain ⟨w9, h10, h5⟩ := bind_some h5
   refine Wo.mono (Q := fun V => V = [(8, .v (.bool w9))]) ?_ ?_
   ·by_cases knh10 : o6 = true
    ·rw [if_pos knh10] at h10
     refine Wo.gh (vle_co (s := 22) (t1 := .bool true) rfl (by simp) (tle_bool (by simpa using knh10)) (by conv => lhs; simp)) ?_
     refine Wo.evs (by conv => lhs; simp) ?_
     obtain ⟨o11, h12, h10⟩ := bind_some h10
     refine Wo.call (by simp) rfl (by (conv => lhs; simp) <;> rfl) (r87 h12) (by simp) (by simp) (by (conv => lhs; simp) <;> rfl) (by (conv => lhs; simp) <;> rfl) ?_
     refine Wo.evk 2 (by conv => lhs; simp) ?_
     obtain ⟨w14, h15, h10⟩ := bind_some h10
     refine Wo.mono (Q := fun V => V = [(8, .v (.bool w14))]) ?_ ?_
     ·by_cases knh15 : o11 = true
      ·rw [if_pos knh15] at h15
       refine Wo.gh (vle_co (s := 27) (t1 := .bool true) rfl (by simp) (tle_bool (by simpa using knh15)) (by conv => lhs; simp)) ?_
       refine Wo.evs (by conv => lhs; simp) ?_
       obtain ⟨o16, h17, h15⟩ := bind_some h15
       refine Wo.call (by simp) rfl (by (conv => lhs; simp) <;> rfl) (r170 h17) (by simp) (by simp) (by (conv => lhs; simp) <;> rfl) (by (conv => lhs; simp) <;> rfl) ?_
       refine Wo.en (by conv => lhs; simp) ?_
       cases h15
       first | rfl | simp
      ·rw [if_neg knh15] at h15
       refine Wo.gh (vle_co (s := 27) (t1 := .bool false) rfl (by simp) (tle_bool (by simpa using knh15)) (by conv => lhs; simp)) ?_
       refine Wo.en (by conv => lhs; simp) ?_
       cases h15
       first | rfl | simp
     ·rintro V rfl
      generalize w14 = x_13 at *
      try dsimp only at h10
      cases h10
      first | rfl | simp
    ·rw [if_neg knh10] at h10
     refine Wo.gh (vle_co (s := 22) (t1 := .bool false) rfl (by simp) (tle_bool (by simpa using knh10)) (by conv => lhs; simp)) ?_
     refine Wo.en (by conv => lhs; simp) ?_
     cases h10
     first | rfl | simp
   ·rintro V rfl
    generalize w9 = x_8 at *
    try dsimp only at h5
    cases h5
    first | rfl | simp
  ·rw [if_neg knh5] at h5
   refine Wo.gh (vle_co (s := 17) (t1 := .bool false) rfl (by simp) (tle_bool (by simpa using knh5)) (by conv => lhs; simp)) ?_
   refine Wo.en (by conv => lhs; simp) ?_
   cases h5
   first | rfl | simp
 ·rintro V rfl
  generalize w4 = x_3 at *
  try dsimp only at h
  refine Wc.ret (res_of (.inr rfl) ?_)
  cases h
  exact ⟨_, _, _, by conv => lhs; simp, by (conv => lhs; simp) <;> rfl, by first | rfl | simp⟩
theorem r135 {s0 : (List Int)} {r : (List Int)} (h : f135 s0 = some r) : VJx cx (.ca 135 [(ssl eI s0)] (osl eI true r) []) := by
 unfold f135 at h
 refine ca_clone (X := noExt) (fun _ _ _ _ h => h) (fun _ _ _ _ h => h) rfl (by decide) rfl (cl_eq h) ?_
 refine Wc.start (V1 := [(0, .v (ssl eI s0))]) (by simp) ?_
 apply Wc.seq
 obtain ⟨l_1, h2, h⟩ := bind_some h
 have gx2 := appT_arr2 (E := eI) (b := true) (b' := false) (y := false) h2 (by decide) (arr_sc rfl _)
 simp at gx2
 refine Wc.evs (by conv => lhs; simp [gx2]) ?_
 refine Wo.gh (vle_co (s := 2) (t1 := (osl eI true l_1)) rfl (by simp) (tle_own rfl) (by conv => lhs; simp)) ?_
 apply Wo.nil
 refine Wc.ret (res_of (.inr rfl) ?_)
 cases h
 exact ⟨_, _, _, by conv => lhs; simp, by (conv => lhs; simp) <;> rfl, by first | rfl | simp [gx2]⟩
theorem r192_0 {relations : (List Relation)} {query : Query} {skip : Int} {variables : (List Int)} : ∀ zs zo, iter (f192_0 variables) zs = some zo → Wc cx 38 (.loop L192_0) [(0, .v (ssl eRelation relations)), (2, .v (.int .i64 skip)), (5, .v (.ptr true [(.int .i64 query.VariableCount), (ssl eAtom query.Atoms), (ssl eI query.Free)])), (9, .v (osl eI true zs.1)), (19, .v (ssl eI variables)), (20, .v (.int .i64 (variables.length : Int))), (21, .v (.int .i64 zs.2))] ((QX 0 (fun (y : (List Int)) => [(0, .v (ssl eRelation relations)), (2, .v (.int .i64 skip)), (5, .v (.ptr true [(.int .i64 query.VariableCount), (ssl eAtom query.Atoms), (ssl eI query.Free)])), (9, .v (osl eI true y))])) zo) := by
 refine iter_all ?_
 rintro ⟨given_6, x_7⟩ zo zr h hk hx
 try dsimp only at hk ⊢
 rw [f192_0] at h
 apply Wc.loop
 refine Wc.se (by conv => lhs; simp) ?_
 apply Wc.seq
 by_cases kc8 : x_7 < (variables.length : Int)
 ·rw [if_pos kc8] at h
  refine Wc.condT' (by conv => lhs; simp) (by simpa using kc8) ?_
  refine Wc.sk (by conv => lhs; simp) ?_
  apply Wc.skip
  apply Wc.seq
  apply Wc.block
  apply Wc.seq
  obtain ⟨v_9, h10, h⟩ := bind_some h
  obtain ⟨ga10, gb10, gc10⟩ := ix_some h10
  have gn10 := ix_ne h10
  have gd10 := arr_at (E := eI) (b := false) gc10
  simp at gd10
  refine Wc.en (by conv => lhs; simp [ga10, gb10, gn10, gd10]) ?_
  apply Wc.seq
  refine Wc.evs (by conv => lhs; simp) ?_
  obtain ⟨o11, h12, h⟩ := bind_some h
  refine Wo.cl rfl (by (conv => lhs; simp) <;> rfl) (r87 h12) (by simp) (by (conv => lhs; simp) <;> rfl) (by (conv => lhs; simp) <;> rfl) ?_
  apply Wo.nil
  obtain ⟨w13, h14, h⟩ := bind_some h
  refine Wc.mono (Q := (QN (fun (y : (List Int)) => [(0, .v (ssl eRelation relations)), (2, .v (.int .i64 skip)), (5, .v (.ptr true [(.int .i64 query.VariableCount), (ssl eAtom query.Atoms), (ssl eI query.Free)])), (9, .v (osl eI true y)), (19, .v (ssl eI variables)), (20, .v (.int .i64 (variables.length : Int))), (21, .v (.int .i64 x_7))])) w13) ?_ ?_
  ·skip
   by_cases kc15 : o11 = true
   ·rw [if_pos kc15] at h14
    refine Wc.condT' (by conv => lhs; simp) (by simpa using kc15) ?_
    refine Wc.sk (by conv => lhs; simp) ?_
    obtain ⟨l_16, h17, h14⟩ := bind_some h14
    have gx17 := appT_arr (E := eI) (b := true) (y := true) h17 (by decide)
    simp at gx17
    refine Wc.en (by conv => lhs; simp [gx17]) ?_
    cases h14
    exact ⟨rfl, by first | rfl | simp [gx17]⟩
   ·rw [if_neg kc15] at h14
    refine Wc.condF' (by conv => lhs; simp) (by simpa using kc15) ?_
    refine Wc.sk (by conv => lhs; simp) ?_
    apply Wc.skip
    cases h14
    exact ⟨rfl, by first | rfl | simp⟩
  ·skip
   generalize w13 = given_18 at *
   rintro ex V ⟨rfl, rfl⟩
   try dsimp only at h
   refine Wc.en (by conv => lhs; simp) ?_
   refine Wc.start ?_ (hk _ (Option.some.inj h).symm)
   first | rfl | simp
 ·rw [if_neg kc8] at h
  refine Wc.condF' (by conv => lhs; simp) (by simpa using kc8) ?_
  refine Wc.sk (by conv => lhs; simp) ?_
  apply Wc.exit
  have e0 := hx _ (Option.some.inj h).symm
  subst e0
  exact ⟨rfl, by first | rfl | simp⟩
theorem r192 {relations : (List Relation)} {query : Query} {skip : Int} {variables : (List Int)} {r : (List Int)} (h : f192 relations query skip variables = some r) : VJx cx (.ca 192 [(ssl eRelation relations), (.agg [(.int .i64 query.VariableCount), (ssl eAtom query.Atoms), (ssl eI query.Free)]), (.int .i64 skip), (ssl eI variables)] (ssl eI r) []) := by
 unfold f192 at h
 refine ca_of rfl rfl (by decide) rfl ?_
 refine Wc.start (by conv => lhs; simp) ?_
 refine Wc.se (by conv => lhs; simp) ?_
 apply Wc.seq
 apply Wc.seq
 refine Wc.evs (by conv => lhs; simp) ?_
 obtain ⟨o1, h2, h⟩ := bind_some h
 refine Wo.cl rfl (by (conv => lhs; simp) <;> rfl) (r127 h2) (by simp) (by (conv => lhs; simp) <;> rfl) (by (conv => lhs; simp) <;> rfl) ?_
 refine Wo.en (by conv => lhs; simp) ?_
 by_cases kc3 : ¬ (o1 = true)
 ·rw [if_pos kc3] at h
  refine Wc.condT' (by conv => lhs; simp) (by simpa using kc3) ?_
  refine Wc.sk (by conv => lhs; simp) ?_
  apply Wc.seq
  refine Wc.evs (by conv => lhs; simp) ?_
  refine Wo.gh (vle_co (s := 8) (t1 := (osl eI true ([]))) rfl (by simp) (TLe.nil rfl (by decide)) (by conv => lhs; simp)) ?_
  apply Wo.nil
  refine Wc.gh (vle_fz (s := 8) rfl (by simp) (by conv => lhs; simp)) ?_
  refine Wc.ret (res_of (.inr rfl) ?_)
  cases h
  exact ⟨_, _, _, by conv => lhs; simp, by (conv => lhs; simp) <;> rfl, by first | rfl | simp⟩
 ·rw [if_neg kc3] at h
  refine Wc.condF' (by conv => lhs; simp) (by simpa using kc3) ?_
  refine Wc.sk (by conv => lhs; simp) ?_
  apply Wc.skip
  apply Wc.seq
  refine Wc.evs (by conv => lhs; simp) ?_
  obtain ⟨o4, h5, h⟩ := bind_some h
  refine Wo.cl rfl (by (conv => lhs; simp) <;> rfl) (r135 h5) (by simp) (by (conv => lhs; simp) <;> rfl) (by (conv => lhs; simp) <;> rfl) ?_
  refine Wo.en (by conv => lhs; simp) ?_
  apply Wc.seq
  refine Wc.se (by conv => lhs; simp) ?_
  apply Wc.block
  obtain ⟨w19, h20, h⟩ := bind_some h
  refine Wc.start (V1 := [(0, .v (ssl eRelation relations)), (2, .v (.int .i64 skip)), (5, .v (.ptr true [(.int .i64 query.VariableCount), (ssl eAtom query.Atoms), (ssl eI query.Free)])), (9, .v (osl eI true o4)), (19, .v (ssl eI variables)), (20, .v (.int .i64 (variables.length : Int))), (21, .v (.int .i64 0))]) (by first | rfl | simp) ?_
  refine Wc.mono (r192_0 _ _ h20) ?_
  generalize w19 = given_21 at *
  rintro ex V ⟨rfl, rfl⟩
  try dsimp only at h
  apply Wc.seq
  refine Wc.evs (by conv => lhs; simp) ?_
  refine Wo.gh (vle_fz (s := 36) rfl (by simp) (by conv => lhs; simp)) ?_
  obtain ⟨o22, h23, h⟩ := bind_some h
  refine Wo.cl rfl (by (conv => lhs; simp) <;> rfl) (r201 h23) (by simp) (by (conv => lhs; simp) <;> rfl) (by (conv => lhs; simp) <;> rfl) ?_
  refine Wo.en (by conv => lhs; simp) ?_
  refine Wc.ret (res_of (.inr rfl) ?_)
  cases h
  exact ⟨_, _, _, by conv => lhs; simp, by (conv => lhs; simp) <;> rfl, by first | rfl | simp⟩
theorem r172 {relations : (List Relation)} {query : Query} {from2 : (List Int)} {to : (List Int)} {r : Bool} (h : f172 relations query from2 to = some r) : VJx cx (.ca 172 [(ssl eRelation relations), (.agg [(.int .i64 query.VariableCount), (ssl eAtom query.Atoms), (ssl eI query.Free)]), (ssl eI from2), (ssl eI to)] (.bool r) []) := by
 unfold f172 at h
 refine ca_of rfl rfl (by decide) rfl ?_
 refine Wc.start (by conv => lhs; simp) ?_
 refine Wc.se (by conv => lhs; simp) ?_
 apply Wc.seq
 refine Wc.evs (by conv => lhs; simp) ?_
 obtain ⟨o1, h2, h⟩ := bind_some h
 refine Wo.cl rfl (by (conv => lhs; simp) <;> rfl) (r127 h2) (by simp) (by (conv => lhs; simp) <;> rfl) (by (conv => lhs; simp) <;> rfl) ?_
 refine Wo.evk 1 (by conv => lhs; simp) ?_
 obtain ⟨w4, h5, h⟩ := bind_some h
 refine Wo.mono (Q := fun V => V = [(8, .v (.bool w4))]) ?_ ?_
 ·by_cases knh5 : o1 = true
  ·rw [if_pos knh5] at h5
   refine Wo.gh (vle_co (s := 12) (t1 := .bool true) rfl (by simp) (tle_bool (by simpa using knh5)) (by conv => lhs; simp)) ?_
   refine Wo.evs (by conv => lhs; simp) ?_
   obtain ⟨o6, h7, h5⟩ := bind_some h5
   refine Wo.call (by simp) rfl (by (conv => lhs; simp) <;> rfl) (r192 h7) (by simp) (by simp) (by (conv => lhs; simp) <;> rfl) (by (conv => lhs; simp) <;> rfl) ?_
   obtain ⟨o8, h9, h5⟩ := bind_some h5
   refine Wo.call (by simp) rfl (by (conv => lhs; simp) <;> rfl) (r118 h9) (by simp) (by simp) (by (conv => lhs; simp) <;> rfl) (by (conv => lhs; simp) <;> rfl) ?_
   refine Wo.en (by conv => lhs; simp) ?_
   cases h5
   first | rfl | simp
  ·rw [if_neg knh5] at h5
   refine Wo.gh (vle_co (s := 12) (t1 := .bool false) rfl (by simp) (tle_bool (by simpa using knh5)) (by conv => lhs; simp)) ?_
   refine Wo.en (by conv => lhs; simp) ?_
   cases h5
   first | rfl | simp
 ·rintro V rfl
  generalize w4 = x_3 at *
  try dsimp only at h
  refine Wc.ret (res_of (.inr rfl) ?_)
  cases h
  exact ⟨_, _, _, by conv => lhs; simp, by (conv => lhs; simp) <;> rfl, by first | rfl | simp⟩
theorem r131 {relations : (List Relation)} {query : Query} {from2 : Int} {to : Int} {r : Bool} (h : f131 relations query from2 to = some r) : VJx cx (.ca 131 [(ssl eRelation relations), (.agg [(.int .i64 query.VariableCount), (ssl eAtom query.Atoms), (ssl eI query.Free)]), (.int .i64 from2), (.int .i64 to)] (.bool r) []) := by
 unfold f131 at h
 refine ca_of rfl rfl (by decide) rfl ?_
 refine Wc.start (by conv => lhs; simp) ?_
 refine Wc.se (by conv => lhs; simp) ?_
 apply Wc.seq
 refine Wc.evs (by conv => lhs; simp) ?_
 obtain ⟨o1, h2, h⟩ := bind_some h
 refine Wo.cl rfl (by (conv => lhs; simp) <;> rfl) (r128 h2) (by simp) (by (conv => lhs; simp) <;> rfl) (by (conv => lhs; simp) <;> rfl) ?_
 refine Wo.evk 1 (by conv => lhs; simp) ?_
 obtain ⟨w4, h5, h⟩ := bind_some h
 refine Wo.mono (Q := fun V => V = [(8, .v (.bool w4))]) ?_ ?_
 ·by_cases knh5 : o1 = true
  ·rw [if_pos knh5] at h5
   refine Wo.gh (vle_co (s := 14) (t1 := .bool true) rfl (by simp) (tle_bool (by simpa using knh5)) (by conv => lhs; simp)) ?_
   obtain ⟨v_6, h7, h5⟩ := bind_some h5
   obtain ⟨ga7, gb7, gc7⟩ := ix_some h7
   have gn7 := ix_ne h7
   have gd7 := arr_at (E := eAtom) (b := false) gc7
   simp at gd7
   obtain ⟨v_8, h9, h5⟩ := bind_some h5
   obtain ⟨ga9, gb9, gc9⟩ := ix_some h9
   have gn9 := ix_ne h9
   have gd9 := arr_at (E := eAtom) (b := false) gc9
   simp at gd9
   refine Wo.evs (by conv => lhs; simp [ga7, gb7, gn7, gd7, ga9, gb9, gn9, gd9]) ?_
   obtain ⟨o10, h11, h5⟩ := bind_some h5
   refine Wo.call (by simp [ga7, gb7, gn7, gd7, ga9, gb9, gn9, gd9]) rfl (by (conv => lhs; simp [ga7, gb7, gn7, gd7, ga9, gb9, gn9, gd9]) <;> rfl) (r119 h11) (by simp) (by simp) (by (conv => lhs; simp [ga7, gb7, gn7, gd7, ga9, gb9, gn9, gd9]) <;> rfl) (by (conv => lhs; simp [ga7, gb7, gn7, gd7, ga9, gb9, gn9, gd9]) <;> rfl) ?_
   obtain ⟨o12, h13, h5⟩ := bind_some h5
   refine Wo.call (by simp [ga7, gb7, gn7, gd7, ga9, gb9, gn9, gd9]) rfl (by (conv => lhs; simp [ga7, gb7, gn7, gd7, ga9, gb9, gn9, gd9]) <;> rfl) (r119 h13) (by simp) (by simp) (by (conv => lhs; simp [ga7, gb7, gn7, gd7, ga9, gb9, gn9, gd9]) <;> rfl) (by (conv => lhs; simp [ga7, gb7, gn7, gd7, ga9, gb9, gn9, gd9]) <;> rfl) ?_
   obtain ⟨o14, h15, h5⟩ := bind_some h5
   refine Wo.call (by simp [ga7, gb7, gn7, gd7, ga9, gb9, gn9, gd9]) rfl (by (conv => lhs; simp [ga7, gb7, gn7, gd7, ga9, gb9, gn9, gd9]) <;> rfl) (r172 h15) (by simp) (by simp) (by (conv => lhs; simp [ga7, gb7, gn7, gd7, ga9, gb9, gn9, gd9]) <;> rfl) (by (conv => lhs; simp [ga7, gb7, gn7, gd7, ga9, gb9, gn9, gd9]) <;> rfl) ?_
   refine Wo.en (by conv => lhs; simp [ga7, gb7, gn7, gd7, ga9, gb9, gn9, gd9]) ?_
   cases h5
   first | rfl | simp [ga7, gb7, gn7, gd7, ga9, gb9, gn9, gd9]
  ·rw [if_neg knh5] at h5
   refine Wo.gh (vle_co (s := 14) (t1 := .bool false) rfl (by simp) (tle_bool (by simpa using knh5)) (by conv => lhs; simp)) ?_
   refine Wo.en (by conv => lhs; simp) ?_
   cases h5
   first | rfl | simp
 ·rintro V rfl
  generalize w4 = x_3 at *
  try dsimp only at h
  refine Wc.ret (res_of (.inr rfl) ?_)
  cases h
  exact ⟨_, _, _, by conv => lhs; simp, by (conv => lhs; simp) <;> rfl, by first | rfl | simp⟩
theorem r58_1 {relations : (List Relation)} {query : Query} {to : Int} {v_19 : Int} : ∀ zs zo, iter (f58_1 relations query v_19) zs = some zo → Wc cx 77 (.loop L58_1) [(0, .v (ssl eRelation relations)), (3, .v (.int .i64 to)), (5, .v (.ptr true [(.int .i64 query.VariableCount), (ssl eAtom query.Atoms), (ssl eI query.Free)])), (10, .v (osl eB true zs.1)), (11, .v (.slo 1 (arr eI true zs.2.1))), (12, .v (.int .i64 v_19)), (49, .v (.int .i64 (query.Atoms.length : Int))), (50, .v (.int .i64 zs.2.2))] ((QX 2 (fun (y : (List Bool) × (List Int)) => [(0, .v (ssl eRelation relations)), (3, .v (.int .i64 to)), (5, .v (.ptr true [(.int .i64 query.VariableCount), (ssl eAtom query.Atoms), (ssl eI query.Free)])), (10, .v (osl eB true y.1)), (11, .v (.slo 1 (arr eI true y.2)))])) zo) := by
 intro zs0 zo0 zh0
 refine Wc.postG ?_
 refine iter_run (f := (f58_1 relations query v_19)) (P := fun zs zo => Wc cx 77 (.loop L58_1) [(0, .v (ssl eRelation relations)), (3, .v (.int .i64 to)), (5, .v (.ptr true [(.int .i64 query.VariableCount), (ssl eAtom query.Atoms), (ssl eI query.Free)])), (10, .v (osl eB true zs.1)), (11, .v (.slo 1 (arr eI true zs.2.1))), (12, .v (.int .i64 v_19)), (49, .v (.int .i64 (query.Atoms.length : Int))), (50, .v (.int .i64 zs.2.2))] (fun ex V => ∃ V2, VLe V V2 ∧ (QX 2 (fun (y : (List Bool) × (List Int)) => [(0, .v (ssl eRelation relations)), (3, .v (.int .i64 to)), (5, .v (.ptr true [(.int .i64 query.VariableCount), (ssl eAtom query.Atoms), (ssl eI query.Free)])), (10, .v (osl eB true y.1)), (11, .v (.slo 1 (arr eI true y.2)))])) zo ex V2)) ?_ zh0
 rintro ⟨reached_23, todo_24, x_25⟩ zo zr h hk hx
 try dsimp only at hk ⊢
 rw [f58_1] at h
 apply Wc.loop
 refine Wc.se (by conv => lhs; simp) ?_
 apply Wc.seq
 by_cases kc26 : x_25 < (query.Atoms.length : Int)
 ·rw [if_pos kc26] at h
  refine Wc.condT' (by conv => lhs; simp) (by simpa using kc26) ?_
  refine Wc.sk (by conv => lhs; simp) ?_
  apply Wc.skip
  apply Wc.seq
  apply Wc.block
  refine Wc.se (by conv => lhs; simp) ?_
  apply Wc.seq
  obtain ⟨v_27, h28, h⟩ := bind_some h
  obtain ⟨ga28, gb28, gc28⟩ := ix_some h28
  have gn28 := ix_ne h28
  have gf28 := arr_fit (E := eB) (b := true) (i := x_25.toNat) (l := reached_23) (by omega)
  have gg28_0 := arr_get (E := eB) (b := true) (o := 0) gc28 (by decide)
  simp at gf28 gg28_0
  have gl28 : x_25.toNat < reached_23.length := by omega
  refine Wc.evk 6 (by conv => lhs; simp [-getElem?_pos, List.getElem?_cons_zero, List.getElem?_cons_succ, ga28, gb28, gn28, gf28, gg28_0, gl28]) ?_
  obtain ⟨w30, h31, h⟩ := bind_some h
  refine Wo.monoG (Q := fun V => V = [(0, .v (ssl eRelation relations)), (3, .v (.int .i64 to)), (5, .v (.ptr true [(.int .i64 query.VariableCount), (ssl eAtom query.Atoms), (ssl eI query.Free)])), (10, .v (osl eB true reached_23)), (11, .v (.slo 1 (arr eI true todo_24))), (12, .v (.int .i64 v_19)), (13, .v (.int .i64 x_25)), (49, .v (.int .i64 (query.Atoms.length : Int))), (50, .v (.int .i64 x_25)), (64, .v (.bool w30))]) ?_ ?_
  ·by_cases knh31 : ¬ (v_27 = true)
   ·rw [if_pos knh31] at h31
    refine Wo.gh (vle_co (s := 58) (t1 := .bool true) rfl (by simp) (tle_bool (by simpa using knh31)) (by conv => lhs; simp)) ?_
    refine Wo.evs (by conv => lhs; simp [-getElem?_pos, List.getElem?_cons_zero, List.getElem?_cons_succ, ga28, gb28, gn28, gf28, gg28_0, gl28]) ?_
    obtain ⟨o32, h33, h31⟩ := bind_some h31
    refine Wo.call (by simp [-getElem?_pos, List.getElem?_cons_zero, List.getElem?_cons_succ, ga28, gb28, gn28, gf28, gg28_0, gl28]) rfl (by (conv => lhs; simp [-getElem?_pos, List.getElem?_cons_zero, List.getElem?_cons_succ, ga28, gb28, gn28, gf28, gg28_0, gl28]) <;> rfl) (r128 h33) (by simp) (by simp) (by (conv => lhs; simp [-getElem?_pos, List.getElem?_cons_zero, List.getElem?_cons_succ, ga28, gb28, gn28, gf28, gg28_0, gl28]) <;> rfl) (by (conv => lhs; simp [-getElem?_pos, List.getElem?_cons_zero, List.getElem?_cons_succ, ga28, gb28, gn28, gf28, gg28_0, gl28]) <;> rfl) ?_
    refine Wo.en (by conv => lhs; simp [-getElem?_pos, List.getElem?_cons_zero, List.getElem?_cons_succ, ga28, gb28, gn28, gf28, gg28_0, gl28]) ?_
    cases h31
    refine ⟨_, (VLe.refl _), ?_⟩
    first | rfl | simp [-getElem?_pos, List.getElem?_cons_zero, List.getElem?_cons_succ, ga28, gb28, gn28, gf28, gg28_0, gl28]
   ·rw [if_neg knh31] at h31
    refine Wo.gh (vle_co (s := 58) (t1 := .bool false) rfl (by simp) (tle_bool (by simpa using knh31)) (by conv => lhs; simp)) ?_
    refine Wo.en (by conv => lhs; simp [-getElem?_pos, List.getElem?_cons_zero, List.getElem?_cons_succ, ga28, gb28, gn28, gf28, gg28_0, gl28]) ?_
    cases h31
    refine ⟨_, (VLe.refl _), ?_⟩
    first | rfl | simp [-getElem?_pos, List.getElem?_cons_zero, List.getElem?_cons_succ, ga28, gb28, gn28, gf28, gg28_0, gl28]
  ·rintro V rfl
   generalize w30 = x_29 at *
   try dsimp only at h
   obtain ⟨w34, h35, h⟩ := bind_some h
   refine Wc.monoG (Q := (QN (fun (y : (List Bool) × (List Int)) => [(0, .v (ssl eRelation relations)), (3, .v (.int .i64 to)), (5, .v (.ptr true [(.int .i64 query.VariableCount), (ssl eAtom query.Atoms), (ssl eI query.Free)])), (10, .v (osl eB true y.1)), (11, .v (.slo 1 (arr eI true y.2))), (12, .v (.int .i64 v_19)), (49, .v (.int .i64 (query.Atoms.length : Int))), (50, .v (.int .i64 x_25))])) w34) ?_ ?_
   ·skip
    by_cases kc36 : x_29 = true
    ·rw [if_pos kc36] at h35
     refine Wc.condT' (by conv => lhs; simp) (by simpa using kc36) ?_
     refine Wc.sk (by conv => lhs; simp) ?_
     apply Wc.seq
     have gy37 := lay_set (E := eB) (b := true) (i := x_25.toNat) (l := reached_23) true (by omega)
     simp at gy37
     refine Wc.en (by conv => lhs; simp [-getElem?_pos, List.getElem?_cons_zero, List.getElem?_cons_succ, ga28, gb28, gn28, gf28, gg28_0, gl28, gy37]) ?_
     obtain ⟨l_38, h39, h35⟩ := bind_some h35
     refine Wc.evk 3 (by conv => lhs; simp) ?_
     refine Wo.sem (by simp) (by simp) (by simp) (sem_sappL (E := eI) (b' := false) h39 (by simp) (by decide) rfl (by (conv => lhs; simp) <;> rfl) (by (conv => lhs; simp) <;> rfl)) (by conv => lhs; simp) ?_
     refine Wo.evs (by conv => lhs; simp) ?_
     refine Wo.gh (vle_co (s := 11) (t1 := (osl eI true l_38)) rfl (by simp) (tle_own rfl) (by conv => lhs; simp)) ?_
     apply Wo.nil
     cases h35
     exact ⟨_, (vle_of (vle_pf (s := 11) (t1 := (.slo 1 (arr eI true l_38))) rfl (by simp) (PF.le (TLe.slo rfl)) (by conv => lhs; simp)) (VLe.refl _)), rfl, by first | rfl | simp⟩
    ·rw [if_neg kc36] at h35
     refine Wc.condF' (by conv => lhs; simp) (by simpa using kc36) ?_
     refine Wc.sk (by conv => lhs; simp) ?_
     apply Wc.skip
     cases h35
     exact ⟨_, (VLe.refl _), rfl, by first | rfl | simp [-getElem?_pos, List.getElem?_cons_zero, List.getElem?_cons_succ, ga28, gb28, gn28, gf28, gg28_0, gl28]⟩
   ·skip
    obtain ⟨reached_40, todo_41⟩ := w34
    rintro ex V ⟨rfl, rfl⟩
    dsimp only at h ⊢
    refine Wc.en (by conv => lhs; simp) ?_
    refine Wc.start ?_ (hk _ (Option.some.inj h).symm)
    first | rfl | simp
 ·rw [if_neg kc26] at h
  refine Wc.condF' (by conv => lhs; simp) (by simpa using kc26) ?_
  refine Wc.sk (by conv => lhs; simp) ?_
  apply Wc.exit
  have e0 := hx _ (Option.some.inj h).symm
  subst e0
  exact ⟨_, (VLe.refl _), rfl, by first | rfl | simp⟩
theorem r58_0 {relations : (List Relation)} {query : Query} {to : Int} : ∀ zs zo, iter (f58_0 relations query) zs = some zo → Wc cx 77 (.loop L58_0) [(0, .v (ssl eRelation relations)), (3, .v (.int .i64 to)), (5, .v (.ptr true [(.int .i64 query.VariableCount), (ssl eAtom query.Atoms), (ssl eI query.Free)])), (10, .v (osl eB true zs.1)), (11, .v (.slo 1 (arr eI true zs.2)))] ((QX 0 (fun (y : (List Bool)) => [(3, .v (.int .i64 to)), (10, .v (osl eB true y))])) zo) := by
 intro zs0 zo0 zh0
 refine Wc.postG ?_
 refine iter_run (f := (f58_0 relations query)) (P := fun zs zo => Wc cx 77 (.loop L58_0) [(0, .v (ssl eRelation relations)), (3, .v (.int .i64 to)), (5, .v (.ptr true [(.int .i64 query.VariableCount), (ssl eAtom query.Atoms), (ssl eI query.Free)])), (10, .v (osl eB true zs.1)), (11, .v (.slo 1 (arr eI true zs.2)))] (fun ex V => ∃ V2, VLe V V2 ∧ (QX 0 (fun (y : (List Bool)) => [(3, .v (.int .i64 to)), (10, .v (osl eB true y))])) zo ex V2)) ?_ zh0
 rintro ⟨reached_16, todo_17⟩ zo zr h hk hx
 try dsimp only at hk ⊢
 rw [f58_0] at h
 apply Wc.loop
 apply Wc.seq
 apply Wc.seq
 refine Wc.evk 1 (by conv => lhs; simp) ?_
 refine Wo.sem (by simp) (by simp) (by simp) (sem_slenL (E := eI) (l := todo_17) (by (conv => lhs; simp) <;> rfl)) (by conv => lhs; simp) ?_
 refine Wo.en (by conv => lhs; simp) ?_
 by_cases kc18 : (todo_17.length : Int) > 0
 ·rw [if_pos kc18] at h
  refine Wc.condT' (by conv => lhs; simp) (by simpa using kc18) ?_
  refine Wc.sk (by conv => lhs; simp) ?_
  apply Wc.skip
  apply Wc.block
  apply Wc.seq
  refine Wc.reg ?_
  obtain ⟨v_19, h20, h⟩ := bind_some h
  obtain ⟨ga20, gb20, gc20⟩ := ix_some h20
  have gn20 := ix_ne h20
  have gd20 := arr_at (E := eI) (b := false) gc20
  simp at gd20
  have gk20 : 0 < todo_17.length := by omega
  refine Wo.lend (k := 3) (s := 11) [5] [(0, .v (ssl eRelation relations)), (3, .v (.int .i64 to)), (5, .v (.ptr true [(.int .i64 query.VariableCount), (ssl eAtom query.Atoms), (ssl eI query.Free)])), (10, .v (osl eB true reached_16)), (11, .v (.slo 1 (arr eI true todo_17))), (44, .v (.int .i64 v_19))] rfl (by simp) (by simp) ?_ ?_
  ·skip
   refine Wo.en (by conv => lhs; simp [gb20, gn20, gd20, gk20]) ?_
   simp
  refine Wo.en (by conv => lhs; simp [gb20, gn20, gd20, gk20]) ?_
  apply Wc.seq
  obtain ⟨l_21, h22, h⟩ := bind_some h
  refine Wc.evk 1 (by conv => lhs; simp) ?_
  refine Wo.sem (by simp) (by simp) (by simp) (sem_slideL (E := eI) h22 (by simp) (by (conv => lhs; simp) <;> rfl) (by simp)) (by conv => lhs; simp) ?_
  refine Wo.en (by conv => lhs; simp) ?_
  refine Wc.se (by conv => lhs; simp) ?_
  apply Wc.block
  obtain ⟨w42, h43, h⟩ := bind_some h
  refine Wc.start (V1 := [(0, .v (ssl eRelation relations)), (3, .v (.int .i64 to)), (5, .v (.ptr true [(.int .i64 query.VariableCount), (ssl eAtom query.Atoms), (ssl eI query.Free)])), (10, .v (osl eB true reached_16)), (11, .v (.slo 1 (arr eI true l_21))), (12, .v (.int .i64 v_19)), (49, .v (.int .i64 (query.Atoms.length : Int))), (50, .v (.int .i64 0))]) (by first | rfl | simp) ?_
  refine Wc.mono (r58_1 _ _ h43) ?_
  obtain ⟨reached_44, todo_45⟩ := w42
  rintro ex V ⟨rfl, rfl⟩
  dsimp only at h ⊢
  refine Wc.start ?_ (hk _ (Option.some.inj h).symm)
  first | rfl | simp
 ·rw [if_neg kc18] at h
  refine Wc.condF' (by conv => lhs; simp) (by simpa using kc18) ?_
  refine Wc.sk (by conv => lhs; simp) ?_
  apply Wc.exit
  have e0 := hx _ (Option.some.inj h).symm
  subst e0
  exact ⟨_, (VLe.refl _), rfl, by first | rfl | simp⟩
theorem r58 {relations : (List Relation)} {query : Query} {from2 : Int} {to : Int} {r : Bool} (h : f58 relations query from2 to = some r) : VJx cx (.ca 58 [(ssl eRelation relations), (.agg [(.int .i64 query.VariableCount), (ssl eAtom query.Atoms), (ssl eI query.Free)]), (.int .i64 from2), (.int .i64 to)] (.bool r) []) := by
 unfold f58 at h
 refine ca_of rfl rfl (by decide) rfl ?_
 refine Wc.postG ?_
 refine Wc.start (V1 := [(0, .v (ssl eRelation relations)), (1, .v (.agg [(.int .i64 query.VariableCount), (ssl eAtom query.Atoms), (ssl eI query.Free)])), (2, .v (.int .i64 from2)), (3, .v (.int .i64 to))]) (by simp) ?_
 refine Wc.se (by conv => lhs; simp) ?_
 refine Wc.se (by conv => lhs; simp) ?_
 apply Wc.seq
 apply Wc.seq
 refine Wc.evs (by conv => lhs; simp) ?_
 obtain ⟨o1, h2, h⟩ := bind_some h
 refine Wo.cl rfl (by (conv => lhs; simp) <;> rfl) (r127 h2) (by simp) (by (conv => lhs; simp) <;> rfl) (by (conv => lhs; simp) <;> rfl) ?_
 refine Wo.evk 2 (by conv => lhs; simp) ?_
 obtain ⟨w4, h5, h⟩ := bind_some h
 refine Wo.monoG (Q := fun V => V = [(0, .v (ssl eRelation relations)), (2, .v (.int .i64 from2)), (3, .v (.int .i64 to)), (5, .v (.ptr true [(.int .i64 query.VariableCount), (ssl eAtom query.Atoms), (ssl eI query.Free)])), (9, .v (.int .i64 (w64 ((query.Atoms.length : Int) - 1)))), (33, .v (.bool w4))]) ?_ ?_
 ·by_cases knh5 : ¬ (o1 = true)
  ·rw [if_pos knh5] at h5
   refine Wo.gh (vle_co (s := 22) (t1 := .bool true) rfl (by simp) (tle_bool (by simpa using knh5)) (by conv => lhs; simp)) ?_
   refine Wo.en (by conv => lhs; simp) ?_
   cases h5
   refine ⟨_, (VLe.refl _), ?_⟩
   first | rfl | simp
  ·rw [if_neg knh5] at h5
   refine Wo.gh (vle_co (s := 22) (t1 := .bool false) rfl (by simp) (tle_bool (by simpa using knh5)) (by conv => lhs; simp)) ?_
   refine Wo.evs (by conv => lhs; simp) ?_
   obtain ⟨o6, h7, h5⟩ := bind_some h5
   refine Wo.call (by simp) rfl (by (conv => lhs; simp) <;> rfl) (r87 h7) (by simp) (by simp) (by (conv => lhs; simp) <;> rfl) (by (conv => lhs; simp) <;> rfl) ?_
   refine Wo.evk 3 (by conv => lhs; simp) ?_
   obtain ⟨w9, h10, h5⟩ := bind_some h5
   refine Wo.monoG (Q := fun V => V = [(0, .v (ssl eRelation relations)), (2, .v (.int .i64 from2)), (3, .v (.int .i64 to)), (5, .v (.ptr true [(.int .i64 query.VariableCount), (ssl eAtom query.Atoms), (ssl eI query.Free)])), (9, .v (.int .i64 (w64 ((query.Atoms.length : Int) - 1)))), (33, .v (.bool w9))]) ?_ ?_
   ·by_cases knh10 : ¬ (o6 = true)
    ·rw [if_pos knh10] at h10
     refine Wo.gh (vle_co (s := 28) (t1 := .bool true) rfl (by simp) (tle_bool (by simpa using knh10)) (by conv => lhs; simp)) ?_
     refine Wo.en (by conv => lhs; simp) ?_
     cases h10
     refine ⟨_, (VLe.refl _), ?_⟩
     first | rfl | simp
    ·rw [if_neg knh10] at h10
     refine Wo.gh (vle_co (s := 28) (t1 := .bool false) rfl (by simp) (tle_bool (by simpa using knh10)) (by conv => lhs; simp)) ?_
     refine Wo.evs (by conv => lhs; simp) ?_
     obtain ⟨o11, h12, h10⟩ := bind_some h10
     refine Wo.call (by simp) rfl (by (conv => lhs; simp) <;> rfl) (r87 h12) (by simp) (by simp) (by (conv => lhs; simp) <;> rfl) (by (conv => lhs; simp) <;> rfl) ?_
     refine Wo.en (by conv => lhs; simp) ?_
     cases h10
     refine ⟨_, (VLe.refl _), ?_⟩
     first | rfl | simp
   ·rintro V rfl
    generalize w9 = x_8 at *
    try dsimp only at h5
    cases h5
    refine ⟨_, (VLe.refl _), ?_⟩
    first | rfl | simp
 ·rintro V rfl
  generalize w4 = x_3 at *
  try dsimp only at h
  by_cases kc13 : x_3 = true
  ·rw [if_pos kc13] at h
   refine Wc.condT' (by conv => lhs; simp) (by simpa using kc13) ?_
   refine Wc.sk (by conv => lhs; simp) ?_
   refine Wc.se (by conv => lhs; simp) ?_
   refine Wc.ret ⟨_, (VLe.refl _), res_of (.inr rfl) ?_⟩
   cases h
   exact ⟨_, _, _, by conv => lhs; simp, by (conv => lhs; simp) <;> rfl, by first | rfl | simp⟩
  ·rw [if_neg kc13] at h
   refine Wc.condF' (by conv => lhs; simp) (by simpa using kc13) ?_
   refine Wc.sk (by conv => lhs; simp) ?_
   apply Wc.skip
   apply Wc.seq
   obtain ⟨l_14, h15, h⟩ := bind_some h
   obtain ⟨gm15, gp15, gq15, gr15⟩ := mkl_some h15
   have gx15 := rep_arr (E := eB) (b := true) gr15
   simp at gx15
   rw [Int.one_mul] at gp15
   refine Wc.evs (by conv => lhs; simp [gm15, gp15, gq15, gx15]) ?_
   refine Wo.gh (vle_co (s := 10) (t1 := (osl eB true l_14)) rfl (by simp) (tle_own rfl) (by conv => lhs; simp)) ?_
   apply Wo.nil
   apply Wc.seq
   refine Wc.evs (by conv => lhs; simp) ?_
   refine Wo.gh (vle_co (s := 11) (t1 := (osl eI true ([from2]))) rfl (by simp) (TLe.own (show TLes _ [(.int .i64 from2)] from (TLes.cons (TLe.refl _) (TLes.refl _))) rfl) (by conv => lhs; simp)) ?_
   apply Wo.nil
   apply Wc.seq
   apply Wc.block
   refine Wc.gh (vle_pf (s := 11) (t1 := (.slo 1 (arr eI true ([from2])))) rfl (by simp) (PF.le (TLe.slo rfl)) (by conv => lhs; simp)) ?_
   obtain ⟨w46, h47, h⟩ := bind_some h
   refine Wc.start (V1 := [(0, .v (ssl eRelation relations)), (3, .v (.int .i64 to)), (5, .v (.ptr true [(.int .i64 query.VariableCount), (ssl eAtom query.Atoms), (ssl eI query.Free)])), (10, .v (osl eB true l_14)), (11, .v (.slo 1 (arr eI true ([from2]))))]) (by first | rfl | simp) ?_
   refine Wc.mono (r58_0 _ _ h47) ?_
   generalize w46 = reached_48 at *
   rintro ex V ⟨rfl, rfl⟩
   try dsimp only at h
   apply Wc.seq
   obtain ⟨v_49, h50, h⟩ := bind_some h
   obtain ⟨ga50, gb50, gc50⟩ := ix_some h50
   have gn50 := ix_ne h50
   have gf50 := arr_fit (E := eB) (b := true) (i := to.toNat) (l := reached_48) (by omega)
   have gg50_0 := arr_get (E := eB) (b := true) (o := 0) gc50 (by decide)
   simp at gf50 gg50_0
   have gl50 : to.toNat < reached_48.length := by omega
   refine Wc.en (by conv => lhs; simp [-getElem?_pos, List.getElem?_cons_zero, List.getElem?_cons_succ, ga50, gb50, gn50, gf50, gg50_0, gl50]) ?_
   refine Wc.ret ⟨_, (VLe.refl _), res_of (.inr rfl) ?_⟩
   cases h
   exact ⟨_, _, _, by conv => lhs; simp, by (conv => lhs; simp) <;> rfl, by first | rfl | simp [-getElem?_pos, List.getElem?_cons_zero, List.getElem?_cons_succ, ga50, gb50, gn50, gf50, gg50_0, gl50]⟩
theorem r61_0 {relations : (List Relation)} {query : Query} : ∀ zs zo, iter (f61_0 relations query) zs = some zo → Wc cx 18 (.loop L61_0) [(0, .v (ssl eRelation relations)), (3, .v (.ptr true [(.int .i64 query.VariableCount), (ssl eAtom query.Atoms), (ssl eI query.Free)])), (8, .v (.int .i64 (query.Atoms.length : Int))), (9, .v (.int .i64 zs))] ((QO (QX 0 (fun (y : Unit) => [])) (QR (fun (y : Bool) => [(4, .v (.bool y))]))) zo) := by
 refine iter_all ?_
 rintro x_1 zo zr h hk hx
 try dsimp only at hk ⊢
 rw [f61_0] at h
 apply Wc.loop
 refine Wc.se (by conv => lhs; simp) ?_
 apply Wc.seq
 by_cases kc2 : x_1 < (query.Atoms.length : Int)
 ·rw [if_pos kc2] at h
  refine Wc.condT' (by conv => lhs; simp) (by simpa using kc2) ?_
  refine Wc.sk (by conv => lhs; simp) ?_
  apply Wc.skip
  apply Wc.seq
  apply Wc.block
  refine Wc.se (by conv => lhs; simp) ?_
  apply Wc.seq
  refine Wc.evs (by conv => lhs; simp) ?_
  obtain ⟨o3, h4, h⟩ := bind_some h
  refine Wo.cl rfl (by (conv => lhs; simp) <;> rfl) (r58 h4) (by simp) (by (conv => lhs; simp) <;> rfl) (by (conv => lhs; simp) <;> rfl) ?_
  apply Wo.nil
  by_cases kc5 : o3 = true
  ·rw [if_pos kc5] at h
   refine Wc.condT' (by conv => lhs; simp) (by simpa using kc5) ?_
   refine Wc.sk (by conv => lhs; simp) ?_
   refine Wc.se (by conv => lhs; simp) ?_
   refine Wc.ret ?_
   have e0 := hx _ (Option.some.inj h).symm
   subst e0
   exact ⟨rfl, by first | rfl | simp⟩
  ·rw [if_neg kc5] at h
   refine Wc.condF' (by conv => lhs; simp) (by simpa using kc5) ?_
   refine Wc.sk (by conv => lhs; simp) ?_
   apply Wc.skip
   refine Wc.en (by conv => lhs; simp) ?_
   refine Wc.start ?_ (hk _ (Option.some.inj h).symm)
   first | rfl | simp
 ·rw [if_neg kc2] at h
  refine Wc.condF' (by conv => lhs; simp) (by simpa using kc2) ?_
  refine Wc.sk (by conv => lhs; simp) ?_
  apply Wc.exit
  have e0 := hx _ (Option.some.inj h).symm
  subst e0
  exact ⟨rfl, by first | rfl | simp⟩
theorem r61 {relations : (List Relation)} {query : Query} {r : Bool} (h : f61 relations query = some r) : VJx cx (.ca 61 [(ssl eRelation relations), (.agg [(.int .i64 query.VariableCount), (ssl eAtom query.Atoms), (ssl eI query.Free)])] (.bool r) []) := by
 unfold f61 at h
 refine ca_of rfl rfl (by decide) rfl ?_
 refine Wc.start (by conv => lhs; simp) ?_
 refine Wc.se (by conv => lhs; simp) ?_
 apply Wc.seq
 refine Wc.se (by conv => lhs; simp) ?_
 apply Wc.block
 obtain ⟨w6, h7, h⟩ := bind_some h
 refine Wc.start (V1 := [(0, .v (ssl eRelation relations)), (3, .v (.ptr true [(.int .i64 query.VariableCount), (ssl eAtom query.Atoms), (ssl eI query.Free)])), (8, .v (.int .i64 (query.Atoms.length : Int))), (9, .v (.int .i64 0))]) (by first | rfl | simp) ?_
 refine Wc.mono (r61_0 _ _ h7) ?_
 rcases w6 with ⟨⟩ | x_8
 ·rintro ex V ⟨rfl, rfl⟩
  try dsimp only at h
  refine Wc.se (by conv => lhs; simp) ?_
  refine Wc.ret (res_of (.inr rfl) ?_)
  cases h
  exact ⟨_, _, _, by conv => lhs; simp, by (conv => lhs; simp) <;> rfl, by first | rfl | simp⟩
 ·rintro ex V ⟨rfl, rfl⟩
  try dsimp only at h
  refine res_of (.inr rfl) ?_
  cases h
  exact ⟨_, _, _, by conv => lhs; simp, by (conv => lhs; simp) <;> rfl, by first | rfl | simp⟩
theorem r63_1 {relations : (List Relation)} {query : Query} {x_4 : Int} : ∀ zs zo, iter (f63_1 relations query x_4) zs = some zo → Wc cx 48 (.loop L63_1) [(0, .v (ssl eRelation relations)), (3, .v (.ptr true [(.int .i64 query.VariableCount), (ssl eAtom query.Atoms), (ssl eI query.Free)])), (5, .v (.int .i64 x_4)), (13, .v (.int .i64 (query.Atoms.length : Int))), (14, .v (.int .i64 x_4)), (19, .v (.int .i64 (query.Atoms.length : Int))), (20, .v (.int .i64 zs))] ((QO (QX 2 (fun (y : Unit) => [(0, .v (ssl eRelation relations)), (3, .v (.ptr true [(.int .i64 query.VariableCount), (ssl eAtom query.Atoms), (ssl eI query.Free)])), (13, .v (.int .i64 (query.Atoms.length : Int))), (14, .v (.int .i64 x_4))])) (QR (fun (y : Int) => [(4, .v (.int .i64 y))]))) zo) := by
 refine iter_all ?_
 rintro x_6 zo zr h hk hx
 try dsimp only at hk ⊢
 rw [f63_1] at h
 apply Wc.loop
 refine Wc.se (by conv => lhs; simp) ?_
 apply Wc.seq
 by_cases kc7 : x_6 < (query.Atoms.length : Int)
 ·rw [if_pos kc7] at h
  refine Wc.condT' (by conv => lhs; simp) (by simpa using kc7) ?_
  refine Wc.sk (by conv => lhs; simp) ?_
  apply Wc.skip
  apply Wc.seq
  apply Wc.block
  refine Wc.se (by conv => lhs; simp) ?_
  apply Wc.seq
  refine Wc.evs (by conv => lhs; simp) ?_
  obtain ⟨o8, h9, h⟩ := bind_some h
  refine Wo.cl rfl (by (conv => lhs; simp) <;> rfl) (r128 h9) (by simp) (by (conv => lhs; simp) <;> rfl) (by (conv => lhs; simp) <;> rfl) ?_
  refine Wo.evk 1 (by conv => lhs; simp) ?_
  obtain ⟨w11, h12, h⟩ := bind_some h
  refine Wo.mono (Q := fun V => V = [(0, .v (ssl eRelation relations)), (3, .v (.ptr true [(.int .i64 query.VariableCount), (ssl eAtom query.Atoms), (ssl eI query.Free)])), (5, .v (.int .i64 x_4)), (13, .v (.int .i64 (query.Atoms.length : Int))), (14, .v (.int .i64 x_4)), (19, .v (.int .i64 (query.Atoms.length : Int))), (20, .v (.int .i64 x_6)), (42, .v (.bool w11))]) ?_ ?_
  ·by_cases knh12 : o8 = true
   ·rw [if_pos knh12] at h12
    refine Wo.gh (vle_co (s := 28) (t1 := .bool true) rfl (by simp) (tle_bool (by simpa using knh12)) (by conv => lhs; simp)) ?_
    refine Wo.evs (by conv => lhs; simp) ?_
    obtain ⟨o13, h14, h12⟩ := bind_some h12
    refine Wo.call (by simp) rfl (by (conv => lhs; simp) <;> rfl) (r131 h14) (by simp) (by simp) (by (conv => lhs; simp) <;> rfl) (by (conv => lhs; simp) <;> rfl) ?_
    refine Wo.evk 3 (by conv => lhs; simp) ?_
    obtain ⟨w16, h17, h12⟩ := bind_some h12
    refine Wo.mono (Q := fun V => V = [(0, .v (ssl eRelation relations)), (3, .v (.ptr true [(.int .i64 query.VariableCount), (ssl eAtom query.Atoms), (ssl eI query.Free)])), (5, .v (.int .i64 x_4)), (13, .v (.int .i64 (query.Atoms.length : Int))), (14, .v (.int .i64 x_4)), (19, .v (.int .i64 (query.Atoms.length : Int))), (20, .v (.int .i64 x_6)), (42, .v (.bool w16))]) ?_ ?_
    ·by_cases knh17 : ¬ (o13 = true)
     ·rw [if_pos knh17] at h17
      refine Wo.gh (vle_co (s := 36) (t1 := .bool true) rfl (by simp) (tle_bool (by simpa using knh17)) (by conv => lhs; simp)) ?_
      refine Wo.evs (by conv => lhs; simp) ?_
      obtain ⟨o18, h19, h17⟩ := bind_some h17
      refine Wo.call (by simp) rfl (by (conv => lhs; simp) <;> rfl) (r58 h19) (by simp) (by simp) (by (conv => lhs; simp) <;> rfl) (by (conv => lhs; simp) <;> rfl) ?_
      refine Wo.en (by conv => lhs; simp) ?_
      cases h17
      first | rfl | simp
     ·rw [if_neg knh17] at h17
      refine Wo.gh (vle_co (s := 36) (t1 := .bool false) rfl (by simp) (tle_bool (by simpa using knh17)) (by conv => lhs; simp)) ?_
      refine Wo.en (by conv => lhs; simp) ?_
      cases h17
      first | rfl | simp
    ·rintro V rfl
     generalize w16 = x_15 at *
     try dsimp only at h12
     cases h12
     first | rfl | simp
   ·rw [if_neg knh12] at h12
    refine Wo.gh (vle_co (s := 28) (t1 := .bool false) rfl (by simp) (tle_bool (by simpa using knh12)) (by conv => lhs; simp)) ?_
    refine Wo.en (by conv => lhs; simp) ?_
    cases h12
    first | rfl | simp
  ·rintro V rfl
   generalize w11 = x_10 at *
   try dsimp only at h
   by_cases kc20 : x_10 = true
   ·rw [if_pos kc20] at h
    refine Wc.condT' (by conv => lhs; simp) (by simpa using kc20) ?_
    refine Wc.sk (by conv => lhs; simp) ?_
    refine Wc.se (by conv => lhs; simp) ?_
    refine Wc.ret ?_
    have e0 := hx _ (Option.some.inj h).symm
    subst e0
    exact ⟨rfl, by first | rfl | simp⟩
   ·rw [if_neg kc20] at h
    refine Wc.condF' (by conv => lhs; simp) (by simpa using kc20) ?_
    refine Wc.sk (by conv => lhs; simp) ?_
    apply Wc.skip
    refine Wc.en (by conv => lhs; simp) ?_
    refine Wc.start ?_ (hk _ (Option.some.inj h).symm)
    first | rfl | simp
 ·rw [if_neg kc7] at h
  refine Wc.condF' (by conv => lhs; simp) (by simpa using kc7) ?_
  refine Wc.sk (by conv => lhs; simp) ?_
  apply Wc.exit
  have e0 := hx _ (Option.some.inj h).symm
  subst e0
  exact ⟨rfl, by first | rfl | simp⟩
theorem r63_0 {relations : (List Relation)} {query : Query} : ∀ zs zo, iter (f63_0 relations query) zs = some zo → Wc cx 48 (.loop L63_0) [(0, .v (ssl eRelation relations)), (3, .v (.ptr true [(.int .i64 query.VariableCount), (ssl eAtom query.Atoms), (ssl eI query.Free)])), (13, .v (.int .i64 (query.Atoms.length : Int))), (14, .v (.int .i64 zs))] ((QO (QX 0 (fun (y : Unit) => [(0, .v (ssl eRelation relations)), (3, .v (.ptr true [(.int .i64 query.VariableCount), (ssl eAtom query.Atoms), (ssl eI query.Free)]))])) (QR (fun (y : Int) => [(4, .v (.int .i64 y))]))) zo) := by
 refine iter_all ?_
 rintro x_4 zo zr h hk hx
 try dsimp only at hk ⊢
 rw [f63_0] at h
 apply Wc.loop
 refine Wc.se (by conv => lhs; simp) ?_
 apply Wc.seq
 by_cases kc5 : x_4 < (query.Atoms.length : Int)
 ·rw [if_pos kc5] at h
  refine Wc.condT' (by conv => lhs; simp) (by simpa using kc5) ?_
  refine Wc.sk (by conv => lhs; simp) ?_
  apply Wc.skip
  apply Wc.seq
  apply Wc.block
  refine Wc.se (by conv => lhs; simp) ?_
  refine Wc.se (by conv => lhs; simp) ?_
  apply Wc.block
  obtain ⟨w21, h22, h⟩ := bind_some h
  refine Wc.start (V1 := [(0, .v (ssl eRelation relations)), (3, .v (.ptr true [(.int .i64 query.VariableCount), (ssl eAtom query.Atoms), (ssl eI query.Free)])), (5, .v (.int .i64 x_4)), (13, .v (.int .i64 (query.Atoms.length : Int))), (14, .v (.int .i64 x_4)), (19, .v (.int .i64 (query.Atoms.length : Int))), (20, .v (.int .i64 0))]) (by first | rfl | simp) ?_
  refine Wc.mono (r63_1 _ _ h22) ?_
  rcases w21 with ⟨⟩ | x_23
  ·rintro ex V ⟨rfl, rfl⟩
   try dsimp only at h
   refine Wc.en (by conv => lhs; simp) ?_
   refine Wc.start ?_ (hk _ (Option.some.inj h).symm)
   first | rfl | simp
  ·rintro ex V ⟨rfl, rfl⟩
   try dsimp only at h
   have e0 := hx _ (Option.some.inj h).symm
   subst e0
   exact ⟨rfl, by first | rfl | simp⟩
 ·rw [if_neg kc5] at h
  refine Wc.condF' (by conv => lhs; simp) (by simpa using kc5) ?_
  refine Wc.sk (by conv => lhs; simp) ?_
  apply Wc.exit
  have e0 := hx _ (Option.some.inj h).symm
  subst e0
  exact ⟨rfl, by first | rfl | simp⟩
theorem r63 {relations : (List Relation)} {query : Query} {r : Int} (h : f63 relations query = some r) : VJx cx (.ca 63 [(ssl eRelation relations), (.agg [(.int .i64 query.VariableCount), (ssl eAtom query.Atoms), (ssl eI query.Free)])] (.int .i64 r) []) := by
 unfold f63 at h
 refine ca_of rfl rfl (by decide) rfl ?_
 refine Wc.start (by conv => lhs; simp) ?_
 refine Wc.se (by conv => lhs; simp) ?_
 apply Wc.seq
 apply Wc.seq
 refine Wc.evs (by conv => lhs; simp) ?_
 obtain ⟨o1, h2, h⟩ := bind_some h
 refine Wo.cl rfl (by (conv => lhs; simp) <;> rfl) (r127 h2) (by simp) (by (conv => lhs; simp) <;> rfl) (by (conv => lhs; simp) <;> rfl) ?_
 refine Wo.en (by conv => lhs; simp) ?_
 by_cases kc3 : ¬ (o1 = true)
 ·rw [if_pos kc3] at h
  refine Wc.condT' (by conv => lhs; simp) (by simpa using kc3) ?_
  refine Wc.sk (by conv => lhs; simp) ?_
  refine Wc.se (by conv => lhs; simp) ?_
  refine Wc.ret (res_of (.inr rfl) ?_)
  cases h
  exact ⟨_, _, _, by conv => lhs; simp, by (conv => lhs; simp) <;> rfl, by first | rfl | simp⟩
 ·rw [if_neg kc3] at h
  refine Wc.condF' (by conv => lhs; simp) (by simpa using kc3) ?_
  refine Wc.sk (by conv => lhs; simp) ?_
  apply Wc.skip
  apply Wc.seq
  refine Wc.se (by conv => lhs; simp) ?_
  apply Wc.block
  obtain ⟨w24, h25, h⟩ := bind_some h
  refine Wc.start (V1 := [(0, .v (ssl eRelation relations)), (3, .v (.ptr true [(.int .i64 query.VariableCount), (ssl eAtom query.Atoms), (ssl eI query.Free)])), (13, .v (.int .i64 (query.Atoms.length : Int))), (14, .v (.int .i64 0))]) (by first | rfl | simp) ?_
  refine Wc.mono (r63_0 _ _ h25) ?_
  rcases w24 with ⟨⟩ | x_26
  ·rintro ex V ⟨rfl, rfl⟩
   try dsimp only at h
   apply Wc.seq
   apply Wc.seq
   refine Wc.evs (by conv => lhs; simp) ?_
   obtain ⟨o27, h28, h⟩ := bind_some h
   refine Wo.cl rfl (by (conv => lhs; simp) <;> rfl) (r61 h28) (by simp) (by (conv => lhs; simp) <;> rfl) (by (conv => lhs; simp) <;> rfl) ?_
   apply Wo.nil
   by_cases kc29 : o27 = true
   ·rw [if_pos kc29] at h
    refine Wc.condT' (by conv => lhs; simp) (by simpa using kc29) ?_
    refine Wc.sk (by conv => lhs; simp) ?_
    refine Wc.se (by conv => lhs; simp) ?_
    refine Wc.ret (res_of (.inr rfl) ?_)
    cases h
    exact ⟨_, _, _, by conv => lhs; simp, by (conv => lhs; simp) <;> rfl, by first | rfl | simp⟩
   ·rw [if_neg kc29] at h
    refine Wc.condF' (by conv => lhs; simp) (by simpa using kc29) ?_
    refine Wc.sk (by conv => lhs; simp) ?_
    apply Wc.skip
    refine Wc.se (by conv => lhs; simp) ?_
    refine Wc.ret (res_of (.inr rfl) ?_)
    cases h
    exact ⟨_, _, _, by conv => lhs; simp, by (conv => lhs; simp) <;> rfl, by first | rfl | simp⟩
  ·rintro ex V ⟨rfl, rfl⟩
   try dsimp only at h
   refine res_of (.inr rfl) ?_
   cases h
   exact ⟨_, _, _, by conv => lhs; simp, by (conv => lhs; simp) <;> rfl, by first | rfl | simp⟩
theorem r121 {a : Relation} {b : Relation} {r : Bool} (h : f121 a b = some r) : VJx cx (.ca 121 [(.agg [(.str a.Name), (.int .i64 a.Arity), (.int .i64 a.KeyLength)]), (.agg [(.str b.Name), (.int .i64 b.Arity), (.int .i64 b.KeyLength)])] (.bool r) []) := by
 unfold f121 at h
 refine ca_of rfl rfl (by decide) rfl ?_
 refine Wc.start (by conv => lhs; simp) ?_
 refine Wc.se (by conv => lhs; simp) ?_
 apply Wc.seq
 refine Wc.se (by conv => lhs; simp) ?_
 by_cases kc1 : a.Name ≠ b.Name
 ·rw [if_pos kc1] at h
  refine Wc.condT' (by conv => lhs; simp) (by simpa using kc1) ?_
  refine Wc.sk (by conv => lhs; simp) ?_
  refine Wc.se (by conv => lhs; simp) ?_
  refine Wc.ret (res_of (.inr rfl) ?_)
  cases h
  exact ⟨_, _, _, by conv => lhs; simp, by (conv => lhs; simp) <;> rfl, by first | rfl | simp⟩
 ·rw [if_neg kc1] at h
  refine Wc.condF' (by conv => lhs; simp) (by simpa using kc1) ?_
  refine Wc.sk (by conv => lhs; simp) ?_
  apply Wc.skip
  apply Wc.seq
  refine Wc.se (by conv => lhs; simp) ?_
  by_cases kc2 : a.Arity ≠ b.Arity
  ·rw [if_pos kc2] at h
   refine Wc.condT' (by conv => lhs; simp) (by simpa using kc2) ?_
   refine Wc.sk (by conv => lhs; simp) ?_
   refine Wc.se (by conv => lhs; simp) ?_
   refine Wc.ret (res_of (.inr rfl) ?_)
   cases h
   exact ⟨_, _, _, by conv => lhs; simp, by (conv => lhs; simp) <;> rfl, by first | rfl | simp⟩
  ·rw [if_neg kc2] at h
   refine Wc.condF' (by conv => lhs; simp) (by simpa using kc2) ?_
   refine Wc.sk (by conv => lhs; simp) ?_
   apply Wc.skip
   apply Wc.seq
   refine Wc.se (by conv => lhs; simp) ?_
   by_cases kc3 : a.KeyLength ≠ b.KeyLength
   ·rw [if_pos kc3] at h
    refine Wc.condT' (by conv => lhs; simp) (by simpa using kc3) ?_
    refine Wc.sk (by conv => lhs; simp) ?_
    refine Wc.se (by conv => lhs; simp) ?_
    refine Wc.ret (res_of (.inr rfl) ?_)
    cases h
    exact ⟨_, _, _, by conv => lhs; simp, by (conv => lhs; simp) <;> rfl, by first | rfl | simp⟩
   ·rw [if_neg kc3] at h
    refine Wc.condF' (by conv => lhs; simp) (by simpa using kc3) ?_
    refine Wc.sk (by conv => lhs; simp) ?_
    apply Wc.skip
    refine Wc.se (by conv => lhs; simp) ?_
    refine Wc.ret (res_of (.inr rfl) ?_)
    cases h
    exact ⟨_, _, _, by conv => lhs; simp, by (conv => lhs; simp) <;> rfl, by first | rfl | simp⟩
theorem r53_0 {a : (List Relation)} {b : (List Relation)} : ∀ zs zo, iter (f53_0 a b) zs = some zo → Wc cx 27 (.loop L53_0) [(0, .v (ssl eRelation a)), (1, .v (ssl eRelation b)), (5, .v (.int .i64 zs))] ((QO (QX 0 (fun (y : Unit) => [])) (QR (fun (y : Bool) => [(4, .v (.bool y))]))) zo) := by
 refine iter_all ?_
 rintro i_2 zo zr h hk hx
 try dsimp only at hk ⊢
 rw [f53_0] at h
 apply Wc.loop
 apply Wc.seq
 refine Wc.se (by conv => lhs; simp) ?_
 by_cases kc3 : i_2 < (a.length : Int)
 ·rw [if_pos kc3] at h
  refine Wc.condT' (by conv => lhs; simp) (by simpa using kc3) ?_
  refine Wc.sk (by conv => lhs; simp) ?_
  apply Wc.skip
  apply Wc.seq
  apply Wc.block
  apply Wc.seq
  obtain ⟨v_4, h5, h⟩ := bind_some h
  obtain ⟨ga5, gb5, gc5⟩ := ix_some h5
  have gn5 := ix_ne h5
  have gd5 := arr_at (E := eRelation) (b := false) gc5
  simp at gd5
  obtain ⟨v_6, h7, h⟩ := bind_some h
  obtain ⟨ga7, gb7, gc7⟩ := ix_some h7
  have gn7 := ix_ne h7
  have gd7 := arr_at (E := eRelation) (b := false) gc7
  simp at gd7
  refine Wc.evs (by conv => lhs; simp [ga5, gb5, gn5, gd5, ga7, gb7, gn7, gd7]) ?_
  obtain ⟨o8, h9, h⟩ := bind_some h
  refine Wo.cl rfl (by (conv => lhs; simp [ga5, gb5, gn5, gd5, ga7, gb7, gn7, gd7]) <;> rfl) (r121 h9) (by simp) (by (conv => lhs; simp [ga5, gb5, gn5, gd5, ga7, gb7, gn7, gd7]) <;> rfl) (by (conv => lhs; simp [ga5, gb5, gn5, gd5, ga7, gb7, gn7, gd7]) <;> rfl) ?_
  refine Wo.en (by conv => lhs; simp [ga5, gb5, gn5, gd5, ga7, gb7, gn7, gd7]) ?_
  by_cases kc10 : ¬ (o8 = true)
  ·rw [if_pos kc10] at h
   refine Wc.condT' (by conv => lhs; simp) (by simpa using kc10) ?_
   refine Wc.sk (by conv => lhs; simp) ?_
   refine Wc.se (by conv => lhs; simp) ?_
   refine Wc.ret ?_
   have e0 := hx _ (Option.some.inj h).symm
   subst e0
   exact ⟨rfl, by first | rfl | simp⟩
  ·rw [if_neg kc10] at h
   refine Wc.condF' (by conv => lhs; simp) (by simpa using kc10) ?_
   refine Wc.sk (by conv => lhs; simp) ?_
   apply Wc.skip
   refine Wc.en (by conv => lhs; simp) ?_
   refine Wc.start ?_ (hk _ (Option.some.inj h).symm)
   first | rfl | simp
 ·rw [if_neg kc3] at h
  refine Wc.condF' (by conv => lhs; simp) (by simpa using kc3) ?_
  refine Wc.sk (by conv => lhs; simp) ?_
  apply Wc.exit
  have e0 := hx _ (Option.some.inj h).symm
  subst e0
  exact ⟨rfl, by first | rfl | simp⟩
theorem r53 {a : (List Relation)} {b : (List Relation)} {r : Bool} (h : f53 a b = some r) : VJx cx (.ca 53 [(ssl eRelation a), (ssl eRelation b)] (.bool r) []) := by
 unfold f53 at h
 refine ca_of rfl rfl (by decide) rfl ?_
 refine Wc.start (by conv => lhs; simp) ?_
 refine Wc.se (by conv => lhs; simp) ?_
 apply Wc.seq
 refine Wc.se (by conv => lhs; simp) ?_
 by_cases kc1 : (a.length : Int) ≠ (b.length : Int)
 ·rw [if_pos kc1] at h
  refine Wc.condT' (by conv => lhs; simp) (by simpa using kc1) ?_
  refine Wc.sk (by conv => lhs; simp) ?_
  refine Wc.se (by conv => lhs; simp) ?_
  refine Wc.ret (res_of (.inr rfl) ?_)
  cases h
  exact ⟨_, _, _, by conv => lhs; simp, by (conv => lhs; simp) <;> rfl, by first | rfl | simp⟩
 ·rw [if_neg kc1] at h
  refine Wc.condF' (by conv => lhs; simp) (by simpa using kc1) ?_
  refine Wc.sk (by conv => lhs; simp) ?_
  apply Wc.skip
  apply Wc.seq
  refine Wc.se (by conv => lhs; simp) ?_
  apply Wc.block
  obtain ⟨w11, h12, h⟩ := bind_some h
  refine Wc.start (V1 := [(0, .v (ssl eRelation a)), (1, .v (ssl eRelation b)), (5, .v (.int .i64 0))]) (by first | rfl | simp) ?_
  refine Wc.mono (r53_0 _ _ h12) ?_
  rcases w11 with ⟨⟩ | x_13
  ·rintro ex V ⟨rfl, rfl⟩
   try dsimp only at h
   refine Wc.se (by conv => lhs; simp) ?_
   refine Wc.ret (res_of (.inr rfl) ?_)
   cases h
   exact ⟨_, _, _, by conv => lhs; simp, by (conv => lhs; simp) <;> rfl, by first | rfl | simp⟩
  ·rintro ex V ⟨rfl, rfl⟩
   try dsimp only at h
   refine res_of (.inr rfl) ?_
   cases h
   exact ⟨_, _, _, by conv => lhs; simp, by (conv => lhs; simp) <;> rfl, by first | rfl | simp⟩
theorem r42_0 {a : (List Int)} {b : (List Int)} : ∀ zs zo, iter (f42_0 a b) zs = some zo → Wc cx 26 (.loop L42_0) [(0, .v (ssl eI a)), (1, .v (ssl eI b)), (5, .v (.int .i64 zs))] ((QO (QX 0 (fun (y : Unit) => [])) (QR (fun (y : Bool) => [(4, .v (.bool y))]))) zo) := by
 refine iter_all ?_
 rintro i_2 zo zr h hk hx
 try dsimp only at hk ⊢
 rw [f42_0] at h
 apply Wc.loop
 apply Wc.seq
 refine Wc.se (by conv => lhs; simp) ?_
 by_cases kc3 : i_2 < (a.length : Int)
 ·rw [if_pos kc3] at h
  refine Wc.condT' (by conv => lhs; simp) (by simpa using kc3) ?_
  refine Wc.sk (by conv => lhs; simp) ?_
  apply Wc.skip
  apply Wc.seq
  apply Wc.block
  apply Wc.seq
  obtain ⟨v_4, h5, h⟩ := bind_some h
  obtain ⟨ga5, gb5, gc5⟩ := ix_some h5
  have gn5 := ix_ne h5
  have gd5 := arr_at (E := eI) (b := false) gc5
  simp at gd5
  obtain ⟨v_6, h7, h⟩ := bind_some h
  obtain ⟨ga7, gb7, gc7⟩ := ix_some h7
  have gn7 := ix_ne h7
  have gd7 := arr_at (E := eI) (b := false) gc7
  simp at gd7
  refine Wc.en (by conv => lhs; simp [ga5, gb5, gn5, gd5, ga7, gb7, gn7, gd7]) ?_
  by_cases kc8 : v_4 ≠ v_6
  ·rw [if_pos kc8] at h
   refine Wc.condT' (by conv => lhs; simp) (by simpa using kc8) ?_
   refine Wc.sk (by conv => lhs; simp) ?_
   refine Wc.se (by conv => lhs; simp) ?_
   refine Wc.ret ?_
   have e0 := hx _ (Option.some.inj h).symm
   subst e0
   exact ⟨rfl, by first | rfl | simp⟩
  ·rw [if_neg kc8] at h
   refine Wc.condF' (by conv => lhs; simp) (by simpa using kc8) ?_
   refine Wc.sk (by conv => lhs; simp) ?_
   apply Wc.skip
   refine Wc.en (by conv => lhs; simp) ?_
   refine Wc.start ?_ (hk _ (Option.some.inj h).symm)
   first | rfl | simp
 ·rw [if_neg kc3] at h
  refine Wc.condF' (by conv => lhs; simp) (by simpa using kc3) ?_
  refine Wc.sk (by conv => lhs; simp) ?_
  apply Wc.exit
  have e0 := hx _ (Option.some.inj h).symm
  subst e0
  exact ⟨rfl, by first | rfl | simp⟩
theorem r42 {a : (List Int)} {b : (List Int)} {r : Bool} (h : f42 a b = some r) : VJx cx (.ca 42 [(ssl eI a), (ssl eI b)] (.bool r) []) := by
 unfold f42 at h
 refine ca_of rfl rfl (by decide) rfl ?_
 refine Wc.start (by conv => lhs; simp) ?_
 refine Wc.se (by conv => lhs; simp) ?_
 apply Wc.seq
 refine Wc.se (by conv => lhs; simp) ?_
 by_cases kc1 : (a.length : Int) ≠ (b.length : Int)
 ·rw [if_pos kc1] at h
  refine Wc.condT' (by conv => lhs; simp) (by simpa using kc1) ?_
  refine Wc.sk (by conv => lhs; simp) ?_
  refine Wc.se (by conv => lhs; simp) ?_
  refine Wc.ret (res_of (.inr rfl) ?_)
  cases h
  exact ⟨_, _, _, by conv => lhs; simp, by (conv => lhs; simp) <;> rfl, by first | rfl | simp⟩
 ·rw [if_neg kc1] at h
  refine Wc.condF' (by conv => lhs; simp) (by simpa using kc1) ?_
  refine Wc.sk (by conv => lhs; simp) ?_
  apply Wc.skip
  apply Wc.seq
  refine Wc.se (by conv => lhs; simp) ?_
  apply Wc.block
  obtain ⟨w9, h10, h⟩ := bind_some h
  refine Wc.start (V1 := [(0, .v (ssl eI a)), (1, .v (ssl eI b)), (5, .v (.int .i64 0))]) (by first | rfl | simp) ?_
  refine Wc.mono (r42_0 _ _ h10) ?_
  rcases w9 with ⟨⟩ | x_11
  ·rintro ex V ⟨rfl, rfl⟩
   try dsimp only at h
   refine Wc.se (by conv => lhs; simp) ?_
   refine Wc.ret (res_of (.inr rfl) ?_)
   cases h
   exact ⟨_, _, _, by conv => lhs; simp, by (conv => lhs; simp) <;> rfl, by first | rfl | simp⟩
  ·rintro ex V ⟨rfl, rfl⟩
   try dsimp only at h
   refine res_of (.inr rfl) ?_
   cases h
   exact ⟨_, _, _, by conv => lhs; simp, by (conv => lhs; simp) <;> rfl, by first | rfl | simp⟩
theorem r166 {a : Atom} {b : Atom} {r : Bool} (h : f166 a b = some r) : VJx cx (.ca 166 [(.agg [(.int .i64 a.Relation), (ssl eI a.Terms)]), (.agg [(.int .i64 b.Relation), (ssl eI b.Terms)])] (.bool r) []) := by
 unfold f166 at h
 refine ca_of rfl rfl (by decide) rfl ?_
 refine Wc.start (by conv => lhs; simp) ?_
 refine Wc.se (by conv => lhs; simp) ?_
 apply Wc.seq
 refine Wc.se (by conv => lhs; simp) ?_
 by_cases kc1 : a.Relation ≠ b.Relation
 ·rw [if_pos kc1] at h
  refine Wc.condT' (by conv => lhs; simp) (by simpa using kc1) ?_
  refine Wc.sk (by conv => lhs; simp) ?_
  refine Wc.se (by conv => lhs; simp) ?_
  refine Wc.ret (res_of (.inr rfl) ?_)
  cases h
  exact ⟨_, _, _, by conv => lhs; simp, by (conv => lhs; simp) <;> rfl, by first | rfl | simp⟩
 ·rw [if_neg kc1] at h
  refine Wc.condF' (by conv => lhs; simp) (by simpa using kc1) ?_
  refine Wc.sk (by conv => lhs; simp) ?_
  apply Wc.skip
  apply Wc.seq
  apply Wc.seq
  refine Wc.evs (by conv => lhs; simp) ?_
  obtain ⟨o2, h3, h⟩ := bind_some h
  refine Wo.cl rfl (by (conv => lhs; simp) <;> rfl) (r42 h3) (by simp) (by (conv => lhs; simp) <;> rfl) (by (conv => lhs; simp) <;> rfl) ?_
  refine Wo.en (by conv => lhs; simp) ?_
  by_cases kc4 : ¬ (o2 = true)
  ·rw [if_pos kc4] at h
   refine Wc.condT' (by conv => lhs; simp) (by simpa using kc4) ?_
   refine Wc.sk (by conv => lhs; simp) ?_
   refine Wc.se (by conv => lhs; simp) ?_
   refine Wc.ret (res_of (.inr rfl) ?_)
   cases h
   exact ⟨_, _, _, by conv => lhs; simp, by (conv => lhs; simp) <;> rfl, by first | rfl | simp⟩
  ·rw [if_neg kc4] at h
   refine Wc.condF' (by conv => lhs; simp) (by simpa using kc4) ?_
   refine Wc.sk (by conv => lhs; simp) ?_
   apply Wc.skip
   refine Wc.se (by conv => lhs; simp) ?_
   refine Wc.ret (res_of (.inr rfl) ?_)
   cases h
   exact ⟨_, _, _, by conv => lhs; simp, by (conv => lhs; simp) <;> rfl, by first | rfl | simp⟩
theorem r129_0 {a : (List Atom)} {b : (List Atom)} : ∀ zs zo, iter (f129_0 a b) zs = some zo → Wc cx 27 (.loop L129_0) [(0, .v (ssl eAtom a)), (1, .v (ssl eAtom b)), (5, .v (.int .i64 zs))] ((QO (QX 0 (fun (y : Unit) => [])) (QR (fun (y : Bool) => [(4, .v (.bool y))]))) zo) := by
 refine iter_all ?_
 rintro i_2 zo zr h hk hx
 try dsimp only at hk ⊢
 rw [f129_0] at h
 apply Wc.loop
 apply Wc.seq
 refine Wc.se (by conv => lhs; simp) ?_
 by_cases kc3 : i_2 < (a.length : Int)
 ·rw [if_pos kc3] at h
  refine Wc.condT' (by conv => lhs; simp) (by simpa using kc3) ?_
  refine Wc.sk (by conv => lhs; simp) ?_
  apply Wc.skip
  apply Wc.seq
  apply Wc.block
  apply Wc.seq
  obtain ⟨v_4, h5, h⟩ := bind_some h
  obtain ⟨ga5, gb5, gc5⟩ := ix_some h5
  have gn5 := ix_ne h5
  have gd5 := arr_at (E := eAtom) (b := false) gc5
  simp at gd5
  obtain ⟨v_6, h7, h⟩ := bind_some h
  obtain ⟨ga7, gb7, gc7⟩ := ix_some h7
  have gn7 := ix_ne h7
  have gd7 := arr_at (E := eAtom) (b := false) gc7
  simp at gd7
  refine Wc.evs (by conv => lhs; simp [ga5, gb5, gn5, gd5, ga7, gb7, gn7, gd7]) ?_
  obtain ⟨o8, h9, h⟩ := bind_some h
  refine Wo.cl rfl (by (conv => lhs; simp [ga5, gb5, gn5, gd5, ga7, gb7, gn7, gd7]) <;> rfl) (r166 h9) (by simp) (by (conv => lhs; simp [ga5, gb5, gn5, gd5, ga7, gb7, gn7, gd7]) <;> rfl) (by (conv => lhs; simp [ga5, gb5, gn5, gd5, ga7, gb7, gn7, gd7]) <;> rfl) ?_
  refine Wo.en (by conv => lhs; simp [ga5, gb5, gn5, gd5, ga7, gb7, gn7, gd7]) ?_
  by_cases kc10 : ¬ (o8 = true)
  ·rw [if_pos kc10] at h
   refine Wc.condT' (by conv => lhs; simp) (by simpa using kc10) ?_
   refine Wc.sk (by conv => lhs; simp) ?_
   refine Wc.se (by conv => lhs; simp) ?_
   refine Wc.ret ?_
   have e0 := hx _ (Option.some.inj h).symm
   subst e0
   exact ⟨rfl, by first | rfl | simp⟩
  ·rw [if_neg kc10] at h
   refine Wc.condF' (by conv => lhs; simp) (by simpa using kc10) ?_
   refine Wc.sk (by conv => lhs; simp) ?_
   apply Wc.skip
   refine Wc.en (by conv => lhs; simp) ?_
   refine Wc.start ?_ (hk _ (Option.some.inj h).symm)
   first | rfl | simp
 ·rw [if_neg kc3] at h
  refine Wc.condF' (by conv => lhs; simp) (by simpa using kc3) ?_
  refine Wc.sk (by conv => lhs; simp) ?_
  apply Wc.exit
  have e0 := hx _ (Option.some.inj h).symm
  subst e0
  exact ⟨rfl, by first | rfl | simp⟩
theorem r129 {a : (List Atom)} {b : (List Atom)} {r : Bool} (h : f129 a b = some r) : VJx cx (.ca 129 [(ssl eAtom a), (ssl eAtom b)] (.bool r) []) := by
 unfold f129 at h
 refine ca_of rfl rfl (by decide) rfl ?_
 refine Wc.start (by conv => lhs; simp) ?_
 refine Wc.se (by conv => lhs; simp) ?_
 apply Wc.seq
 refine Wc.se (by conv => lhs; simp) ?_
 by_cases kc1 : (a.length : Int) ≠ (b.length : Int)
 ·rw [if_pos kc1] at h
  refine Wc.condT' (by conv => lhs; simp) (by simpa using kc1) ?_
  refine Wc.sk (by conv => lhs; simp) ?_
  refine Wc.se (by conv => lhs; simp) ?_
  refine Wc.ret (res_of (.inr rfl) ?_)
  cases h
  exact ⟨_, _, _, by conv => lhs; simp, by (conv => lhs; simp) <;> rfl, by first | rfl | simp⟩
 ·rw [if_neg kc1] at h
  refine Wc.condF' (by conv => lhs; simp) (by simpa using kc1) ?_
  refine Wc.sk (by conv => lhs; simp) ?_
  apply Wc.skip
  apply Wc.seq
  refine Wc.se (by conv => lhs; simp) ?_
  apply Wc.block
  obtain ⟨w11, h12, h⟩ := bind_some h
  refine Wc.start (V1 := [(0, .v (ssl eAtom a)), (1, .v (ssl eAtom b)), (5, .v (.int .i64 0))]) (by first | rfl | simp) ?_
  refine Wc.mono (r129_0 _ _ h12) ?_
  rcases w11 with ⟨⟩ | x_13
  ·rintro ex V ⟨rfl, rfl⟩
   try dsimp only at h
   refine Wc.se (by conv => lhs; simp) ?_
   refine Wc.ret (res_of (.inr rfl) ?_)
   cases h
   exact ⟨_, _, _, by conv => lhs; simp, by (conv => lhs; simp) <;> rfl, by first | rfl | simp⟩
  ·rintro ex V ⟨rfl, rfl⟩
   try dsimp only at h
   refine res_of (.inr rfl) ?_
   cases h
   exact ⟨_, _, _, by conv => lhs; simp, by (conv => lhs; simp) <;> rfl, by first | rfl | simp⟩
theorem r59 {a : Query} {b : Query} {r : Bool} (h : f59 a b = some r) : VJx cx (.ca 59 [(.agg [(.int .i64 a.VariableCount), (ssl eAtom a.Atoms), (ssl eI a.Free)]), (.agg [(.int .i64 b.VariableCount), (ssl eAtom b.Atoms), (ssl eI b.Free)])] (.bool r) []) := by
 unfold f59 at h
 refine ca_of rfl rfl (by decide) rfl ?_
 refine Wc.start (by conv => lhs; simp) ?_
 refine Wc.se (by conv => lhs; simp) ?_
 apply Wc.seq
 refine Wc.se (by conv => lhs; simp) ?_
 by_cases kc1 : a.VariableCount ≠ b.VariableCount
 ·rw [if_pos kc1] at h
  refine Wc.condT' (by conv => lhs; simp) (by simpa using kc1) ?_
  refine Wc.sk (by conv => lhs; simp) ?_
  refine Wc.se (by conv => lhs; simp) ?_
  refine Wc.ret (res_of (.inr rfl) ?_)
  cases h
  exact ⟨_, _, _, by conv => lhs; simp, by (conv => lhs; simp) <;> rfl, by first | rfl | simp⟩
 ·rw [if_neg kc1] at h
  refine Wc.condF' (by conv => lhs; simp) (by simpa using kc1) ?_
  refine Wc.sk (by conv => lhs; simp) ?_
  apply Wc.skip
  apply Wc.seq
  apply Wc.seq
  refine Wc.evs (by conv => lhs; simp) ?_
  obtain ⟨o2, h3, h⟩ := bind_some h
  refine Wo.cl rfl (by (conv => lhs; simp) <;> rfl) (r129 h3) (by simp) (by (conv => lhs; simp) <;> rfl) (by (conv => lhs; simp) <;> rfl) ?_
  refine Wo.en (by conv => lhs; simp) ?_
  by_cases kc4 : ¬ (o2 = true)
  ·rw [if_pos kc4] at h
   refine Wc.condT' (by conv => lhs; simp) (by simpa using kc4) ?_
   refine Wc.sk (by conv => lhs; simp) ?_
   refine Wc.se (by conv => lhs; simp) ?_
   refine Wc.ret (res_of (.inr rfl) ?_)
   cases h
   exact ⟨_, _, _, by conv => lhs; simp, by (conv => lhs; simp) <;> rfl, by first | rfl | simp⟩
  ·rw [if_neg kc4] at h
   refine Wc.condF' (by conv => lhs; simp) (by simpa using kc4) ?_
   refine Wc.sk (by conv => lhs; simp) ?_
   apply Wc.skip
   apply Wc.seq
   apply Wc.seq
   refine Wc.evs (by conv => lhs; simp) ?_
   obtain ⟨o5, h6, h⟩ := bind_some h
   refine Wo.cl rfl (by (conv => lhs; simp) <;> rfl) (r42 h6) (by simp) (by (conv => lhs; simp) <;> rfl) (by (conv => lhs; simp) <;> rfl) ?_
   refine Wo.en (by conv => lhs; simp) ?_
   by_cases kc7 : ¬ (o5 = true)
   ·rw [if_pos kc7] at h
    refine Wc.condT' (by conv => lhs; simp) (by simpa using kc7) ?_
    refine Wc.sk (by conv => lhs; simp) ?_
    refine Wc.se (by conv => lhs; simp) ?_
    refine Wc.ret (res_of (.inr rfl) ?_)
    cases h
    exact ⟨_, _, _, by conv => lhs; simp, by (conv => lhs; simp) <;> rfl, by first | rfl | simp⟩
   ·rw [if_neg kc7] at h
    refine Wc.condF' (by conv => lhs; simp) (by simpa using kc7) ?_
    refine Wc.sk (by conv => lhs; simp) ?_
    apply Wc.skip
    refine Wc.se (by conv => lhs; simp) ?_
    refine Wc.ret (res_of (.inr rfl) ?_)
    cases h
    exact ⟨_, _, _, by conv => lhs; simp, by (conv => lhs; simp) <;> rfl, by first | rfl | simp⟩
theorem r11 {aRelations : (List Relation)} {aQuery : Query} {r : Bool} (h : f11 aRelations aQuery = some r) : VJx cx (.ca 11 [(ssl eRelation aRelations), (.agg [(.int .i64 aQuery.VariableCount), (ssl eAtom aQuery.Atoms), (ssl eI aQuery.Free)])] (.bool r) []) := by
 unfold f11 at h
 refine ca_of rfl rfl (by decide) rfl ?_
 refine Wc.start (by conv => lhs; simp) ?_
 refine Wc.se (by conv => lhs; simp) ?_
 refine Wc.se (by conv => lhs; simp) ?_
 apply Wc.seq
 refine Wc.evs (by conv => lhs; simp) ?_
 obtain ⟨o1, h2, h⟩ := bind_some h
 refine Wo.cl rfl (by (conv => lhs; simp) <;> rfl) (r47 h2) (by simp) (by (conv => lhs; simp) <;> rfl) (by (conv => lhs; simp) <;> rfl) ?_
 refine Wo.en (by conv => lhs; simp) ?_
 apply Wc.seq
 refine Wc.se (by conv => lhs; simp) ?_
 by_cases kc3 : o1 < 0
 ·rw [if_pos kc3] at h
  refine Wc.condT' (by conv => lhs; simp) (by simpa using kc3) ?_
  refine Wc.sk (by conv => lhs; simp) ?_
  refine Wc.se (by conv => lhs; simp) ?_
  refine Wc.ret (res_of (.inr rfl) ?_)
  cases h
  exact ⟨_, _, _, by conv => lhs; simp, by (conv => lhs; simp) <;> rfl, by first | rfl | simp⟩
 ·rw [if_neg kc3] at h
  refine Wc.condF' (by conv => lhs; simp) (by simpa using kc3) ?_
  refine Wc.sk (by conv => lhs; simp) ?_
  apply Wc.skip
  apply Wc.seq
  refine Wc.evs (by conv => lhs; simp) ?_
  obtain ⟨o4, h5, h⟩ := bind_some h
  refine Wo.cl rfl (by (conv => lhs; simp) <;> rfl) (r55 h5) (by simp) (by (conv => lhs; simp) <;> rfl) (by (conv => lhs; simp) <;> rfl) ?_
  refine Wo.en (by conv => lhs; simp) ?_
  apply Wc.seq
  refine Wc.se (by conv => lhs; simp) ?_
  by_cases kc6 : o4 < 0
  ·rw [if_pos kc6] at h
   refine Wc.condT' (by conv => lhs; simp) (by simpa using kc6) ?_
   refine Wc.sk (by conv => lhs; simp) ?_
   refine Wc.se (by conv => lhs; simp) ?_
   refine Wc.ret (res_of (.inr rfl) ?_)
   cases h
   exact ⟨_, _, _, by conv => lhs; simp, by (conv => lhs; simp) <;> rfl, by first | rfl | simp⟩
  ·rw [if_neg kc6] at h
   refine Wc.condF' (by conv => lhs; simp) (by simpa using kc6) ?_
   refine Wc.sk (by conv => lhs; simp) ?_
   apply Wc.skip
   apply Wc.seq
   refine Wc.evs (by conv => lhs; simp) ?_
   obtain ⟨o7, h8, h⟩ := bind_some h
   refine Wo.call (by simp) rfl (by (conv => lhs; simp) <;> rfl) (r50 h8) (by simp) (by simp) (by (conv => lhs; simp) <;> rfl) (by (conv => lhs; simp) <;> rfl) ?_
   obtain ⟨o9, h10, h⟩ := bind_some h
   refine Wo.cl rfl (by (conv => lhs; simp) <;> rfl) (r57 h10) (by simp) (by (conv => lhs; simp) <;> rfl) (by (conv => lhs; simp) <;> rfl) ?_
   obtain ⟨o11, h12, h⟩ := bind_some h
   refine Wo.cl rfl (by (conv => lhs; simp) <;> rfl) (r62 h12) (by simp) (by (conv => lhs; simp) <;> rfl) (by (conv => lhs; simp) <;> rfl) ?_
   refine Wo.en (by conv => lhs; simp) ?_
   apply Wc.seq
   refine Wc.evs (by conv => lhs; simp) ?_
   obtain ⟨o13, h14, h⟩ := bind_some h
   refine Wo.cl rfl (by (conv => lhs; simp) <;> rfl) (r50 h14) (by simp) (by (conv => lhs; simp) <;> rfl) (by (conv => lhs; simp) <;> rfl) ?_
   refine Wo.en (by conv => lhs; simp) ?_
   apply Wc.seq
   refine Wc.evs (by conv => lhs; simp) ?_
   obtain ⟨o15, h16, h⟩ := bind_some h
   refine Wo.cl rfl (by (conv => lhs; simp) <;> rfl) (r57 h16) (by simp) (by (conv => lhs; simp) <;> rfl) (by (conv => lhs; simp) <;> rfl) ?_
   refine Wo.en (by conv => lhs; simp) ?_
   apply Wc.seq
   refine Wc.evs (by conv => lhs; simp) ?_
   obtain ⟨o17, h18, h⟩ := bind_some h
   refine Wo.cl rfl (by (conv => lhs; simp) <;> rfl) (r63 h18) (by simp) (by (conv => lhs; simp) <;> rfl) (by (conv => lhs; simp) <;> rfl) ?_
   refine Wo.en (by conv => lhs; simp) ?_
   apply Wc.seq
   refine Wc.se (by conv => lhs; simp) ?_
   by_cases kc19 : o17 ≠ o11
   ·rw [if_pos kc19] at h
    refine Wc.condT' (by conv => lhs; simp) (by simpa using kc19) ?_
    refine Wc.sk (by conv => lhs; simp) ?_
    refine Wc.se (by conv => lhs; simp) ?_
    refine Wc.ret (res_of (.inr rfl) ?_)
    cases h
    exact ⟨_, _, _, by conv => lhs; simp, by (conv => lhs; simp) <;> rfl, by first | rfl | simp⟩
   ·rw [if_neg kc19] at h
    refine Wc.condF' (by conv => lhs; simp) (by simpa using kc19) ?_
    refine Wc.sk (by conv => lhs; simp) ?_
    apply Wc.skip
    apply Wc.seq
    apply Wc.seq
    refine Wc.evs (by conv => lhs; simp) ?_
    obtain ⟨o20, h21, h⟩ := bind_some h
    refine Wo.cl rfl (by (conv => lhs; simp) <;> rfl) (r50 h21) (by simp) (by (conv => lhs; simp) <;> rfl) (by (conv => lhs; simp) <;> rfl) ?_
    obtain ⟨o22, h23, h⟩ := bind_some h
    refine Wo.cl rfl (by (conv => lhs; simp) <;> rfl) (r53 h23) (by simp) (by (conv => lhs; simp) <;> rfl) (by (conv => lhs; simp) <;> rfl) ?_
    refine Wo.en (by conv => lhs; simp) ?_
    by_cases kc24 : ¬ (o22 = true)
    ·rw [if_pos kc24] at h
     refine Wc.condT' (by conv => lhs; simp) (by simpa using kc24) ?_
     refine Wc.sk (by conv => lhs; simp) ?_
     refine Wc.se (by conv => lhs; simp) ?_
     refine Wc.ret (res_of (.inr rfl) ?_)
     cases h
     exact ⟨_, _, _, by conv => lhs; simp, by (conv => lhs; simp) <;> rfl, by first | rfl | simp⟩
    ·rw [if_neg kc24] at h
     refine Wc.condF' (by conv => lhs; simp) (by simpa using kc24) ?_
     refine Wc.sk (by conv => lhs; simp) ?_
     apply Wc.skip
     apply Wc.seq
     apply Wc.seq
     refine Wc.evs (by conv => lhs; simp) ?_
     obtain ⟨o25, h26, h⟩ := bind_some h
     refine Wo.call (by simp) rfl (by (conv => lhs; simp) <;> rfl) (r57 h26) (by simp) (by simp) (by (conv => lhs; simp) <;> rfl) (by (conv => lhs; simp) <;> rfl) ?_
     obtain ⟨o27, h28, h⟩ := bind_some h
     refine Wo.cl rfl (by (conv => lhs; simp) <;> rfl) (r59 h28) (by simp) (by (conv => lhs; simp) <;> rfl) (by (conv => lhs; simp) <;> rfl) ?_
     refine Wo.en (by conv => lhs; simp) ?_
     by_cases kc29 : ¬ (o27 = true)
     ·rw [if_pos kc29] at h
      refine Wc.condT' (by conv => lhs; simp) (by simpa using kc29) ?_
      refine Wc.sk (by conv => lhs; simp) ?_
      refine Wc.se (by conv => lhs; simp) ?_
      refine Wc.ret (res_of (.inr rfl) ?_)
      cases h
      exact ⟨_, _, _, by conv => lhs; simp, by (conv => lhs; simp) <;> rfl, by first | rfl | simp⟩
     ·rw [if_neg kc29] at h
      refine Wc.condF' (by conv => lhs; simp) (by simpa using kc29) ?_
      refine Wc.sk (by conv => lhs; simp) ?_
      apply Wc.skip
      refine Wc.se (by conv => lhs; simp) ?_
      refine Wc.ret (res_of (.inr rfl) ?_)
      cases h
      exact ⟨_, _, _, by conv => lhs; simp, by (conv => lhs; simp) <;> rfl, by first | rfl | simp⟩
end
end Go.Proofs.YtabmomjfdondnaaH
