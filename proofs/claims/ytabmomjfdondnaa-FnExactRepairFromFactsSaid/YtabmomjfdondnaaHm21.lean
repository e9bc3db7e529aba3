/- The machine of trees: each operation, one by one. -/
import Derived.Test.YtabmomjfdondnaaHm20
set_option linter.unusedVariables false
set_option linter.unusedSimpArgs false
namespace Go.Proofs.YtabmomjfdondnaaH
open Go

variable {H H' : Heap} {F F' : Nat → Prop} {env env' : Env} {V V' : VEnv} {Lf : Nat → List Nat} {v : AV} {ls : List Nat} {ks : List Nat} {r : RV}

theorem sca_ev (h : Sta H F env V Lf) {x : Opd} {a : AV} (hx : sca V x = a) (ha : a ≠ .und) : x.ev env = a := by
  rcases sca_ok h x with e | e
  · rw [hx] at e; exact absurd e ha
  · rw [← e, hx]

theorem pick_ok {c a b : Opd} (h : Sta H F env V Lf) (hx : opV ks V (.pick c a b) = some (r, V')) : Out H F env Lf V' (.pick c a b) r := by
  simp only [opV] at hx
  split at hx
  · rename_i hc
    have := sca_ev h hc (by simp)
    exact mv_ok h (by simp only [heapOp, pureOp, this]; rfl) hx |>.elim fun v ho => ⟨v, ho⟩
  · rename_i hc
    have := sca_ev h hc (by simp)
    exact mv_ok h (by simp only [heapOp, pureOp, this]; rfl) hx |>.elim fun v ho => ⟨v, ho⟩
  · simp at hx

theorem sl_count {e : Nat} {o' y : Bool} {sk : Nat} {cs : List T} {w : AV} (hd : Den H F w (.sl o' y e sk cs) ls) : (nilOk o' y sk = true ∧ cs = [] ∧ EmptyS w e) ∨ ∃ l o, w = .sl l o (cs.length / e) e (!o' && y) ∧ 0 < e := by
  rw [Den] at hd
  rcases hd with ⟨h1, h2, h3, _⟩ | ⟨l, o, n, avs, rfl, he, hn, hl, hd⟩
  · exact .inl ⟨h1, h2, h3⟩
  have hlen : cs.length = n * e := by
    rcases hd with ⟨_, _, _, _, _, l1, _, h8⟩ | ⟨_, _, _, _, _, h6⟩
    · rw [← h8.length]; exact hn
    · rw [← h6.length]; exact hn
  exact .inr ⟨l, o, by rw [hlen, Nat.mul_div_cancel _ he], he⟩

theorem len_ok {x : Opd} (h : Sta H F env V Lf) (hx : opV ks V (.len x) = some (r, V')) : Out H F env Lf V' (.len x) r := by
  simp only [opV] at hx
  split at hx
  · rename_i hs
    simp only [Option.some.injEq, Prod.mk.injEq] at hx
    obtain ⟨rfl, rfl⟩ := hx
    obtain ⟨ls, hd⟩ := see_ok h hs
    rw [Den] at hd
    refine Out.plain h (v := .i 0) (by simp only [heapOp, pureOp, hd.1]; rfl) ?_
    rw [Den]; exact ⟨rfl, rfl⟩
  · rename_i o y e sk cs hs
    simp only [Option.some.injEq, Prod.mk.injEq] at hx
    obtain ⟨rfl, rfl⟩ := hx
    obtain ⟨ls, hd⟩ := see_ok h hs
    rcases sl_count hd with ⟨_, rfl, hw | ⟨l, o, hw⟩⟩ | ⟨l, o, hw, _⟩
    · refine Out.plain h (v := .i 0) (by simp only [heapOp, pureOp, hw]; rfl) ?_
      rw [Den]; exact ⟨by simp, rfl⟩
    · refine Out.plain h (v := .i 0) (by simp only [heapOp, pureOp, hw]; rfl) ?_
      rw [Den]; exact ⟨by simp, rfl⟩
    refine Out.plain h (v := .i (cs.length / e : Nat)) (by simp only [heapOp, pureOp, hw]; rfl) ?_
    rw [Den]; exact ⟨rfl, rfl⟩
  · simp at hx
theorem cap_ok {x : Opd} (h : Sta H F env V Lf) (hx : opV ks V (.cap x) = some (r, V')) : Out H F env Lf V' (.cap x) r := by
  simp only [opV] at hx
  split at hx
  · rename_i hs
    simp only [Option.some.injEq, Prod.mk.injEq] at hx
    obtain ⟨rfl, rfl⟩ := hx
    obtain ⟨ls, hd⟩ := see_ok h hs
    rw [Den] at hd
    refine Out.plain h (v := .i 0) (by simp only [heapOp, pureOp, hd.1]; rfl) ?_
    rw [Den]; exact ⟨rfl, rfl⟩
  · rename_i e sk cs hs
    simp only [Option.some.injEq, Prod.mk.injEq] at hx
    obtain ⟨rfl, rfl⟩ := hx
    obtain ⟨ls, hd⟩ := see_ok h hs
    rcases sl_count hd with ⟨_, rfl, hw | ⟨l, o, hw⟩⟩ | ⟨l, o, hw, _⟩
    · refine Out.plain h (v := .i 0) (by simp only [heapOp, pureOp, hw]; rfl) ?_
      rw [Den]; exact ⟨by simp, rfl⟩
    · refine Out.plain h (v := .i 0) (by simp only [heapOp, pureOp, hw]; rfl) ?_
      rw [Den]; exact ⟨by simp, rfl⟩
    refine Out.plain h (v := .i (cs.length / e : Nat)) (by simp only [heapOp, pureOp, hw]; rfl) ?_
    rw [Den]; exact ⟨rfl, rfl⟩
  · simp at hx
theorem isnil_ok {ng : Bool} {x : Opd} (h : Sta H F env V Lf) (hx : opV ks V (.isnil ng x) = some (r, V')) : Out H F env Lf V' (.isnil ng x) r := by
  simp only [opV] at hx
  split at hx
  · rename_i hs
    simp only [Option.some.injEq, Prod.mk.injEq] at hx
    obtain ⟨rfl, rfl⟩ := hx
    obtain ⟨ls, hd⟩ := see_ok h hs
    rw [Den] at hd
    refine Out.plain h (v := .bool !ng) (by simp only [heapOp, pureOp, hd.1]; rfl) ?_
    rw [Den]; exact ⟨rfl, rfl⟩
  · rename_i o y e sk cs hs
    split at hx
    · simp at hx
    rename_i hne
    simp only [Option.some.injEq, Prod.mk.injEq] at hx
    obtain ⟨rfl, rfl⟩ := hx
    obtain ⟨ls, hd⟩ := see_ok h hs
    rcases sl_count hd with ⟨g1, rfl, _⟩ | ⟨l, o, hw, _⟩
    · rw [g1] at hne; simp at hne
    refine Out.plain h (v := .bool ng) (by simp only [heapOp, pureOp, hw]; rfl) ?_
    rw [Den]; exact ⟨rfl, rfl⟩
  · simp at hx

theorem ld_val {l k n : Nat} {ag : Bool} {p : Opd} {avs pre rest : List AV} (he : p.ev env = .ptr l k) (hl : l < H.sz) (hst : (H.get l).st ≠ .dead) (hc : (H.get l).cells = pre ++ avs ++ rest) (hpre : pre.length = k) (hn : n = avs.length) (hag : ag = true ∨ n = 1) :
    ∃ v, heapOp env H (.ld n ag p) = some (v, H) ∧ if ag then v = .agg avs else v = avs.getD 0 .und := by
  have hrd : H.rd l k n = some avs := by
    unfold Heap.rd
    rw [if_pos ⟨hst, hl, by rw [hc]; simp; omega⟩, hc, List.append_assoc, ← hpre, List.drop_left, hn, List.take_left]
  simp only [heapOp, he, hrd, Option.bind_some]
  cases ag with
  | true => exact ⟨_, rfl, rfl⟩
  | false =>
    rcases hag with h | h
    · cases h
    · match avs, hn, h with
      | [v], _, _ => exact ⟨v, rfl, rfl⟩
      | [], hn, h => simp at hn; omega
      | _ :: _ :: _, hn, h => simp at hn; omega

theorem rng_split {cs : List T} {k n : Nat} {ag : Bool} {u : T} (hu : rng cs k n ag = some u) : k + n ≤ cs.length ∧ (ag = true ∨ n = 1) ∧ if ag then u = .agg ((cs.drop k).take n) else (cs.drop k).take n = [u] := by
  unfold rng at hu
  split at hu
  · rename_i hkn
    split at hu
    · rename_i hag
      simp only [Option.some.injEq] at hu
      exact ⟨hkn, .inl hag, by rw [if_pos hag]; exact hu.symm⟩
    · rename_i hag
      split at hu
      · rename_i h1
        subst h1
        obtain ⟨hlt, he⟩ := List.getElem?_eq_some_iff.1 hu
        refine ⟨hkn, .inr rfl, ?_⟩
        rw [if_neg hag, List.drop_eq_getElem_cons hlt, he]; rfl
      · simp at hu
  · simp at hu

theorem dens_mid {cs : List T} {avs : List AV} {k n : Nat} (h : Dens H F avs cs ls) (hkn : k + n ≤ cs.length) :
    ∃ a1 a2 a3 m1 m2 m3, avs = a1 ++ (a2 ++ a3) ∧ ls = m1 ++ (m2 ++ m3) ∧ a1.length = k ∧ a2.length = n ∧ Dens H F a1 (cs.take k) m1 ∧ Dens H F a2 ((cs.drop k).take n) m2 ∧ Dens H F a3 (cs.drop (k + n)) m3 := by
  have hcs : cs = cs.take k ++ ((cs.drop k).take n ++ cs.drop (k + n)) := by
    rw [← List.drop_drop, List.take_append_drop, List.take_append_drop]
  rw [hcs] at h
  obtain ⟨a1, a23, m1, m23, rfl, rfl, d1, d23⟩ := h.split
  obtain ⟨a2, a3, m2, m3, rfl, rfl, d2, d3⟩ := d23.split
  exact ⟨a1, a2, a3, m1, m2, m3, rfl, rfl, by rw [d1.length]; simp; omega, by rw [d2.length]; simp; omega, d1, d2, d3⟩

theorem ld_ok {n : Nat} {ag : Bool} {p : Opd} (h : Sta H F env V Lf) (hx : opV ks V (.ld n ag p) = some (r, V')) : Out H F env Lf V' (.ld n ag p) r := by
  simp only [opV] at hx
  split at hx
  · rename_i q p' k cs ha
    obtain ⟨l, hl, he⟩ := adr_ok h ha
    split at hx
    · rename_i u hu
      obtain ⟨hkn, hag, hu'⟩ := rng_split hu
      obtain ⟨avs, rest, lc, g1, g2, g3, g4, g5, g6, g7⟩ := h.node hl
      obtain ⟨a1, a2, a3, m1, m2, m3, rfl, rfl, l1, l2, d1, d2, d3⟩ := dens_mid g6 hkn
      obtain ⟨v, hv, hv'⟩ := ld_val (ag := ag) he g1 (by rw [g2]; simp) (by rw [g4]; simp only [List.append_assoc]) l1 l2.symm hag (avs := a2) (rest := a3 ++ rest) (pre := a1)
      have hcond : if ag then v = .agg (((H.get l).cells.drop k).take n) else n = 1 ∧ v = (H.get l).cells.getD k .und := by
        have hcell : (H.get l).cells.drop k = a2 ++ (a3 ++ rest) := by
          rw [g4]; simp only [List.append_assoc]; rw [← l1, List.drop_left]
        cases ag with
        | true =>
          simp only [if_true] at hv' ⊢
          rw [hv', hcell, ← l2, List.take_left]
        | false =>
          simp only [Bool.false_eq_true, if_false] at hv' ⊢
          refine ⟨hag.resolve_left (by simp), ?_⟩
          rw [hv', List.getD_eq_getElem?_getD, List.getD_eq_getElem?_getD, ← Nat.add_zero k, ← List.getElem?_drop, hcell, List.getElem?_append_left (by rw [l2, hag.resolve_left (by simp)]; exact Nat.zero_lt_one)]
      split at hx
      · rename_i hp
        simp only [Option.some.injEq, Prod.mk.injEq] at hx
        obtain ⟨rfl, rfl⟩ := hx
        obtain ⟨ls, hd, _⟩ := rng_den h hl hkn hcond hu
        rw [Den.plain hp hd] at hd
        exact Out.plain h hv hd
      · simp only [Option.some.injEq, Prod.mk.injEq] at hx
        obtain ⟨rfl, rfl⟩ := hx
        exact Out.alias h hv ⟨rfl, l, cs, hl, hkn, hcond⟩
    · simp at hx
  · rename_i cs ha
    obtain ⟨l, o, avs, he, g1, g2, g3, ⟨pre, rest, g4, g5⟩, g6⟩ := adr_ok h ha
    split at hx
    · rename_i u hu
      simp only [Option.some.injEq, Prod.mk.injEq] at hx
      obtain ⟨rfl, rfl⟩ := hx
      obtain ⟨hkn, hag, hu'⟩ := rng_split hu
      obtain ⟨a1, a2, a3, m1, m2, m3, rfl, hm, l1, l2, d1, d2, d3⟩ := dens_mid g6 hkn
      have ha1 : a1 = [] := List.eq_nil_of_length_eq_zero l1
      subst ha1
      have hm2 : m2 = [] := by
        have := congrArg List.length hm; simp at this
        exact List.eq_nil_of_length_eq_zero (by omega)
      subst hm2
      obtain ⟨v, hv, hv'⟩ := ld_val (ag := ag) he g1 g2 (by rw [g4]; simp only [List.append_assoc, List.nil_append]) g5 l2.symm hag (avs := a2) (rest := a3 ++ rest) (pre := pre)
      refine Out.plain h hv ?_
      rw [List.drop_zero] at hu' d2
      cases ag with
      | true =>
        simp only [if_true] at hu' hv'
        rw [hu', hv', Den]
        exact ⟨a2, rfl, d2⟩
      | false =>
        simp only [Bool.false_eq_true, if_false] at hu' hv'
        rw [hu'] at d2
        match a2, hv', d2 with
        | [c], hv', d2 => rw [hv']; exact dens_one.1 d2
        | [], _, d2 => have := d2.length; simp at this
        | _ :: _ :: _, _, d2 => have := d2.length; simp at this
    · simp at hx
  · simp at hx

theorem splice_mid {pre a1 a2 a3 us rest : List AV} {k : Nat} (hk : a1.length = k) (hu : us.length = a2.length) : splice (a1 ++ (a2 ++ a3) ++ rest) k us = a1 ++ (us ++ a3) ++ rest := by
  unfold splice
  subst hk
  simp only [List.append_assoc]
  rw [List.take_left, ← List.drop_drop, List.drop_left, hu, List.drop_left]

theorem st_ok {n : Nat} {p x : Opd} (h : Sta H F env V Lf) (hx : opV ks V (.st n p x) = some (r, V')) : Out H F env Lf V' (.st n p x) r := by
  simp only [opV] at hx
  split at hx
  · rename_i t V1 ht
    split at hx
    · rename_i hc
      split at hx
      · rename_i q p' k cs ha
        split at hx
        · rename_i hkn
          split at hx
          · rename_i t0 ht0
            simp only [Option.some.injEq, Prod.mk.injEq, layT] at hx
            obtain ⟨rfl, rfl⟩ := hx
            obtain ⟨l1, Lf1, k1, p1⟩ := take_ok h Lo.nil ht
            obtain ⟨l, hl, he⟩ := adr_ok k1.st ha
            have hl' := hl
            obtain ⟨t0', e1, e2, e3⟩ := hl
            rw [ht0] at e1
            simp only [S.v.injEq] at e1
            subst e1
            obtain ⟨avs, rest, A, lc, B, g2, g3, g4, g5, g6, g7, g8⟩ := k1.st.chg ht0 e2 e3
            obtain ⟨a1, a2, a3, m1, m2, m3, rfl, rfl, c1, c2, d1, d2, d3⟩ := dens_mid g7 hkn
            have hlo := k1.lo
            simp only [List.nil_append] at hlo
            obtain ⟨hvc, hvo⟩ := Den.cells (dens_one.1 hlo.den) hc.2
            have hvl : (x.ev env).cells.length = n := by rw [hvc.length]; exact hc.1
            -- the heap
            have hwr : H.wr l k (x.ev env).cells = some (H.put l (a1 ++ ((x.ev env).cells ++ a3) ++ rest)) := by
              unfold Heap.wr
              rw [if_pos ⟨g3, g2, by rw [g5, hvl]; simp; omega, hvo⟩, g5, splice_mid (pre := []) c1 (by omega)]
            have hop : heapOp env H (.st n p x) = some (.und, H.put l (a1 ++ ((x.ev env).cells ++ a3) ++ rest)) := by
              simp only [heapOp, he, hvl, if_true, hwr, Option.map_some]
            have hoth : ∀ k', k' ≠ l → (H.put l (a1 ++ ((x.ev env).cells ++ a3) ++ rest)).get k' = H.get k' := fun k' hk' => by simp [Heap.put, hk']
            have hl1 : ∀ k' ∈ l1, k' ≠ l := fun k' hk' e => by
              subst e
              exact hlo.dj q k' hk' (by rw [g6]; simp)
            have hmem : ∀ k' ∈ m1 ++ (m2 ++ m3), k' ∈ Lf1 q := fun k' hk' => by rw [g6]; simp at hk' ⊢; grind
            have hne : ∀ k' ∈ m1 ++ (m2 ++ m3), k' ≠ l := by
              intro k' hk' e
              subst e
              have := k1.st.nd q
              rw [g6] at this
              simp only [List.append_assoc, List.cons_append, List.nodup_append, List.nodup_cons, List.mem_append, List.mem_cons] at this hk'
              grind
            have hag : ∀ ls', (∀ k' ∈ ls', k' ≠ l ∧ ¬ F k') → Agree H (H.put l (a1 ++ ((x.ev env).cells ++ a3) ++ rest)) F F ls' := fun ls' hls' =>
              ⟨Nat.le_refl _, fun k' hk' => ⟨hoth k' (fun e => by subst e; exact g4 hk'), hk'⟩, fun k' hk' => ⟨hoth k' (hls' k' hk').1, (hls' k' hk').2⟩⟩
            have own1 : ∀ {us : List T} {ws : List AV} {m : List Nat}, Dens H F ws us m → (∀ k' ∈ m, k' ≠ l) → Agree H (H.put l (a1 ++ ((x.ev env).cells ++ a3) ++ rest)) F F m := fun hd hm => hag _ fun k' hk' => ⟨hm k' hk', (hd.owned k' hk').2.2⟩
            have hnew : Dens (H.put l (a1 ++ ((x.ev env).cells ++ a3) ++ rest)) F (a1 ++ ((x.ev env).cells ++ a3)) (cs.take k ++ (t.cells ++ cs.drop (k + n))) (m1 ++ (l1 ++ m3)) :=
              (d1.agree (own1 d1 fun k' hk' => hne k' (by simp [hk']))).append ((hvc.agree (own1 hvc hl1)).append (d3.agree (own1 d3 fun k' hk' => hne k' (by simp [hk']))))
            have hnd := k1.st.nd q
            rw [g6] at hnd
            have hdj := hlo.dj q
            rw [g6] at hdj
            have hnd' : (A ++ (l :: (m1 ++ (l1 ++ m3))) ++ B).Nodup := by
              have h3 := hlo.nd
              simp only [List.append_assoc, List.cons_append, List.nodup_append, List.nodup_cons, List.mem_append, List.mem_cons] at hnd hdj ⊢
              grind
            have hsta := g8 (H.put l (a1 ++ ((x.ev env).cells ++ a3) ++ rest)) (a1 ++ ((x.ev env).cells ++ a3)) (cs.take k ++ (t.cells ++ cs.drop (k + n))) (m1 ++ (l1 ++ m3)) (Nat.le_refl _) hoth (by simp [Heap.put]) (by simp [Heap.put]) (by simp; omega) hnew hnd' (by
              intro s hs k' hk' hk''
              rcases List.mem_append.1 hk' with hk' | hk'
              · exact hs (k1.st.dj _ _ _ hk'' (hmem k' (by simp [hk'])))
              · rcases List.mem_append.1 hk' with hk' | hk'
                · exact hlo.dj s k' hk' hk''
                · exact hs (k1.st.dj _ _ _ hk'' (hmem k' (by simp [hk']))))
            refine ⟨.und, _, _, [], hop, hsta, ⟨Nat.le_refl _, fun k' hk' hp' => hoth k' fun e => hp' ?_, fun k' hk' => .inl ?_, fun _ h => h, fun _ h => .inl h⟩, Lo.plain (by rw [Den])⟩
            · subst e; exact ⟨q, k1.sub q k' (by rw [g6]; simp)⟩
            · rcases hk' with ⟨s, hk'⟩ | hk'
              · unfold upL at hk'
                split at hk'
                · rename_i hqs; subst hqs
                  have : k' ∈ l1 ∨ k' ∈ Lf1 q := by
                    rw [g6]; simp only [List.mem_append, List.mem_cons] at hk' ⊢; grind
                  rcases this with h4 | h4
                  · exact p1 k' h4
                  · exact ⟨q, k1.sub q k' h4⟩
                · exact ⟨s, k1.sub s k' hk'⟩
              · simp at hk'
          · simp at hx
        · simp at hx
      · simp at hx
    · simp at hx
  · simp at hx

theorem al_ok {zs : List AV} (h : Sta H F env V Lf) (hx : opV ks V (.al zs) = some (r, V')) : Out H F env Lf V' (.al zs) r := by
  simp only [opV] at hx
  obtain ⟨ts, hts, hx⟩ := Option.map_eq_some_iff.1 hx
  simp only [Prod.mk.injEq] at hx
  obtain ⟨rfl, rfl⟩ := hx
  obtain ⟨hd, hp⟩ := ofAVs_ok (H := H) (F := F) hts
  obtain ⟨a1, a2, a3, a4, a5, a6, a7, a8⟩ := alloc_ok (Took.nil h hd) (by simp)
  refine ⟨.ptr H.sz 0, H.new zs, Lf, [H.sz], rfl, a1, a8, dens_one.2 ?_, a6, a7⟩
  rw [Den]
  exact ⟨H.sz, 0, zs, rfl, a3, .inl ⟨rfl, rfl, by rw [a4], a5, by rw [a4], [], rfl, a2⟩⟩

theorem box_ok {n : Nat} {x : Opd} (h : Sta H F env V Lf) (hx : opV ks V (.box n x) = some (r, V')) : Out H F env Lf V' (.box n x) r := by
  simp only [opV] at hx
  split at hx
  · rename_i t V1 ht
    split at hx
    · rename_i hc
      simp only [Option.some.injEq, Prod.mk.injEq] at hx
      obtain ⟨rfl, rfl⟩ := hx
      obtain ⟨l1, Lf1, k1, p1⟩ := take_ok h Lo.nil ht
      have hlo := k1.lo
      simp only [List.nil_append] at hlo
      obtain ⟨hvc, hvo⟩ := Den.cells (dens_one.1 hlo.den) hc.2
      have hvl : (x.ev env).cells.length = n := by rw [hvc.length]; exact hc.1
      obtain ⟨a1, a2, a3, a4, a5, a6, a7, a8⟩ := alloc_ok (Took.mk k1.st ⟨hvc, hlo.nd, hlo.dj⟩ k1.sub) p1
      refine ⟨.ptr H.sz 0, H.new (x.ev env).cells, Lf1, H.sz :: l1, ?_, a1, a8, dens_one.2 ?_, a6, a7⟩
      · simp only [heapOp, allocOp, if_pos (And.intro hvl hvo), Option.map_some]
      · rw [Den]
        exact ⟨H.sz, 0, _, rfl, a3, .inl ⟨rfl, rfl, by rw [a4], a5, by rw [a4], l1, rfl, a2⟩⟩
    · simp at hx
  · simp at hx

theorem fa_ok {o : Nat} {x : Opd} (h : Sta H F env V Lf) (hx : opV ks V (.fa o x) = some (r, V')) : Out H F env Lf V' (.fa o x) r := by
  simp only [opV] at hx
  split at hx
  · rename_i q p k cs ha
    simp only [Option.some.injEq, Prod.mk.injEq] at hx
    obtain ⟨rfl, rfl⟩ := hx
    obtain ⟨l, hl, he⟩ := adr_ok h ha
    exact Out.alias h (v := .ptr l (k + o)) (by simp only [heapOp, pureOp, he]; rfl) ⟨rfl, l, cs, hl, rfl⟩
  · rename_i cs ha
    split at hx
    · rename_i ho
      simp only [Option.some.injEq, Prod.mk.injEq] at hx
      obtain ⟨rfl, rfl⟩ := hx
      obtain ⟨l, k, avs, he, g1, g2, g3, ⟨pre, rest, g4, g5⟩, g6⟩ := adr_ok h ha
      refine Out.plain h (v := .ptr l (k + o)) (by simp only [heapOp, pureOp, he]; rfl) ?_
      obtain ⟨a1, a2, a3, m1, m2, m3, rfl, hm, l1, l2, d1, d2, d3⟩ := dens_mid g6 (k := o) (n := 0) (by omega)
      have ha2 : a2 = [] := List.eq_nil_of_length_eq_zero l2
      subst ha2
      have hm3 : m3 = [] := by
        have := congrArg List.length hm; simp at this
        exact List.eq_nil_of_length_eq_zero (by omega)
      subst hm3
      rw [Den]
      exact ⟨l, k + o, a3, rfl, g1, .inr ⟨rfl, g2, g3, ⟨pre ++ a1, rest, by rw [g4]; simp, by simp; omega⟩, rfl, d3⟩⟩
    · simp at hx
  · simp at hx

theorem nc_ok {x : Opd} (h : Sta H F env V Lf) (hx : opV ks V (.nc x) = some (r, V')) : Out H F env Lf V' (.nc x) r := by
  simp only [opV] at hx
  split at hx
  · rename_i q p k cs ha
    simp only [Option.some.injEq, Prod.mk.injEq] at hx
    obtain ⟨rfl, rfl⟩ := hx
    obtain ⟨l, hl, he⟩ := adr_ok h ha
    exact Out.alias h (v := .ptr l k) (by simp only [heapOp, pureOp, he]; rfl) ⟨rfl, l, cs, hl, rfl⟩
  · rename_i cs ha
    simp only [Option.some.injEq, Prod.mk.injEq] at hx
    obtain ⟨rfl, rfl⟩ := hx
    obtain ⟨l, k, avs, he, g1, g2, g3, g4, g6⟩ := adr_ok h ha
    refine Out.plain h (v := .ptr l k) (by simp only [heapOp, pureOp, he]; rfl) ?_
    rw [Den]
    exact ⟨l, k, avs, rfl, g1, .inr ⟨rfl, g2, g3, g4, rfl, g6⟩⟩
  · simp at hx

theorem ia_ok {e : Nat} {x i : Opd} (h : Sta H F env V Lf) (hx : opV ks V (.ia e x i) = some (r, V')) : Out H F env Lf V' (.ia e x i) r := by
  simp only [opV] at hx
  split at hx
  · rename_i kk j hj
    have hi := sca_ev h hj (by simp)
    split at hx
    · rename_i q p e' cs ha
      split at hx
      · rename_i hb
        simp only [Option.some.injEq, Prod.mk.injEq] at hx
        obtain ⟨rfl, rfl⟩ := hx
        obtain ⟨rfl, h0, hlt⟩ := hb
        obtain ⟨l, n, hl, he, hn, hpos⟩ := sl_ok h ha
        rw [hn, Nat.mul_div_cancel _ hpos] at hlt
        refine Out.alias h (v := .ptr l (0 + j.toNat * e)) (by simp only [heapOp, pureOp, he, hi]; rw [if_pos ⟨trivial, h0, hlt⟩]; rfl) ⟨rfl, l, cs, hl, by simp⟩
      · simp at hx
    · rename_i y e' cs ha
      split at hx
      · rename_i hb
        simp only [Option.some.injEq, Prod.mk.injEq] at hx
        obtain ⟨rfl, rfl⟩ := hx
        obtain ⟨rfl, h0, hlt⟩ := hb
        obtain ⟨l, o, n, avs, he, g1, g2, g3, ⟨pre, rest, g4, g5⟩, g6, hn, hpos⟩ := sl_ok h ha
        rw [hn, Nat.mul_div_cancel _ hpos] at hlt
        refine Out.plain h (v := .ptr l (o + j.toNat * e)) (by simp only [heapOp, pureOp, he, hi]; rw [if_pos ⟨trivial, h0, hlt⟩]; rfl) ?_
        have hle : j.toNat * e + 0 ≤ cs.length := by
          rw [hn, Nat.add_zero]; exact Nat.mul_le_mul_right e (by omega)
        obtain ⟨a1, a2, a3, m1, m2, m3, rfl, hm, l1, l2, d1, d2, d3⟩ := dens_mid g6 hle
        have ha2 : a2 = [] := List.eq_nil_of_length_eq_zero l2
        subst ha2
        have hm3 : m3 = [] := by
          have := congrArg List.length hm; simp at this
          exact List.eq_nil_of_length_eq_zero (by omega)
        subst hm3
        rw [Den]
        exact ⟨l, o + j.toNat * e, a3, rfl, g1, .inr ⟨rfl, g2, g3, ⟨pre ++ a1, rest, by rw [g4]; simp, by simp; omega⟩, rfl, d3⟩⟩
      · simp at hx
    · simp at hx
  · simp at hx

end Go.Proofs.YtabmomjfdondnaaH
