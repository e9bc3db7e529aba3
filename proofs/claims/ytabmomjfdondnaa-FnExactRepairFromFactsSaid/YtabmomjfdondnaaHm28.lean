/- The machine of trees is sound. -/
import Derived.Test.YtabmomjfdondnaaHm27
set_option linter.unusedVariables false
set_option linter.unusedSimpArgs false
namespace Go.Proofs.YtabmomjfdondnaaH
open Go

variable {H H' : Heap} {F F' : Nat → Prop} {env env' : Env} {V V' : VEnv} {Lf : Nat → List Nat} {v : AV} {ls : List Nat} {r : RV}

theorem res1_ok {c : CRes} {t : T} {avs : List AV} {ts : List T} (h : Sta H F env V Lf) (hl : Lo H F Lf avs ts ls) (hx : resV1 V c = some (t, V')) :
    ∃ v l1 Lf', resOf env H c = some v ∧ Took H F env V' Lf Lf' (avs ++ [v]) (ts ++ [t]) (ls ++ l1) ∧ ∀ l ∈ l1, ∃ s, l ∈ Lf s := by
  cases c with
  | t i =>
    have hx' : takeV V (.t i) = some (t, V') := hx
    obtain ⟨l1, Lf', h1, h2⟩ := take_ok h hl hx'
    exact ⟨_, l1, Lf', rfl, h1, h2⟩
  | m i n ag =>
    simp only [resV1] at hx
    split at hx
    · rename_i r p k cs ha
      obtain ⟨l, hloc, he⟩ := adr_ok h ha
      split at hx
      · rename_i u t0 hu ht0
        obtain ⟨t0', e1, e2, e3⟩ := id hloc
        rw [ht0] at e1
        simp only [S.v.injEq] at e1
        subst e1
        obtain ⟨hkn, hag, hu'⟩ := rng_split hu
        obtain ⟨avs0, rest, lc, g1, g2, g3, g4, g5, g6, g7⟩ := h.node hloc
        obtain ⟨a1, a2, a3, m1, m2, m3, rfl, rfl, l1, l2, d1, d2, d3⟩ := dens_mid g6 hkn
        obtain ⟨v, hv, hv'⟩ := ld_val (ag := ag) (p := .t i) he g1 (by rw [g2]; simp) (by rw [g4]; simp only [List.append_assoc]) l1 l2.symm hag (avs := a2) (rest := a3 ++ rest) (pre := a1)
        have hcond : if ag then v = .agg (((H.get l).cells.drop k).take n) else n = 1 ∧ v = (H.get l).cells.getD k .und := by
          have hcell : (H.get l).cells.drop k = a2 ++ (a3 ++ rest) := by
            rw [g4]; simp only [List.append_assoc]; rw [← l1, List.drop_left]
          cases ag with
          | true =>
            simp only [if_true] at hv' ⊢
            rw [hv', hcell, ← l2, List.take_left]
          | false =>
            simp only [Bool.false_eq_true, if_false] at hv' ⊢
            refine ⟨hag.resolve_left (by simp), ?_⟩
            rw [hv', List.getD_eq_getElem?_getD, List.getD_eq_getElem?_getD, ← Nat.add_zero k, ← List.getElem?_drop, hcell, List.getElem?_append_left (by rw [l2, hag.resolve_left (by simp)]; exact Nat.zero_lt_one)]
        have hres : resOf env H (.m i n ag) = some v := by
          simp only [Opd.ev] at he
          simp only [heapOp, Opd.ev, he] at hv
          simp only [resOf, he]
          obtain ⟨vs, h1, h2⟩ := Option.bind_eq_some_iff.1 hv
          rw [h1, Option.bind_some]
          split at h2
          · rename_i hag; rw [if_pos hag]; simp only [Option.some.injEq, Prod.mk.injEq] at h2; rw [h2.1]
          · rename_i hag
            rw [if_neg hag]
            split at h2
            · simp only [Option.some.injEq, Prod.mk.injEq] at h2; rw [h2.1]
            · simp at h2
        split at hx
        · rename_i hp
          simp only [Option.some.injEq, Prod.mk.injEq] at hx
          obtain ⟨rfl, rfl⟩ := hx
          obtain ⟨ls', hd, _⟩ := rng_den h hloc hkn hcond hu
          rw [Den.plain hp hd] at hd
          exact ⟨v, [], Lf, hres, ⟨h, hl.snoc hd (by simp) (by simp) (by simp), fun _ _ h => h⟩, by simp⟩
        · simp only [Option.some.injEq, Prod.mk.injEq] at hx
          obtain ⟨rfl, rfl⟩ := hx
          obtain ⟨l1, Lf', h1, h2⟩ := rng_take h hl ht0 e2 e3 hkn hcond hu
          exact ⟨v, l1, Lf', hres, h1, h2⟩
      · simp at hx
    · rename_i cs ha
      obtain ⟨u, hu, hx⟩ := Option.map_eq_some_iff.1 hx
      simp only [Prod.mk.injEq] at hx
      obtain ⟨rfl, rfl⟩ := hx
      have hout := ld_ok (ks := []) (p := .t i) (n := n) (ag := ag) h (r := .v u) (V' := V) (by simp only [opV, ha, hu])
      obtain ⟨v, H1, Lf1, ls1, h1, h2, h3, h4⟩ := hout
      have hres : resOf env H (.m i n ag) = some v ∧ H1 = H := by
        simp only [heapOp, Opd.ev] at h1
        simp only [resOf]
        split at h1
        · obtain ⟨vs, e1, e2⟩ := Option.bind_eq_some_iff.1 h1
          rw [e1, Option.bind_some]
          split at e2
          · rename_i hag; rw [if_pos hag]; simp only [Option.some.injEq, Prod.mk.injEq] at e2; rw [e2.1]; exact ⟨rfl, e2.2.symm⟩
          · rename_i hag
            rw [if_neg hag]
            split at e2
            · simp only [Option.some.injEq, Prod.mk.injEq] at e2; rw [e2.1]; exact ⟨rfl, e2.2.symm⟩
            · simp at e2
        · simp at h1
      obtain ⟨hr1, rfl⟩ := hres
      -- a shared value owns nothing
      have hplain : Den H1 F v u [] := by
        obtain ⟨l, o, avs0, he, g1, g2, g3, ⟨pre, rest, g4, g5⟩, g6⟩ := adr_ok h ha
        obtain ⟨hkn, hag, hu'⟩ := rng_split hu
        obtain ⟨a1, a2, a3, m1, m2, m3, rfl, hm, l1, l2, d1, d2, d3⟩ := dens_mid g6 hkn
        have ha1 : a1 = [] := List.eq_nil_of_length_eq_zero l1
        subst ha1
        have hm2 : m2 = [] := by
          have := congrArg List.length hm; simp at this
          exact List.eq_nil_of_length_eq_zero (by omega)
        subst hm2
        obtain ⟨v', hv, hv'⟩ := ld_val (ag := ag) (p := .t i) he g1 g2 (by rw [g4]; simp only [List.append_assoc, List.nil_append]) g5 l2.symm hag (avs := a2) (rest := a3 ++ rest) (pre := pre)
        rw [h1] at hv
        simp only [Option.some.injEq, Prod.mk.injEq, and_true] at hv
        subst hv
        rw [List.drop_zero] at hu' d2
        cases ag with
        | true =>
          simp only [if_true] at hu' hv'
          rw [hu', hv', Den]
          exact ⟨a2, rfl, d2⟩
        | false =>
          simp only [Bool.false_eq_true, if_false] at hu' hv'
          rw [hu'] at d2
          match a2, hv', d2 with
          | [c], hv', d2 => rw [hv']; exact dens_one.1 d2
          | [], _, d2 => have := d2.length; simp at this
          | _ :: _ :: _, _, d2 => have := d2.length; simp at this
      exact ⟨v, [], Lf, hr1, ⟨h, hl.snoc hplain (by simp) (by simp) (by simp), fun _ _ h => h⟩, by simp⟩
    · simp at hx

theorem res_ok' : ∀ {rs : List CRes} {V : VEnv} {Lf : Nat → List Nat} {ts : List T} {avs0 : List AV} {ts0 : List T} {ls : List Nat} {V' : VEnv}, Sta H F env V Lf → Lo H F Lf avs0 ts0 ls → resV V rs = some (ts, V') →
    ∃ vs l1 Lf', rs.mapM (resOf env H) = some vs ∧ Took H F env V' Lf Lf' (avs0 ++ vs) (ts0 ++ ts) (ls ++ l1) ∧ ∀ l ∈ l1, ∃ s, l ∈ Lf s
  | [], V, Lf, ts, avs0, ts0, ls, V', h, hl, hx => by
    simp only [resV, Option.some.injEq, Prod.mk.injEq] at hx
    obtain ⟨rfl, rfl⟩ := hx
    exact ⟨[], [], Lf, rfl, ⟨h, by simpa using hl, fun _ _ h => h⟩, by simp⟩
  | c :: rs, V, Lf, ts, avs0, ts0, ls, V', h, hl, hx => by
    simp only [resV] at hx
    split at hx
    · rename_i t V1 h1
      obtain ⟨⟨ts', V2⟩, h2, hx⟩ := Option.map_eq_some_iff.1 hx
      simp only [Prod.mk.injEq] at hx
      obtain ⟨rfl, rfl⟩ := hx
      obtain ⟨v, l1, Lf1, e1, k1, p1⟩ := res1_ok h hl h1
      obtain ⟨vs, l2, Lf2, e2, k2, p2⟩ := res_ok' k1.st k1.lo h2
      refine ⟨v :: vs, l1 ++ l2, Lf2, ?_, ⟨k2.st, by simpa using k2.lo, fun s l hl => k1.sub s l (k2.sub s l hl)⟩, fun l hl => ?_⟩
      · rw [List.mapM_cons, e1, e2]; rfl
      · rcases List.mem_append.1 hl with hl | hl
        · exact p1 l hl
        · obtain ⟨s, hs⟩ := p2 l hl; exact ⟨s, k1.sub s l hs⟩
    · simp at hx

theorem results_eq {vs : List AV} {ts : List T} {l1 : List Nat} {rs : List CRes} (hm : rs.mapM (resOf env H) = some vs) (hd : Dens H F vs ts l1) : ∃ v, results env H rs = some v ∧ Den H F v (tupT ts) l1 := by
  unfold results
  rw [hm, Option.map_some]
  match vs, ts, hd with
  | [], [], hd =>
    refine ⟨_, rfl, ?_⟩
    simp only [tupT]
    rw [Den]; exact ⟨[], rfl, hd⟩
  | [v], [t], hd => exact ⟨_, rfl, dens_one.1 hd⟩
  | v :: w :: vs, t :: u :: ts, hd =>
    refine ⟨_, rfl, ?_⟩
    simp only [tupT]
    rw [Den]; exact ⟨_, rfl, hd⟩
  | [], _ :: _, hd => have := hd.length; simp at this
  | _ :: _, [], hd => have := hd.length; simp at this
  | [_], _ :: _ :: _, hd => have := hd.length; simp at this
  | _ :: _ :: _, [_], hd => have := hd.length; simp at this

/-- A function's first state. -/
theorem start_ok : ∀ {ts : List T} {vs : List AV} {ls : List Nat} {i : Nat} {env : Env} {V : VEnv} {Lf : Nat → List Nat}, Sta H F env V Lf → Dens H F vs ts ls → ls.Nodup → (∀ s l, l ∈ ls → l ∉ Lf s) → i + ts.length ≤ env.length →
    ∃ env' Lf', Sta H F env' (startV i ts V) Lf' ∧ env' = env.take i ++ (vs ++ env.drop (i + vs.length)) ∧ ∀ l, Pl Lf' l → Pl Lf l ∨ l ∈ ls
  | [], vs, ls, i, env, V, Lf, h, hd, hnd, hdj, hlen => by
    rw [Dens] at hd
    obtain ⟨rfl, rfl⟩ := hd
    exact ⟨env, Lf, h, by simp, fun l hl => .inl hl⟩
  | t :: ts, vs, ls, i, env, V, Lf, h, hd, hnd, hdj, hlen => by
    rw [Dens] at hd
    obtain ⟨v, vs', l1, l2, rfl, rfl, h1, h2⟩ := hd
    obtain ⟨n1, n2, n3⟩ := List.nodup_append.1 hnd
    simp only [List.length_cons] at hlen
    have hst := h.put (d := i) (by omega) (Lo.mk (dens_one.2 h1) n1 fun s l hl => hdj s l (by simp [hl]))
    obtain ⟨env', Lf', k1, k2, k3⟩ := start_ok (i := i + 1) hst h2 n2 (fun s l hl hl' => by
      unfold upL at hl'
      split at hl'
      · exact n3 l hl' l hl rfl
      · exact hdj s l (by simp [hl]) hl') (by rw [List.length_set]; omega)
    refine ⟨env', Lf', k1, ?_, fun l hl => ?_⟩
    · rw [k2]
      have hi : i < env.length := by omega
      rw [List.take_add_one, List.getElem?_set_self hi, List.take_set_of_le (Nat.le_refl _), List.drop_set_of_lt (show i < i + 1 + vs'.length by omega)]
      simp only [Option.toList_some, List.append_assoc, List.cons_append, List.nil_append, List.length_cons]
      congr 3
      congr 1
      omega
    · rcases k3 l hl with ⟨s, h4⟩ | h4
      · unfold upL at h4
        split at h4
        · exact .inr (by simp [h4])
        · exact .inl ⟨s, h4⟩
      · exact .inr (by simp [h4])

theorem Sta.empty (n : Nat) (hF : Fz H F) : Sta H F (List.replicate n .und) [] (fun _ => []) := by
  refine ⟨hF, fun s => ?_, fun s => List.nodup_nil, by simp, fun s _ => rfl⟩
  simp only [VEnv.get, SR]
  rw [Den]

theorem io_eq {io : List Nat} {env' : Env} : ∀ (vs : List AV) (i : Nat), (∀ j, j < vs.length → io.contains (i + j) = true → env'.getD (i + j) .und = vs.getD j .und) →
    (ioSel io i ((List.range' i vs.length).map Opd.t)).map (Opd.ev env') = ioSel io i vs
  | [], i, h => rfl
  | v :: vs, i, h => by
    simp only [List.length_cons, List.range'_succ, List.map_cons, ioSel]
    have hrec := io_eq vs (i + 1) fun j hj hc => by
      have := h (j + 1) (by simp; omega) (by rw [← hc]; congr 1; omega)
      rw [show i + 1 + j = i + (j + 1) by omega, this]; simp
    split
    · rename_i hc
      have := h 0 (by simp) (by simpa using hc)
      rw [List.map_cons, hrec]
      congr 1
    · exact hrec

/-- A slot's value is seen as another; what leads into it is lost. -/
theorem Sta.see (h : Sta H F env V Lf) {s : Nat} {t t1 : T} {G : Nat → Prop} {l1 : List Nat} (hs : V.get s = .v t) (hu : t ≠ .und) (hG : ∀ l, F l → G l) (hG2 : ∀ l, G l → F l ∨ l ∈ Lf s) (hG3 : ∀ l, l ∈ l1 → l ∈ Lf s) (hnd : l1.Nodup) (hd : Den H G (env.getD s .und) t1 l1) :
    Sta H G env ((unroot s V).set s (.v t1)) (upL Lf s l1) := by
  have hg : ∀ q, ((unroot s V).set s (.v t1)).get q = if s = q then .v t1 else if (V.get q).rooted s then .v .und else V.get q := by
    intro q; rw [VEnv.get_set, unroot_get]
  have hown : ∀ l, l ∈ Lf s → l < H.sz ∧ (H.get l).st = .own ∧ ¬ F l := fun l hl => Den.owned (h.den hs) l hl
  have hup : ∀ q l, l ∈ upL Lf s l1 q → l ∈ Lf q := by
    intro q l hl
    unfold upL at hl
    split at hl
    · rename_i e; subst e; exact hG3 l hl
    · exact hl
  refine ⟨fun l hl => ?_, fun q => ?_, fun q => ?_, fun a b l h1 h2 => h.dj a b l (hup _ _ h1) (hup _ _ h2), fun q hq => ?_⟩
  · rcases hG2 l hl with hl | hl
    · exact h.fz l hl
    · exact ⟨(hown l hl).1, by rw [(hown l hl).2.1]; simp⟩
  · rw [hg]
    unfold upL
    by_cases e : s = q
    · subst e
      rw [if_pos rfl, if_pos rfl]; exact hd
    · rw [if_neg e, if_neg e]
      have hsr := h.sr q
      by_cases hr : (V.get q).rooted s = true
      · rw [if_pos hr]
        simp only [SR]; rw [Den]
        exact hsr.rooted hr
      · rw [if_neg hr]
        have hroot : ∀ r t', r ≠ s → V.get r = .v t' → ((unroot s V).set s (.v t1)).get r = .v t' := by
          intro r t' hrs hv
          rw [hg, if_neg (Ne.symm hrs), hv]
          simp [S.rooted]
        have hloc : ∀ r p l cs, r ≠ s → Loc H env V r p l cs → Loc H env ((unroot s V).set s (.v t1)) r p l cs := by
          intro r p l cs hrs ⟨t', h1, h2, h3⟩
          exact ⟨t', hroot r t' hrs h1, h2, h3⟩
        cases hx : V.get q with
        | v t' =>
          rw [hx] at hsr
          refine Den.agree ⟨Nat.le_refl _, fun l hl => ⟨rfl, hG l hl⟩, fun l hl => ⟨rfl, fun hgl => ?_⟩⟩ hsr
          rcases hG2 l hgl with h1 | h1
          · exact (Den.owned hsr l hl).2.2 h1
          · exact e (h.dj _ _ _ h1 hl)
        | al r =>
          rw [hx] at hsr hr
          simp only [S.rooted, beq_iff_eq] at hr
          obtain ⟨a1, a2, t', a3⟩ := hsr
          exact ⟨a1, a2, t', hroot r t' hr a3⟩
        | ref r p k n ag =>
          rw [hx] at hsr hr
          simp only [S.rooted, beq_iff_eq] at hr
          obtain ⟨a1, l, cs, a2, a3⟩ := hsr
          exact ⟨a1, l, cs, hloc _ _ _ _ hr a2, a3⟩
        | adr r p k =>
          rw [hx] at hsr hr
          simp only [S.rooted, beq_iff_eq] at hr
          obtain ⟨a1, l, cs, a2, a3⟩ := hsr
          exact ⟨a1, l, cs, hloc _ _ _ _ hr a2, a3⟩
        | clo f cs =>
          rw [hx] at hsr hr
          obtain ⟨a1, vs, a2, a3⟩ := hsr
          refine ⟨a1, vs, a2, a3.imp fun c v hc b => ?_⟩
          cases c with
          | t u => exact Den.agree ⟨Nat.le_refl _, fun l hl => ⟨rfl, hG l hl⟩, by simp⟩ b
          | a r p k =>
            obtain ⟨l, cs', b1, b2⟩ := b
            refine ⟨l, cs', hloc _ _ _ _ ?_ b1, b2⟩
            intro hrs
            subst hrs
            exact hr (List.any_eq_true.2 ⟨_, hc, by simp [Cap.rooted]⟩)
  · unfold upL
    split
    · exact hnd
    · exact h.nd q
  · rw [hg]
    split
    · rename_i e; subst e
      rw [h.ln s hq] at hs
      simp only [S.v.injEq] at hs
      exact absurd hs.symm hu
    · rw [h.ln q hq]; simp [S.rooted]
theorem J_app {Tb : Nat → Option CFn} {X : Ext} : ∀ {ops ops2 : List (Nat × COper)} {env env1 env2 : Env} {H H1 H2 : Heap}, J Tb X (.op ops env H env1 H1) → J Tb X (.op ops2 env1 H1 env2 H2) → J Tb X (.op (ops ++ ops2) env H env2 H2)
  | [], ops2, env, env1, env2, H, H1, H2, h, h2 => by
    cases h with
    | opNil => exact h2
  | (i, o) :: ops, ops2, env, env1, env2, H, H1, H2, h, h2 => by
    cases h with
    | opSkip a b c => exact .opSkip a b (J_app c h2)
    | opDo a b c d e => exact .opDo a b c d (J_app e h2)
    | opCall a b c d e f => exact .opCall a b c d e (J_app f h2)
theorem atCaps_ev (h : Sta H F env V Lf) : ∀ {avs : List AV} {ss : List Nat}, AtCaps V avs ss → (ss.map Opd.t).map (Opd.ev env) = avs
  | [], [], _ => rfl
  | [], _ :: _, hc => by simp [AtCaps] at hc
  | _ :: _, [], hc => by simp [AtCaps] at hc
  | a :: avs, s :: ss, hc => by
    obtain ⟨⟨t, h1⟩, h2⟩ := hc
    have hd := h.den h1
    rw [Den] at hd
    simp only [List.map_cons, Opd.ev]
    rw [hd.1]
    congr 1
    exact atCaps_ev h h2
theorem unl_get {s : Nat} {t : T} {wr asd : List Nat} {Vf V1 : VEnv} : ∀ {V2 : VEnv}, Unl s t wr asd Vf V1 V2 → ∀ q, V2.get q = .v .und ∨ (q = s ∧ V2.get q = .v t) ∨ (q ≠ s ∧ ∃ u, V2.get q = .v u ∧ ((wr.contains q = false ∧ (u.plain = true ∨ asd.contains q = true) ∧ Vf.get q = .v u) ∨ (u.alone = true ∧ V1.get q = .v u)))
  | [], _, q => .inl rfl
  | (k, x) :: r, h, q => by
    obtain ⟨h1, h2⟩ := h
    simp only [VEnv.get]
    by_cases e : k = q
    · rw [if_pos e]; subst e
      rcases h1 with h1 | ⟨h1, u, h3⟩
      · exact .inr (.inl h1)
      · exact .inr (.inr ⟨h1, u, h3⟩)
    · rw [if_neg e]; exact unl_get h2 q
theorem drops_get : ∀ (ss : List Nat) (V : VEnv) (q : Nat), q ∈ ss → (V.drops ss).get q = .v .und
  | s :: ss, V, q, h => by
    simp only [VEnv.drops]
    by_cases hq : q ∈ ss
    · exact drops_get ss _ q hq
    · have : q = s := by simpa [hq] using h
      subst this
      have keep : ∀ (ss : List Nat) (V : VEnv), V.get q = .v .und → (V.drops ss).get q = .v .und := by
        intro ss
        induction ss with
        | nil => intro V h; exact h
        | cons a ss ih =>
          intro V h
          simp only [VEnv.drops]
          refine ih _ ?_
          rw [VEnv.get_drop, h]
          split
          · rfl
          · simp [S.rooted]
      exact keep ss _ (by rw [VEnv.get_drop, if_pos rfl])
/-- Behind operations for which a slot's memory was lent. -/
theorem lend_back {H1 : Heap} {F1 : Nat → Prop} {env1 : Env} {V0 V1 V2 : VEnv} {Lf0 Lf1 : Nat → List Nat} {s : Nat} {t : T} {wr asd : List Nat} (h : Sta H F env V Lf) (hs : V.get s = .v t) (hu : t ≠ .und)
    (h0 : Sta H (fun l => F l ∨ l ∈ Lf s) env V0 Lf0) (hsub0 : ∀ q l, l ∈ Lf0 q → l ∈ upL Lf s [] q) (hasd : ∀ q, q ∈ asd → V0.get q = .v .und)
    (h1 : Sta H1 F1 env1 V1 Lf1) (htr : Tr H (fun l => F l ∨ l ∈ Lf s) (Pl Lf0) H1 F1 (Pl Lf1)) (hlen : env1.length = env.length) (hkeep : ∀ q, q ∉ wr → env1.getD q .und = env.getD q .und) (hwr : wr.contains s = false) (hunl : Unl s t wr asd V V1 V2) :
    ∃ F2 Lf2, Sta H1 F2 env1 V2 Lf2 ∧ Tr H F (Pl Lf) H1 F2 (Pl Lf2) := by
  classical
  have hg := unl_get hunl
  have hmem : ∀ q, wr.contains q = false → q ∉ wr := fun q hq hm => by
    have : wr.contains q = true := List.elem_iff.2 hm
    rw [this] at hq; cases hq
  have h0e : ∀ q, q ∈ asd → Lf0 q = [] := by
    intro q hq
    have hsr := h0.sr q
    rw [hasd q hq] at hsr
    simp only [SR] at hsr
    rw [Den] at hsr
    exact hsr
  have hsame : ∀ l, l < H.sz → (∀ q, q ≠ s → q ∉ asd → l ∉ Lf q) → H1.get l = H.get l := by
    intro l hl hn
    refine htr.fr l hl ?_
    rintro ⟨q, hq⟩
    have hq' := hsub0 q l hq
    by_cases ha : q ∈ asd
    · rw [h0e q ha] at hq; simp at hq
    unfold upL at hq'
    split at hq'
    · simp at hq'
    · rename_i e; exact hn q (Ne.symm e) ha hq'
  have hown : ∀ l, l ∈ Lf s → l < H.sz ∧ (H.get l).st = .own ∧ ¬ F l := fun l hl => Den.owned (h.den hs) l hl
  have hF : ∀ l, F l → l < H.sz ∧ H1.get l = H.get l ∧ l ∉ Lf s ∧ F1 l := by
    intro l hl
    have h2 := h.fz l hl
    have hno : ∀ q, l ∉ Lf q := by
      intro q hq
      have hsr := h.sr q
      cases hx : V.get q with
      | v u => rw [hx] at hsr; exact (Den.owned hsr l hq).2.2 hl
      | _ => rw [hx] at hsr; rw [hsr.1] at hq; simp at hq
    exact ⟨h2.1, hsame l h2.1 fun q _ _ => hno q, hno s, htr.fm l (.inl hl)⟩
  have hls : ∀ l, l ∈ Lf s → H1.get l = H.get l ∧ F1 l := fun l hl =>
    ⟨hsame l (hown l hl).1 fun q hq _ hm => hq (h.dj _ _ _ hm hl), htr.fm l (.inr hl)⟩
  have hL1 : ∀ q l, l ∈ Lf1 q → l ∉ Lf s := by
    intro q l hl hm
    have hsr := h1.sr q
    cases hx : V1.get q with
    | v u => rw [hx] at hsr; exact (Den.owned hsr l hl).2.2 (hls l hm).2
    | _ => rw [hx] at hsr; rw [hsr.1] at hl; simp at hl
  -- what was set aside
  have hAs : ∀ q l, q ∈ asd → q ≠ s → l ∈ Lf q → H1.get l = H.get l ∧ ¬ F1 l ∧ ∀ q', l ∉ Lf1 q' := by
    intro q l hq hqs hl
    have hsr := h.sr q
    have hlo : l < H.sz ∧ ¬ F l := by
      cases hx : V.get q with
      | v u => rw [hx] at hsr; have := Den.owned hsr l hl; exact ⟨this.1, this.2.2⟩
      | _ => rw [hx] at hsr; rw [hsr.1] at hl; simp at hl
    have hno : ∀ q', l ∉ Lf0 q' := by
      intro q' hm
      have h2 := hsub0 q' l hm
      unfold upL at h2
      split at h2
      · simp at h2
      · have := h.dj _ _ _ hl h2
        subst this
        rw [h0e q hq] at hm; simp at hm
    refine ⟨htr.fr l hlo.1 (fun ⟨q', hm⟩ => hno q' hm), fun hf => ?_, fun q' hm => ?_⟩
    · rcases htr.fp l hf with (h2 | h2) | ⟨q', h2⟩ | h2
      · exact hlo.2 h2
      · exact hqs (h.dj _ _ _ hl h2)
      · exact hno q' h2
      · omega
    · rcases htr.pl l ⟨q', hm⟩ with ⟨q'', h2⟩ | h2
      · exact hno q'' h2
      · omega
  let fl : Nat → Prop := fun q => q ≠ s ∧ ∃ u, V2.get q = .v u ∧ u.alone = true ∧ V1.get q = .v u
  let ga : Nat → Prop := fun q => q ≠ s ∧ ¬ fl q ∧ q ∈ asd ∧ q ∉ wr ∧ ∃ u, V2.get q = .v u ∧ V.get q = .v u
  let Lf2 : Nat → List Nat := fun q => if q = s then (if V2.get s = .v t then Lf s else []) else if fl q ∧ ¬ V2.get q = .v .und then Lf1 q else if ga q ∧ ¬ V2.get q = .v .und then Lf q else []
  have cases2 : ∀ q l, l ∈ Lf2 q → (q = s ∧ l ∈ Lf s) ∨ (q ≠ s ∧ l ∈ Lf1 q) ∨ (q ≠ s ∧ q ∈ asd ∧ l ∈ Lf q) := by
    intro q l hl
    simp only [Lf2] at hl
    split at hl
    · rename_i e; subst e
      split at hl
      · exact .inl ⟨rfl, hl⟩
      · simp at hl
    · rename_i e
      split at hl
      · exact .inr (.inl ⟨e, hl⟩)
      · split at hl
        · rename_i h9; exact .inr (.inr ⟨e, h9.1.2.2.1, hl⟩)
        · simp at hl
  refine ⟨fun l => F1 l ∧ l ∉ Lf s, Lf2, ⟨fun l hl => h1.fz l hl.1, fun q => ?_, fun q => ?_, fun q q' l hq hq' => ?_, fun q hq => ?_⟩, ?_⟩
  · -- each slot
    rcases hg q with hq | ⟨rfl, hq⟩ | ⟨hqs, u, hq, hc⟩
    · rw [hq]
      simp only [SR]
      rw [Den]
      by_cases e : q = s
      · subst e
        simp only [Lf2, if_true]
        rw [if_neg]
        rw [hq]; intro h9; simp only [S.v.injEq] at h9; exact hu h9.symm
      · simp only [Lf2, if_neg e]
        rw [if_neg, if_neg]
        · exact fun hc => hc.2 hq
        · exact fun hc => hc.2 hq
    · rw [hq]
      simp only [SR, Lf2, if_true, hq]
      rw [hkeep q (hmem q hwr)]
      exact Den.agree ⟨htr.sz, fun l hl => ⟨(hF l hl).2.1, (hF l hl).2.2.2, (hF l hl).2.2.1⟩, fun l hl => ⟨(hls l hl).1, fun hc => hc.2 hl⟩⟩ (h.den hs)
    · rw [hq]
      simp only [SR]
      by_cases hz : u = .und
      · subst hz
        rw [Den]
        simp only [Lf2, if_neg hqs]
        rw [if_neg, if_neg]
        · exact fun hc => hc.2 hq
        · exact fun hc => hc.2 hq
      have hnz : ¬ V2.get q = .v .und := by rw [hq]; intro h9; simp only [S.v.injEq] at h9; exact hz h9
      have hfl1 : fl q → V1.get q = .v u ∧ u.alone = true ∧ Lf2 q = Lf1 q := by
        intro hfl
        have hfl' := hfl
        obtain ⟨_, u', e1, e2, e3⟩ := hfl
        rw [hq] at e1
        simp only [S.v.injEq] at e1; subst e1
        refine ⟨e3, e2, ?_⟩
        simp only [Lf2, if_neg hqs]
        rw [if_pos ⟨hfl', hnz⟩]
      rcases hc with ⟨h3, h4, h5⟩ | ⟨h3, h4⟩
      · by_cases hfl : fl q
        · obtain ⟨e3, e2, e4⟩ := hfl1 hfl
          rw [e4]
          exact Den.alone e2 ⟨Nat.le_refl _, fun l hl => ⟨rfl, fun hc => (Den.owned (h1.den e3) l hl).2.2 hc.1⟩⟩ (h1.den e3)
        · by_cases hga : ga q
          · have : Lf2 q = Lf q := by
              simp only [Lf2, if_neg hqs]
              rw [if_neg (fun hc => hfl hc.1), if_pos ⟨hga, hnz⟩]
            rw [this, hkeep q (hmem q h3)]
            exact Den.agree ⟨htr.sz, fun l hl => ⟨(hF l hl).2.1, (hF l hl).2.2.2, (hF l hl).2.2.1⟩, fun l hl => ⟨(hAs q l hga.2.2.1 hqs hl).1, fun hc => (hAs q l hga.2.2.1 hqs hl).2.1 hc.1⟩⟩ (h.den h5)
          · have hpl : u.plain = true := by
              rcases h4 with h4 | h4
              · exact h4
              · exact absurd ⟨hqs, hfl, List.elem_iff.1 h4, hmem q h3, u, hq, h5⟩ hga
            have : Lf2 q = [] := by
              simp only [Lf2, if_neg hqs]
              rw [if_neg (fun hc => hfl hc.1), if_neg (fun hc => hga hc.1)]
            rw [this, hkeep q (hmem q h3)]
            have hd := h.den h5
            rw [Den.plain hpl hd] at hd
            exact Den.agree ⟨htr.sz, fun l hl => ⟨(hF l hl).2.1, (hF l hl).2.2.2, (hF l hl).2.2.1⟩, by simp⟩ hd
      · have : Lf2 q = Lf1 q := by
          simp only [Lf2, if_neg hqs]
          rw [if_pos ⟨⟨hqs, u, hq, h3, h4⟩, hnz⟩]
        rw [this]
        exact Den.alone h3 ⟨Nat.le_refl _, fun l hl => ⟨rfl, fun hc => (Den.owned (h1.den h4) l hl).2.2 hc.1⟩⟩ (h1.den h4)
  · simp only [Lf2]
    split
    · split
      · exact h.nd s
      · exact List.nodup_nil
    · split
      · exact h1.nd q
      · split
        · exact h.nd q
        · exact List.nodup_nil
  · rcases cases2 q l hq with ⟨rfl, a⟩ | ⟨e, a⟩ | ⟨e, e2, a⟩ <;> rcases cases2 q' l hq' with ⟨rfl, b⟩ | ⟨e', b⟩ | ⟨e', e2', b⟩
    · rfl
    · exact absurd a (hL1 _ _ b)
    · exact h.dj _ _ _ a b
    · exact absurd b (hL1 _ _ a)
    · exact h1.dj _ _ _ a b
    · exact absurd a ((hAs q' l e2' e' b).2.2 q)
    · exact h.dj _ _ _ a b
    · exact absurd b ((hAs q l e2 e a).2.2 q')
    · exact h.dj _ _ _ a b
  · rcases hg q with h2 | ⟨rfl, h2⟩ | ⟨_, u, h2, h3⟩
    · exact h2
    · rw [h.ln q (by omega)] at hs
      simp only [S.v.injEq] at hs
      exact absurd hs.symm hu
    · rcases h3 with ⟨_, _, h4⟩ | ⟨_, h4⟩
      · rw [h.ln q (by omega)] at h4; rw [h2, ← h4]
      · rw [h1.ln q hq] at h4; rw [h2, ← h4]
  · refine ⟨htr.sz, fun l hl hn => hsame l hl fun q _ _ hm => hn ⟨q, hm⟩, fun l hl => ?_, fun l hl => ⟨(hF l hl).2.2.2, (hF l hl).2.2.1⟩, fun l hl => ?_⟩
    · obtain ⟨q, hq⟩ := hl
      rcases cases2 q l hq with ⟨rfl, a⟩ | ⟨e, a⟩ | ⟨e, e2, a⟩
      · exact .inl ⟨q, a⟩
      · rcases htr.pl l ⟨q, a⟩ with ⟨q', h2⟩ | h2
        · have h3 := hsub0 q' l h2
          unfold upL at h3
          split at h3
          · simp at h3
          · exact .inl ⟨q', h3⟩
        · exact .inr h2
      · exact .inl ⟨q, a⟩
    · rcases htr.fp l hl.1 with h2 | ⟨q', h2⟩ | h2
      · rcases h2 with h2 | h2
        · exact .inl h2
        · exact absurd h2 hl.2
      · have h3 := hsub0 q' l h2
        unfold upL at h3
        split at h3
        · simp at h3
        · exact .inr (.inl ⟨q', h3⟩)
      · exact .inr (.inr h2)

theorem vsound {Tb : Nat → Option CFn} {X : Ext} {io : Nat → List Nat} {XV : Nat → List T → T → List T → Prop} (hXV : ∀ f ts t outs, XV f ts t outs → CallOk Tb X io f ts t outs) {j : VJudg} (h : VJ Tb io XV j) : VMot Tb X io j := by
  induction h with
  | skip => exact fun H F env Lf hn hs => ⟨env, H, F, Lf, .skip, hn, hs, Tr.refl _ _ _⟩
  | @kill n ts V =>
    intro H F env Lf hn hs
    obtain ⟨Lf', h1, h2⟩ := hs.kills ts
    exact ⟨killT env ts, H, F, Lf', .kill, by rw [killT_len]; exact hn, h1, Tr.less fun l ⟨s, hl⟩ => ⟨s, h2 s l hl⟩⟩
  | reg _ ih =>
    intro H F env Lf hn hs
    obtain ⟨env', H', F', Lf', h1, h2, h3, h4⟩ := ih H F env Lf hn hs
    exact ⟨env', H', F', Lf', .reg h1, h2, h3, h4⟩
  | seqN _ _ ih1 ih2 =>
    intro H F env Lf hn hs
    obtain ⟨env1, H1, F1, Lf1, h1, h2, h3, h4⟩ := ih1 H F env Lf hn hs
    obtain ⟨env2, H2, F2, Lf2, g1, g2, g3, g4⟩ := ih2 H1 F1 env1 Lf1 h2 h3
    exact ⟨env2, H2, F2, Lf2, .seqN h1 g1, g2, g3, h4.trans g4⟩
  | seqX hne _ ih1 =>
    intro H F env Lf hn hs
    obtain ⟨env1, H1, F1, Lf1, h1, h2, h3, h4⟩ := ih1 H F env Lf hn hs
    exact ⟨env1, H1, F1, Lf1, .seqX hne h1, h2, h3, h4⟩
  | condT hc _ ih =>
    intro H F env Lf hn hs
    obtain ⟨env1, H1, F1, Lf1, h1, h2, h3, h4⟩ := ih H F env Lf hn hs
    exact ⟨env1, H1, F1, Lf1, .condT (sca_ev hs hc (by simp)) h1, h2, h3, h4⟩
  | condF hc _ ih =>
    intro H F env Lf hn hs
    obtain ⟨env1, H1, F1, Lf1, h1, h2, h3, h4⟩ := ih H F env Lf hn hs
    exact ⟨env1, H1, F1, Lf1, .condF (sca_ev hs hc (by simp)) h1, h2, h3, h4⟩
  | blockE _ ih =>
    intro H F env Lf hn hs
    obtain ⟨env1, H1, F1, Lf1, h1, h2, h3, h4⟩ := ih H F env Lf hn hs
    exact ⟨env1, H1, F1, Lf1, .blockE h1, h2, h3, h4⟩
  | blockN hne _ ih =>
    intro H F env Lf hn hs
    obtain ⟨env1, H1, F1, Lf1, h1, h2, h3, h4⟩ := ih H F env Lf hn hs
    exact ⟨env1, H1, F1, Lf1, .blockN hne h1, h2, h3, h4⟩
  | loopN _ _ ih1 ih2 =>
    intro H F env Lf hn hs
    obtain ⟨env1, H1, F1, Lf1, h1, h2, h3, h4⟩ := ih1 H F env Lf hn hs
    obtain ⟨env2, H2, F2, Lf2, g1, g2, g3, g4⟩ := ih2 H1 F1 env1 Lf1 h2 h3
    exact ⟨env2, H2, F2, Lf2, .loopN h1 g1, g2, g3, h4.trans g4⟩
  | loopX hne _ ih =>
    intro H F env Lf hn hs
    obtain ⟨env1, H1, F1, Lf1, h1, h2, h3, h4⟩ := ih H F env Lf hn hs
    exact ⟨env1, H1, F1, Lf1, .loopX hne h1, h2, h3, h4⟩
  | exit => exact fun H F env Lf hn hs => ⟨env, H, F, Lf, .exit, hn, hs, Tr.refl _ _ _⟩
  | ret => exact fun H F env Lf hn hs => ⟨env, H, F, Lf, .ret, hn, hs, Tr.refl _ _ _⟩
  | opNil => exact fun H F env Lf hn hs => ⟨env, H, F, Lf, .opNil, hn, hs, Tr.refl _ _ _⟩
  | @opSkip n i o ops V V' hg hd _ ih =>
    intro H F env Lf hn hs
    obtain ⟨hk, hw⟩ := gV_ok hs hg
    have hst : ∃ Lf1, Sta H F (putD env o.dst (.tup [])) (match o.dst with | some d => (unroot d V).set d (.v (.tup [])) | none => V) Lf1 ∧ ∀ l, Pl Lf1 l → Pl Lf l := by
      cases ho : o.dst with
      | none => exact ⟨Lf, hs, fun l hl => hl⟩
      | some d =>
        rw [ho] at hd
        simp only [dstLt, decide_eq_true_eq] at hd
        refine ⟨_, hs.put (v := .tup []) (t := .tup []) (ls := []) (by omega) (Lo.plain (by rw [Den]; exact ⟨[], rfl, by rw [Dens]; exact ⟨rfl, rfl⟩⟩)), fun l ⟨s, hl⟩ => ?_⟩
        unfold upL at hl
        split at hl
        · simp at hl
        · exact ⟨s, hl⟩
    obtain ⟨Lf1, k1, k2⟩ := hst
    obtain ⟨Lf2, k3, k4⟩ := k1.drops o.ks
    obtain ⟨env', H', F', Lf', h1, h2, h3, h4⟩ := ih H F _ Lf2 (by rw [putD_length]; exact hn) k3
    exact ⟨env', H', F', Lf', .opSkip hk hw h1, h2, h3, (Tr.less fun l ⟨s, hl⟩ => k2 l ⟨s, k4 s l hl⟩).trans h4⟩
  | @opDo n i o ops V r V1 V2 V' hg hd hu hstep hput _ ih =>
    intro H F env Lf hn hs
    obtain ⟨hk, hw⟩ := gV_ok hs hg
    obtain ⟨v, H1, Lf1, ls, e1, e2, e3, e4⟩ := stepV_ok hs hstep
    obtain ⟨Lf2, k1, k2⟩ := put_ok (v := v) (t1 := ls) e2 (by rw [hn]; exact hd) (by cases r <;> exact e4) hput
    obtain ⟨Lf3, k3, k4⟩ := k1.drops o.ks
    obtain ⟨env', H', F', Lf', h1, h2, h3, h4⟩ := ih H1 F _ Lf3 (by rw [putD_length]; exact hn) k3
    exact ⟨env', H', F', Lf', .opDo hk hw e1 (needUs_ok hs e1 e3.sz hu) h1, h2, h3, (e3.drop fun l ⟨s, hl⟩ => k2 l ⟨s, k4 s l hl⟩).trans h4⟩
  | @opCall n i o ops V f ts rs V1 xs t outs V2 V3 V' hg hd hc hus _ hal hb hp _ ih1 ih2 =>
    intro H F env Lf hn hs
    obtain ⟨hk, hw⟩ := gV_ok hs hg
    subst hn
    obtain ⟨vs, v, H1, F1, Lf1, e1, e2, e3, e4, e5⟩ := call_step hs hd hc hus ih1 hal hb hp
    obtain ⟨Lf3, k3, k4⟩ := e4.drops o.ks
    obtain ⟨env', H', F', Lf', h1, h2, h3, h4⟩ := ih2 H1 F1 _ Lf3 (by rw [putD_length]) k3
    exact ⟨env', H', F', Lf', .opCall hk hw e1 e2 e3 h1, h2, h3, (e5.drop fun l ⟨s, hl⟩ => ⟨s, k4 s l hl⟩).trans h4⟩
  | @opSem n i o ops V r V1 V2 V' hg hd hu hsem hput _ ih =>
    intro H F env Lf hn hs
    obtain ⟨hk, hw⟩ := gV_ok hs hg
    obtain ⟨v, H1, Lf1, ls, e1, e2, e3, e4⟩ := hsem H F env Lf hs
    obtain ⟨Lf2, k1, k2⟩ := put_ok (v := v) (t1 := ls) e2 (by rw [hn]; exact hd) (by cases r <;> exact e4) hput
    obtain ⟨Lf3, k3, k4⟩ := k1.drops o.ks
    obtain ⟨env', H', F', Lf', h1, h2, h3, h4⟩ := ih H1 F _ Lf3 (by rw [putD_length]; exact hn) k3
    exact ⟨env', H', F', Lf', .opDo hk hw e1 (needUs_ok hs e1 e3.sz hu) h1, h2, h3, (e3.drop fun l ⟨s, hl⟩ => k2 l ⟨s, k4 s l hl⟩).trans h4⟩
  | @loc n c V s t ex V' hs0 hu _ ih =>
    intro H F env Lf hn hs
    have hst := hs.see (t1 := .at (env.getD s .und) t) hs0 hu (fun _ h => h) (fun _ h => .inl h) (fun _ h => h) (hs.nd s) (by rw [Den]; exact ⟨rfl, hs.den hs0⟩)
    obtain ⟨env', H', F', Lf', h1, h2, h3, h4⟩ := ih (env.getD s .und) H F env _ hn hst
    refine ⟨env', H', F', Lf', h1, h2, h3, (Tr.less ?_).trans h4⟩
    rintro l ⟨q, hl⟩
    unfold upL at hl
    split at hl
    · exact ⟨s, hl⟩
    · exact ⟨q, hl⟩
  | @locO n ops V s t V' hs0 hu _ ih =>
    intro H F env Lf hn hs
    have hst := hs.see (t1 := .at (env.getD s .und) t) hs0 hu (fun _ h => h) (fun _ h => .inl h) (fun _ h => h) (hs.nd s) (by rw [Den]; exact ⟨rfl, hs.den hs0⟩)
    obtain ⟨env', H', F', Lf', h1, h2, h3, h4⟩ := ih (env.getD s .und) H F env _ hn hst
    refine ⟨env', H', F', Lf', h1, h2, h3, (Tr.less ?_).trans h4⟩
    rintro l ⟨q, hl⟩
    unfold upL at hl
    split at hl
    · exact ⟨s, hl⟩
    · exact ⟨q, hl⟩
  | @lendO n ops ops2 V s t V1 V2 V' asd hs0 hu _ hwr hunl _ ih1 ih2 =>
    intro H F env Lf hn hs
    have hst := hs.see (G := fun l => F l ∨ l ∈ Lf s) (l1 := []) hs0 hu (fun _ h => .inl h) (fun _ h => h) (by simp) List.nodup_nil (Den.frz (fun _ h => .inl h) (fun _ h => .inr h) (hs.den hs0))
    obtain ⟨Lf0, hd1, hd2⟩ := hst.drops asd
    obtain ⟨env1, H1, F1, Lf1, h1, h2, h3, h4⟩ := ih1 H _ env _ hn hd1
    obtain ⟨F2, Lf2, k1, k2⟩ := lend_back hs hs0 hu hd1 hd2 (fun q hq => drops_get asd _ q hq) h3 h4 (by omega) (J_keep h1).2 hwr hunl
    obtain ⟨env', H', F', Lf', g1, g2, g3, g4⟩ := ih2 H1 F2 env1 Lf2 h2 k1
    exact ⟨env', H', F', Lf', J_app h1 g1, g2, g3, k2.trans g4⟩
  | @rew n i o x xs f avs u ss ops V s V' hop hx hs0 hcaps _ ih =>
    intro H F env Lf hn hs
    obtain ⟨env', H', F', Lf', h1, h2, h3, h4⟩ := ih H F env Lf hn hs
    refine ⟨env', H', F', Lf', ?_, h2, h3, h4⟩
    have hd := hs.den hs0
    rw [Den] at hd
    have hc := atCaps_ev hs hcaps
    cases h1 with
    | opSkip a b c => exact .opSkip a b c
    | opDo a b c d e => simp [heapOp, pureOp] at c
    | opCall a b c d e f' =>
      simp only [callee, Option.some.injEq, Prod.mk.injEq] at c
      obtain ⟨rfl, rfl⟩ := c
      refine .opCall a b ?_ d e f'
      rw [hop, hx]
      simp only [callee, Opd.ev, hd.1, List.map_append]
      rw [hc]
  | @call f cf ts ex V' rts V2 outs V3 hf hl hn hio _ hex hres hout ih =>
    intro H F vs ls hd hnd hfz
    have hvl := hd.length
    obtain ⟨env0, Lf0, k1, k2, k3⟩ := start_ok (i := 0) (Sta.empty cf.ntmps hfz) hd hnd (by simp) (by simp; omega)
    have henv : env0 = vs ++ List.replicate (cf.ntmps - cf.nargs) .und := by
      rw [k2]; simp only [List.take_zero, List.nil_append, Nat.zero_add, List.drop_replicate]
      rw [hvl, hl]
    have hlen0 : env0.length = cf.ntmps := by rw [henv]; simp; omega
    obtain ⟨env', H', F', Lf', h1, h2, h3, h4⟩ := ih H F env0 Lf0 hlen0 k1
    obtain ⟨rvs, m1, Lf1, e1, e2, e3⟩ := res_ok' h3 Lo.nil hres
    simp only [List.nil_append] at e2
    obtain ⟨m2, Lf2, g1, g2⟩ := takes_ok e2.st e2.lo hout
    obtain ⟨b1, b2, n1, n2, hb, hnn, d1, d2⟩ := g1.lo.den.split
    have hb1 : b1.length = rvs.length := by rw [d1.length, e2.lo.den.length]
    obtain ⟨rfl, rfl⟩ := List.append_inj hb hb1.symm
    obtain ⟨v, hv1, hv2⟩ := results_eq e1 d1
    have hkeep := (J_keep h1).2
    have hioeq : (ioOpds (io f) cf.nargs).map (Opd.ev env') = ioSel (io f) 0 vs := by
      have := io_eq (io := io f) (env' := env') vs 0 fun j hj hc => by
        simp only [Nat.zero_add] at hc ⊢
        have hnw : j ∉ wrs cf.body := by
          have := (List.all_eq_true.1 hio) j (by simpa using hc)
          simpa using this
        rw [hkeep j hnw, henv, List.getD_eq_getElem?_getD, List.getElem?_append_left hj, ← List.getD_eq_getElem?_getD]
      rw [← this, hvl, hl]
      unfold ioOpds
      rw [List.range_eq_range']
    refine ⟨v, H', F', m1 ++ m2, .call hf (by rw [hvl, hl]) hn (by rw [henv] at h1; exact h1) hex hv1, h3.fz, ?_, ?_, ?_⟩
    · rw [Dens]
      rw [hioeq] at d2
      refine ⟨v, _, n1, n2, rfl, hnn, hv2, d2⟩
    · exact g1.lo.nd
    · have hpl : ∀ l, l ∈ m1 ++ m2 → Pl Lf' l := by
        intro l hl
        rcases List.mem_append.1 hl with hl | hl
        · exact e3 l hl
        · obtain ⟨s, hs⟩ := g2 l hl; exact ⟨s, e2.sub s l hs⟩
      have h0 : ∀ l, Pl Lf0 l → l ∈ ls := fun l hl => (k3 l hl).resolve_left (by rintro ⟨s, hs⟩; simp at hs)
      refine ⟨h4.sz, fun l hl hn => h4.fr l hl fun hp => hn (h0 l hp), fun l hl => ?_, h4.fm, fun l hl => ?_⟩
      · exact (h4.pl l (hpl l hl)).imp (h0 l) id
      · exact (h4.fp l hl).imp id (Or.imp (h0 l) id)
  | ext h => exact hXV _ _ _ _ h
  | ghO hle _ ih =>
    intro H F env Lf hn hs
    obtain ⟨F1, Lf1, h1, h2⟩ := hle H F env Lf hs
    obtain ⟨env', H', F', Lf', g1, g2, g3, g4⟩ := ih H F1 env Lf1 hn h1
    exact ⟨env', H', F', Lf', g1, g2, g3, h2.trans g4⟩
  | ghC hle _ ih =>
    intro H F env Lf hn hs
    obtain ⟨F1, Lf1, h1, h2⟩ := hle H F env Lf hs
    obtain ⟨env', H', F', Lf', g1, g2, g3, g4⟩ := ih H F1 env Lf1 hn h1
    exact ⟨env', H', F', Lf', g1, g2, g3, h2.trans g4⟩
  | ghE _ hle ih =>
    intro H F env Lf hn hs
    obtain ⟨env', H', F', Lf', g1, g2, g3, g4⟩ := ih H F env Lf hn hs
    obtain ⟨F1, Lf1, h1, h2⟩ := hle H' F' env' Lf' g3
    exact ⟨env', H', F1, Lf1, g1, g2, h1, g4.trans h2⟩
  | ghEO _ hle ih =>
    intro H F env Lf hn hs
    obtain ⟨env', H', F', Lf', g1, g2, g3, g4⟩ := ih H F env Lf hn hs
    obtain ⟨F1, Lf1, h1, h2⟩ := hle H' F' env' Lf' g3
    exact ⟨env', H', F1, Lf1, g1, g2, h1, g4.trans h2⟩
  | ghR ha ht ho _ ih =>
    intro H F vs ls hd hnd hfz
    obtain ⟨v, H', F', l1, h1, h2, h3, h4, h5⟩ := ih H F vs ls (ha H F vs ls hd) hnd hfz
    refine ⟨v, H', F', l1, h1, h2, ?_, h4, h5⟩
    rw [Dens] at h3 ⊢
    obtain ⟨c, cs', m1, m2, e1, e2, d1, d2⟩ := h3
    exact ⟨c, cs', m1, m2, e1, e2, ht _ _ _ _ d1, ho _ _ _ _ d2⟩

/-! ### Seeing a state as another -/
theorem TLe.refl (t : T) : TLe t t := fun _ _ _ _ h => h
theorem TLes.refl (ts : List T) : TLes ts ts := fun _ _ _ _ h => h
theorem TLes.cons {t t1 : T} {ts ts1 : List T} (h : TLe t t1) (h' : TLes ts ts1) : TLes (t :: ts) (t1 :: ts1) := by
  intro H F vs ls hd
  rw [Dens] at hd ⊢
  obtain ⟨c, cs', m1, m2, e1, e2, d1, d2⟩ := hd
  exact ⟨c, cs', m1, m2, e1, e2, h _ _ _ _ d1, h' _ _ _ _ d2⟩
theorem TLe.agg {ts ts1 : List T} (h : TLes ts ts1) : TLe (.agg ts) (.agg ts1) := by
  intro H F v ls hd
  rw [Den] at hd ⊢
  obtain ⟨cs, e, d⟩ := hd
  exact ⟨cs, e, h _ _ _ _ d⟩
theorem TLe.tup {ts ts1 : List T} (h : TLes ts ts1) : TLe (.tup ts) (.tup ts1) := by
  intro H F v ls hd
  rw [Den] at hd ⊢
  obtain ⟨cs, e, d⟩ := hd
  exact ⟨cs, e, h _ _ _ _ d⟩
theorem TLe.nil {own x : Bool} {e sk : Nat} (h : nilOk own x sk = true) (he : 0 < e) : TLe .nils (.sl own x e sk []) := by
  intro H F v ls hd
  rw [Den] at hd
  rw [Den]
  exact .inl ⟨h, rfl, .inl hd.1, hd.2, he⟩
/-- An empty part of what is shared. -/
theorem TLe.empty {own x : Bool} {e sk : Nat} (h : nilOk own x sk = true) : TLe (.sl false true e 0 []) (.sl own x e sk []) := by
  intro H F v ls hd
  rw [Den] at hd
  rw [Den]
  rcases hd with ⟨h1, _⟩ | ⟨l, o, n, avs, e1, e2, e3, e4, e5⟩
  · simp [nilOk] at h1
  · rcases e5 with ⟨f1, _⟩ | ⟨f1, f2, f3, f4, f5, f6⟩
    · cases f1
    · rw [Dens] at f6
      have hn : n = 0 := by
        rw [f6.1] at e3
        simp only [List.length_nil] at e3
        rcases Nat.mul_eq_zero.1 e3.symm with h | h
        · exact h
        · omega
      subst hn
      exact .inl ⟨h, rfl, .inr ⟨l, o, e1⟩, f5, e2⟩
/-- What is owned and has no room may be nil. -/
theorem TLe.own {e : Nat} {cs cs1 : List T} (h : TLes cs cs1) (hl : cs.length = cs1.length) : TLe (.sl true false e 0 cs) (.sl true true e 0 cs1) := by
  intro H F v ls hd
  rw [Den] at hd ⊢
  rcases hd with ⟨h1, _⟩ | ⟨l, o, n, avs, e1, e2, e3, e4, e5⟩
  · simp [nilOk] at h1
  refine .inr ⟨l, o, n, avs, e1, e2, e3, e4, ?_⟩
  rcases e5 with ⟨f1, f2, f3, f4, f5, l1, f6, f7⟩ | ⟨f1, _⟩
  · exact .inl ⟨f1, f2, f3, f4, f5, l1, f6, h _ _ _ _ f7⟩
  · cases f1
theorem TLe.sl {own x : Bool} {e sk : Nat} {cs cs1 : List T} (h : TLes cs cs1) (hl : cs.length = cs1.length) : TLe (.sl own x e sk cs) (.sl own x e sk cs1) := by
  intro H F v ls hd
  rw [Den] at hd ⊢
  rcases hd with ⟨h1, h2, h3⟩ | ⟨l, o, n, avs, e1, e2, e3, e4, e5⟩
  · subst h2
    exact .inl ⟨h1, List.eq_nil_of_length_eq_zero (by simpa using hl.symm), h3⟩
  refine .inr ⟨l, o, n, avs, e1, e2, e3, e4, ?_⟩
  rcases e5 with ⟨f1, f2, f3, f4, f5, l1, f6, f7⟩ | ⟨f1, f2, f3, f4, f5, f6⟩
  · exact .inl ⟨f1, f2, f3, f4, f5, l1, f6, h _ _ _ _ f7⟩
  · exact .inr ⟨f1, f2, f3, f4, f5, h _ _ _ _ f6⟩
theorem TLe.sh {x : Bool} {e : Nat} {cs cs1 : List T} (h : TLes cs cs1) : TLe (.sl false x e 0 cs) (.sl false x e 1 cs1) := by
  intro H F v ls hd
  rw [Den] at hd ⊢
  rcases hd with ⟨h1, h2, h3⟩ | ⟨l, o, n, avs, e1, e2, e3, e4, e5⟩
  · simp [nilOk] at h1
  refine .inr ⟨l, o, n, avs, e1, e2, e3, e4, ?_⟩
  rcases e5 with ⟨f1, _⟩ | ⟨f1, f2, f3, f4, f5, f6⟩
  · cases f1
  · exact .inr ⟨f1, f2, f3, f4, f5, h _ _ _ _ f6⟩
theorem TLe.ptr {own : Bool} {cs cs1 : List T} (h : TLes cs cs1) : TLe (.ptr own cs) (.ptr own cs1) := by
  intro H F v ls hd
  rw [Den] at hd ⊢
  obtain ⟨l, o, avs, e1, e2, e3⟩ := hd
  refine ⟨l, o, avs, e1, e2, ?_⟩
  rcases e3 with ⟨f1, f2, f3, f4, f5, l1, f6, f7⟩ | ⟨f1, f2, f3, f4, f5, f6⟩
  · exact .inl ⟨f1, f2, f3, f4, f5, l1, f6, h _ _ _ _ f7⟩
  · exact .inr ⟨f1, f2, f3, f4, f5, h _ _ _ _ f6⟩

theorem VLe.refl (V : VEnv) : VLe V V := fun H F env Lf h => ⟨F, Lf, h, Tr.refl _ _ _⟩
theorem VLe.trans {V V1 V2 : VEnv} (h : VLe V V1) (h' : VLe V1 V2) : VLe V V2 := by
  intro H F env Lf hs
  obtain ⟨F1, L1, a, b⟩ := h H F env Lf hs
  obtain ⟨F2, L2, c, d⟩ := h' H F1 env L1 a
  exact ⟨F2, L2, c, b.trans d⟩
theorem vle_see {V : VEnv} {s : Nat} {t t1 : T} (hs : V.get s = .v t) (hu : t ≠ .und) (h : TLe t t1) : VLe V ((unroot s V).set s (.v t1)) := by
  intro H F env Lf hst
  refine ⟨F, _, hst.see hs hu (fun _ h => h) (fun _ h => .inl h) (fun _ h => h) (hst.nd s) (h _ _ _ _ (hst.den hs)), Tr.less ?_⟩
  rintro l ⟨q, hl⟩
  unfold upL at hl
  split at hl
  · exact ⟨s, hl⟩
  · exact ⟨q, hl⟩
/-- A slot's value is written no more. -/
theorem vle_frz {V : VEnv} {s : Nat} {t : T} (hs : V.get s = .v t) (hu : t ≠ .und) : VLe V ((unroot s V).set s (.v t.frz)) := by
  intro H F env Lf hst
  refine ⟨fun l => F l ∨ l ∈ Lf s, _, hst.see (l1 := []) hs hu (fun _ h => .inl h) (fun _ h => h) (by simp) List.nodup_nil (Den.frz (fun _ h => .inl h) (fun _ h => .inr h) (hst.den hs)), ?_⟩
  refine ⟨Nat.le_refl _, fun _ _ _ => rfl, fun l hl => .inl ?_, fun _ h => .inl h, fun l hl => hl.elim .inl fun h => .inr (.inl ⟨s, h⟩)⟩
  obtain ⟨q, hl⟩ := hl
  unfold upL at hl
  split at hl
  · simp at hl
  · exact ⟨q, hl⟩

end Go.Proofs.YtabmomjfdondnaaH
