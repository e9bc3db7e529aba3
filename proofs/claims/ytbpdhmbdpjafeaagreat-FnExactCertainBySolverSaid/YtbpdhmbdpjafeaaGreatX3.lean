import Derived.Test.YtbpdhmbdpjafeaaGreatX2
import Derived.Below
import Derived.ChangeSlices
import Derived.Sort.Row
import Derived.Sort.Grow
set_option linter.unusedVariables false
set_option linter.unusedSimpArgs false
set_option linter.defProp false
namespace Go.Proofs.YtbpdhmbdpjafeaaGreatH
open Go
section
variable {H H' : Heap} {F F' : Nat -> Prop} {env env' : Env} {V V' : VEnv} {Lf : Nat -> List Nat} {v : AV} {ls : List Nat} {r : RV}
theorem res1_ok {c : CRes} {t : T} {avs : List AV} {ts : List T} (h : Sta H F env V Lf) (hl : Lo H F Lf avs ts ls) (hx : resV1 V c = some (t, V')) :
  ∃ v l1 Lf', resOf env H c = some v /\ Took H F env V' Lf Lf' (avs ++ [v]) (ts ++ [t]) (ls ++ l1) /\ ∀ l ∈ l1, ∃ s, l ∈ Lf s := by
 cases c with
 | t i =>
  have hx' : takeV V (.t i) = some (t, V') := hx
  obtain ⟨l1, Lf', h1, h2⟩ := take_ok h hl hx'
  exact ⟨_, l1, Lf', rfl, h1, h2⟩
 | m i n ag =>
  simp only [resV1] at hx
  split at hx
  ·rename_i r p k cs ha
   obtain ⟨l, hloc, he⟩ := adr_ok h ha
   split at hx
   ·rename_i u t0 hu ht0
    obtain ⟨t0', e1, e2, e3⟩ := id hloc
    rw [ht0] at e1
    simp only [S.v.injEq] at e1
    subst e1
    obtain ⟨hkn, hag, hu'⟩ := rng_split hu
    obtain ⟨avs0, rest, lc, g1, g2, g3, g4, g5, g6, g7⟩ := h.node hloc
    obtain ⟨a1, a2, a3, m1, m2, m3, rfl, rfl, l1, l2, d1, d2, d3⟩ := dens_mid g6 hkn
    obtain ⟨v, hv, hv'⟩ := ld_val (ag := ag) (p := .t i) he g1 (by rw [g2]; simp) (by rw [g4]; simp only [List.append_assoc]) l1 l2.symm hag (avs := a2) (rest := a3 ++ rest) (pre := a1)
    have hcond : if ag then v = .agg (((H.get l).cells.drop k).take n) else n = 1 /\ v = (H.get l).cells.getD k .und := by
     have hcell : (H.get l).cells.drop k = a2 ++ (a3 ++ rest) := by
      rw [g4]; simp only [List.append_assoc]; rw [<- l1, List.drop_left]
     cases ag with
     | true =>
      simp only [if_true] at hv' ⊢
      rw [hv', hcell, <- l2, List.take_left]
     | false =>
      simp only [Bool.false_eq_true, if_false] at hv' ⊢
      refine ⟨hag.resolve_left (by simp), ?_⟩
      rw [hv', zD, zD, <- Nat.add_zero k, <- List.getElem?_drop, hcell, List.getElem?_append_left (by rw [l2, hag.resolve_left (by simp)]; exact Nat.zero_lt_one)]
    have hres : resOf env H (.m i n ag) = some v := by
     simp only [Opd.ev] at he
     simp only [heapOp, Opd.ev, he] at hv
     simp only [resOf, he]
     obtain ⟨vs, h1, h2⟩ := Option.bind_eq_some_iff.1 hv
     rw [h1, Option.bind_some]
     split at h2
     ·rename_i hag; rw [if_pos hag]; simp only [zJ, zP] at h2; rw [h2.1]
     ·rename_i hag
      rw [if_neg hag]
      split at h2
      ·simp only [zJ, zP] at h2; rw [h2.1]
      ·simp at h2
    split at hx
    ·rename_i hp
     simp only [zJ, zP] at hx
     obtain ⟨rfl, rfl⟩ := hx
     obtain ⟨ls', hd, _⟩ := rng_den h hloc hkn hcond hu
     rw [Den.plain hp hd] at hd
     exact ⟨v, [], Lf, hres, ⟨h, hl.snoc hd (by simp) (by simp) (by simp), fun _ _ h => h⟩, by simp⟩
    ·simp only [zJ, zP] at hx
     obtain ⟨rfl, rfl⟩ := hx
     obtain ⟨l1, Lf', h1, h2⟩ := rng_take h hl ht0 e2 e3 hkn hcond hu
     exact ⟨v, l1, Lf', hres, h1, h2⟩
   ·simp at hx
  ·rename_i cs ha
   obtain ⟨u, hu, hx⟩ := zM hx
   simp only [zP] at hx
   obtain ⟨rfl, rfl⟩ := hx
   have hout := ld_ok (ks := []) (p := .t i) (n := n) (ag := ag) h (r := .v u) (V' := V) (by simp only [opV, ha, hu])
   obtain ⟨v, H1, Lf1, ls1, h1, h2, h3, h4⟩ := hout
   have hres : resOf env H (.m i n ag) = some v /\ H1 = H := by
    simp only [heapOp, Opd.ev] at h1
    simp only [resOf]
    split at h1
    ·obtain ⟨vs, e1, e2⟩ := Option.bind_eq_some_iff.1 h1
     rw [e1, Option.bind_some]
     split at e2
     ·rename_i hag; rw [if_pos hag]; simp only [zJ, zP] at e2; rw [e2.1]; exact ⟨rfl, e2.2.symm⟩
     ·rename_i hag
      rw [if_neg hag]
      split at e2
      ·simp only [zJ, zP] at e2; rw [e2.1]; exact ⟨rfl, e2.2.symm⟩
      ·simp at e2
    ·simp at h1
   obtain ⟨hr1, rfl⟩ := hres
   -- a shared value owns nothing
   have hplain : Den H1 F v u [] := by
    obtain ⟨l, o, avs0, he, g1, g2, g3, ⟨pre, rest, g4, g5⟩, g6⟩ := adr_ok h ha
    obtain ⟨hkn, hag, hu'⟩ := rng_split hu
    obtain ⟨a1, a2, a3, m1, m2, m3, rfl, hm, l1, l2, d1, d2, d3⟩ := dens_mid g6 hkn
    have ha1 : a1 = [] := List.eq_nil_of_length_eq_zero l1
    subst ha1
    have hm2 : m2 = [] := by
     have := congrArg List.length hm; simp at this
     exact List.eq_nil_of_length_eq_zero (by omega)
    subst hm2
    obtain ⟨v', hv, hv'⟩ := ld_val (ag := ag) (p := .t i) he g1 g2 (by rw [g4]; simp only [List.append_assoc, List.nil_append]) g5 l2.symm hag (avs := a2) (rest := a3 ++ rest) (pre := pre)
    rw [h1] at hv
    simp only [zJ, zP, and_true] at hv
    subst hv
    rw [List.drop_zero] at hu' d2
    cases ag with
    | true =>
     simp only [if_true] at hu' hv'
     rw [hu', hv', Den]
     exact ⟨a2, rfl, d2⟩
    | false =>
     simp only [Bool.false_eq_true, if_false] at hu' hv'
     rw [hu'] at d2
     match a2, hv', d2 with
     | [c], hv', d2 => rw [hv']; exact dens_one.1 d2
     | [], _, d2 => have := d2.length; simp at this
     | _ :: _ :: _, _, d2 => have := d2.length; simp at this
   exact ⟨v, [], Lf, hr1, ⟨h, hl.snoc hplain (by simp) (by simp) (by simp), fun _ _ h => h⟩, by simp⟩
  ·simp at hx
theorem res_ok' : ∀ {rs : List CRes} {V : VEnv} {Lf : Nat -> List Nat} {ts : List T} {avs0 : List AV} {ts0 : List T} {ls : List Nat} {V' : VEnv}, Sta H F env V Lf -> Lo H F Lf avs0 ts0 ls -> resV V rs = some (ts, V') ->
  ∃ vs l1 Lf', rs.mapM (resOf env H) = some vs /\ Took H F env V' Lf Lf' (avs0 ++ vs) (ts0 ++ ts) (ls ++ l1) /\ ∀ l ∈ l1, ∃ s, l ∈ Lf s
 | [], V, Lf, ts, avs0, ts0, ls, V', h, hl, hx => by
  simp only [resV, zJ, zP] at hx
  obtain ⟨rfl, rfl⟩ := hx
  exact ⟨[], [], Lf, rfl, ⟨h, by simpa using hl, fun _ _ h => h⟩, by simp⟩
 | c :: rs, V, Lf, ts, avs0, ts0, ls, V', h, hl, hx => by
  simp only [resV] at hx
  split at hx
  ·rename_i t V1 h1
   obtain ⟨⟨ts', V2⟩, h2, hx⟩ := zM hx
   simp only [zP] at hx
   obtain ⟨rfl, rfl⟩ := hx
   obtain ⟨v, l1, Lf1, e1, k1, p1⟩ := res1_ok h hl h1
   obtain ⟨vs, l2, Lf2, e2, k2, p2⟩ := res_ok' k1.st k1.lo h2
   refine ⟨v :: vs, l1 ++ l2, Lf2, ?_, ⟨k2.st, by simpa using k2.lo, fun s l hl => k1.sub s l (k2.sub s l hl)⟩, fun l hl => ?_⟩
   ·rw [List.mapM_cons, e1, e2]; rfl
   ·rcases List.mem_append.1 hl with hl | hl
    ·exact p1 l hl
    ·obtain ⟨s, hs⟩ := p2 l hl; exact ⟨s, k1.sub s l hs⟩
  ·simp at hx
theorem results_eq {vs : List AV} {ts : List T} {l1 : List Nat} {rs : List CRes} (hm : rs.mapM (resOf env H) = some vs) (hd : Dens H F vs ts l1) : ∃ v, results env H rs = some v /\ Den H F v (tupT ts) l1 := by
 unfold results
 rw [hm, Option.map_some]
 match vs, ts, hd with
 | [], [], hd =>
  refine ⟨_, rfl, ?_⟩
  simp only [tupT]
  rw [Den]; exact ⟨[], rfl, hd⟩
 | [v], [t], hd => exact ⟨_, rfl, dens_one.1 hd⟩
 | v :: w :: vs, t :: u :: ts, hd =>
  refine ⟨_, rfl, ?_⟩
  simp only [tupT]
  rw [Den]; exact ⟨_, rfl, hd⟩
 | [], _ :: _, hd => have := hd.length; simp at this
 | _ :: _, [], hd => have := hd.length; simp at this
 | [_], _ :: _ :: _, hd => have := hd.length; simp at this
 | _ :: _ :: _, [_], hd => have := hd.length; simp at this
theorem start_ok : ∀ {ts : List T} {vs : List AV} {ls : List Nat} {i : Nat} {env : Env} {V : VEnv} {Lf : Nat -> List Nat}, Sta H F env V Lf -> Dens H F vs ts ls -> ls.Nodup -> (∀ s l, l ∈ ls -> l ∉ Lf s) -> i + ts.length <= env.length ->
  ∃ env' Lf', Sta H F env' (startV i ts V) Lf' /\ env' = env.take i ++ (vs ++ env.drop (i + vs.length)) /\ ∀ l, Pl Lf' l -> Pl Lf l \/ l ∈ ls
 | [], vs, ls, i, env, V, Lf, h, hd, hnd, hdj, hlen => by
  rw [Dens] at hd
  obtain ⟨rfl, rfl⟩ := hd
  exact ⟨env, Lf, h, by simp, fun l hl => .inl hl⟩
 | t :: ts, vs, ls, i, env, V, Lf, h, hd, hnd, hdj, hlen => by
  rw [Dens] at hd
  obtain ⟨v, vs', l1, l2, rfl, rfl, h1, h2⟩ := hd
  obtain ⟨n1, n2, n3⟩ := List.nodup_append.1 hnd
  simp only [List.length_cons] at hlen
  have hst := h.put (d := i) (by omega) (Lo.mk (dens_one.2 h1) n1 fun s l hl => hdj s l (by simp [hl]))
  obtain ⟨env', Lf', k1, k2, k3⟩ := start_ok (i := i + 1) hst h2 n2 (fun s l hl hl' => by
   unfold upL at hl'
   split at hl'
   ·exact n3 l hl' l hl rfl
   ·exact hdj s l (by simp [hl]) hl') (by rw [List.length_set]; omega)
  refine ⟨env', Lf', k1, ?_, fun l hl => ?_⟩
  ·rw [k2]
   have hi : i < env.length := by omega
   rw [List.take_add_one, List.getElem?_set_self hi, List.take_set_of_le (Nat.le_refl _), List.drop_set_of_lt (show i < i + 1 + vs'.length by omega)]
   simp only [Option.toList_some, List.append_assoc, List.cons_append, List.nil_append, List.length_cons]
   congr 3
   congr 1
   omega
  ·rcases k3 l hl with ⟨s, h4⟩ | h4
   ·unfold upL at h4
    split at h4
    ·exact .inr (by simp [h4])
    ·exact .inl ⟨s, h4⟩
   ·exact .inr (by simp [h4])
theorem Sta.empty (n : Nat) (hF : Fz H F) : Sta H F (List.replicate n .und) [] (fun _ => []) := by
 refine ⟨hF, fun s => ?_, fun s => List.nodup_nil, by simp, fun s _ => rfl⟩
 simp only [VEnv.get, SR]
 rw [Den]
theorem io_eq {io : List Nat} {env' : Env} : ∀ (vs : List AV) (i : Nat), (∀ j, j < vs.length -> io.contains (i + j) = true -> env'.getD (i + j) .und = vs.getD j .und) ->
  (ioSel io i ((List.range' i vs.length).map Opd.t)).map (Opd.ev env') = ioSel io i vs
 | [], i, h => rfl
 | v :: vs, i, h => by
  simp only [List.length_cons, List.range'_succ, List.map_cons, ioSel]
  have hrec := io_eq vs (i + 1) fun j hj hc => by
   have := h (j + 1) (by simp; omega) (by rw [<- hc]; congr 1; omega)
   rw [show i + 1 + j = i + (j + 1) by omega, this]; simp
  split
  ·rename_i hc
   have := h 0 (by simp) (by simpa using hc)
   rw [List.map_cons, hrec]
   congr 1
  ·exact hrec
theorem Sta.see (h : Sta H F env V Lf) {s : Nat} {t t1 : T} {G : Nat -> Prop} {l1 : List Nat} (hs : V.get s = .v t) (hu : t ≠ .und) (hG : ∀ l, F l -> G l) (hG2 : ∀ l, G l -> F l \/ l ∈ Lf s) (hG3 : ∀ l, l ∈ l1 -> l ∈ Lf s) (hnd : l1.Nodup) (hd : Den H G (env.getD s .und) t1 l1) :
  Sta H G env ((unroot s V).set s (.v t1)) (upL Lf s l1) := by
 have hg : ∀ q, ((unroot s V).set s (.v t1)).get q = if s = q then .v t1 else if (V.get q).rooted s then .v .und else V.get q := by
  intro q; rw [VEnv.get_set, unroot_get]
 have hown : ∀ l, l ∈ Lf s -> l < H.sz /\ (H.get l).st = .own /\ ¬ F l := fun l hl => Den.owned (h.den hs) l hl
 have hup : ∀ q l, l ∈ upL Lf s l1 q -> l ∈ Lf q := by
  intro q l hl
  unfold upL at hl
  split at hl
  ·rename_i e; subst e; exact hG3 l hl
  ·exact hl
 refine ⟨fun l hl => ?_, fun q => ?_, fun q => ?_, fun a b l h1 h2 => h.dj a b l (hup _ _ h1) (hup _ _ h2), fun q hq => ?_⟩
 ·rcases hG2 l hl with hl | hl
  ·exact h.fz l hl
  ·exact ⟨(hown l hl).1, by rw [(hown l hl).2.1]; simp⟩
 ·rw [hg]
  unfold upL
  by_cases e : s = q
  ·subst e
   rw [if_pos rfl, if_pos rfl]; exact hd
  ·rw [if_neg e, if_neg e]
   have hsr := h.sr q
   by_cases hr : (V.get q).rooted s = true
   ·rw [if_pos hr]
    simp only [SR]; rw [Den]
    exact hsr.rooted hr
   ·rw [if_neg hr]
    have hroot : ∀ r t', r ≠ s -> V.get r = .v t' -> ((unroot s V).set s (.v t1)).get r = .v t' := by
     intro r t' hrs hv
     rw [hg, if_neg (Ne.symm hrs), hv]
     simp [S.rooted]
    have hloc : ∀ r p l cs, r ≠ s -> Loc H env V r p l cs -> Loc H env ((unroot s V).set s (.v t1)) r p l cs := by
     intro r p l cs hrs ⟨t', h1, h2, h3⟩
     exact ⟨t', hroot r t' hrs h1, h2, h3⟩
    cases hx : V.get q with
    | v t' =>
     rw [hx] at hsr
     refine Den.agree ⟨Nat.le_refl _, fun l hl => ⟨rfl, hG l hl⟩, fun l hl => ⟨rfl, fun hgl => ?_⟩⟩ hsr
     rcases hG2 l hgl with h1 | h1
     ·exact (Den.owned hsr l hl).2.2 h1
     ·exact e (h.dj _ _ _ h1 hl)
    | al r =>
     rw [hx] at hsr hr
     simp only [S.rooted, beq_iff_eq] at hr
     obtain ⟨a1, a2, t', a3⟩ := hsr
     exact ⟨a1, a2, t', hroot r t' hr a3⟩
    | ref r p k n ag =>
     rw [hx] at hsr hr
     simp only [S.rooted, beq_iff_eq] at hr
     obtain ⟨a1, l, cs, a2, a3⟩ := hsr
     exact ⟨a1, l, cs, hloc _ _ _ _ hr a2, a3⟩
    | adr r p k =>
     rw [hx] at hsr hr
     simp only [S.rooted, beq_iff_eq] at hr
     obtain ⟨a1, l, cs, a2, a3⟩ := hsr
     exact ⟨a1, l, cs, hloc _ _ _ _ hr a2, a3⟩
    | clo f cs =>
     rw [hx] at hsr hr
     obtain ⟨a1, vs, a2, a3⟩ := hsr
     refine ⟨a1, vs, a2, a3.imp fun c v hc b => ?_⟩
     cases c with
     | t u => exact Den.agree ⟨Nat.le_refl _, fun l hl => ⟨rfl, hG l hl⟩, by simp⟩ b
     | a r p k =>
      obtain ⟨l, cs', b1, b2⟩ := b
      refine ⟨l, cs', hloc _ _ _ _ ?_ b1, b2⟩
      intro hrs
      subst hrs
      exact hr (List.any_eq_true.2 ⟨_, hc, by simp [Cap.rooted]⟩)
 ·unfold upL
  split
  ·exact hnd
  ·exact h.nd q
 ·rw [hg]
  split
  ·rename_i e; subst e
   rw [h.ln s hq] at hs
   simp only [S.v.injEq] at hs
   exact absurd hs.symm hu
  ·rw [h.ln q hq]; simp [S.rooted]
theorem J_app {Tb : Nat -> Option CFn} {X : Ext} : ∀ {ops ops2 : List (Nat × COper)} {env env1 env2 : Env} {H H1 H2 : Heap}, J Tb X (.op ops env H env1 H1) -> J Tb X (.op ops2 env1 H1 env2 H2) -> J Tb X (.op (ops ++ ops2) env H env2 H2)
 | [], ops2, env, env1, env2, H, H1, H2, h, h2 => by
  cases h with
  | opNil => exact h2
 | (i, o) :: ops, ops2, env, env1, env2, H, H1, H2, h, h2 => by
  cases h with
  | opSkip a b c => exact .opSkip a b (J_app c h2)
  | opDo a b c d e => exact .opDo a b c d (J_app e h2)
  | opCall a b c d e f => exact .opCall a b c d e (J_app f h2)
theorem atCaps_ev (h : Sta H F env V Lf) : ∀ {avs : List AV} {ss : List Nat}, AtCaps V avs ss -> (ss.map Opd.t).map (Opd.ev env) = avs
 | [], [], _ => rfl
 | [], _ :: _, hc => by simp [AtCaps] at hc
 | _ :: _, [], hc => by simp [AtCaps] at hc
 | a :: avs, s :: ss, hc => by
  obtain ⟨⟨t, h1⟩, h2⟩ := hc
  have hd := h.den h1
  rw [Den] at hd
  simp only [List.map_cons, Opd.ev]
  rw [hd.1]
  congr 1
  exact atCaps_ev h h2
theorem unl_get {s : Nat} {t : T} {wr asd : List Nat} {Vf V1 : VEnv} : ∀ {V2 : VEnv}, Unl s t wr asd Vf V1 V2 -> ∀ q, V2.get q = .v .und \/ (q = s /\ V2.get q = .v t) \/ (q ≠ s /\ ∃ u, V2.get q = .v u /\ ((wr.contains q = false /\ (u.plain = true \/ asd.contains q = true) /\ Vf.get q = .v u) \/ (u.alone = true /\ V1.get q = .v u)))
 | [], _, q => .inl rfl
 | (k, x) :: r, h, q => by
  obtain ⟨h1, h2⟩ := h
  simp only [VEnv.get]
  by_cases e : k = q
  ·rw [if_pos e]; subst e
   rcases h1 with h1 | ⟨h1, u, h3⟩
   ·exact .inr (.inl h1)
   ·exact .inr (.inr ⟨h1, u, h3⟩)
  ·rw [if_neg e]; exact unl_get h2 q
theorem drops_get : ∀ (ss : List Nat) (V : VEnv) (q : Nat), q ∈ ss -> (V.drops ss).get q = .v .und
 | s :: ss, V, q, h => by
  simp only [VEnv.drops]
  by_cases hq : q ∈ ss
  ·exact drops_get ss _ q hq
  ·have : q = s := by simpa [hq] using h
   subst this
   have keep : ∀ (ss : List Nat) (V : VEnv), V.get q = .v .und -> (V.drops ss).get q = .v .und := by
    intro ss
    induction ss with
    | nil => intro V h; exact h
    | cons a ss ih =>
     intro V h
     simp only [VEnv.drops]
     refine ih _ ?_
     rw [VEnv.get_drop, h]
     split
     ·rfl
     ·simp [S.rooted]
   exact keep ss _ (by rw [VEnv.get_drop, if_pos rfl])
theorem lend_back {H1 : Heap} {F1 : Nat -> Prop} {env1 : Env} {V0 V1 V2 : VEnv} {Lf0 Lf1 : Nat -> List Nat} {s : Nat} {t : T} {wr asd : List Nat} (h : Sta H F env V Lf) (hs : V.get s = .v t) (hu : t ≠ .und)
  (h0 : Sta H (fun l => F l \/ l ∈ Lf s) env V0 Lf0) (hsub0 : ∀ q l, l ∈ Lf0 q -> l ∈ upL Lf s [] q) (hasd : ∀ q, q ∈ asd -> V0.get q = .v .und)
  (h1 : Sta H1 F1 env1 V1 Lf1) (htr : Tr H (fun l => F l \/ l ∈ Lf s) (Pl Lf0) H1 F1 (Pl Lf1)) (hlen : env1.length = env.length) (hkeep : ∀ q, q ∉ wr -> env1.getD q .und = env.getD q .und) (hwr : wr.contains s = false) (hunl : Unl s t wr asd V V1 V2) :
  ∃ F2 Lf2, Sta H1 F2 env1 V2 Lf2 /\ Tr H F (Pl Lf) H1 F2 (Pl Lf2) := by
 classical
 have hg := unl_get hunl
 have hmem : ∀ q, wr.contains q = false -> q ∉ wr := fun q hq hm => by
  have : wr.contains q = true := List.elem_iff.2 hm
  rw [this] at hq; cases hq
 have h0e : ∀ q, q ∈ asd -> Lf0 q = [] := by
  intro q hq
  have hsr := h0.sr q
  rw [hasd q hq] at hsr
  simp only [SR] at hsr
  rw [Den] at hsr
  exact hsr
 have hsame : ∀ l, l < H.sz -> (∀ q, q ≠ s -> q ∉ asd -> l ∉ Lf q) -> H1.get l = H.get l := by
  intro l hl hn
  refine htr.fr l hl ?_
  rintro ⟨q, hq⟩
  have hq' := hsub0 q l hq
  by_cases ha : q ∈ asd
  ·rw [h0e q ha] at hq; simp at hq
  unfold upL at hq'
  split at hq'
  ·simp at hq'
  ·rename_i e; exact hn q (Ne.symm e) ha hq'
 have hown : ∀ l, l ∈ Lf s -> l < H.sz /\ (H.get l).st = .own /\ ¬ F l := fun l hl => Den.owned (h.den hs) l hl
 have hF : ∀ l, F l -> l < H.sz /\ H1.get l = H.get l /\ l ∉ Lf s /\ F1 l := by
  intro l hl
  have h2 := h.fz l hl
  have hno : ∀ q, l ∉ Lf q := by
   intro q hq
   have hsr := h.sr q
   cases hx : V.get q with
   | v u => rw [hx] at hsr; exact (Den.owned hsr l hq).2.2 hl
   | _ => rw [hx] at hsr; rw [hsr.1] at hq; simp at hq
  exact ⟨h2.1, hsame l h2.1 fun q _ _ => hno q, hno s, htr.fm l (.inl hl)⟩
 have hls : ∀ l, l ∈ Lf s -> H1.get l = H.get l /\ F1 l := fun l hl =>
  ⟨hsame l (hown l hl).1 fun q hq _ hm => hq (h.dj _ _ _ hm hl), htr.fm l (.inr hl)⟩
 have hL1 : ∀ q l, l ∈ Lf1 q -> l ∉ Lf s := by
  intro q l hl hm
  have hsr := h1.sr q
  cases hx : V1.get q with
  | v u => rw [hx] at hsr; exact (Den.owned hsr l hl).2.2 (hls l hm).2
  | _ => rw [hx] at hsr; rw [hsr.1] at hl; simp at hl
 -- what was set aside
 have hAs : ∀ q l, q ∈ asd -> q ≠ s -> l ∈ Lf q -> H1.get l = H.get l /\ ¬ F1 l /\ ∀ q', l ∉ Lf1 q' := by
  intro q l hq hqs hl
  have hsr := h.sr q
  have hlo : l < H.sz /\ ¬ F l := by
   cases hx : V.get q with
   | v u => rw [hx] at hsr; have := Den.owned hsr l hl; exact ⟨this.1, this.2.2⟩
   | _ => rw [hx] at hsr; rw [hsr.1] at hl; simp at hl
  have hno : ∀ q', l ∉ Lf0 q' := by
   intro q' hm
   have h2 := hsub0 q' l hm
   unfold upL at h2
   split at h2
   ·simp at h2
   ·have := h.dj _ _ _ hl h2
    subst this
    rw [h0e q hq] at hm; simp at hm
  refine ⟨htr.fr l hlo.1 (fun ⟨q', hm⟩ => hno q' hm), fun hf => ?_, fun q' hm => ?_⟩
  ·rcases htr.fp l hf with (h2 | h2) | ⟨q', h2⟩ | h2
   ·exact hlo.2 h2
   ·exact hqs (h.dj _ _ _ hl h2)
   ·exact hno q' h2
   ·omega
  ·rcases htr.pl l ⟨q', hm⟩ with ⟨q'', h2⟩ | h2
   ·exact hno q'' h2
   ·omega
 let fl : Nat -> Prop := fun q => q ≠ s /\ ∃ u, V2.get q = .v u /\ u.alone = true /\ V1.get q = .v u
 let ga : Nat -> Prop := fun q => q ≠ s /\ ¬ fl q /\ q ∈ asd /\ q ∉ wr /\ ∃ u, V2.get q = .v u /\ V.get q = .v u
 let Lf2 : Nat -> List Nat := fun q => if q = s then (if V2.get s = .v t then Lf s else []) else if fl q /\ ¬ V2.get q = .v .und then Lf1 q else if ga q /\ ¬ V2.get q = .v .und then Lf q else []
 have cases2 : ∀ q l, l ∈ Lf2 q -> (q = s /\ l ∈ Lf s) \/ (q ≠ s /\ l ∈ Lf1 q) \/ (q ≠ s /\ q ∈ asd /\ l ∈ Lf q) := by
  intro q l hl
  simp only [Lf2] at hl
  split at hl
  ·rename_i e; subst e
   split at hl
   ·exact .inl ⟨rfl, hl⟩
   ·simp at hl
  ·rename_i e
   split at hl
   ·exact .inr (.inl ⟨e, hl⟩)
   ·split at hl
    ·rename_i h9; exact .inr (.inr ⟨e, h9.1.2.2.1, hl⟩)
    ·simp at hl
 refine ⟨fun l => F1 l /\ l ∉ Lf s, Lf2, ⟨fun l hl => h1.fz l hl.1, fun q => ?_, fun q => ?_, fun q q' l hq hq' => ?_, fun q hq => ?_⟩, ?_⟩
 ·-- each slot
  rcases hg q with hq | ⟨rfl, hq⟩ | ⟨hqs, u, hq, hc⟩
  ·rw [hq]
   simp only [SR]
   rw [Den]
   by_cases e : q = s
   ·subst e
    simp only [Lf2, if_true]
    rw [if_neg]
    rw [hq]; intro h9; simp only [S.v.injEq] at h9; exact hu h9.symm
   ·simp only [Lf2, if_neg e]
    rw [if_neg, if_neg]
    ·exact fun hc => hc.2 hq
    ·exact fun hc => hc.2 hq
  ·rw [hq]
   simp only [SR, Lf2, if_true, hq]
   rw [hkeep q (hmem q hwr)]
   exact Den.agree ⟨htr.sz, fun l hl => ⟨(hF l hl).2.1, (hF l hl).2.2.2, (hF l hl).2.2.1⟩, fun l hl => ⟨(hls l hl).1, fun hc => hc.2 hl⟩⟩ (h.den hs)
  ·rw [hq]
   simp only [SR]
   by_cases hz : u = .und
   ·subst hz
    rw [Den]
    simp only [Lf2, if_neg hqs]
    rw [if_neg, if_neg]
    ·exact fun hc => hc.2 hq
    ·exact fun hc => hc.2 hq
   have hnz : ¬ V2.get q = .v .und := by rw [hq]; intro h9; simp only [S.v.injEq] at h9; exact hz h9
   have hfl1 : fl q -> V1.get q = .v u /\ u.alone = true /\ Lf2 q = Lf1 q := by
    intro hfl
    have hfl' := hfl
    obtain ⟨_, u', e1, e2, e3⟩ := hfl
    rw [hq] at e1
    simp only [S.v.injEq] at e1; subst e1
    refine ⟨e3, e2, ?_⟩
    simp only [Lf2, if_neg hqs]
    rw [if_pos ⟨hfl', hnz⟩]
   rcases hc with ⟨h3, h4, h5⟩ | ⟨h3, h4⟩
   ·by_cases hfl : fl q
    ·obtain ⟨e3, e2, e4⟩ := hfl1 hfl
     rw [e4]
     exact Den.alone e2 ⟨Nat.le_refl _, fun l hl => ⟨rfl, fun hc => (Den.owned (h1.den e3) l hl).2.2 hc.1⟩⟩ (h1.den e3)
    ·by_cases hga : ga q
     ·have : Lf2 q = Lf q := by
       simp only [Lf2, if_neg hqs]
       rw [if_neg (fun hc => hfl hc.1), if_pos ⟨hga, hnz⟩]
      rw [this, hkeep q (hmem q h3)]
      exact Den.agree ⟨htr.sz, fun l hl => ⟨(hF l hl).2.1, (hF l hl).2.2.2, (hF l hl).2.2.1⟩, fun l hl => ⟨(hAs q l hga.2.2.1 hqs hl).1, fun hc => (hAs q l hga.2.2.1 hqs hl).2.1 hc.1⟩⟩ (h.den h5)
     ·have hpl : u.plain = true := by
       rcases h4 with h4 | h4
       ·exact h4
       ·exact absurd ⟨hqs, hfl, List.elem_iff.1 h4, hmem q h3, u, hq, h5⟩ hga
      have : Lf2 q = [] := by
       simp only [Lf2, if_neg hqs]
       rw [if_neg (fun hc => hfl hc.1), if_neg (fun hc => hga hc.1)]
      rw [this, hkeep q (hmem q h3)]
      have hd := h.den h5
      rw [Den.plain hpl hd] at hd
      exact Den.agree ⟨htr.sz, fun l hl => ⟨(hF l hl).2.1, (hF l hl).2.2.2, (hF l hl).2.2.1⟩, by simp⟩ hd
   ·have : Lf2 q = Lf1 q := by
     simp only [Lf2, if_neg hqs]
     rw [if_pos ⟨⟨hqs, u, hq, h3, h4⟩, hnz⟩]
    rw [this]
    exact Den.alone h3 ⟨Nat.le_refl _, fun l hl => ⟨rfl, fun hc => (Den.owned (h1.den h4) l hl).2.2 hc.1⟩⟩ (h1.den h4)
 ·simp only [Lf2]
  split
  ·split
   ·exact h.nd s
   ·exact List.nodup_nil
  ·split
   ·exact h1.nd q
   ·split
    ·exact h.nd q
    ·exact List.nodup_nil
 ·rcases cases2 q l hq with ⟨rfl, a⟩ | ⟨e, a⟩ | ⟨e, e2, a⟩ <;> rcases cases2 q' l hq' with ⟨rfl, b⟩ | ⟨e', b⟩ | ⟨e', e2', b⟩
  ·rfl
  ·exact absurd a (hL1 _ _ b)
  ·exact h.dj _ _ _ a b
  ·exact absurd b (hL1 _ _ a)
  ·exact h1.dj _ _ _ a b
  ·exact absurd a ((hAs q' l e2' e' b).2.2 q)
  ·exact h.dj _ _ _ a b
  ·exact absurd b ((hAs q l e2 e a).2.2 q')
  ·exact h.dj _ _ _ a b
 ·rcases hg q with h2 | ⟨rfl, h2⟩ | ⟨_, u, h2, h3⟩
  ·exact h2
  ·rw [h.ln q (by omega)] at hs
   simp only [S.v.injEq] at hs
   exact absurd hs.symm hu
  ·rcases h3 with ⟨_, _, h4⟩ | ⟨_, h4⟩
   ·rw [h.ln q (by omega)] at h4; rw [h2, <- h4]
   ·rw [h1.ln q hq] at h4; rw [h2, <- h4]
 ·refine ⟨htr.sz, fun l hl hn => hsame l hl fun q _ _ hm => hn ⟨q, hm⟩, fun l hl => ?_, fun l hl => ⟨(hF l hl).2.2.2, (hF l hl).2.2.1⟩, fun l hl => ?_⟩
  ·obtain ⟨q, hq⟩ := hl
   rcases cases2 q l hq with ⟨rfl, a⟩ | ⟨e, a⟩ | ⟨e, e2, a⟩
   ·exact .inl ⟨q, a⟩
   ·rcases htr.pl l ⟨q, a⟩ with ⟨q', h2⟩ | h2
    ·have h3 := hsub0 q' l h2
     unfold upL at h3
     split at h3
     ·simp at h3
     ·exact .inl ⟨q', h3⟩
    ·exact .inr h2
   ·exact .inl ⟨q, a⟩
  ·rcases htr.fp l hl.1 with h2 | ⟨q', h2⟩ | h2
   ·rcases h2 with h2 | h2
    ·exact .inl h2
    ·exact absurd h2 hl.2
   ·have h3 := hsub0 q' l h2
    unfold upL at h3
    split at h3
    ·simp at h3
    ·exact .inr (.inl ⟨q', h3⟩)
   ·exact .inr (.inr h2)
theorem vsound {Tb : Nat -> Option CFn} {X : Ext} {io : Nat -> List Nat} {XV : Nat -> List T -> T -> List T -> Prop} (hXV : ∀ f ts t outs, XV f ts t outs -> CallOk Tb X io f ts t outs) {j : VJudg} (h : VJ Tb io XV j) : VMot Tb X io j := by
 induction h with
 | skip => exact fun H F env Lf hn hs => ⟨env, H, F, Lf, .skip, hn, hs, Tr.refl _ _ _⟩
 | @kill n ts V =>
  intro H F env Lf hn hs
  obtain ⟨Lf', h1, h2⟩ := hs.kills ts
  exact ⟨killT env ts, H, F, Lf', .kill, by rw [killT_len]; exact hn, h1, Tr.less fun l ⟨s, hl⟩ => ⟨s, h2 s l hl⟩⟩
 | reg _ ih =>
  intro H F env Lf hn hs
  obtain ⟨env', H', F', Lf', h1, h2, h3, h4⟩ := ih H F env Lf hn hs
  exact ⟨env', H', F', Lf', .reg h1, h2, h3, h4⟩
 | seqN _ _ ih1 ih2 =>
  intro H F env Lf hn hs
  obtain ⟨env1, H1, F1, Lf1, h1, h2, h3, h4⟩ := ih1 H F env Lf hn hs
  obtain ⟨env2, H2, F2, Lf2, g1, g2, g3, g4⟩ := ih2 H1 F1 env1 Lf1 h2 h3
  exact ⟨env2, H2, F2, Lf2, .seqN h1 g1, g2, g3, h4.trans g4⟩
 | seqX hne _ ih1 =>
  intro H F env Lf hn hs
  obtain ⟨env1, H1, F1, Lf1, h1, h2, h3, h4⟩ := ih1 H F env Lf hn hs
  exact ⟨env1, H1, F1, Lf1, .seqX hne h1, h2, h3, h4⟩
 | condT hc _ ih =>
  intro H F env Lf hn hs
  obtain ⟨env1, H1, F1, Lf1, h1, h2, h3, h4⟩ := ih H F env Lf hn hs
  exact ⟨env1, H1, F1, Lf1, .condT (sca_ev hs hc (by simp)) h1, h2, h3, h4⟩
 | condF hc _ ih =>
  intro H F env Lf hn hs
  obtain ⟨env1, H1, F1, Lf1, h1, h2, h3, h4⟩ := ih H F env Lf hn hs
  exact ⟨env1, H1, F1, Lf1, .condF (sca_ev hs hc (by simp)) h1, h2, h3, h4⟩
 | blockE _ ih =>
  intro H F env Lf hn hs
  obtain ⟨env1, H1, F1, Lf1, h1, h2, h3, h4⟩ := ih H F env Lf hn hs
  exact ⟨env1, H1, F1, Lf1, .blockE h1, h2, h3, h4⟩
 | blockN hne _ ih =>
  intro H F env Lf hn hs
  obtain ⟨env1, H1, F1, Lf1, h1, h2, h3, h4⟩ := ih H F env Lf hn hs
  exact ⟨env1, H1, F1, Lf1, .blockN hne h1, h2, h3, h4⟩
 | loopN _ _ ih1 ih2 =>
  intro H F env Lf hn hs
  obtain ⟨env1, H1, F1, Lf1, h1, h2, h3, h4⟩ := ih1 H F env Lf hn hs
  obtain ⟨env2, H2, F2, Lf2, g1, g2, g3, g4⟩ := ih2 H1 F1 env1 Lf1 h2 h3
  exact ⟨env2, H2, F2, Lf2, .loopN h1 g1, g2, g3, h4.trans g4⟩
 | loopX hne _ ih =>
  intro H F env Lf hn hs
  obtain ⟨env1, H1, F1, Lf1, h1, h2, h3, h4⟩ := ih H F env Lf hn hs
  exact ⟨env1, H1, F1, Lf1, .loopX hne h1, h2, h3, h4⟩
 | exit => exact fun H F env Lf hn hs => ⟨env, H, F, Lf, .exit, hn, hs, Tr.refl _ _ _⟩
 | ret => exact fun H F env Lf hn hs => ⟨env, H, F, Lf, .ret, hn, hs, Tr.refl _ _ _⟩
 | opNil => exact fun H F env Lf hn hs => ⟨env, H, F, Lf, .opNil, hn, hs, Tr.refl _ _ _⟩
 | @opSkip n i o ops V V' hg hd _ ih =>
  intro H F env Lf hn hs
  obtain ⟨hk, hw⟩ := gV_ok hs hg
  have hst : ∃ Lf1, Sta H F (putD env o.dst (.tup [])) (match o.dst with | some d => (unroot d V).set d (.v (.tup [])) | none => V) Lf1 /\ ∀ l, Pl Lf1 l -> Pl Lf l := by
   cases ho : o.dst with
   | none => exact ⟨Lf, hs, fun l hl => hl⟩
   | some d =>
    rw [ho] at hd
    simp only [dstLt, decide_eq_true_eq] at hd
    refine ⟨_, hs.put (v := .tup []) (t := .tup []) (ls := []) (by omega) (Lo.plain (by rw [Den]; exact ⟨[], rfl, by rw [Dens]; exact ⟨rfl, rfl⟩⟩)), fun l ⟨s, hl⟩ => ?_⟩
    unfold upL at hl
    split at hl
    ·simp at hl
    ·exact ⟨s, hl⟩
  obtain ⟨Lf1, k1, k2⟩ := hst
  obtain ⟨Lf2, k3, k4⟩ := k1.drops o.ks
  obtain ⟨env', H', F', Lf', h1, h2, h3, h4⟩ := ih H F _ Lf2 (by rw [putD_length]; exact hn) k3
  exact ⟨env', H', F', Lf', .opSkip hk hw h1, h2, h3, (Tr.less fun l ⟨s, hl⟩ => k2 l ⟨s, k4 s l hl⟩).trans h4⟩
 | @opDo n i o ops V r V1 V2 V' hg hd hu hstep hput _ ih =>
  intro H F env Lf hn hs
  obtain ⟨hk, hw⟩ := gV_ok hs hg
  obtain ⟨v, H1, Lf1, ls, e1, e2, e3, e4⟩ := stepV_ok hs hstep
  obtain ⟨Lf2, k1, k2⟩ := put_ok (v := v) (t1 := ls) e2 (by rw [hn]; exact hd) (by cases r <;> exact e4) hput
  obtain ⟨Lf3, k3, k4⟩ := k1.drops o.ks
  obtain ⟨env', H', F', Lf', h1, h2, h3, h4⟩ := ih H1 F _ Lf3 (by rw [putD_length]; exact hn) k3
  exact ⟨env', H', F', Lf', .opDo hk hw e1 (needUs_ok hs e1 e3.sz hu) h1, h2, h3, (e3.drop fun l ⟨s, hl⟩ => k2 l ⟨s, k4 s l hl⟩).trans h4⟩
 | @opCall n i o ops V f ts rs V1 xs t outs V2 V3 V' hg hd hc hus _ hal hb hp _ ih1 ih2 =>
  intro H F env Lf hn hs
  obtain ⟨hk, hw⟩ := gV_ok hs hg
  subst hn
  obtain ⟨vs, v, H1, F1, Lf1, e1, e2, e3, e4, e5⟩ := call_step hs hd hc hus ih1 hal hb hp
  obtain ⟨Lf3, k3, k4⟩ := e4.drops o.ks
  obtain ⟨env', H', F', Lf', h1, h2, h3, h4⟩ := ih2 H1 F1 _ Lf3 (by rw [putD_length]) k3
  exact ⟨env', H', F', Lf', .opCall hk hw e1 e2 e3 h1, h2, h3, (e5.drop fun l ⟨s, hl⟩ => ⟨s, k4 s l hl⟩).trans h4⟩
 | @opSem n i o ops V r V1 V2 V' hg hd hu hsem hput _ ih =>
  intro H F env Lf hn hs
  obtain ⟨hk, hw⟩ := gV_ok hs hg
  obtain ⟨v, H1, Lf1, ls, e1, e2, e3, e4⟩ := hsem H F env Lf hs
  obtain ⟨Lf2, k1, k2⟩ := put_ok (v := v) (t1 := ls) e2 (by rw [hn]; exact hd) (by cases r <;> exact e4) hput
  obtain ⟨Lf3, k3, k4⟩ := k1.drops o.ks
  obtain ⟨env', H', F', Lf', h1, h2, h3, h4⟩ := ih H1 F _ Lf3 (by rw [putD_length]; exact hn) k3
  exact ⟨env', H', F', Lf', .opDo hk hw e1 (needUs_ok hs e1 e3.sz hu) h1, h2, h3, (e3.drop fun l ⟨s, hl⟩ => k2 l ⟨s, k4 s l hl⟩).trans h4⟩
 | @loc n c V s t ex V' hs0 hu _ ih =>
  intro H F env Lf hn hs
  have hst := hs.see (t1 := .at (env.getD s .und) t) hs0 hu (fun _ h => h) (fun _ h => .inl h) (fun _ h => h) (hs.nd s) (by rw [Den]; exact ⟨rfl, hs.den hs0⟩)
  obtain ⟨env', H', F', Lf', h1, h2, h3, h4⟩ := ih (env.getD s .und) H F env _ hn hst
  refine ⟨env', H', F', Lf', h1, h2, h3, (Tr.less ?_).trans h4⟩
  rintro l ⟨q, hl⟩
  unfold upL at hl
  split at hl
  ·exact ⟨s, hl⟩
  ·exact ⟨q, hl⟩
 | @locO n ops V s t V' hs0 hu _ ih =>
  intro H F env Lf hn hs
  have hst := hs.see (t1 := .at (env.getD s .und) t) hs0 hu (fun _ h => h) (fun _ h => .inl h) (fun _ h => h) (hs.nd s) (by rw [Den]; exact ⟨rfl, hs.den hs0⟩)
  obtain ⟨env', H', F', Lf', h1, h2, h3, h4⟩ := ih (env.getD s .und) H F env _ hn hst
  refine ⟨env', H', F', Lf', h1, h2, h3, (Tr.less ?_).trans h4⟩
  rintro l ⟨q, hl⟩
  unfold upL at hl
  split at hl
  ·exact ⟨s, hl⟩
  ·exact ⟨q, hl⟩
 | @lendO n ops ops2 V s t V1 V2 V' asd hs0 hu _ hwr hunl _ ih1 ih2 =>
  intro H F env Lf hn hs
  have hst := hs.see (G := fun l => F l \/ l ∈ Lf s) (l1 := []) hs0 hu (fun _ h => .inl h) (fun _ h => h) (by simp) List.nodup_nil (Den.frz (fun _ h => .inl h) (fun _ h => .inr h) (hs.den hs0))
  obtain ⟨Lf0, hd1, hd2⟩ := hst.drops asd
  obtain ⟨env1, H1, F1, Lf1, h1, h2, h3, h4⟩ := ih1 H _ env _ hn hd1
  obtain ⟨F2, Lf2, k1, k2⟩ := lend_back hs hs0 hu hd1 hd2 (fun q hq => drops_get asd _ q hq) h3 h4 (by omega) (J_keep h1).2 hwr hunl
  obtain ⟨env', H', F', Lf', g1, g2, g3, g4⟩ := ih2 H1 F2 env1 Lf2 h2 k1
  exact ⟨env', H', F', Lf', J_app h1 g1, g2, g3, k2.trans g4⟩
 | @reAl n ops ops2 V q r t V1 V' hq hw _ hr hne _ ih1 ih2 =>
  intro H F env Lf hn hs
  obtain ⟨env1, H1, F1, Lf1, h1, h2, h3, h4⟩ := ih1 H F env Lf hn hs
  have hqs := hs.sr q
  rw [hq] at hqs
  have hlt : q < env1.length := by
   rcases Nat.lt_or_ge q env.length with h | h
   ·omega
   ·have := hs.ln q h; rw [hq] at this; cases this
  have k := J_keep h1
  simp only [Bool.or_eq_false_iff] at hw
  have w1 : q ∉ opsWrs ops := fun h => by have := hw.1; rw [List.contains_iff_mem.2 h] at this; cases this
  have w2 : r ∉ opsWrs ops := fun h => by have := hw.2; rw [List.contains_iff_mem.2 h] at this; cases this
  have e : env1.getD q .und = env1.getD r .und := by rw [k.2 q w1, k.2 r w2]; exact hqs.2.1
  have p := h3.putA (d := q) (v := env1.getD q .und) (x := .al r) hlt ⟨rfl, e, t, hr⟩ (by simp [S.rooted]; exact Ne.symm hne)
  have hself : env1.set q (env1.getD q .und) = env1 := by
   apply List.ext_getElem?
   intro i
   rw [List.getElem?_set]
   by_cases hi : q = i
   ·subst hi; rw [if_pos rfl, if_pos hlt, zD, zE hlt]; rfl
   ·rw [if_neg hi]
  rw [hself] at p
  obtain ⟨env', H', F', Lf', g1, g2, g3, g4⟩ := ih2 H1 F1 env1 _ h2 p
  refine ⟨env', H', F', Lf', J_app h1 g1, g2, g3, h4.trans ((Tr.less ?_).trans g4)⟩
  rintro l ⟨s, hl⟩
  unfold upL at hl
  split at hl
  ·cases hl
  ·exact ⟨s, hl⟩
 | @rew n i o x xs f avs u ss ops V s V' hop hx hs0 hcaps _ ih =>
  intro H F env Lf hn hs
  obtain ⟨env', H', F', Lf', h1, h2, h3, h4⟩ := ih H F env Lf hn hs
  refine ⟨env', H', F', Lf', ?_, h2, h3, h4⟩
  have hd := hs.den hs0
  rw [Den] at hd
  have hc := atCaps_ev hs hcaps
  cases h1 with
  | opSkip a b c => exact .opSkip a b c
  | opDo a b c d e => simp [heapOp, pureOp] at c
  | opCall a b c d e f' =>
   simp only [callee, zJ, zP] at c
   obtain ⟨rfl, rfl⟩ := c
   refine .opCall a b ?_ d e f'
   rw [hop, hx]
   simp only [callee, Opd.ev, hd.1, List.map_append]
   rw [hc]
 | @call f cf ts ex V' rts V2 outs V3 hf hl hn hio _ hex hres hout ih =>
  intro H F vs ls hd hnd hfz
  have hvl := hd.length
  obtain ⟨env0, Lf0, k1, k2, k3⟩ := start_ok (i := 0) (Sta.empty cf.ntmps hfz) hd hnd (by simp) (by simp; omega)
  have henv : env0 = vs ++ List.replicate (cf.ntmps - cf.nargs) .und := by
   rw [k2]; simp only [List.take_zero, List.nil_append, Nat.zero_add, List.drop_replicate]
   rw [hvl, hl]
  have hlen0 : env0.length = cf.ntmps := by rw [henv]; simp; omega
  obtain ⟨env', H', F', Lf', h1, h2, h3, h4⟩ := ih H F env0 Lf0 hlen0 k1
  obtain ⟨rvs, m1, Lf1, e1, e2, e3⟩ := res_ok' h3 Lo.nil hres
  simp only [List.nil_append] at e2
  obtain ⟨m2, Lf2, g1, g2⟩ := takes_ok e2.st e2.lo hout
  obtain ⟨b1, b2, n1, n2, hb, hnn, d1, d2⟩ := g1.lo.den.split
  have hb1 : b1.length = rvs.length := by rw [d1.length, e2.lo.den.length]
  obtain ⟨rfl, rfl⟩ := List.append_inj hb hb1.symm
  obtain ⟨v, hv1, hv2⟩ := results_eq e1 d1
  have hkeep := (J_keep h1).2
  have hioeq : (ioOpds (io f) cf.nargs).map (Opd.ev env') = ioSel (io f) 0 vs := by
   have := io_eq (io := io f) (env' := env') vs 0 fun j hj hc => by
    simp only [Nat.zero_add] at hc ⊢
    have hnw : j ∉ wrs cf.body := by
     have := (List.all_eq_true.1 hio) j (by simpa using hc)
     simpa using this
    rw [hkeep j hnw, henv, zD, List.getElem?_append_left hj, <- zD]
   rw [<- this, hvl, hl]
   unfold ioOpds
   rw [List.range_eq_range']
  refine ⟨v, H', F', m1 ++ m2, .call hf (by rw [hvl, hl]) hn (by rw [henv] at h1; exact h1) hex hv1, h3.fz, ?_, ?_, ?_⟩
  ·rw [Dens]
   rw [hioeq] at d2
   refine ⟨v, _, n1, n2, rfl, hnn, hv2, d2⟩
  ·exact g1.lo.nd
  ·have hpl : ∀ l, l ∈ m1 ++ m2 -> Pl Lf' l := by
    intro l hl
    rcases List.mem_append.1 hl with hl | hl
    ·exact e3 l hl
    ·obtain ⟨s, hs⟩ := g2 l hl; exact ⟨s, e2.sub s l hs⟩
   have h0 : ∀ l, Pl Lf0 l -> l ∈ ls := fun l hl => (k3 l hl).resolve_left (by rintro ⟨s, hs⟩; simp at hs)
   refine ⟨h4.sz, fun l hl hn => h4.fr l hl fun hp => hn (h0 l hp), fun l hl => ?_, h4.fm, fun l hl => ?_⟩
   ·exact (h4.pl l (hpl l hl)).imp (h0 l) id
   ·exact (h4.fp l hl).imp id (Or.imp (h0 l) id)
 | ext h => exact hXV _ _ _ _ h
 | ghO hle _ ih =>
  intro H F env Lf hn hs
  obtain ⟨F1, Lf1, h1, h2⟩ := hle H F env Lf hs
  obtain ⟨env', H', F', Lf', g1, g2, g3, g4⟩ := ih H F1 env Lf1 hn h1
  exact ⟨env', H', F', Lf', g1, g2, g3, h2.trans g4⟩
 | ghC hle _ ih =>
  intro H F env Lf hn hs
  obtain ⟨F1, Lf1, h1, h2⟩ := hle H F env Lf hs
  obtain ⟨env', H', F', Lf', g1, g2, g3, g4⟩ := ih H F1 env Lf1 hn h1
  exact ⟨env', H', F', Lf', g1, g2, g3, h2.trans g4⟩
 | ghE _ hle ih =>
  intro H F env Lf hn hs
  obtain ⟨env', H', F', Lf', g1, g2, g3, g4⟩ := ih H F env Lf hn hs
  obtain ⟨F1, Lf1, h1, h2⟩ := hle H' F' env' Lf' g3
  exact ⟨env', H', F1, Lf1, g1, g2, h1, g4.trans h2⟩
 | ghEO _ hle ih =>
  intro H F env Lf hn hs
  obtain ⟨env', H', F', Lf', g1, g2, g3, g4⟩ := ih H F env Lf hn hs
  obtain ⟨F1, Lf1, h1, h2⟩ := hle H' F' env' Lf' g3
  exact ⟨env', H', F1, Lf1, g1, g2, h1, g4.trans h2⟩
 | ghR ha ht ho _ ih =>
  intro H F vs ls hd hnd hfz
  obtain ⟨v, H', F', l1, h1, h2, h3, h4, h5⟩ := ih H F vs ls (ha H F vs ls hd) hnd hfz
  refine ⟨v, H', F', l1, h1, h2, ?_, h4, h5⟩
  rw [Dens] at h3 ⊢
  obtain ⟨c, cs', m1, m2, e1, e2, d1, d2⟩ := h3
  exact ⟨c, cs', m1, m2, e1, e2, ht _ _ _ _ d1, ho _ _ _ _ d2⟩
theorem TLe.refl (t : T) : TLe t t := fun _ _ _ _ h => h
theorem TLes.refl (ts : List T) : TLes ts ts := fun _ _ _ _ h => h
theorem TLes.cons {t t1 : T} {ts ts1 : List T} (h : TLe t t1) (h' : TLes ts ts1) : TLes (t :: ts) (t1 :: ts1) := by
 intro H F vs ls hd
 rw [Dens] at hd ⊢
 obtain ⟨c, cs', m1, m2, e1, e2, d1, d2⟩ := hd
 exact ⟨c, cs', m1, m2, e1, e2, h _ _ _ _ d1, h' _ _ _ _ d2⟩
theorem TLe.agg {ts ts1 : List T} (h : TLes ts ts1) : TLe (.agg ts) (.agg ts1) := by
 intro H F v ls hd
 rw [Den] at hd ⊢
 obtain ⟨cs, e, d⟩ := hd
 exact ⟨cs, e, h _ _ _ _ d⟩
theorem TLe.tup {ts ts1 : List T} (h : TLes ts ts1) : TLe (.tup ts) (.tup ts1) := by
 intro H F v ls hd
 rw [Den] at hd ⊢
 obtain ⟨cs, e, d⟩ := hd
 exact ⟨cs, e, h _ _ _ _ d⟩
theorem TLe.nil {own x : Bool} {e sk : Nat} (h : nilOk own x sk = true) (he : 0 < e) : TLe .nils (.sl own x e sk []) := by
 intro H F v ls hd
 rw [Den] at hd
 rw [Den]
 exact .inl ⟨h, rfl, .inl hd.1, hd.2, he⟩
theorem TLe.empty {own x : Bool} {e sk : Nat} (h : nilOk own x sk = true) : TLe (.sl false true e 0 []) (.sl own x e sk []) := by
 intro H F v ls hd
 rw [Den] at hd
 rw [Den]
 rcases hd with ⟨h1, _⟩ | ⟨l, o, n, avs, e1, e2, e3, e4, e5⟩
 ·simp [nilOk] at h1
 ·rcases e5 with ⟨f1, _⟩ | ⟨f1, f2, f3, f4, f5, f6⟩
  ·cases f1
  ·rw [Dens] at f6
   have hn : n = 0 := by
    rw [f6.1] at e3
    simp only [List.length_nil] at e3
    rcases Nat.mul_eq_zero.1 e3.symm with h | h
    ·exact h
    ·omega
   subst hn
   exact .inl ⟨h, rfl, .inr ⟨l, o, e1⟩, f5, e2⟩
theorem TLe.own {e : Nat} {cs cs1 : List T} (h : TLes cs cs1) (hl : cs.length = cs1.length) : TLe (.sl true false e 0 cs) (.sl true true e 0 cs1) := by
 intro H F v ls hd
 rw [Den] at hd ⊢
 rcases hd with ⟨h1, _⟩ | ⟨l, o, n, avs, e1, e2, e3, e4, e5⟩
 ·simp [nilOk] at h1
 refine .inr ⟨l, o, n, avs, e1, e2, e3, e4, ?_⟩
 rcases e5 with ⟨f1, f2, f3, f4, f5, l1, f6, f7⟩ | ⟨f1, _⟩
 ·exact .inl ⟨f1, f2, f3, f4, f5, l1, f6, h _ _ _ _ f7⟩
 ·cases f1
theorem TLe.sl {own x : Bool} {e sk : Nat} {cs cs1 : List T} (h : TLes cs cs1) (hl : cs.length = cs1.length) : TLe (.sl own x e sk cs) (.sl own x e sk cs1) := by
 intro H F v ls hd
 rw [Den] at hd ⊢
 rcases hd with ⟨h1, h2, h3⟩ | ⟨l, o, n, avs, e1, e2, e3, e4, e5⟩
 ·subst h2
  exact .inl ⟨h1, List.eq_nil_of_length_eq_zero (by simpa using hl.symm), h3⟩
 refine .inr ⟨l, o, n, avs, e1, e2, e3, e4, ?_⟩
 rcases e5 with ⟨f1, f2, f3, f4, f5, l1, f6, f7⟩ | ⟨f1, f2, f3, f4, f5, f6⟩
 ·exact .inl ⟨f1, f2, f3, f4, f5, l1, f6, h _ _ _ _ f7⟩
 ·exact .inr ⟨f1, f2, f3, f4, f5, h _ _ _ _ f6⟩
theorem TLe.sh {x : Bool} {e : Nat} {cs cs1 : List T} (h : TLes cs cs1) : TLe (.sl false x e 0 cs) (.sl false x e 1 cs1) := by
 intro H F v ls hd
 rw [Den] at hd ⊢
 rcases hd with ⟨h1, h2, h3⟩ | ⟨l, o, n, avs, e1, e2, e3, e4, e5⟩
 ·simp [nilOk] at h1
 refine .inr ⟨l, o, n, avs, e1, e2, e3, e4, ?_⟩
 rcases e5 with ⟨f1, _⟩ | ⟨f1, f2, f3, f4, f5, f6⟩
 ·cases f1
 ·exact .inr ⟨f1, f2, f3, f4, f5, h _ _ _ _ f6⟩
theorem TLe.ptr {own : Bool} {cs cs1 : List T} (h : TLes cs cs1) : TLe (.ptr own cs) (.ptr own cs1) := by
 intro H F v ls hd
 rw [Den] at hd ⊢
 obtain ⟨l, o, avs, e1, e2, e3⟩ := hd
 refine ⟨l, o, avs, e1, e2, ?_⟩
 rcases e3 with ⟨f1, f2, f3, f4, f5, l1, f6, f7⟩ | ⟨f1, f2, f3, f4, f5, f6⟩
 ·exact .inl ⟨f1, f2, f3, f4, f5, l1, f6, h _ _ _ _ f7⟩
 ·exact .inr ⟨f1, f2, f3, f4, f5, h _ _ _ _ f6⟩
theorem VLe.refl (V : VEnv) : VLe V V := fun H F env Lf h => ⟨F, Lf, h, Tr.refl _ _ _⟩
theorem VLe.trans {V V1 V2 : VEnv} (h : VLe V V1) (h' : VLe V1 V2) : VLe V V2 := by
 intro H F env Lf hs
 obtain ⟨F1, L1, a, b⟩ := h H F env Lf hs
 obtain ⟨F2, L2, c, d⟩ := h' H F1 env L1 a
 exact ⟨F2, L2, c, b.trans d⟩
theorem vle_see {V : VEnv} {s : Nat} {t t1 : T} (hs : V.get s = .v t) (hu : t ≠ .und) (h : TLe t t1) : VLe V ((unroot s V).set s (.v t1)) := by
 intro H F env Lf hst
 refine ⟨F, _, hst.see hs hu (fun _ h => h) (fun _ h => .inl h) (fun _ h => h) (hst.nd s) (h _ _ _ _ (hst.den hs)), Tr.less ?_⟩
 rintro l ⟨q, hl⟩
 unfold upL at hl
 split at hl
 ·exact ⟨s, hl⟩
 ·exact ⟨q, hl⟩
end
section
open Go Go.RowKit
mutual
def RdV (W : World) : T -> Value -> Prop
 | .int k n, v => v = .int k n
 | .bool b, v => v = .bool b
 | .str s, v => ∃ b : ByteArray, v = .string b /\ b.data.toList = s
 | .nils, v => v = .slice none 0 0
 | .sl own x e sk ts, v => own = false /\ x = false /\ 0 < e /\ ((sk = 1 /\ ts = [] /\ v = .slice none 0 0) \/ ∃ a n cap, v = .slice (some a) n cap /\ n <= cap /\ ts.length = n * e /\ (0 < cap -> a.spot = none) /\ ∃ us : List Value, us.length = ts.length /\ (∀ j u, us[j]? = some u -> W.cell? ⟨a.block, a.off + j, none⟩ = some u) /\ RdVs W ts us)
 | .agg ts, v => ∃ vs : Array Value, v = .agg vs /\ RdVs W ts vs.toList
 | _, _ => False
def RdVs (W : World) : List T -> List Value -> Prop
 | [], vs => vs = []
 | t :: ts, vs => ∃ v vs', vs = v :: vs' /\ RdV W t v /\ RdVs W ts vs'
end
structure RoH (W : World) (H : Heap) (m : Map) : Prop where
 rel : Rel W.heap.size m H W
 ro : ∀ l, l < H.sz -> (H.get l).st = .ro
structure RoLe (H : Heap) (m : Map) (H' : Heap) (m' : Map) : Prop where
 sz : H.sz <= H'.sz
 get : ∀ l, l < H.sz -> H'.get l = H.get l
 le : MLe m m'
theorem RoLe.refl (H : Heap) (m : Map) : RoLe H m H m := ⟨Nat.le_refl _, fun _ _ => rfl, MLe.refl m⟩
theorem RoLe.trans {H1 H2 H3 : Heap} {m1 m2 m3 : Map} (h : RoLe H1 m1 H2 m2) (h' : RoLe H2 m2 H3 m3) : RoLe H1 m1 H3 m3 :=
 ⟨Nat.le_trans h.sz h'.sz, fun l hl => by rw [h'.get l (Nat.lt_of_lt_of_le hl h.sz), h.get l hl], h.le.trans h'.le⟩
def Heap.newRo (H : Heap) (cs : List AV) : Heap := ⟨H.sz + 1, fun l => if l = H.sz then ⟨cs, .ro⟩ else H.get l⟩
theorem addRo {W : World} {H : Heap} {m : Map} (h : RoH W H m) {cs : List AV} {us : List Value} {b off bsz : Nat} (hcs : VRs m cs us) (hcell : ∀ j u, us[j]? = some u -> W.cell? ⟨b, off + j, none⟩ = some u) :
  RoH W (H.newRo cs) (m.add H.sz ⟨b, off, cs.length, bsz⟩) /\ RoLe H m (H.newRo cs) (m.add H.sz ⟨b, off, cs.length, bsz⟩) := by
 have hfr : m H.sz = none := h.rel.fresh
 have hle : MLe m (m.add H.sz ⟨b, off, cs.length, bsz⟩) := MLe.add hfr
 have hget : ∀ l, l ≠ H.sz -> (H.newRo cs).get l = H.get l := fun l hl => by simp [Heap.newRo, hl]
 have hgs : (H.newRo cs).get H.sz = ⟨cs, .ro⟩ := by simp [Heap.newRo]
 have hm : ∀ l i, m.add H.sz ⟨b, off, cs.length, bsz⟩ l = some i -> (l = H.sz /\ i = ⟨b, off, cs.length, bsz⟩) \/ (l ≠ H.sz /\ m l = some i) := by
  intro l i hl
  unfold Map.add at hl
  by_cases e : l = H.sz
  ·subst e; simp at hl; exact .inl ⟨rfl, hl.symm⟩
  ·simp [e] at hl; exact .inr ⟨e, hl⟩
 have hst : ∀ l, l < H.sz + 1 -> ((H.newRo cs).get l).st = .ro := by
  intro l hl
  by_cases e : l = H.sz
  ·subst e; rw [hgs]
  ·rw [hget l e]; exact h.ro l (by omega)
 have hblock : ∀ {b o : Nat} {u : Value}, W.cell? ⟨b, o, none⟩ = some u -> b < W.heap.size := by
  intro b o u hc
  unfold World.cell? at hc
  rcases Nat.lt_or_ge b W.heap.size with h1 | h1
  ·exact h1
  ·simp only [Array.getElem?_eq_none h1] at hc
   simp at hc
 refine ⟨⟨⟨fun l i hl => ?_, h.rel.size, fun l i hl hd => ?_, fun l i hl ho => ?_, fun l i hl hr hn => ?_, fun l l' i i' hl hl' hne ho ho' => ?_, h.rel.tab⟩, hst⟩, ⟨by simp [Heap.newRo], fun l hl => hget l (Nat.ne_of_lt hl), hle⟩⟩
 ·rcases hm l i hl with ⟨rfl, _⟩ | ⟨_, h1⟩
  ·simp [Heap.newRo]
  ·have := h.rel.dom l i h1; simp [Heap.newRo]; omega
 ·rcases hm l i hl with ⟨rfl, rfl⟩ | ⟨e, h1⟩
  ·rw [hgs]
   refine ⟨rfl, fun j hj => ?_⟩
   obtain ⟨v, hv, hr⟩ := hcs.at j hj
   exact ⟨v, hcell j v hv, hr.mono hle⟩
  ·rw [hget l e] at hd ⊢
   obtain ⟨h2, h3⟩ := h.rel.cells l i h1 hd
   refine ⟨h2, fun j hj => ?_⟩
   obtain ⟨v, h4, h5⟩ := h3 j hj
   exact ⟨v, h4, h5.mono hle⟩
 ·have hlt : l < H.sz + 1 := by
   rcases hm l i hl with ⟨rfl, _⟩ | ⟨_, h1⟩
   ·omega
   ·have := h.rel.dom l i h1; omega
  rw [hst l hlt] at ho; cases ho
 ·rcases hm l i hl with ⟨rfl, rfl⟩ | ⟨e, h1⟩
  ·simp only at hn ⊢
   obtain ⟨v, hv, _⟩ := hcs.at 0 hn
   have := hcell 0 v hv
   exact hblock this
  ·rw [hget l e] at hr
   exact h.rel.ro l i h1 hr hn
 ·have hlt : l < H.sz + 1 := by
   rcases hm l i hl with ⟨rfl, _⟩ | ⟨_, h1⟩
   ·omega
   ·have := h.rel.dom l i h1; omega
  rw [hst l hlt] at ho; cases ho
theorem roDen {H H' : Heap} {m m' : Map} (hl : RoLe H m H' m') {vs : List AV} {ts : List T} (h : Dens H (fun l => l < H.sz) vs ts []) : Dens H' (fun l => l < H'.sz) vs ts [] :=
 h.agree ⟨hl.sz, fun l hlt => ⟨hl.get l hlt, Nat.lt_of_lt_of_le hlt hl.sz⟩, by simp⟩
mutual
theorem rd_build {W : World} : ∀ {t : T} {v : Value} {H : Heap} {m : Map}, RdV W t v -> RoH W H m -> ∃ H' m' av, RoH W H' m' /\ RoLe H m H' m' /\ VR m' av v /\ Den H' (fun l => l < H'.sz) av t []
 | .int k n, v, H, m, h, hr => by rw [RdV] at h; exact ⟨H, m, .int k n, hr, .refl _ _, h, by rw [Den]; exact ⟨rfl, rfl⟩⟩
 | .bool b, v, H, m, h, hr => by rw [RdV] at h; exact ⟨H, m, .bool b, hr, .refl _ _, h, by rw [Den]; exact ⟨rfl, rfl⟩⟩
 | .str s, v, H, m, h, hr => by rw [RdV] at h; exact ⟨H, m, .str s, hr, .refl _ _, h, by rw [Den]; exact ⟨rfl, rfl⟩⟩
 | .nils, v, H, m, h, hr => by rw [RdV] at h; exact ⟨H, m, .nils, hr, .refl _ _, h, by rw [Den]; exact ⟨rfl, rfl⟩⟩
 | .sl own x e sk ts, v, H, m, h, hr => by
  rw [RdV] at h
  obtain ⟨rfl, rfl, he, h⟩ := h
  rcases h with ⟨rfl, rfl, rfl⟩ | ⟨a, n, cap, rfl, hnc, hlen, hspot, us, hul, hcell, hus⟩
  ·exact ⟨H, m, .nils, hr, .refl _ _, rfl, by rw [Den]; exact .inl ⟨rfl, rfl, .inl rfl, rfl, he⟩⟩
  obtain ⟨H1, m1, avs, h1, h2, h3, h4⟩ := rds_build hus hr
  obtain ⟨g1, g2⟩ := addRo (bsz := a.off + cap * e) h1 h3 hcell
  have hal : avs.length = ts.length := h4.length
  refine ⟨H1.newRo avs, _, .sl H1.sz 0 n e false, g1, h2.trans g2, ?_, ?_⟩
  ·refine ⟨⟨a.block, a.off, avs.length, a.off + cap * e⟩, a, cap, by simp [Map.add], rfl, hnc, by simp, by simp only; omega, fun _ => ?_, by simp only; omega, fun hc => ?_, he⟩
   ·simp only [Nat.zero_add]; rw [hal, hlen]; exact Nat.mul_le_mul_right e hnc
   ·have := hspot hc
    cases a; simp_all
  ·rw [Den]
   have hg : (H1.newRo avs).get H1.sz = ⟨avs, .ro⟩ := by simp [Heap.newRo]
   refine .inr ⟨H1.sz, 0, n, avs, rfl, he, by omega, by simp [Heap.newRo], .inr ⟨rfl, by rw [hg]; simp, by simp [Heap.newRo], ⟨[], [], by rw [hg]; simp, rfl⟩, rfl, roDen g2 h4⟩⟩
 | .agg ts, v, H, m, h, hr => by
  rw [RdV] at h
  obtain ⟨vs, rfl, hvs⟩ := h
  obtain ⟨H1, m1, avs, h1, h2, h3, h4⟩ := rds_build hvs hr
  exact ⟨H1, m1, .agg avs, h1, h2, ⟨vs, rfl, h3⟩, by rw [Den]; exact ⟨avs, rfl, h4⟩⟩
 | .und, v, H, m, h, hr => by simp [RdV] at h
 | .nilp, v, H, m, h, hr => by simp [RdV] at h
 | .nilf, v, H, m, h, hr => by simp [RdV] at h
 | .ptr _ _, v, H, m, h, hr => by simp [RdV] at h
 | .fn _ _, v, H, m, h, hr => by simp [RdV] at h
 | .tup _, v, H, m, h, hr => by simp [RdV] at h
 | .slo _ _, v, H, m, h, hr => by simp [RdV] at h
 | .at _ _, v, H, m, h, hr => by simp [RdV] at h
theorem rds_build {W : World} : ∀ {ts : List T} {vs : List Value} {H : Heap} {m : Map}, RdVs W ts vs -> RoH W H m -> ∃ H' m' avs, RoH W H' m' /\ RoLe H m H' m' /\ VRs m' avs vs /\ Dens H' (fun l => l < H'.sz) avs ts []
 | [], vs, H, m, h, hr => by rw [RdVs] at h; exact ⟨H, m, [], hr, .refl _ _, h, by rw [Dens]; exact ⟨rfl, rfl⟩⟩
 | t :: ts, vs, H, m, h, hr => by
  rw [RdVs] at h
  obtain ⟨v, vs', rfl, h1, h2⟩ := h
  obtain ⟨H1, m1, av, a1, a2, a3, a4⟩ := rd_build h1 hr
  obtain ⟨H2, m2, avs, b1, b2, b3, b4⟩ := rds_build h2 a1
  refine ⟨H2, m2, av :: avs, b1, a2.trans b2, ⟨v, vs', rfl, a3.mono b2.le, b3⟩, ?_⟩
  rw [Dens]
  exact ⟨av, avs, [], [], rfl, rfl, dens_one.1 (roDen b2 (dens_one.2 a4)), b4⟩
end
theorem law_calls {P : Program} {Tb : Nat -> Option CFn} {X : Ext} {io : Nat -> List Nat} {XV : Nat -> List T -> T -> List T -> Prop} (hmx : P.follows .mixedOrders = true) (hT : TabOk P Tb) (hX : ExtOk P X) (hXV : ∀ f ts t outs, XV f ts t outs -> CallOk Tb X io f ts t outs)
  {f : Nat} {ts : List T} {b : Bool} {outs : List T} (hv : VJ Tb io XV (.ca f ts (.bool b) outs)) {W : World} {args : Array Value} (hr : RdVs W ts args.toList) (hW : Tabs W.heap.size W := by trivial) :
  Calls P f args W fun e W' => e = .returned (.bool b) /\ Below W.heap.size W W' := by
 have h0 : RoH W ⟨0, fun _ => ⟨[], .dead⟩⟩ (fun _ => none) := by
  refine ⟨⟨?_, Nat.le_refl _, ?_, ?_, ?_, ?_, hW⟩, fun l hl => absurd hl (Nat.not_lt_zero l)⟩ <;> intros <;> simp_all
 obtain ⟨H, m, avs, h1, h2, h3, h4⟩ := rds_build hr h0
 obtain ⟨v, H', F', l1, hj, _, hres, _, _⟩ := vsound hXV hv H (fun l => l < H.sz) avs [] h4 List.nodup_nil (fun l hl => ⟨hl, by rw [h1.ro l hl]; simp⟩)
 rw [Dens] at hres
 obtain ⟨c, cs', m1, m2, e, _, hvd, _⟩ := hres
 simp only [List.cons.injEq] at e
 obtain ⟨rfl, _⟩ := e
 rw [Den] at hvd
 have hs := sim hmx hT hX hj W.heap.size m W args.toList h1.rel h3
 have hargs : args.toList.toArray = args := by simp
 rw [hargs] at hs
 refine hs.mono fun e W' he => ?_
 obtain ⟨v', m', rfl, hvr, hok⟩ := he
 rw [hvd.1] at hvr
 simp only [VR] at hvr
 subst hvr
 refine ⟨rfl, hok.fr.os, hok.fr.tape, hok.fr.output, hok.fr.size, fun k hk => hok.fr.block k hk fun l i hl ho => ?_⟩
 rw [h1.ro l (h1.rel.dom l i hl)] at ho; cases ho
end
section
structure Cx where
 fns : Nat -> Option CFn
 io : Nat -> List Nat
 X : Nat -> List T -> T -> List T -> Prop
abbrev VJx (x : Cx) (j : VJudg) : Prop := VJ x.fns x.io x.X j
def Wc (x : Cx) (n : Nat) (c : CCode) (V : VEnv) (Q : Ex -> VEnv -> Prop) : Prop := ∃ ex V', VJx x (.co n c V ex V') /\ Q ex V'
def Wo (x : Cx) (n : Nat) (ops : List (Nat × COper)) (V : VEnv) (Q : VEnv -> Prop) : Prop := ∃ V', VJx x (.op n ops V V') /\ Q V'
def thenQ (x : Cx) (n : Nat) (c : CCode) (Q : Ex -> VEnv -> Prop) : Ex -> VEnv -> Prop
 | .normal, V => Wc x n c V Q
 | ex, V => Q ex V
def blockQ (id : Nat) (Q : Ex -> VEnv -> Prop) : Ex -> VEnv -> Prop
 | .exit id', V => if id' = id then Q .normal V else Q (.exit id') V
 | ex, V => Q ex V
variable {x : Cx} {n : Nat} {V : VEnv} {Q : Ex -> VEnv -> Prop}
theorem Wc.mono {c : CCode} {Q' : Ex -> VEnv -> Prop} (h : Wc x n c V Q) (hq : ∀ ex V, Q ex V -> Q' ex V) : Wc x n c V Q' := by
 obtain ⟨ex, V', h1, h2⟩ := h
 exact ⟨ex, V', h1, hq _ _ h2⟩
theorem Wc.skip (h : Q .normal V) : Wc x n .skip V Q := ⟨_, _, .skip, h⟩
theorem Wc.kill {ts : List Nat} (h : Q .normal (V.drops ts)) : Wc x n (.kill ts) V Q := ⟨_, _, .kill, h⟩
theorem Wc.exit {id : Nat} (h : Q (.exit id) V) : Wc x n (.exit id) V Q := ⟨_, _, .exit, h⟩
theorem Wc.ret (h : Q .ret V) : Wc x n .ret V Q := ⟨_, _, .ret, h⟩
theorem Wc.seq {a b : CCode} (h : Wc x n a V (thenQ x n b Q)) : Wc x n (.seq a b) V Q := by
 obtain ⟨ex, V1, h1, h2⟩ := h
 cases ex with
 | normal =>
  obtain ⟨ex2, V2, h3, h4⟩ := h2
  exact ⟨ex2, V2, .seqN h1 h3, h4⟩
 | exit id => exact ⟨_, V1, .seqX (by simp) h1, h2⟩
 | ret => exact ⟨_, V1, .seqX (by simp) h1, h2⟩
theorem Wc.block {id : Nat} {c : CCode} (h : Wc x n c V (blockQ id Q)) : Wc x n (.block id c) V Q := by
 obtain ⟨ex, V1, h1, h2⟩ := h
 cases ex with
 | normal => exact ⟨_, V1, .blockN (by simp) h1, h2⟩
 | ret => exact ⟨_, V1, .blockN (by simp) h1, h2⟩
 | exit id' =>
  simp only [blockQ] at h2
  split at h2
  ·rename_i e; subst e; exact ⟨_, V1, .blockE h1, h2⟩
  ·rename_i e; exact ⟨_, V1, .blockN (by simpa using e) h1, h2⟩
theorem Wc.loop {c : CCode} (h : Wc x n c V (fun ex V' => match ex with | .normal => Wc x n (.loop c) V' Q | ex => Q ex V')) : Wc x n (.loop c) V Q := by
 obtain ⟨ex, V1, h1, h2⟩ := h
 cases ex with
 | normal =>
  obtain ⟨ex2, V2, h3, h4⟩ := h2
  exact ⟨ex2, V2, .loopN h1 h3, h4⟩
 | exit id => exact ⟨_, V1, .loopX (by simp) h1, h2⟩
 | ret => exact ⟨_, V1, .loopX (by simp) h1, h2⟩
theorem Wc.cond {c : Opd} {a b : CCode} {t : Bool} (hc : sca V c = .bool t) (ht : t = true -> Wc x n a V Q) (hf : t = false -> Wc x n b V Q) : Wc x n (.cond c a b) V Q := by
 cases t with
 | true =>
  obtain ⟨ex, V1, h1, h2⟩ := ht rfl
  exact ⟨ex, V1, .condT hc h1, h2⟩
 | false =>
  obtain ⟨ex, V1, h1, h2⟩ := hf rfl
  exact ⟨ex, V1, .condF hc h1, h2⟩
theorem Wc.reg {d : Bool} {ops : List (Nat × COper)} (h : Wo x n ops V (fun V' => Q .normal V')) : Wc x n (.reg d ops) V Q := by
 obtain ⟨V', h1, h2⟩ := h
 exact ⟨_, V', .reg h1, h2⟩
theorem Wo.nil {Q : VEnv -> Prop} (h : Q V) : Wo x n [] V Q := ⟨_, .opNil, h⟩
def evalO (n : Nat) : List (Nat × COper) -> VEnv -> Option (List (Nat × COper) × VEnv)
 | [], V => some ([], V)
 | (i, o) :: ops, V => match gV V o.guard with
  | some false => match dstLt n o.dst with
   | true => evalO n ops ((match o.dst with | some d => (unroot d V).set d (.v (.tup [])) | none => V).drops o.ks)
   | false => none
  | some true => match o.op with
   | .call _ _ => some ((i, o) :: ops, V)
   | .callv _ _ => some ((i, o) :: ops, V)
   | c => match dstLt n o.dst with
    | true => match needUs V o with
     | true => match stepV o.ks V c with
      | some (r, V1) => match putR V1 o.dst r with
       | some V2 => evalO n ops (V2.drops o.ks)
       | none => none
      | none => none
     | false => none
    | false => none
  | none => none
theorem Wo.eval : ∀ {ops ops' : List (Nat × COper)} {V V' : VEnv} {Q : VEnv -> Prop}, evalO n ops V = some (ops', V') -> Wo x n ops' V' Q -> Wo x n ops V Q
 | [], ops', V, V', Q, h, hw => by
  simp only [evalO, zJ, zP] at h
  obtain ⟨rfl, rfl⟩ := h
  exact hw
 | (i, o) :: ops, ops', V, V', Q, h, hw => by
  have key : ∀ {r : RV} {V1 V2 : VEnv}, dstLt n o.dst = true -> gV V o.guard = some true -> needUs V o = true -> stepV o.ks V o.op = some (r, V1) -> putR V1 o.dst r = some V2 -> evalO n ops (V2.drops o.ks) = some (ops', V') -> Wo x n ((i, o) :: ops) V Q := by
   intro r V1 V2 h1 h2 h3 h4 h5 h6
   obtain ⟨W, h7, h8⟩ := Wo.eval h6 hw
   exact ⟨W, .opDo h2 h1 h3 h4 h5 h7, h8⟩
  have skip : dstLt n o.dst = true -> gV V o.guard = some false -> evalO n ops ((match o.dst with | some d => (unroot d V).set d (.v (.tup [])) | none => V).drops o.ks) = some (ops', V') -> Wo x n ((i, o) :: ops) V Q := by
   intro h1 h2 h6
   obtain ⟨W, h7, h8⟩ := Wo.eval h6 hw
   exact ⟨W, .opSkip h2 h1 h7, h8⟩
  simp only [evalO] at h
  split at h
  ·rename_i hg
   split at h
   ·rename_i hd; exact skip hd hg h
   ·simp at h
  ·rename_i hg
   split at h
   ·simp only [zJ, zP] at h
    obtain ⟨rfl, rfl⟩ := h
    exact hw
   ·simp only [zJ, zP] at h
    obtain ⟨rfl, rfl⟩ := h
    exact hw
   ·rename_i c hc1 hc2
    split at h
    ·rename_i hd
     split at h
     ·rename_i hn
      split at h
      ·rename_i r V1 hs
       split at h
       ·rename_i V2 hp; exact key hd hg hn hs hp h
       ·simp at h
      ·simp at h
     ·simp at h
    ·simp at h
  ·simp at h
theorem Wo.evala : ∀ {ops ops' more : List (Nat × COper)} {V V' : VEnv} {Q : VEnv -> Prop}, evalO n ops V = some (ops', V') -> Wo x n (ops' ++ more) V' Q -> Wo x n (ops ++ more) V Q
 | [], ops', more, V, V', Q, h, hw => by
  simp only [evalO, zJ, zP] at h
  obtain ⟨rfl, rfl⟩ := h
  exact hw
 | (i, o) :: ops, ops', more, V, V', Q, h, hw => by
  have key : ∀ {r : RV} {V1 V2 : VEnv}, dstLt n o.dst = true -> gV V o.guard = some true -> needUs V o = true -> stepV o.ks V o.op = some (r, V1) -> putR V1 o.dst r = some V2 -> evalO n ops (V2.drops o.ks) = some (ops', V') -> Wo x n ((i, o) :: (ops ++ more)) V Q := by
   intro r V1 V2 h1 h2 h3 h4 h5 h6
   obtain ⟨W, h7, h8⟩ := Wo.evala h6 hw
   exact ⟨W, .opDo h2 h1 h3 h4 h5 h7, h8⟩
  have skip : dstLt n o.dst = true -> gV V o.guard = some false -> evalO n ops ((match o.dst with | some d => (unroot d V).set d (.v (.tup [])) | none => V).drops o.ks) = some (ops', V') -> Wo x n ((i, o) :: (ops ++ more)) V Q := by
   intro h1 h2 h6
   obtain ⟨W, h7, h8⟩ := Wo.evala h6 hw
   exact ⟨W, .opSkip h2 h1 h7, h8⟩
  simp only [evalO] at h
  simp only [List.cons_append]
  split at h
  ·rename_i hg
   split at h
   ·rename_i hd; exact skip hd hg h
   ·simp at h
  ·rename_i hg
   split at h
   ·simp only [zJ, zP] at h
    obtain ⟨rfl, rfl⟩ := h
    exact hw
   ·simp only [zJ, zP] at h
    obtain ⟨rfl, rfl⟩ := h
    exact hw
   ·rename_i c hc1 hc2
    split at h
    ·rename_i hd
     split at h
     ·rename_i hn
      split at h
      ·rename_i r V1 hs
       split at h
       ·rename_i V2 hp; exact key hd hg hn hs hp h
       ·simp at h
      ·simp at h
     ·simp at h
    ·simp at h
  ·simp at h
theorem Wo.evk {ops : List (Nat × COper)} {V V' : VEnv} {Q : VEnv -> Prop} (k : Nat) (h : evalO n (ops.take k) V = some ([], V')) (hw : Wo x n (ops.drop k) V' Q) : Wo x n ops V Q := by
 have := Wo.evala (more := ops.drop k) h hw
 rwa [List.take_append_drop] at this
theorem Wc.evk {d : Bool} {ops : List (Nat × COper)} {V V' : VEnv} (k : Nat) (h : evalO n (ops.take k) V = some ([], V')) (hw : Wo x n (ops.drop k) V' (fun V' => Q .normal V')) : Wc x n (.reg d ops) V Q := Wc.reg (Wo.evk k h hw)
theorem Wo.call {i : Nat} {o : COper} {ops : List (Nat × COper)} {Q : VEnv -> Prop} {f : Nat} {ts : List T} {rs : List Nat} {V1 V2 V3 : VEnv} {xs : List Opd} {t : T} {outs : List T} (hg : gV V o.guard = some true) (hd : dstLt n o.dst = true) (hc : callV x.io V o.op = some (f, ts, rs, V1, xs))
  (hca : VJx x (.ca f ts t outs)) (hus : (o.us.isEmpty || xs.isEmpty || usOk V1 o.us []) = true) (hal : (rs.isEmpty || (t.alone && alones outs)) = true) (hb : backs V V1 n V1 xs outs = some V2) (hp : putR V2 o.dst (.v t) = some V3) (h : Wo x n ops (V3.drops o.ks) Q) : Wo x n ((i, o) :: ops) V Q := by
 obtain ⟨V', h1, h2⟩ := h
 exact ⟨V', .opCall hg hd hc hus hca hal hb hp h1, h2⟩
theorem Wo.skip {i : Nat} {o : COper} {ops : List (Nat × COper)} {Q : VEnv -> Prop} (hg : gV V o.guard = some false) (hd : dstLt n o.dst = true) (h : Wo x n ops ((match o.dst with | some d => (unroot d V).set d (.v (.tup [])) | none => V).drops o.ks) Q) : Wo x n ((i, o) :: ops) V Q := by
 obtain ⟨V', h1, h2⟩ := h
 exact ⟨V', .opSkip hg hd h1, h2⟩
theorem ca_of {f nt na : Nat} {rs : List CRes} {b : CCode} {ts : List T} {t : T} {outs : List T} (hf : x.fns f = some ⟨nt, na, rs, b⟩) (hl : ts.length = na) (hn : na <= nt) (hio : ((x.io f).all fun j => !(wrs b).contains j) = true)
    (h : Wc x nt b (startV 0 ts []) fun ex V' => (ex = .normal \/ ex = .ret) /\ ∃ rts V2 V3, resV V' rs = some (rts, V2) /\ takesV V2 (ioOpds (x.io f) na) = some (outs, V3) /\ tupT rts = t) : VJx x (.ca f ts t outs) := by
  obtain ⟨ex, V', h1, hex, rts, V2, V3, h2, h3, rfl⟩ := h
  exact VJ.call (cf := ⟨nt, na, rs, b⟩) hf hl hn hio h1 hex h2 h3
theorem Wc.start {c : CCode} {V1 : VEnv} (h : V = V1) (hw : Wc x n c V1 Q) : Wc x n c V Q := by rw [h]; exact hw
theorem res_of {rs : List CRes} {ex : Ex} {ios : List Opd} {outs : List T} {t : T} (hex : ex = .normal \/ ex = .ret) (h : ∃ rts V2 V3, resV V rs = some (rts, V2) /\ takesV V2 ios = some (outs, V3) /\ tupT rts = t) :
  (ex = .normal \/ ex = .ret) /\ ∃ rts V2 V3, resV V rs = some (rts, V2) /\ takesV V2 ios = some (outs, V3) /\ tupT rts = t := ⟨hex, h⟩
theorem Wo.ev {ops : List (Nat × COper)} {Q : VEnv -> Prop} {R : Option (List (Nat × COper) × VEnv)} (h : evalO n ops V = R) (hw : match R with | some (ops', V') => Wo x n ops' V' Q | none => False) : Wo x n ops V Q := by
 match R, h, hw with
 | some (ops', V'), h, hw => exact Wo.eval h hw
theorem Wc.ev {d : Bool} {ops : List (Nat × COper)} {R : Option (List (Nat × COper) × VEnv)} (h : evalO n ops V = R) (hw : match R with | some (ops', V') => Wo x n ops' V' (fun V' => Q .normal V') | none => False) : Wc x n (.reg d ops) V Q := Wc.reg (Wo.ev h hw)
theorem Wc.kil {ts : List Nat} {V1 : VEnv} (h : V.drops ts = V1) (hq : Q .normal V1) : Wc x n (.kill ts) V Q := Wc.kill (by rw [h]; exact hq)
attribute [simp] back0 isUnd b2sV bytesT evalO startV gV stepV opV mvV VEnv.get VEnv.set VEnv.drop VEnv.del VEnv.upd unroot S.rooted Cap.rooted VEnv.drops putR dstLt sca T.av T.ofAV needUs see slOf adrOf T.bare scaOp eqCells binA binI T.plain plains osca bnd lend lendC takeV T.frz T.cells T.one cut pre keepS keepC T.node T.kids T.setNode T.setKids callV ioTakes ioLends ioSel backs back1 appV moreV exV tupOf sliceV cutT layV spliceT ofAVs capsV capTs tupT resV resV1 ioOpds takesV target tgt usOk rootOf baseOf thenQ blockQ
@[simp] theorem rng_one (cs : List T) (k : Nat) : rng cs k 1 false = cs[k]? := by
 unfold rng
 by_cases h : k + 1 <= cs.length
 ·simp [h]
 ·rw [if_neg h, List.getElem?_eq_none (by omega)]
@[simp] theorem rng_agg (cs : List T) (k n : Nat) : rng cs k n true = if k + n <= cs.length then some (.agg ((cs.drop k).take n)) else none := rfl
@[simp] theorem wrap_in (n : Int) (h : -9223372036854775808 <= n /\ n <= 9223372036854775807) : IntKind.i64.wrap n = n := by
 rw [IntKind.wrap_i64]; omega
end
section
open Go Go.ChangeShapes
theorem RdVs.append {W : World} : ∀ {ts us : List T} {vs ws : List Value}, RdVs W ts vs -> RdVs W us ws -> RdVs W (ts ++ us) (vs ++ ws)
 | [], us, vs, ws, h, h' => by rw [RdVs] at h; subst h; simpa using h'
 | t :: ts, us, vs, ws, h, h' => by
  rw [RdVs] at h
  obtain ⟨v, vs', rfl, h1, h2⟩ := h
  rw [List.cons_append, List.cons_append, RdVs]
  exact ⟨v, vs' ++ ws, rfl, h1, RdVs.append h2 h'⟩
theorem rdvs_one {W : World} {t : T} {v : Value} (h : RdV W t v) : RdVs W [t] [v] := by
 rw [RdVs]; exact ⟨v, [], rfl, h, by rw [RdVs]⟩
theorem spot_of_cell {W : World} {a : Addr} {v : Value} (h : W.cell? a = some v) : a.spot = none := by
 unfold World.cell? at h
 split at h
 ·split at h
  ·simp at h
  ·rename_i hs; simpa using hs
 ·simp at h
end
section
structure En (α : Type) where
 w : Nat
 c : Bool -> α -> List T
 hw : ∀ b a, (c b a).length = w
 hp : 0 < w
 hf : ∀ b a, frzs (c b a) = c false a
 hpl : ∀ a, plains (c false a) = true
 hal : ∀ a, alones (c true a) = true
 ho : ∀ b a, (c b a).all T.one = true
def arr {α : Type} (E : En α) (b : Bool) (l : List α) : List T := l.flatMap (E.c b)
variable {α β : Type} {E : En α} {b : Bool} {l l' : List α}
@[simp] theorem arr_nil : arr E b [] = [] := rfl
@[simp] theorem arr_cons {a : α} : arr E b (a :: l) = E.c b a ++ arr E b l := by simp [arr]
@[simp] theorem arr_app : arr E b l ++ arr E b l' = arr E b (l ++ l') := by simp [arr]
theorem arr_one {a : α} : arr E b [a] = E.c b a := by simp [arr]
theorem arr_snoc {a : α} : arr E b l ++ E.c b a = arr E b (l ++ [a]) := by simp [arr]
theorem arr_len : (arr E b l).length = l.length * E.w := by
 induction l with
 | nil => simp
 | cons a l ih => rw [arr_cons, List.length_append, E.hw, ih, List.length_cons, Nat.add_mul]; omega
theorem frzs_append : ∀ (ts us : List T), frzs (ts ++ us) = frzs ts ++ frzs us
 | [], us => rfl
 | t :: ts, us => by simp [frzs, frzs_append ts us]
theorem plains_append : ∀ (ts us : List T), plains (ts ++ us) = (plains ts && plains us)
 | [], us => by simp
 | t :: ts, us => by simp [plains, plains_append ts us, Bool.and_assoc]
theorem alones_append : ∀ (ts us : List T), alones (ts ++ us) = (alones ts && alones us)
 | [], us => by simp [alones]
 | t :: ts, us => by simp [alones, alones_append ts us, Bool.and_assoc]
@[simp] theorem arr_frz : frzs (arr E b l) = arr E false l := by
 induction l with
 | nil => rfl
 | cons a l ih => rw [arr_cons, frzs_append, E.hf, ih, arr_cons]
@[simp] theorem arr_plain : plains (arr E false l) = true := by
 induction l with
 | nil => rfl
 | cons a l ih => rw [arr_cons, plains_append, E.hpl, ih]; rfl
@[simp] theorem arr_alone : alones (arr E true l) = true := by
 induction l with
 | nil => rfl
 | cons a l ih => rw [arr_cons, alones_append, E.hal, ih]; rfl
@[simp] theorem arr_ones : (arr E b l).all T.one = true := by
 induction l with
 | nil => rfl
 | cons a l ih => rw [arr_cons, List.all_append, E.ho, ih]; rfl
theorem arr_take (n : Nat) : (arr E b l).take (n * E.w) = arr E b (l.take n) := by
 induction n generalizing l with
 | zero => simp
 | succ n ih => cases l with
  | nil => simp
  | cons a l =>
   rw [arr_cons, List.take_succ_cons, arr_cons, Nat.add_mul, Nat.one_mul, Nat.add_comm, <- ih]
   rw [<- E.hw b a, List.take_length_add_append]
theorem arr_drop (n : Nat) : (arr E b l).drop (n * E.w) = arr E b (l.drop n) := by
 induction n generalizing l with
 | zero => simp
 | succ n ih => cases l with
  | nil => simp
  | cons a l =>
   rw [arr_cons, List.drop_succ_cons, Nat.add_mul, Nat.one_mul, Nat.add_comm, <- ih]
   rw [<- E.hw b a, List.drop_length_add_append]
theorem arr_at {i : Nat} {a : α} (h : l[i]? = some a) : (arr E b l).drop (i * E.w) = E.c b a ++ arr E b (l.drop (i + 1)) := by
 rw [arr_drop]
 obtain ⟨h1, h2⟩ := zS h
 rw [List.drop_eq_getElem_cons h1, arr_cons, h2]
theorem arr_get {i o : Nat} {a : α} (h : l[i]? = some a) (ho : o < E.w) : (arr E b l)[i * E.w + o]? = (E.c b a)[o]? := by
 rw [<- List.getElem?_drop, arr_at h, List.getElem?_append_left (by rw [E.hw]; exact ho)]
theorem arr_fit {i : Nat} (h : i < l.length) : i * E.w + E.w <= (arr E b l).length := by
 rw [arr_len]
 have := Nat.mul_le_mul_right E.w (show i + 1 <= l.length by omega)
 rw [Nat.add_mul] at this; omega
theorem arr_set {i : Nat} {a : α} (h : i < l.length) : (arr E b l).take (i * E.w) ++ (E.c b a ++ (arr E b l).drop (i * E.w + E.w)) = arr E b (l.set i a) := by
 rw [arr_take, show i * E.w + E.w = (i + 1) * E.w by rw [Nat.add_mul]; omega, arr_drop, List.set_eq_take_append_cons_drop, if_pos h, <- arr_app, arr_cons]
theorem arr_setc {i o : Nat} {a a' : α} {t : T} (h : l[i]? = some a) (ho : o < E.w) (hc : (E.c b a).take o ++ t :: (E.c b a).drop (o + 1) = E.c b a') :
  (arr E b l).take (i * E.w + o) ++ (t :: (arr E b l).drop (i * E.w + (o + 1))) = arr E b (l.set i a') := by
 obtain ⟨h1, h2⟩ := zS h
 rw [List.take_add, arr_at h, List.take_append_of_le_length (by rw [E.hw]; omega), <- List.drop_drop, arr_at h, List.drop_append_of_le_length (by rw [E.hw]; omega)]
 rw [arr_take, List.append_assoc, <- List.cons_append, <- List.append_assoc ((E.c b a).take o), hc, List.set_eq_take_append_cons_drop, if_pos h1, <- arr_app, arr_cons]
abbrev osl (E : En α) (b : Bool) (l : List α) : T := .sl true true E.w 0 (arr E b l)
abbrev ssl (E : En α) (l : List α) : T := .sl false false E.w 1 (arr E false l)
attribute [simp] osl ssl T.alone alones T.mayNil frzs
def slT (E : En α) (b : Bool) (l : List α) : T := .sl b b E.w (if b then 0 else 1) (arr E b l)
def eInt (k : IntKind) : En Int := ⟨1, fun _ n => [.int k n], by simp, by simp, by simp [frzs], by simp, by simp [alones, T.alone], by simp⟩
abbrev eI : En Int := eInt .i64
def eB : En Bool := ⟨1, fun _ n => [.bool n], by simp, by simp, by simp [frzs], by simp, by simp [alones, T.alone], by simp⟩
def eS : En (List UInt8) := ⟨1, fun _ n => [.str n], by simp, by simp, by simp [frzs], by simp, by simp [alones, T.alone], by simp⟩
theorem slT_frz : (slT E b l).frz = slT E false l := by cases b <;> simp [slT, T.frz]
def eL (E : En α) : En (List α) := ⟨1, fun b l => [slT E b l], by simp, by simp, fun b l => by simp [frzs, slT_frz], fun l => by simp [slT], fun l => by simp [slT, alones, T.alone], fun b l => by simp [slT]⟩
@[simp] theorem eInt_w {k : IntKind} : (eInt k).w = 1 := rfl
@[simp] theorem eB_w : eB.w = 1 := rfl
@[simp] theorem eS_w : eS.w = 1 := rfl
@[simp] theorem eL_w {E : En α} : (eL E).w = 1 := rfl
@[simp] theorem eInt_c {k : IntKind} {n : Int} : (eInt k).c b n = [.int k n] := rfl
@[simp] theorem eB_c {n : Bool} : eB.c b n = [.bool n] := rfl
@[simp] theorem eS_c {n : List UInt8} : eS.c b n = [.str n] := rfl
@[simp] theorem eL_ct {E : En α} {l : List α} : (eL E).c true l = [osl E true l] := rfl
@[simp] theorem eL_cf {E : En α} {l : List α} : (eL E).c false l = [ssl E l] := rfl
@[simp] theorem arr_eq_nil : arr E b l = [] ↔ l = [] := by
 cases l with
 | nil => simp
 | cons a l =>
  rw [arr_cons]
  have h := E.hw b a
  have h2 := E.hp
  constructor
  ·intro e
   simp only [List.append_eq_nil_iff] at e
   rw [e.1] at h; simp at h; omega
  ·intro e; cases e
@[simp] theorem arr_isEmpty : (arr E b l).isEmpty = l.isEmpty := by
 cases l with
 | nil => simp
 | cons a l =>
  simp only [List.isEmpty_cons]
  cases h : (arr E b (a :: l)).isEmpty with
  | false => rfl
  | true =>
   rw [List.isEmpty_iff] at h
   cases arr_eq_nil.1 h
def ix (l : List α) (i : Int) : Option α := if 0 <= i then l[i.toNat]? else none
theorem ix_ne {i : Int} {a : α} (h : ix l i = some a) : l ≠ [] := by
 rintro rfl
 unfold ix at h
 split at h <;> simp at h
theorem ix_some {i : Int} {a : α} (h : ix l i = some a) : 0 <= i /\ i < l.length /\ l[i.toNat]? = some a := by
 unfold ix at h
 split at h
 ·exact ⟨by omega, by have := (zS h).1; omega, h⟩
 ·simp at h
def app (bs : Nat) (l l' : List α) : Option (List α) := if l'.length = 0 \/ (l.length + l'.length) * bs <= room then some (l ++ l') else none
theorem appT_arr {bs : Nat} {y : Bool} {v : List α} (h : app bs l l' = some v) (hb : bs ≠ 0) : appT E.w bs (.sl true y E.w 0 (arr E b l)) (arr E b l') = some (.sl true y E.w 0 (arr E b v)) := by
 unfold app at h
 have hw := E.hp
 have hw0 : E.w ≠ 0 := by omega
 unfold appT
 by_cases h0 : l' = []
 ·subst h0
  simp at h
  simp [h]
 ·have hl : 0 < l'.length := List.length_pos_iff.2 h0
  split at h
  ·rename_i hr
   simp only [zJ] at h
   subst h
   have hr' : (l.length + l'.length) * bs <= room := by omega
   have e1 : (arr E b l').length / E.w = l'.length := by rw [arr_len, Nat.mul_div_cancel _ hw]
   have e2 : (arr E b l).length / E.w = l.length := by rw [arr_len, Nat.mul_div_cancel _ hw]
   have hne : ¬ ((arr E b l').length = 0) := by
    rw [arr_len]
    have := Nat.mul_pos hl hw
    omega
   have hg : ¬ (E.w = 0 \/ bs = 0 \/ (arr E b l').all T.one = false) := by
    rw [arr_ones]; simp; omega
   rw [if_neg hne, if_neg hg]
   simp only [e1, e2, true_and]
   rw [if_pos hr', if_neg (by omega), if_pos trivial, arr_app]
  ·simp at h
theorem arr_sc {b' : Bool} (h : E.c b' = E.c b) (l : List α) : arr E b' l = arr E b l := by unfold arr; rw [h]
theorem appT_arr2 {bs : Nat} {y b' : Bool} {v : List α} (h : app bs l l' = some v) (hb : bs ≠ 0) (he : arr E b' l' = arr E b l') : appT E.w bs (.sl true y E.w 0 (arr E b l)) (arr E b' l') = some (.sl true y E.w 0 (arr E b v)) := by
 rw [he]; exact appT_arr h hb
def mkl (bs : Int) (n : Int) (a : α) : Option (List α) := if 0 <= n /\ bs * n <= 281474976710656 /\ n <= 9223372036854775807 then some (List.replicate n.toNat a) else none
theorem mkl_some {bs : Int} {n : Int} {a : α} {v : List α} (h : mkl bs n a = some v) : 0 <= n /\ bs * n <= 281474976710656 /\ n <= 9223372036854775807 /\ List.replicate n.toNat a = v := by
 unfold mkl at h
 split at h
 ·rename_i hc
  simp only [zJ] at h
  exact ⟨hc.1, hc.2.1, hc.2.2, h⟩
 ·simp at h
theorem rep_arr {n : Nat} {a : α} {v : List α} (h : List.replicate n a = v) : (List.replicate n (E.c b a)).flatten = arr E b v := by
 subst h
 induction n with
 | zero => rfl
 | succ n ih => rw [List.replicate_succ, List.flatten_cons, ih, List.replicate_succ, arr_cons]
def cutL (l : List α) (lo hi : Int) : Option (List α) := if 0 <= lo /\ lo <= hi /\ hi <= l.length then some ((l.take hi.toNat).drop lo.toNat) else none
theorem cut_some {lo hi : Int} {v : List α} (h : cutL l lo hi = some v) : 0 <= lo /\ lo <= hi /\ hi <= l.length /\ (l.take hi.toNat).drop lo.toNat = v := by
 unfold cutL at h
 split at h
 ·rename_i hc
  simp only [zJ] at h
  exact ⟨hc.1, hc.2.1, hc.2.2, h⟩
 ·simp at h
def cat (a b : List UInt8) : Option (List UInt8) := if ((a.length + b.length : Nat) : Int) <= IntKind.i64.max then some (a ++ b) else none
theorem cat_some {a b v : List UInt8} (h : cat a b = some v) : ((a.length + b.length : Nat) : Int) <= IntKind.i64.max /\ a ++ b = v := by
 unfold cat at h
 split at h
 ·rename_i hc
  simp only [zJ] at h
  exact ⟨hc, h⟩
 ·simp at h
def nz (n : Int) : Option Unit := if n = 0 then none else some ()
def nn (n : Int) : Option Unit := if n < 0 then none else some ()
theorem nz_some {n : Int} {v : Unit} (h : nz n = some v) : ¬ n = 0 := by
 unfold nz at h
 split at h
 ·simp at h
 ·assumption
theorem nn_some {n : Int} {v : Unit} (h : nn n = some v) : ¬ n < 0 := by
 unfold nn at h
 split at h
 ·simp at h
 ·assumption
def band (k : IntKind) (x y : Int) : Int := k.wrap (BitVec.ofInt k.bits x &&& BitVec.ofInt k.bits y).toNat
def sshl (k : IntKind) (x y : Int) : Int := k.wrap (x * 2 ^ (min y.toNat k.bits))
def sshr (k : IntKind) (x y : Int) : Int := x.fdiv (2 ^ (min y.toNat k.bits))
theorem lay_set {i : Nat} (a : α) (h : i < l.length) : layT (arr E b l) (i * E.w) E.w (E.c b a) = arr E b (l.set i a) := arr_set h
theorem lay_cell {i o : Nat} {a : α} (a' : α) {t : T} (h : l[i]? = some a) (ho : o < E.w) (hc : (E.c b a).take o ++ t :: (E.c b a).drop (o + 1) = E.c b a') : layT (arr E b l) (i * E.w + o) 1 [t] = arr E b (l.set i a') := arr_setc h ho hc
theorem set_cell {i o : Nat} {a : α} (a' : α) {t : T} (h : l[i]? = some a) (ho : o < E.w) (hc : (E.c b a).take o ++ t :: (E.c b a).drop (o + 1) = E.c b a') : (arr E b l).set (i * E.w + o) t = arr E b (l.set i a') := by
 obtain ⟨h1, h2⟩ := zS h
 have := arr_setc (b := b) h ho hc
 rw [<- this, List.set_eq_take_append_cons_drop, if_pos]
 ·rfl
 ·have := arr_fit (E := E) (b := b) h1; omega
abbrev w64 (n : Int) : Int := IntKind.i64.wrap n
abbrev w8 (n : Int) : Int := IntKind.u8.wrap n
attribute [simp] w64 w8
def iterN {σ ρ : Type} (f : σ -> Option (σ ⊕ ρ)) : Nat -> σ -> Option ρ
 | 0, _ => none
 | n + 1, s => match f s with
  | some (.inl s') => iterN f n s'
  | some (.inr r) => some r
  | none => none
theorem iterN_mono {σ ρ : Type} {f : σ -> Option (σ ⊕ ρ)} : ∀ {n m : Nat} {s : σ} {r : ρ}, n <= m -> iterN f n s = some r -> iterN f m s = some r
 | 0, _, _, _, _, h => by simp [iterN] at h
 | n + 1, 0, _, _, hnm, _ => by omega
 | n + 1, m + 1, s, r, hnm, h => by
  simp only [iterN] at h ⊢
  split at h
  ·rename_i s' hs; exact iterN_mono (by omega) h
  ·exact h
  ·simp at h
open Classical in
noncomputable def iter {σ ρ : Type} (f : σ -> Option (σ ⊕ ρ)) (s : σ) : Option ρ :=
 if h : ∃ n, (iterN f n s).isSome then iterN f h.choose s else none
theorem iter_of {σ ρ : Type} {f : σ -> Option (σ ⊕ ρ)} {n : Nat} {s : σ} {r : ρ} (h : iterN f n s = some r) : iter f s = some r := by
 unfold iter
 have hx : ∃ n, (iterN f n s).isSome := ⟨n, by rw [h]; rfl⟩
 rw [dif_pos hx]
 obtain ⟨r', hr'⟩ := Option.isSome_iff_exists.1 hx.choose_spec
 rw [hr']
 have h1 := iterN_mono (Nat.le_max_left n hx.choose) h
 have h2 := iterN_mono (Nat.le_max_right n hx.choose) hr'
 rw [h1] at h2
 exact h2.symm
theorem iter_some {σ ρ : Type} {f : σ -> Option (σ ⊕ ρ)} {s : σ} {r : ρ} (h : iter f s = some r) : ∃ n, iterN f n s = some r := by
 unfold iter at h
 split at h
 ·exact ⟨_, h⟩
 ·simp at h
theorem iter_eq {σ ρ : Type} (f : σ -> Option (σ ⊕ ρ)) (s : σ) : iter f s = match f s with
  | some (.inl s') => iter f s'
  | some (.inr r) => some r
  | none => none := by
 have key : ∀ r, iter f s = some r ↔ (match f s with
  | some (.inl s') => iter f s'
  | some (.inr r) => some r
  | none => none) = some r := by
  intro r
  constructor
  ·intro h
   obtain ⟨n, hn⟩ := iter_some h
   cases n with
   | zero => simp [iterN] at hn
   | succ n =>
    simp only [iterN] at hn
    split at hn
    ·rename_i s' hs; exact iter_of hn
    ·exact hn
    ·simp at hn
  ·intro h
   split at h
   ·rename_i s' hs
    obtain ⟨n, hn⟩ := iter_some h
    exact iter_of (n := n + 1) (by simp only [iterN, hs]; exact hn)
   ·rename_i r' hs
    exact iter_of (n := 1) (by simp only [iterN, hs]; exact h)
   ·simp at h
 exact Option.ext key
theorem iter_run {σ ρ : Type} {f : σ -> Option (σ ⊕ ρ)} {P : σ -> ρ -> Prop} (hs : ∀ s o r, f s = some o -> (∀ s', o = .inl s' -> P s' r) -> (∀ r', o = .inr r' -> r' = r) -> P s r) {s : σ} {r : ρ} (h : iter f s = some r) : P s r := by
 obtain ⟨n, hn⟩ := iter_some h
 clear h
 induction n generalizing s with
 | zero => simp [iterN] at hn
 | succ n ih =>
  simp only [iterN] at hn
  split at hn
  ·rename_i s' hf
   exact hs s _ r hf (fun s'' e => by cases e; exact ih hn) (fun r' e => by cases e)
  ·rename_i r' hf
   simp only [zJ] at hn
   exact hs s _ r hf (fun s'' e => by cases e) (fun r'' e => by cases e; exact hn)
  ·simp at hn
def QX (id : Nat) {σ : Type} (m : σ -> VEnv) (o : σ) (ex : Ex) (V : VEnv) : Prop := ex = .exit id /\ V = m o
def QR {ρ : Type} (m : ρ -> VEnv) (o : ρ) (ex : Ex) (V : VEnv) : Prop := ex = .ret /\ V = m o
def QN {σ : Type} (m : σ -> VEnv) (o : σ) (ex : Ex) (V : VEnv) : Prop := ex = .normal /\ V = m o
def QO {σ ρ : Type} (q : σ -> Ex -> VEnv -> Prop) (q' : ρ -> Ex -> VEnv -> Prop) : σ ⊕ ρ -> Ex -> VEnv -> Prop
 | .inl s => q s
 | .inr r => q' r
theorem bind_some {α β : Type} {x : Option α} {g : α -> Option β} {r : β} (h : x.bind g = some r) : ∃ a, x = some a /\ g a = some r := Option.bind_eq_some_iff.1 h
variable {x : Cx} {n : Nat} {V V1 : VEnv} {Q : Ex -> VEnv -> Prop}
theorem Wc.condT {c : Opd} {a b : CCode} (hc : sca V c = .bool true) (h : Wc x n a V Q) : Wc x n (.cond c a b) V Q := by
 obtain ⟨ex, V1, h1, h2⟩ := h
 exact ⟨ex, V1, .condT hc h1, h2⟩
theorem Wc.condF {c : Opd} {a b : CCode} (hc : sca V c = .bool false) (h : Wc x n b V Q) : Wc x n (.cond c a b) V Q := by
 obtain ⟨ex, V1, h1, h2⟩ := h
 exact ⟨ex, V1, .condF hc h1, h2⟩
theorem Wo.evs {ops ops' : List (Nat × COper)} {Q : VEnv -> Prop} (h : evalO n ops V = some (ops', V1)) (hw : Wo x n ops' V1 Q) : Wo x n ops V Q := Wo.eval h hw
theorem Wc.evs {d : Bool} {ops ops' : List (Nat × COper)} (h : evalO n ops V = some (ops', V1)) (hw : Wo x n ops' V1 (fun V' => Q .normal V')) : Wc x n (.reg d ops) V Q := Wc.reg (Wo.eval h hw)
theorem Wc.condT' {c : Opd} {a b : CCode} {t : Bool} (hc : sca V c = .bool t) (ht : t = true) (h : Wc x n a V Q) : Wc x n (.cond c a b) V Q := Wc.condT (by rw [hc, ht]) h
theorem Wc.condF' {c : Opd} {a b : CCode} {t : Bool} (hc : sca V c = .bool t) (ht : t = false) (h : Wc x n b V Q) : Wc x n (.cond c a b) V Q := Wc.condF (by rw [hc, ht]) h
theorem Wc.gh {c : CCode} (hv : VLe V V1) (h : Wc x n c V1 Q) : Wc x n c V Q := by
 obtain ⟨ex, V2, h1, h2⟩ := h
 exact ⟨ex, V2, .ghC hv h1, h2⟩
theorem Wo.gh {ops : List (Nat × COper)} {Q : VEnv -> Prop} (hv : VLe V V1) (h : Wo x n ops V1 Q) : Wo x n ops V Q := by
 obtain ⟨V2, h1, h2⟩ := h
 exact ⟨V2, .ghO hv h1, h2⟩
theorem Wo.mono {ops : List (Nat × COper)} {Q Q' : VEnv -> Prop} (h : Wo x n ops V Q) (hq : ∀ V, Q V -> Q' V) : Wo x n ops V Q' := by
 obtain ⟨V', h1, h2⟩ := h
 exact ⟨V', h1, hq _ h2⟩
theorem vle_co {s : Nat} {t t1 : T} (hs : V.get s = .v t) (hu : t ≠ .und) (h : TLe t t1) (hv : (unroot s V).set s (.v t1) = V1) : VLe V V1 := hv ▸ vle_see hs hu h
theorem vle_take {s : Nat} {t : T} {V0 : VEnv} (hs : V.get s ≠ .v .und) (ht : takeV V (.t s) = some (t, V0)) (hv : (unroot s V0).set s (.v t) = V1) : VLe V V1 := by
 subst hv
 intro H F env Lf hst
 have hlt : s < env.length := by
  rcases Nat.lt_or_ge s env.length with h | h
  ·exact h
  ·exact absurd (hst.ln s h) hs
 obtain ⟨l1, Lf1, k1, p1⟩ := take_ok hst Lo.nil ht
 have hlo := k1.lo
 simp only [List.nil_append] at hlo
 have := k1.st.put (d := s) (v := env.getD s .und) (t := t) (ls := l1) hlt hlo
 have he : env.set s (env.getD s .und) = env := by
  apply List.ext_getElem?
  intro i
  by_cases hi : s = i
  ·subst hi
   rw [List.getElem?_set_self hlt, zD, zE hlt]; rfl
  ·rw [List.getElem?_set_ne hi]
 rw [he] at this
 refine ⟨F, _, this, Tr.less ?_⟩
 rintro l ⟨q, hl⟩
 unfold upL at hl
 split at hl
 ·exact p1 l hl
 ·exact ⟨q, k1.sub q l hl⟩
theorem TLes.of_eq {cs cs1 : List T} (h : cs = cs1) : TLes cs cs1 := by subst h; exact TLes.refl _
theorem TLe.own0 {e : Nat} {cs cs1 : List T} (h : TLes cs cs1) : TLe (.sl true false e 0 cs) (.sl true true e 0 cs1) := by
 intro H F v ls hd
 have : cs.length = cs1.length \/ ¬ cs.length = cs1.length := Decidable.em _
 rw [Den] at hd ⊢
 rcases hd with ⟨h1, _⟩ | ⟨l, o, n, avs, e1, e2, e3, e4, e5⟩
 ·simp [nilOk] at h1
 refine .inr ⟨l, o, n, avs, e1, e2, e3, e4, ?_⟩
 rcases e5 with ⟨f1, f2, f3, f4, f5, l1, f6, f7⟩ | ⟨f1, _⟩
 ·exact .inl ⟨f1, f2, f3, f4, f5, l1, f6, h _ _ _ _ f7⟩
 ·cases f1
theorem TLes.append {ts us ts1 us1 : List T} (h : TLes ts ts1) (h' : TLes us us1) : TLes (ts ++ us) (ts1 ++ us1) := by
 intro H F vs ls hd
 obtain ⟨c1, c2, l1, l2, rfl, rfl, d1, d2⟩ := hd.split
 exact (h _ _ _ _ d1).append (h' _ _ _ _ d2)
theorem tles_rep {n : Nat} {a : α} {v : List α} {zs : List T} (h : List.replicate n a = v) (hz : TLes zs (E.c b a)) : TLes (List.replicate n zs).flatten (arr E b v) := by
 subst h
 induction n with
 | zero => exact TLes.refl _
 | succ n ih => rw [List.replicate_succ, List.flatten_cons, List.replicate_succ, arr_cons]; exact hz.append ih
theorem tles_rep1 {n : Nat} {a : α} {v : List α} {z : T} (h : List.replicate n a = v) (hz : TLes [z] (E.c b a)) : TLes (List.replicate n z) (arr E b v) := by
 have := tles_rep (b := b) h hz
 rwa [List.flatten_replicate_singleton] at this
theorem tle_own {e : Nat} {cs cs1 : List T} (h : cs = cs1) : TLe (.sl true false e 0 cs) (.sl true true e 0 cs1) := by subst h; exact TLe.own (TLes.refl _) rfl
theorem tle_sh {e : Nat} {cs cs1 : List T} (h : cs = cs1) : TLe (.sl false false e 0 cs) (.sl false false e 1 cs1) := by subst h; exact TLe.sh (TLes.refl _)
theorem tle_eq {t t1 : T} (h : t = t1) : TLe t t1 := by subst h; exact TLe.refl _
theorem VJx.res {f : Nat} {ts ts1 : List T} {t t1 : T} {outs outs1 : List T} (h : VJx x (.ca f ts1 t outs)) (ha : TLes ts ts1) (ht : TLe t t1) (ho : TLes outs outs1) : VJx x (.ca f ts t1 outs1) := .ghR ha ht ho h
@[simp] theorem beq_dec (x y : Int) : (x == y) = decide (x = y) := rfl
@[simp] theorem bne_dec (x y : Int) : (x != y) = decide (¬ x = y) := by simp [bne]
theorem holes_len {cs : List T} {k n : Nat} (h : k + n <= cs.length) : (holes cs k n).length = cs.length := by unfold holes; simp; omega
@[simp] theorem holes_isEmpty {cs : List T} {k n : Nat} (h : k + n <= cs.length) : (holes cs k n).isEmpty = cs.isEmpty := by
 have := holes_len h
 cases cs with
 | nil =>
  simp only [List.length_nil] at this
  rw [List.eq_nil_of_length_eq_zero this]
 | cons c cs =>
  cases hh : holes (c :: cs) k n with
  | nil => rw [hh] at this; simp at this
  | cons => rfl
@[simp] theorem holes_eq_nil {cs : List T} {k n : Nat} (h : k + n <= cs.length) : holes cs k n = [] ↔ cs = [] := by
 have := holes_isEmpty h
 rw [<- List.isEmpty_iff, this, List.isEmpty_iff]
attribute [simp] holes_len
@[simp] theorem holes_lay {cs c : List T} {k n : Nat} (h : k + n <= cs.length) : layT (holes cs k n) k n c = layT cs k n c := by
 unfold layT holes
 have h1 : (cs.take k).length = k := by simp; omega
 have h2 : (cs.take k ++ List.replicate n T.und).length = k + n := by simp; omega
 congr 1
 ·rw [List.take_append_of_le_length (by omega), List.take_take, Nat.min_self]
 ·congr 1
  rw [<- List.append_assoc, <- h2, List.drop_left, h2]
@[simp] theorem holes_get {cs : List T} {k : Nat} (h : k + 1 <= cs.length) : (holes cs k 1)[k]? = some .und := by
 have hk : (cs.take k).length = k := by rw [List.length_take, Nat.min_eq_left (by omega)]
 unfold holes
 rw [List.getElem?_append_right (by omega), hk, Nat.sub_self]
 rfl
@[simp] theorem holes_set {cs : List T} {k : Nat} {t : T} (h : k + 1 <= cs.length) : (holes cs k 1).set k t = cs.set k t := by
 have hk : (cs.take k).length = k := by rw [List.length_take, Nat.min_eq_left (by omega)]
 have h2 : cs.set k t = cs.take k ++ t :: cs.drop (k + 1) := by rw [List.set_eq_take_append_cons_drop, if_pos (by omega)]
 rw [h2]
 unfold holes
 rw [List.set_append, if_neg (by omega), hk, Nat.sub_self]
 rfl
@[simp] theorem layT_zero {x : T} {cs c : List T} {n : Nat} : layT (x :: cs) 0 n c = c ++ (x :: cs).drop n := by simp [layT]
@[simp] theorem layT_succ {x : T} {cs c : List T} {k n : Nat} : layT (x :: cs) (k + 1) n c = x :: layT cs k n c := by simp [layT, Nat.add_right_comm]
theorem arr_take1 (h : E.w = 1) (n : Nat) : (arr E b l).take n = arr E b (l.take n) := by
 have := arr_take (E := E) (b := b) (l := l) n
 rwa [h, Nat.mul_one] at this
theorem arr_drop1 (h : E.w = 1) (n : Nat) : (arr E b l).drop n = arr E b (l.drop n) := by
 have := arr_drop (E := E) (b := b) (l := l) n
 rwa [h, Nat.mul_one] at this
@[simp] theorem arrI_take {k : IntKind} {l : List Int} (n : Nat) : (arr (eInt k) b l).take n = arr (eInt k) b (l.take n) := arr_take1 rfl n
@[simp] theorem arrB_take {l : List Bool} (n : Nat) : (arr eB b l).take n = arr eB b (l.take n) := arr_take1 rfl n
@[simp] theorem arrS_take {l : List (List UInt8)} (n : Nat) : (arr eS b l).take n = arr eS b (l.take n) := arr_take1 rfl n
@[simp] theorem arrL_take {E : En α} {l : List (List α)} (n : Nat) : (arr (eL E) b l).take n = arr (eL E) b (l.take n) := arr_take1 rfl n
theorem arrI_drop {k : IntKind} {l : List Int} (n : Nat) : (arr (eInt k) b l).drop n = arr (eInt k) b (l.drop n) := arr_drop1 rfl n
theorem arrL_drop {E : En α} {l : List (List α)} (n : Nat) : (arr (eL E) b l).drop n = arr (eL E) b (l.drop n) := arr_drop1 rfl n
@[simp] theorem bits_and {k : IntKind} {x y : Int} : bitsOp .and k x y = some (band k x y) := rfl
theorem shl_eq {k : IntKind} {x y : Int} (h : ¬ y < 0) : shI .shl k x y = some (.int k (sshl k x y)) := by unfold shI; rw [if_neg h]; rfl
theorem shr_eq {k : IntKind} {x y : Int} (h : ¬ y < 0) : shI .shr k x y = some (.int k (sshr k x y)) := by unfold shI; rw [if_neg h]; rfl
attribute [simp] shl_eq shr_eq binS
@[simp] theorem arrI_len {k : IntKind} {l : List Int} : (arr (eInt k) b l).length = l.length := by rw [arr_len]; simp [eInt]
@[simp] theorem arrB_len {l : List Bool} : (arr eB b l).length = l.length := by rw [arr_len]; simp [eB]
@[simp] theorem arrS_len {l : List (List UInt8)} : (arr eS b l).length = l.length := by rw [arr_len]; simp [eS]
@[simp] theorem arrL_len {E : En α} {l : List (List α)} : (arr (eL E) b l).length = l.length := by rw [arr_len]; simp [eL]
@[simp] theorem arrI_snoc {k : IntKind} {l : List Int} {n : Int} : arr (eInt k) b l ++ [.int k n] = arr (eInt k) b (l ++ [n]) := by rw [<- arr_snoc]; rfl
@[simp] theorem arrB_snoc {l : List Bool} {n : Bool} : arr eB b l ++ [.bool n] = arr eB b (l ++ [n]) := by rw [<- arr_snoc]; rfl
@[simp] theorem arrS_snoc {l : List (List UInt8)} {n : List UInt8} : arr eS b l ++ [.str n] = arr eS b (l ++ [n]) := by rw [<- arr_snoc]; rfl
theorem arrI_rep {k : IntKind} {n : Nat} {a : Int} : List.replicate n (T.int k a) = arr (eInt k) b (List.replicate n a) := by
 induction n with
 | zero => rfl
 | succ n ih => rw [List.replicate_succ, List.replicate_succ, arr_cons, ih]; rfl
theorem arrB_rep {n : Nat} {a : Bool} : List.replicate n (T.bool a) = arr eB b (List.replicate n a) := by
 induction n with
 | zero => rfl
 | succ n ih => rw [List.replicate_succ, List.replicate_succ, arr_cons, ih]; rfl
end
section
open Go Go.ChangeShapes
class Sz (α : Type) where
 ok : α -> Prop
abbrev ok {α : Type} [Sz α] (a : α) : Prop := Sz.ok a
instance : Sz Int := ⟨fun n => -9223372036854775808 <= n /\ n <= 9223372036854775807⟩
instance : Sz Bool := ⟨fun _ => True⟩
instance : Sz UInt8 := ⟨fun _ => True⟩
instance {α : Type} [Sz α] : Sz (List α) := ⟨fun l => l.length <= 9223372036854775807 /\ ∀ a ∈ l, ok a⟩
section
variable {H : Type} {enc : TypeId × Value -> H} {P : Program} {W : World} {held : Bool} {α : Type} [Sz α]
def Reads (enc : TypeId × Value -> H) (P : Program) (W : World) (held : Bool) (E : En α) (t : TypeId) : Prop :=
 ∀ n cs y, DataW.trod enc P W 0 (fun _ => true) held n t cs = some y -> ∃ a, RdVs W (E.c false a) cs /\ ok a
theorem reads_int {k : IntKind} {t : TypeId} (ht : P.underlying t = some (.int k)) (hk : -9223372036854775808 <= k.min /\ k.max <= 9223372036854775807 := by decide) : Reads enc P W held (eInt k) t := by
 intro n cs y h
 obtain ⟨m, rfl, _, hm⟩ := DataW.trod_int ht h
 simp only [Lit.wf, Bool.and_eq_true, decide_eq_true_eq] at hm
 exact ⟨m, by rw [eInt_c]; exact rdvs_one (by rw [RdV]), by have := hm.1; omega, by have := hm.2; omega⟩
theorem str_le {s : ByteArray} (h : s.size <= maxLen) : s.data.toList.length <= 9223372036854775807 := by
 rw [Array.length_toList]; exact h
theorem reads_str {t : TypeId} (ht : P.underlying t = some .string) : Reads enc P W held eS t := by
 intro n cs y h
 obtain ⟨s, rfl, _, hs⟩ := DataW.trod_string ht h
 exact ⟨s.data.toList, by rw [eS_c]; exact rdvs_one (by rw [RdV]; exact ⟨s, rfl, rfl⟩), str_le hs, fun _ _ => trivial⟩
theorem rdvs_drop {W : World} : ∀ {ts : List T} {vs : List Value}, RdVs W ts vs -> vs.length = ts.length
 | [], vs, h => by rw [RdVs] at h; simp [h]
 | t :: ts, vs, h => by
  rw [RdVs] at h
  obtain ⟨v, vs', rfl, _, h2⟩ := h
  simp [rdvs_drop h2]
theorem rd_elems {E : En α} {a : Addr} : ∀ (n : Nat), (∀ i, i < n -> ∃ x cs, RdVs W (E.c false x) cs /\ ok x /\ ∀ j, j < E.w -> W.cell? (a.add (i * E.w + j)) = cs[j]?) ->
  ∃ (l : List α) (vs : List Value), l.length = n /\ vs.length = n * E.w /\ (∀ j v, vs[j]? = some v -> W.cell? (a.add j) = some v) /\ RdVs W (arr E false l) vs /\ ∀ x ∈ l, ok x
 | 0, _ => ⟨[], [], rfl, by simp, by simp, by rw [arr_nil, RdVs], by simp⟩
 | n + 1, h => by
  obtain ⟨l, vs, h1, h2, h3, h4, h5⟩ := rd_elems n fun i hi => h i (by omega)
  obtain ⟨x, cs, g1, g3, g2⟩ := h n (by omega)
  have hl := rdvs_drop g1
  rw [E.hw] at hl
  refine ⟨l ++ [x], vs ++ cs, by simp [h1], by rw [List.length_append, h2, hl, Nat.add_mul]; omega, ?_, by rw [<- arr_snoc]; exact h4.append g1, by intro y hy; rw [List.mem_append, List.mem_singleton] at hy; rcases hy with hy | hy; exact h5 y hy; rw [hy]; exact g3⟩
  intro j v hj
  by_cases hlt : j < n * E.w
  ·rw [List.getElem?_append_left (by omega)] at hj; exact h3 j v hj
  ·rw [List.getElem?_append_right (by omega), h2] at hj
   have hjw : j - n * E.w < E.w := by
    have := (zS hj).1; omega
   have := g2 (j - n * E.w) hjw
   rw [hj] at this
   rwa [show n * E.w + (j - n * E.w) = j by omega] at this
theorem cell_add {a : Addr} {i j : Nat} {v : Value} (h : W.cell? ((a.add i).add j) = some v) : W.cell? (a.add (i + j)) = some v := by
 unfold Addr.add at h ⊢
 by_cases hj : j = 0
 ·subst hj
  simpa using h
 ·by_cases hi : i = 0
  ·subst hi
   simpa [hj] using h
  ·rw [if_neg (by omega)]
   simp only [if_neg hi, if_neg hj] at h
   rw [Nat.add_assoc] at h
   exact h
theorem reads_slice {E : En α} {t e : TypeId} (ht : P.underlying t = some (.slice e)) (hc : P.cellsOf e = E.w) (one : Reads enc P W held E e) : Reads enc P W held (eL E) t := by
  intro fuel cs x h
  rcases DataW.trod_slice ht h with ⟨rfl, _⟩ | ⟨a, len, cap, elems, rest, n, _, rfl, _, hb, hl, hm, hlen, hel, hsp, hns⟩
  · refine ⟨[], ?_⟩
    rw [eL_cf]
    exact ⟨rdvs_one (by rw [RdV]; exact ⟨rfl, rfl, E.hp, .inl ⟨rfl, rfl, rfl⟩⟩), by simp, by simp⟩
  · have hw := E.hp
    have each : ∀ i, i < cap -> ∃ x cs, RdVs W (E.c false x) cs /\ ok x /\ ∀ j, j < E.w -> W.cell? (a.add (i * E.w + j)) = cs[j]? := by
      intro i hi
      have hb' : ∃ y, (W.cells? 0 (a.add (i * P.cellsOf e)) (P.cellsOf e)).bind (DataW.trod enc P W 0 (fun _ => true) held n e) = some y := by
        by_cases hil : i < len
        · exact ⟨elems[i]'(by omega), by rw [hel i hil, zE (by omega)]⟩
        · obtain ⟨hrl, hr⟩ := hsp rfl
          have := hr (i - len) (by omega)
          rw [show len + (i - len) = i by omega] at this
          exact ⟨rest[i - len]'(by omega), by rw [this, zE (by omega)]⟩
      obtain ⟨y, hy⟩ := hb'
      rw [Option.bind_eq_some_iff] at hy
      obtain ⟨cs', hcs', hy'⟩ := hy
      obtain ⟨x, hx, hx'⟩ := one _ _ _ hy'
      obtain ⟨_, c1, c2⟩ := World.cells?_some hcs'
      rw [hc] at c1 c2
      refine ⟨x, cs', hx, hx', fun j hj => ?_⟩
      have h1 := c2 j hj
      rw [zE (by omega)] at h1 ⊢
      exact cell_add h1
    obtain ⟨l, vs, h1, h2, h3, h4, h5⟩ := rd_elems (a := a) (W := W) len fun i hi => each i (by omega)
    refine ⟨l, ?_, by have hm' : cap <= 9223372036854775807 := hm
                      omega, h5⟩
    rw [eL_cf]
    refine rdvs_one ?_
    rw [RdV]
    refine ⟨rfl, rfl, hw, .inr ⟨a, len, cap, rfl, hl, by rw [arr_len, h1], fun hcap => ?_, vs, by rw [h2, arr_len, h1], fun j w hj => ?_, h4⟩⟩
    · obtain ⟨x, cs', e1, _, e2⟩ := each 0 hcap
      have := e2 0 hw
      have hl := rdvs_drop e1
      rw [E.hw] at hl
      rw [zE (by omega)] at this
      simp [Addr.add] at this
      exact spot_of_cell this
    · have e1 := h3 j w hj
      unfold Addr.add at e1
      split at e1
      · rename_i hj0; subst hj0
        have hs := spot_of_cell e1
        cases a; simp at hs; subst hs; simpa using e1
      · exact e1
end
end
section
def cloneB (tail : CCode) : CCode :=
 .seq (.reg false [(0, ⟨some 2, .mv (.c .nils), none, [], [2]⟩)])
  (.seq (.seq (.reg false [(0, ⟨some 3, .mv (.t 0), none, [], []⟩), (1, ⟨some 4, .isnil false (.t 3), none, [], [3]⟩)])
    (.cond (.t 4) (.seq (.kill [0, 4]) (.seq (.reg false [(0, ⟨some 2, .mv (.c .nils), none, [], []⟩)]) .ret)) (.seq (.kill [4]) .skip)))
   tail)
theorem clone_of {Tb : Nat -> Option CFn} {X : Ext} {io : Nat -> List Nat} {XV : Nat -> List T -> T -> List T -> Prop} {f n : Nat} {tail : CCode} {t0 t : T} {V' V2 : VEnv} {rts : List T} {ex : Ex}
  (hXV : ∀ f ts t outs, XV f ts t outs -> CallOk Tb X io f ts t outs) (hT : Tb f = some ⟨n, 1, [.t 2], cloneB tail⟩) (hn : 5 <= n) (hio : io f = [])
  (hk : VJ Tb io XV (.co n tail [(0, .v t0)] ex V')) (hex : ex = .normal \/ ex = .ret) (hres : resV V' [.t 2] = some (rts, V2)) (htup : tupT rts = t)
  (hnil : ∀ (H : Heap) (F : Nat -> Prop) (ls : List Nat), Den H F .nils t0 ls -> ls = [] /\ Den H F .nils t [])
  (hsl : ∀ (H : Heap) (F : Nat -> Prop) (v : AV) (ls : List Nat), Den H F v t0 ls -> v = .nils \/ ∃ l o n e x, v = .sl l o n e x) : CallOk Tb X io f [t0] t [] := by
 intro H F vs ls hd hnd hfz
 have hvl := hd.length
 match vs, hvl, hd with
 | [v], _, hd =>
 rw [dens_one] at hd
 have ev0 : ([v] ++ List.replicate (n - 1) AV.und).getD 0 .und = v := by simp
 have hl0 : ([v] ++ List.replicate (n - 1) AV.und).length = n := by simp; omega
 generalize henv : [v] ++ List.replicate (n - 1) AV.und = env0 at ev0 hl0
 have ga : J Tb X (.co (.reg false [(0, ⟨some 2, .mv (.c .nils), none, [], [2]⟩)]) env0 H .normal (env0.set 2 .nils) H) :=
  .reg (.opDo rfl rfl rfl (fun s n h => by simp at h) .opNil)
 generalize he1 : env0.set 2 .nils = env1 at ga
 have ev1 : env1.getD 0 .und = v := by
  rw [<- he1, zD, List.getElem?_set_ne (by omega), <- zD]; exact ev0
 have hl1 : env1.length = n := by rw [<- he1]; simp [hl0]
 have gb : ∀ b, pureOp (env1.set 3 v) (.isnil false (.t 3)) = some (.bool b) ->
   J Tb X (.co (.reg false [(0, ⟨some 3, .mv (.t 0), none, [], []⟩), (1, ⟨some 4, .isnil false (.t 3), none, [], [3]⟩)]) env1 H .normal ((env1.set 3 v).set 4 (.bool b)) H) := by
  intro b hb
  refine .reg (.opDo (v := v) (H1 := H) rfl rfl ?_ (fun s n h => by simp at h) (.opDo (v := .bool b) (H1 := H) rfl rfl ?_ (fun s n h => by simp at h) .opNil))
  ·simp only [heapOp, pureOp, Opd.ev, ev1, Option.map_some]
  ·simp only [heapOp]
   show (pureOp (env1.set 3 v) (.isnil false (.t 3))).map _ = _
   rw [hb]; rfl
 have ev3 : (env1.set 3 v).getD 3 .und = v := by
  rw [zD, List.getElem?_set_self (by omega)]; rfl
 have ev4 : ∀ b, ((env1.set 3 v).set 4 (.bool b)).getD 4 .und = .bool b := fun b => by
  rw [zD, List.getElem?_set_self (by simp; omega)]; rfl
 rcases hsl H F v ls hd with hv | ⟨l, o, k, e, x, hv⟩
 ·subst hv
  obtain ⟨rfl, hd2⟩ := hnil H F ls hd
  have hb : pureOp (env1.set 3 .nils) (.isnil false (.t 3)) = some (.bool true) := by simp only [pureOp, Opd.ev, ev3]; rfl
  refine ⟨.nils, H, F, [], ?_, hfz, ?_, List.nodup_nil, ?_⟩
  ·refine .call hT rfl (by show 1 <= n; omega) (env' := (killT ((env1.set 3 .nils).set 4 (.bool true)) [0, 4]).set 2 .nils) (H' := H) (ex := .ret) ?_ (.inr rfl) ?_
   ·show J Tb X (.co (cloneB tail) ([AV.nils] ++ List.replicate (n - 1) AV.und) H .ret _ H)
    rw [henv]
    refine .seqN ga (.seqX (by simp) (.seqN (gb true hb) (.condT ?_ (.seqN .kill (.seqN (.reg (.opDo (v := .nils) (H1 := H) rfl rfl rfl (fun s n h => by simp at h) .opNil)) .ret)))))
    simp only [Opd.ev]; exact ev4 true
   ·have : ((killT ((env1.set 3 .nils).set 4 (.bool true)) [0, 4]).set 2 AV.nils).getD 2 .und = .nils := by
     rw [zD, List.getElem?_set_self (by simp [killT]; omega)]; rfl
    simp only [results, List.mapM_cons, List.mapM_nil, resOf, this]; rfl
  ·rw [hio, ioSel_nil, dens_one]; exact hd2
  ·exact Tr.refl _ _ _
 ·have hb : pureOp (env1.set 3 v) (.isnil false (.t 3)) = some (.bool false) := by simp only [pureOp, Opd.ev, ev3]; rw [hv]
  generalize he4 : killT ((env1.set 3 v).set 4 (.bool false)) [4] = env4
  have hl4 : env4.length = n := by rw [<- he4, killT_len]; simp [hl1]
  have e40 : env4.getD 0 .und = v := by
   rw [<- he4]
   simp only [killT, List.foldl_cons, List.foldl_nil]
   rw [zD, List.getElem?_set_ne (by omega), List.getElem?_set_ne (by omega), List.getElem?_set_ne (by omega), <- zD]; exact ev1
  have s0 : Sta H F env4 [] (fun _ => []) := ⟨hfz, fun s => by simp only [VEnv.get, SR]; rw [Den], fun s => List.nodup_nil, by simp, fun s _ => rfl⟩
  have s1 := s0.fill (s := 0) (t := t0) (l1 := ls) rfl (by omega) (by rw [e40]; exact hd) hnd (fun q l _ h => by simp at h)
  obtain ⟨env', H', F', Lf', h1, h2, h3, h4⟩ := vsound hXV hk H F env4 _ hl4 s1
  obtain ⟨rvs, m1, Lf1, e1, e2, e3⟩ := res_ok' h3 Lo.nil hres
  simp only [List.nil_append] at e2
  obtain ⟨w, hw1, hw2⟩ := results_eq e1 e2.lo.den
  refine ⟨w, H', F', m1, .call hT rfl (by show 1 <= n; omega) (ex := ex) ?_ hex hw1, h3.fz, ?_, e2.lo.nd, ?_⟩
  ·show J Tb X (.co (cloneB tail) ([v] ++ List.replicate (n - 1) AV.und) H ex _ _)
   rw [henv]
   refine .seqN ga (.seqN (.seqN (gb false hb) (.condF (by simp only [Opd.ev]; exact ev4 false) (.seqN .kill .skip))) ?_)
   rw [he4]; exact h1
  ·rw [hio, ioSel_nil, dens_one]; exact htup ▸ hw2
  ·have h0 : ∀ l, Pl (upL (fun _ => []) 0 ls) l -> l ∈ ls := fun l ⟨s, hl⟩ => by
    unfold upL at hl; split at hl
    ·exact hl
    ·simp at hl
   refine ⟨h4.sz, fun l hl hn => h4.fr l hl fun hp => hn (h0 l hp), fun l hl => ?_, h4.fm, fun l hl => ?_⟩
   ·exact (h4.pl l (e3 l hl)).imp (h0 l) id
   ·exact (h4.fp l hl).imp id (Or.imp (h0 l) id)
theorem cl_nil {α : Type} {E : En α} {b : Bool} {l : List α} (H : Heap) (F : Nat -> Prop) (ls : List Nat) (h : Den H F .nils (ssl E l) ls) : ls = [] /\ Den H F .nils (osl E b l) [] := by
 rw [Den] at h
 rcases h with ⟨h1, h2, h3, h4, h5⟩ | ⟨_, _, _, _, h, _⟩
 ·have : l = [] := by
   have h6 := congrArg List.length h2
   rw [arr_len] at h6
   simp only [List.length_nil, Nat.mul_eq_zero] at h6
   rcases h6 with h6 | h6
   ·exact List.length_eq_zero_iff.1 h6
   ·omega
  subst this
  refine ⟨h4, ?_⟩
  rw [Den]
  exact .inl ⟨rfl, by simp, .inl rfl, rfl, h5⟩
 ·cases h
theorem cl_sl {α : Type} {E : En α} {l : List α} (H : Heap) (F : Nat -> Prop) (v : AV) (ls : List Nat) (h : Den H F v (ssl E l) ls) : v = .nils \/ ∃ l o n e x, v = .sl l o n e x := by
 rw [Den] at h
 rcases h with ⟨_, _, h3, _, _⟩ | ⟨l, o, n, cs, h, _⟩
 ·rcases h3 with h3 | ⟨l, o, h3⟩
  ·exact .inl h3
  ·exact .inr ⟨_, _, _, _, _, h3⟩
 ·exact .inr ⟨_, _, _, _, _, h⟩
theorem cl_eq {α : Type} {bs : Nat} {l r : List α} (h : ((app bs [] l).bind fun x => some x) = some r) : r = l := by
 unfold app at h
 split at h
 ·simpa using h.symm
 ·simp at h
theorem ca_clone {x : Cx} {X : Ext} {α : Type} {E : En α} {b : Bool} {l r : List α} {f nt : Nat} {tail : CCode} {outs : List T}
  (hx1 : ∀ f ts t outs, CallOk x.fns X x.io f ts t outs -> x.X f ts t outs) (hx2 : ∀ f ts t outs, x.X f ts t outs -> CallOk x.fns X x.io f ts t outs)
  (hf : x.fns f = some ⟨nt, 1, [.t 2], cloneB tail⟩) (hn : 5 <= nt) (hio : x.io f = []) (hr : r = l)
  (h : Wc x nt tail (startV 0 [ssl E l] []) fun ex V' => (ex = .normal \/ ex = .ret) /\ ∃ rts V2 V3, resV V' [.t 2] = some (rts, V2) /\ takesV V2 (ioOpds (x.io f) 1) = some (outs, V3) /\ tupT rts = osl E b r) : VJx x (.ca f [ssl E l] (osl E b r) outs) := by
 subst hr
 obtain ⟨ex, V', h1, hex, rts, V2, V3, h2, h3, h4⟩ := h
 have : outs = [] := by
  rw [hio] at h3
  have e : ioOpds [] 1 = [] := ioSel_nil _ _
  rw [e] at h3
  simp only [takesV, zJ, zP] at h3
  exact h3.1.symm
 subst this
 exact VJ.ext (hx1 _ _ _ _ (clone_of hx2 hf hn hio h1 hex h2 h4 cl_nil cl_sl))
@[simp] theorem wrap_u8_nonneg {n : Int} : 0 <= IntKind.u8.wrap n := by unfold IntKind.wrap IntKind.signed IntKind.bits; simp; omega
@[simp] theorem wrap_u8_lt {n : Int} : IntKind.u8.wrap n < 256 := by unfold IntKind.wrap IntKind.signed IntKind.bits; simp; omega
end
section
open Go Go.ChangeShapes
section
variable {H : Type} {enc : TypeId × Value -> H} {P : Program} {W : World} {held : Bool}
def Fld (P : Program) (fs : Array Field) (i : Nat) (t : TypeId) (o w : Nat) : Prop := ∃ f, fs[i]? = some f /\ f.type = t /\ f.offset = o /\ P.cellsOf t = w
theorem read_fld {α : Type} [Sz α] {E : En α} {ft : TypeId} {fs : Array Field} {i o w : Nat} {n : Nat} {cs : List Value} {xs : List (DataW H × List MemPlace)} (hf : Fld P fs i ft o w) (hr : Reads enc P W held E ft) (hi : i < xs.length)
  (h : ∀ (i : Nat) (f : Field), fs[i]? = some f -> DataW.trod enc P W 0 (fun _ => true) held n f.type ((cs.drop f.offset).take (P.cellsOf f.type)) = xs[i]?) : ∃ a, RdVs W (E.c false a) ((cs.drop o).take w) /\ ok a := by
 obtain ⟨f, h1, rfl, rfl, rfl⟩ := hf
 have h2 := h i f h1
 rw [zE hi] at h2
 exact hr _ _ _ h2
theorem cells_split {cs : List Value} {o w : Nat} (h : o + w <= cs.length) : cs.drop o = (cs.drop o).take w ++ cs.drop (o + w) := by
 conv => lhs; rw [<- List.take_append_drop w (cs.drop o)]
 rw [List.drop_drop]
theorem rdvs_agg {ts : List T} {cs : Array Value} (h : RdVs W ts (Value.cells (.agg cs)).toList) : RdVs W [.agg ts] [.agg cs] := by
 refine rdvs_one ?_
 rw [RdV]
 exact ⟨_, rfl, h⟩
end
end
section
variable {x : Cx} {n : Nat} {V V1 : VEnv} {Q : Ex -> VEnv -> Prop}
theorem Wo.sem {i : Nat} {o : COper} {ops : List (Nat × COper)} {Q : VEnv -> Prop} {r : RV} {V1 V2 : VEnv} (hg : gV V o.guard = some true) (hd : dstLt n o.dst = true) (hu : needUs V o = true) (hs : SemOp V o.op V1 r) (hp : putR V1 o.dst r = some V2) (h : Wo x n ops (V2.drops o.ks) Q) : Wo x n ((i, o) :: ops) V Q := by
 obtain ⟨V', h1, h2⟩ := h
 exact ⟨V', .opSem hg hd hu hs hp h1, h2⟩
theorem Wo.lend {k : Nat} {ops : List (Nat × COper)} {Q : VEnv -> Prop} {s : Nat} {t : T} (asd : List Nat) (V2 : VEnv) (hs : V.get s = .v t) (hu : t ≠ .und) (hw : (opsWrs (ops.take k)).contains s = false)
  (h : Wo x n (ops.take k) (((unroot s V).set s (.v t.frz)).drops asd) (fun V1 => Unl s t (opsWrs (ops.take k)) asd V V1 V2)) (h2 : Wo x n (ops.drop k) V2 Q) : Wo x n ops V Q := by
 obtain ⟨V1, h3, h4⟩ := h
 obtain ⟨V', h5, h6⟩ := h2
 refine ⟨V', ?_, h6⟩
 have := VJ.lendO (ops2 := ops.drop k) asd hs hu h3 hw h4 h5
 rwa [List.take_append_drop] at this
theorem Wo.rew {i : Nat} {o : COper} {ops : List (Nat × COper)} {Q : VEnv -> Prop} {s f : Nat} {xs : List Opd} {avs : List AV} {u : T} (ss : List Nat) (hop : o.op = .callv (.t s) xs) (hs : V.get s = .v (.at (.fn f avs) u)) (hc : AtCaps V avs ss)
  (h : Wo x n ((i, { o with op := .call f (xs ++ ss.map Opd.t) }) :: ops) V Q) : Wo x n ((i, o) :: ops) V Q := by
 obtain ⟨V', h1, h2⟩ := h
 exact ⟨V', .rew hop rfl hs hc h1, h2⟩
attribute [simp] Unl opsWrs AtCaps
theorem TLe.slo {y : Bool} {e : Nat} {cs cs1 : List T} (h : cs = cs1) : TLe (.sl true y e 0 cs) (.slo e cs1) := by
 subst h
 intro H F v ls hd
 rw [Den] at hd
 rw [Den]
 rcases hd with ⟨h1, rfl, hv, rfl, he⟩ | ⟨l, o, n, avs, rfl, he, hn, hl, hd⟩
 ·exact .inl ⟨rfl, hv, rfl, he⟩
 ·rcases hd with ⟨_, rfl, h4, h5, ⟨rest, h6, h7⟩, l1, rfl, h8⟩ | ⟨h1, _⟩
  ·have : rest = [] := List.eq_nil_of_length_eq_zero (by omega)
   subst this
   exact .inr ⟨l, 0, n, avs, [], l1, rfl, he, hn, hl, h4, h5, by simpa using h6, rfl, rfl, h8⟩
  ·cases h1
theorem sem_appm {e bs : Nat} {zs : List AV} {zt : List T} {s x : Opd} {n : Int} (hs : see V s = some .nils) (hx : sca V x = .int .i64 n) (hz : ofAVs zs = some zt) (hl : zs.length = e) (he : 0 < e) (hb : 0 < bs) (h0 : 0 < n) (hr : n.toNat * bs <= room) :
  SemOp V (.appm e bs zs s x) V (.v (.sl true false e 0 (List.replicate n.toNat zt).flatten)) := by
 intro H F env Lf h
 have hev : x.ev env = .int .i64 n := sca_ev h hx (by simp)
 obtain ⟨ls, hd⟩ := see_ok h hs
 rw [Den] at hd
 have hzd := (ofAVs_ok (H := H) (F := F) hz).1
 have hfl := dens_flat hzd n.toNat
 obtain ⟨a1, a2, a3, a4, a5, a6, a7, a8⟩ := alloc_ok (Took.nil h hfl) (by simp)
 refine ⟨.sl H.sz 0 n.toNat e false, H.new (List.replicate n.toNat zs).flatten, Lf, [H.sz], ?_, a1, a8, dens_one.2 ?_, a6, a7⟩
 ·simp only [heapOp, hd.1, hev, if_pos (show 0 < n /\ n.toNat * bs <= room /\ zs.length = e /\ 0 < e /\ 0 < bs from ⟨h0, hr, hl, he, hb⟩)]
 ·rw [Den]
  exact .inr ⟨H.sz, 0, n.toNat, _, by simp, he, by rw [flat_len, hl], a3, .inl ⟨rfl, rfl, by rw [a4], a5, ⟨[], by rw [a4]; simp, by simp⟩, [], rfl, a2⟩⟩
theorem sem_front {e s k : Nat} {hi : Opd} {y : Bool} {cs : List T} (hs : V.get s = .v (.sl true y e 0 cs)) (hh : sca V hi = .int .i64 0) (hk : cs.length = k * e) (hk0 : 0 < k) (he : 0 < e) : SemOp V (.sls e (.t s) none (some hi) none) (V.drop s) (.v (.sl true true e k [])) := by
 intro H F env Lf h
 have hev : hi.ev env = .int .i64 0 := sca_ev h hh (by simp)
 have hd := h.den hs
 have hsub : ∀ s' l, l ∈ upL Lf s [] s' -> l ∈ Lf s' := by
  intro s' l hm
  unfold upL at hm
  split at hm
  ·simp at hm
  ·exact hm
 rw [Den] at hd
 rcases hd with ⟨_, rfl, _⟩ | ⟨l, o, m, avs, hv, _, hm, hl2, hd⟩
 ·have := Nat.mul_pos hk0 he
  simp at hk; omega
 ·rcases hd with ⟨_, h3, h4, h5, ⟨rest, h6, h7⟩, l1, h8, h9⟩ | ⟨h1, _⟩
  ·subst h3
   have hmk : m = k := by
    have := h9.length
    rw [hm, hk] at this
    exact Nat.eq_of_mul_eq_mul_right he this
   subst hmk
   refine ⟨.sl l 0 0 e false, H, upL Lf s [], [l], ?_, h.drop s env rfl (fun _ _ => rfl), ⟨Nat.le_refl _, fun _ _ _ => rfl, fun k hk => .inl (hk.elim (fun ⟨q, hq⟩ => ⟨q, hsub q k hq⟩) fun hq => ⟨s, ?_⟩), fun _ h => h, fun _ h => .inl h⟩, dens_one.2 ?_, by simp, ?_⟩
   ·simp only [heapOp, pureOp, Opd.ev, hv]
    rw [if_neg (by omega)]
    simp only [obnd, hev, bnd]
    simp
   ·simp only [List.mem_singleton] at hq; subst hq; rw [h8]; simp
   ·rw [Den]
    have hr : rest = [] := List.eq_nil_of_length_eq_zero (by omega)
    subst hr
    exact .inr ⟨l, 0, 0, [], rfl, he, by simp, hl2, .inl ⟨rfl, rfl, h4, h5, ⟨avs, by simpa using h6, hm⟩, [], rfl, by rw [Dens]; exact ⟨rfl, rfl⟩⟩⟩
   ·intro s' k hk hk'
    simp only [List.mem_singleton] at hk; subst hk
    unfold upL at hk'
    split at hk'
    ·simp at hk'
    ·rename_i hne
     exact hne (h.dj _ _ _ (by rw [h8]; simp) hk')
  ·cases h1
def growB (e bs : Nat) (zs : List AV) : CCode :=
  (.seq
   (.reg false [
     (0, ⟨some 4, .mv (.c (.nils)), none, [], [4]⟩)])
   (.seq
    (.seq
     (.reg false [
       (0, ⟨some 5, .mv (.t 1), none, [], []⟩),
       (1, ⟨some 6, .bin .lss (.t 5) (.c (.int .i64 (0))), none, [], [5]⟩)])
     (.cond (.t 6)
      (.seq
       (.kill [6])
       (.reg false [
         (0, ⟨some 7, .fail, none, [], [7]⟩),
         (1, ⟨none, .fail, none, [], []⟩)]))
      (.seq
       (.kill [6])
       .skip)))
    (.seq
     (.seq
      (.reg false [
        (0, ⟨some 8, .mv (.t 1), none, [], [1]⟩),
        (1, ⟨some 9, .mv (.t 0), none, [], []⟩),
        (2, ⟨some 10, .cap (.t 9), none, [], [9]⟩),
        (3, ⟨some 11, .mv (.t 0), none, [], []⟩),
        (4, ⟨some 12, .len (.t 11), none, [], [11]⟩),
        (5, ⟨some 13, .bin .sub (.t 10) (.t 12), none, [], [10, 12]⟩),
        (6, ⟨some 14, .bin .sub (.t 8) (.t 13), none, [], [8, 13]⟩),
        (7, ⟨some 1, .mv (.t 14), none, [], [14]⟩)])
      (.seq
       (.reg false [
         (0, ⟨some 15, .mv (.t 1), none, [], []⟩),
         (1, ⟨some 16, .bin .gtr (.t 15) (.c (.int .i64 (0))), none, [], [15]⟩)])
       (.cond (.t 16)
        (.seq
         (.kill [16])
         (.reg false [
           (0, ⟨some 17, .mv (.t 0), none, [], []⟩),
           (1, ⟨some 18, .mv (.t 0), none, [], []⟩),
           (2, ⟨some 19, .cap (.t 18), none, [], [18]⟩),
           (3, ⟨some 20, .sls e (.t 17) none (some (.t 19)) none, none, [], [17, 19]⟩),
           (4, ⟨some 21, .mv (.t 1), none, [], [1]⟩),
           (5, ⟨some 22, .appm e bs zs (.t 20) (.t 21), none, [], [20, 21]⟩),
           (6, ⟨some 23, .mv (.t 0), none, [], [0]⟩),
           (7, ⟨some 24, .len (.t 23), none, [], [23]⟩),
           (8, ⟨some 25, .sls e (.t 22) none (some (.t 24)) none, none, [], [22, 24]⟩),
           (9, ⟨some 0, .mv (.t 25), none, [], [25]⟩)]))
        (.seq
         (.kill [1, 16])
         .skip))))
     (.seq
      (.reg false [
        (0, ⟨some 26, .mv (.t 0), none, [], [0]⟩),
        (1, ⟨some 4, .mv (.t 26), none, [], [26]⟩)])
      .ret))))
def growN (bs : Nat) (n : Int) : Option Nat := if 0 <= n /\ n.toNat * bs <= room then some n.toNat else none
theorem ca_grow {x : Cx} {f e bs : Nat} {zs : List AV} {zt : List T} (hf : x.fns f = some ⟨27, 2, [.t 4], growB e bs zs⟩) (hio : x.io f = []) (hz : ofAVs zs = some zt) (hl : zs.length = e) (he : 0 < e) (hb : 0 < bs) {n : Int} {k : Nat} (hk : growN bs n = some k) :
  VJx x (.ca f [.nils, .int .i64 n] (.sl true true e k []) []) := by
 unfold growN at hk
 split at hk
 ·rename_i hc
  obtain ⟨h0, hr⟩ := hc
  simp only [zJ] at hk
  subst hk
  have hmax : n <= 140737488355328 := by
   have : n.toNat * 1 <= n.toNat * bs := Nat.mul_le_mul_left _ hb
   unfold room at hr; omega
  refine ca_of hf rfl (by decide) (by rw [hio]; rfl) ?_
  refine Wc.start (V1 := [(0, .v .nils), (1, .v (.int .i64 n))]) (by simp) ?_
  refine Wc.seq (Wc.evs (by conv => lhs; simp) (Wo.nil ?_))
  refine Wc.seq (Wc.seq (Wc.evs (by conv => lhs; simp) (Wo.nil ?_)))
  refine Wc.condF' (t := _) (by conv => lhs; simp) (by simpa using h0) ?_
  refine Wc.seq (Wc.kil (by conv => lhs; simp) (Wc.skip ?_))
  refine Wc.seq (Wc.seq (Wc.evs (by conv => lhs; simp) (Wo.nil ?_)))
  refine Wc.seq (Wc.evs (by conv => lhs; simp) (Wo.nil ?_))
  have hw : IntKind.i64.wrap n = n := by rw [IntKind.wrap_i64]; omega
  by_cases hn : 0 < n
  ·refine Wc.condT' (t := _) (by conv => lhs; simp) (by simpa [hw] using hn) ?_
   refine Wc.seq (Wc.kil (by conv => lhs; simp) ?_)
   refine Wc.evk 5 (by conv => lhs; simp [hw]) ?_
   refine Wo.sem (by simp) (by simp) (by simp) (sem_appm (n := n) (zt := zt) (by simp) (by simp) hz hl he hb hn hr) (by conv => lhs; simp) ?_
   refine Wo.evk 2 (by conv => lhs; simp) ?_
   have hzl : zt.length = e := by
    rw [<- hl]
    have : ∀ {az : List AV} {ts : List T}, ofAVs az = some ts -> ts.length = az.length := by
     intro az
     induction az with
     | nil => intro ts h; simp only [ofAVs, zJ] at h; subst h; rfl
     | cons a az ih =>
      intro ts h
      simp only [ofAVs] at h
      split at h
      ·rename_i t ts' h1 h2
       simp only [zJ] at h; subst h
       simp [ih h2]
      ·simp at h
    exact this hz
   refine Wo.sem (by simp) (by simp) (by simp) (sem_front (k := n.toNat) (y := false) (cs := (List.replicate n.toNat zt).flatten) (by simp) (by simp) (by rw [flat_len, hzl]) (by omega) he) (by conv => lhs; simp) ?_
   refine Wo.evs (by conv => lhs; simp) (Wo.nil ?_)
   refine Wc.seq (Wc.evs (by conv => lhs; simp) (Wo.nil ?_))
   exact Wc.ret (res_of (.inr rfl) ⟨_, _, _, by conv => lhs; simp, by (conv => lhs; simp [hio, List.range, List.range.loop]) <;> rfl, rfl⟩)
  ·have hn0 : n = 0 := by omega
   subst hn0
   refine Wc.condF' (t := _) (by conv => lhs; simp) (by simp [hw]) ?_
   refine Wc.seq (Wc.kil (by conv => lhs; simp) (Wc.skip ?_))
   refine Wc.seq (Wc.evs (by conv => lhs; simp) (Wo.nil ?_))
   refine Wc.gh (vle_co (s := 4) (t1 := .sl true true e 0 []) rfl (by simp) (TLe.nil rfl he) (by conv => lhs; simp)) ?_
   exact Wc.ret (res_of (.inr rfl) ⟨_, _, _, by conv => lhs; simp, by (conv => lhs; simp [hio, List.range, List.range.loop]) <;> rfl, rfl⟩)
 ·simp at hk
end
section
def apps {α : Type} (bs : Nat) (l : List α) (sk : Nat) (l' : List α) : Option (List α × Nat) := if l'.length <= sk /\ (l.length + l'.length) * bs <= room then some (l ++ l', sk - l'.length) else none
theorem appT_sk {α : Type} {E : En α} {b b' y : Bool} {bs sk : Nat} {l l' : List α} {v : List α × Nat} (h : apps bs l sk l' = some v) (hb : bs ≠ 0) (he : arr E b' l' = arr E b l') : appT E.w bs (.sl true y E.w sk (arr E b l)) (arr E b' l') = some (.sl true y E.w v.2 (arr E b v.1)) := by
 unfold apps at h
 split at h
 ·rename_i hc
  obtain ⟨h1, h2⟩ := hc
  simp only [zJ] at h
  subst h
  rw [he]
  have hw := E.hp
  unfold appT
  by_cases h0 : l' = []
  ·subst h0; simp
  ·have hl : 0 < l'.length := List.length_pos_iff.2 h0
   have e1 : (arr E b l').length / E.w = l'.length := by rw [arr_len, Nat.mul_div_cancel _ hw]
   have e2 : (arr E b l).length / E.w = l.length := by rw [arr_len, Nat.mul_div_cancel _ hw]
   have hne : ¬ ((arr E b l').length = 0) := by
    rw [arr_len]
    have := Nat.mul_pos hl hw
    omega
   have hg : ¬ (E.w = 0 \/ bs = 0 \/ (arr E b l').all T.one = false) := by
    rw [arr_ones]; simp; omega
   rw [if_neg hne, if_neg hg]
   simp only [e1, e2, true_and]
   rw [if_pos h2, if_pos h1, arr_app]
 ·simp at h
def nsk (n : Nat) : Option Unit := if n = 0 then some () else none
theorem nsk_some {n : Nat} {u : Unit} (h : nsk n = some u) : n = 0 := by
 unfold nsk at h
 split at h
 ·assumption
 ·simp at h
end
section
def evalJ : List (Nat × COper) -> Env -> Heap -> Option (Env × Heap)
  | [], env, H => some (env, H)
  | (_, o) :: ops, env, H => if o.guard = none then match heapOp env H o.op with
      | some (v, H1) => evalJ ops (putD env o.dst v) H1
      | none => none
    else none
@[irreducible] def gt (env : Env) (j : Nat) : AV := env.getD j .und
theorem ev_t {env : Env} {i : Nat} : Opd.ev env (.t i) = gt env i := by unfold gt; rfl
theorem gs {env : Env} {i j : Nat} {a : AV} : gt (env.set i a) j = if i = j /\ i < env.length then a else gt env j := by
 unfold gt
 simp only [zD, List.getElem?_set]
 by_cases h : i = j
 ·subst h
  by_cases h2 : i < env.length
  ·simp [h2]
  ·simp [h2, List.getElem?_eq_none (by omega : env.length <= i)]
 ·simp [h]
section
variable {Tb : Nat -> Option CFn} {X : Ext}
theorem ev_c {env : Env} {a : AV} : Opd.ev env (.c a) = a := rfl
attribute [local simp] evalJ heapOp pureOp ev_t ev_c putD gs binA binI lenA
structure CS (env : Env) (p n k0 k k2 : Nat) : Prop where
 l : env.length = 61
 s : gt env 0 = .sl p 0 n 1 false
 k : gt env 3 = .int .i64 k
 s2 : gt env 4 = .sl p (0 + k0 * 1) (n - k0) 1 false
 k2 : gt env 5 = .int .i64 k2
theorem CS.of {env env' : Env} {p n k0 k k2 : Nat} (h : CS env p n k0 k k2) (hl : env'.length = env.length) (he : ∀ s, s = 0 \/ s = 3 \/ s = 4 \/ s = 5 -> gt env' s = gt env s) : CS env' p n k0 k k2 :=
 ⟨hl.trans h.l, (he 0 (by simp)).trans h.s, (he 3 (by simp)).trans h.k, (he 4 (by simp)).trans h.s2, (he 5 (by simp)).trans h.k2⟩
theorem dens_ints {H : Heap} {F : Nat -> Prop} {b : Bool} : ∀ {l : List Int} {avs : List AV} {ls : List Nat}, Dens H F avs (arr eI b l) ls -> avs = l.map (fun n => .int .i64 n) /\ ls = []
 | [], avs, ls, h => by rw [arr_nil, Dens] at h; exact h
 | a :: l, avs, ls, h => by
  rw [arr_cons, eInt_c, List.singleton_append, Dens] at h
  obtain ⟨c, cs', l1, l2, rfl, rfl, h1, h2⟩ := h
  rw [Den] at h1
  obtain ⟨rfl, rfl⟩ := h1
  obtain ⟨rfl, rfl⟩ := dens_ints h2
  exact ⟨rfl, rfl⟩
theorem ints_dens {H : Heap} {F : Nat -> Prop} {b : Bool} : ∀ {l : List Int}, Dens H F (l.map (fun n => AV.int .i64 n)) (arr eI b l) []
 | [] => by rw [arr_nil, Dens]; exact ⟨rfl, rfl⟩
 | a :: l => by
  rw [arr_cons, eInt_c, List.singleton_append, List.map_cons, Dens]
  exact ⟨_, _, [], [], rfl, rfl, by rw [Den]; exact ⟨rfl, rfl⟩, ints_dens⟩
end
def compactN (l : List Int) : Option (List Int) := if l.length < 9223372036854775807 then some (compactL l) else none
end
section
def PF (t t1 : T) : Prop := ∀ H F v ls, Den H F v t ls -> ls.Nodup -> ∃ l1, List.Sublist l1 ls /\ ∀ G : Nat -> Prop, (∀ l, F l -> G l) -> (∀ l ∈ ls, l ∉ l1 -> G l) -> (∀ l ∈ l1, ¬ G l) -> Den H G v t1 l1
def PFs (ts ts1 : List T) : Prop := ∀ H F vs ls, Dens H F vs ts ls -> ls.Nodup -> ∃ l1, List.Sublist l1 ls /\ ∀ G : Nat -> Prop, (∀ l, F l -> G l) -> (∀ l ∈ ls, l ∉ l1 -> G l) -> (∀ l ∈ l1, ¬ G l) -> Dens H G vs ts1 l1
theorem PF.le {t t1 : T} (h : TLe t t1) : PF t t1 := fun H F v ls hd _ => ⟨ls, List.Sublist.refl _, fun G h1 _ h3 => h _ _ _ _ (Den.agree ⟨Nat.le_refl _, fun l hl => ⟨rfl, h1 l hl⟩, fun l hl => ⟨rfl, h3 l hl⟩⟩ hd)⟩
theorem PF.refl (t : T) : PF t t := .le (TLe.refl t)
theorem PF.frz (t : T) : PF t t.frz := fun H F v ls hd _ => ⟨[], List.nil_sublist _, fun G h1 h2 _ => Den.frz h1 (fun l hl => h2 l hl (by simp)) hd⟩
theorem PF.frze {t t1 : T} (h : t.frz = t1) : PF t t1 := h ▸ PF.frz t
theorem PFs.frzs (ts : List T) : PFs ts (frzs ts) := fun H F v ls hd _ => ⟨[], List.nil_sublist _, fun G h1 h2 _ => Dens.frz h1 (fun l hl => h2 l hl (by simp)) hd⟩
theorem PFs.nil : PFs [] [] := fun H F v ls hd _ => ⟨[], List.nil_sublist _, fun G _ _ _ => by rw [Dens] at hd ⊢; exact ⟨hd.1, rfl⟩⟩
theorem PFs.cons {t t1 : T} {ts ts1 : List T} (h : PF t t1) (h' : PFs ts ts1) : PFs (t :: ts) (t1 :: ts1) := by
 intro H F vs ls hd hnd
 rw [Dens] at hd
 obtain ⟨c, cs', a, b, rfl, rfl, h1, h2⟩ := hd
 obtain ⟨n1, n2, n3⟩ := List.nodup_append.1 hnd
 obtain ⟨a1, s1, f1⟩ := h _ _ _ _ h1 n1
 obtain ⟨b1, s2, f2⟩ := h' _ _ _ _ h2 n2
 refine ⟨a1 ++ b1, s1.append s2, fun G g1 g2 g3 => ?_⟩
 rw [Dens]
 refine ⟨c, cs', a1, b1, rfl, rfl, f1 G g1 (fun l hl hn => g2 l (by simp [hl]) ?_) (fun l hl => g3 l (by simp [hl])), f2 G g1 (fun l hl hn => g2 l (by simp [hl]) ?_) (fun l hl => g3 l (by simp [hl]))⟩
 ·rw [List.mem_append]
  rintro (hm | hm)
  ·exact hn hm
  ·exact n3 l hl l (s2.subset hm) rfl
 ·rw [List.mem_append]
  rintro (hm | hm)
  ·exact n3 l (s1.subset hm) l hl rfl
  ·exact hn hm
theorem PFs.len {ts ts1 : List T} (h : PFs ts ts1) (hd : ∃ H F vs ls, Dens H F vs ts ls /\ ls.Nodup) : ts1.length = ts.length := by
 classical
 obtain ⟨H, F, vs, ls, hd, hnd⟩ := hd
 obtain ⟨l1, s1, f1⟩ := h _ _ _ _ hd hnd
 have hown := hd.owned
 have := f1 (fun l => F l \/ (l ∈ ls /\ l ∉ l1)) (fun l hl => .inl hl) (fun l hl hn => .inr ⟨hl, hn⟩) (fun l hl => by
  rintro (hf | ⟨_, hn⟩)
  ·exact (hown l (s1.subset hl)).2.2 hf
  ·exact hn hl)
 rw [<- hd.length, <- this.length]
theorem PF.agg {ts ts1 : List T} (h : PFs ts ts1) : PF (.agg ts) (.agg ts1) := by
 intro H F v ls hd hnd
 rw [Den] at hd
 obtain ⟨cs, rfl, hd⟩ := hd
 obtain ⟨l1, s1, f1⟩ := h _ _ _ _ hd hnd
 exact ⟨l1, s1, fun G g1 g2 g3 => by rw [Den]; exact ⟨cs, rfl, f1 G g1 g2 g3⟩⟩
theorem PF.tup {ts ts1 : List T} (h : PFs ts ts1) : PF (.tup ts) (.tup ts1) := by
 intro H F v ls hd hnd
 rw [Den] at hd
 obtain ⟨cs, rfl, hd⟩ := hd
 obtain ⟨l1, s1, f1⟩ := h _ _ _ _ hd hnd
 exact ⟨l1, s1, fun G g1 g2 g3 => by rw [Den]; exact ⟨cs, rfl, f1 G g1 g2 g3⟩⟩
theorem PF.at {a : AV} {t t1 : T} (h : PF t t1) : PF (.at a t) (.at a t1) := by
 intro H F v ls hd hnd
 rw [Den] at hd
 obtain ⟨l1, s1, f1⟩ := h _ _ _ _ hd.2 hnd
 exact ⟨l1, s1, fun G g1 g2 g3 => by rw [Den]; exact ⟨hd.1, f1 G g1 g2 g3⟩⟩
theorem PF.ptr {ts ts1 : List T} (h : PFs ts ts1) : PF (.ptr true ts) (.ptr true ts1) := by
 intro H F v ls hd hnd
 rw [Den] at hd
 obtain ⟨l, o, cs, rfl, hl, hd⟩ := hd
 rcases hd with ⟨_, h3, h4, h5, h6, lc, rfl, h8⟩ | ⟨h1, _⟩
 ·obtain ⟨l1, s1, f1⟩ := h _ _ _ _ h8 (List.nodup_cons.1 hnd).2
  refine ⟨l :: l1, s1.cons_cons _, fun G g1 g2 g3 => ?_⟩
  rw [Den]
  refine ⟨l, o, cs, rfl, hl, .inl ⟨rfl, h3, h4, g3 l (by simp), h6, l1, rfl, f1 G g1 (fun k hk hn => g2 k (by simp [hk]) ?_) (fun k hk => g3 k (by simp [hk]))⟩⟩
  rw [List.mem_cons]
  rintro (rfl | hm)
  ·exact (List.nodup_cons.1 hnd).1 hk
  ·exact hn hm
 ·cases h1
theorem PF.sl {y : Bool} {e sk : Nat} {ts ts1 : List T} (h : PFs ts ts1) (hlen : ts1.length = ts.length) : PF (.sl true y e sk ts) (.sl true y e sk ts1) := by
 intro H F v ls hd hnd
 rw [Den] at hd
 rcases hd with ⟨h1, rfl, h3, rfl, h5⟩ | ⟨l, o, n, cs, rfl, he, hcs, hl, hd⟩
 ·refine ⟨[], List.Sublist.refl _, fun G _ _ _ => ?_⟩
  rw [Den]
  exact .inl ⟨h1, List.eq_nil_of_length_eq_zero (by simpa using hlen), h3, rfl, h5⟩
 ·rcases hd with ⟨_, h3, h4, h5, h6, lc, rfl, h8⟩ | ⟨h1, _⟩
  ·obtain ⟨l1, s1, f1⟩ := h _ _ _ _ h8 (List.nodup_cons.1 hnd).2
   refine ⟨l :: l1, s1.cons_cons _, fun G g1 g2 g3 => ?_⟩
   rw [Den]
   refine .inr ⟨l, o, n, cs, rfl, he, hcs, hl, .inl ⟨rfl, h3, h4, g3 l (by simp), h6, l1, rfl, f1 G g1 (fun k hk hn => g2 k (by simp [hk]) ?_) (fun k hk => g3 k (by simp [hk]))⟩⟩
   rw [List.mem_cons]
   rintro (rfl | hm)
   ·exact (List.nodup_cons.1 hnd).1 hk
   ·exact hn hm
  ·cases h1
theorem PF.inner {α : Type} {E : En α} {y : Bool} {sk : Nat} (l : List α) : PF (.sl true y E.w sk (arr E true l)) (.sl true y E.w sk (arr E false l)) := by
 refine PF.sl (ts1 := arr E false l) ?_ (by rw [arr_len, arr_len])
 rw [<- arr_frz (E := E) (b := true) (l := l)]
 exact PFs.frzs _
theorem vle_pf {V V1 : VEnv} {s : Nat} {t t1 : T} (hs : V.get s = .v t) (hu : t ≠ .und) (h : PF t t1) (hv : (unroot s V).set s (.v t1) = V1) : VLe V V1 := by
 subst hv
 intro H F env Lf hst
 obtain ⟨l1, s1, f1⟩ := h _ _ _ _ (hst.den hs) (hst.nd s)
 have hd := f1 (fun l => F l \/ (l ∈ Lf s /\ l ∉ l1)) (fun l hl => .inl hl) (fun l hl hn => .inr ⟨hl, hn⟩) (fun l hl => by
  rintro (hf | ⟨_, hn⟩)
  ·exact (Den.owned (hst.den hs) l (s1.subset hl)).2.2 hf
  ·exact hn hl)
 refine ⟨fun l => F l \/ (l ∈ Lf s /\ l ∉ l1), _, hst.see (l1 := l1) hs hu (fun _ h => .inl h) (fun l h => h.imp id And.left) (fun l hl => s1.subset hl) (s1.nodup (hst.nd s)) hd, ?_⟩
 refine ⟨Nat.le_refl _, fun _ _ _ => rfl, fun l hl => .inl ?_, fun _ h => .inl h, fun l hl => hl.elim .inl fun h => .inr (.inl ⟨s, h.1⟩)⟩
 obtain ⟨q, hl⟩ := hl
 unfold upL at hl
 split at hl
 ·exact ⟨s, s1.subset hl⟩
 ·exact ⟨q, hl⟩
theorem Wc.sk {x : Cx} {n : Nat} {V V1 : VEnv} {Q : Ex -> VEnv -> Prop} {ts : List Nat} {c : CCode} (h : V.drops ts = V1) (hq : Wc x n c V1 Q) : Wc x n (.seq (.kill ts) c) V Q := Wc.seq (Wc.kil h hq)
theorem Wo.cl {x : Cx} {n i d : Nat} {p : COp} {ks : List Nat} {ops : List (Nat × COper)} {V V1 V2 V3 : VEnv} {Q : VEnv -> Prop} {f : Nat} {ts : List T} {rs : List Nat} {xs : List Opd} {t : T} {outs : List T} (hd : dstLt n (some d) = true) (hc : callV x.io V p = some (f, ts, rs, V1, xs))
  (hca : VJx x (.ca f ts t outs)) (hal : (rs.isEmpty || (t.alone && alones outs)) = true) (hb : backs V V1 n V1 xs outs = some V2) (hp : putR V2 (some d) (.v t) = some V3) (h : Wo x n ops (V3.drops ks) Q) : Wo x n ((i, ⟨some d, p, none, [], ks⟩) :: ops) V Q := Wo.call rfl hd hc hca rfl hal hb hp h
def Cap.to (r s : Nat) : Cap -> Cap
 | .t x => .t x
 | .a q p k => .a (if q = r then s else q) p k
def S.to (r s : Nat) : S -> S
 | .v x => .v x
 | .al q => .al (if q = r then s else q)
 | .ref q p k n ag => .ref (if q = r then s else q) p k n ag
 | .adr q p k => .adr (if q = r then s else q) p k
 | .clo f cs => .clo f (cs.map (Cap.to r s))
theorem Wo.st {x : Cx} {n : Nat} {ops : List (Nat × COper)} {V V1 : VEnv} {Q : VEnv -> Prop} (h : V = V1) (hw : Wo x n ops V1 Q) : Wo x n ops V Q := by rw [h]; exact hw
end
section
variable {H : Heap} {F : Nat -> Prop} {env : Env} {V : VEnv} {Lf : Nat -> List Nat}
def cpL (l ds : List Int) : List Int := ds.take l.length ++ l.drop ds.length
def csL (l : List Int) (k : Nat) : List Int := l.take k ++ ((l.take k).take (l.length - k) ++ l.drop (k + min k (l.length - k)))
theorem iv_one : ∀ l : List Int, ((l.map fun n => AV.int .i64 n).all AV.one) = true
 | [] => rfl
 | _ :: l => iv_one l
theorem cpL_len {l ds : List Int} : (cpL l ds).length = l.length := by simp [cpL]; omega
theorem csL_len {l : List Int} {k : Nat} (h : k <= l.length) : (csL l k).length = l.length := by simp [csL]; omega
abbrev iv (l : List Int) : List AV := l.map fun n => .int .i64 n
theorem dens_iv {b : Bool} : ∀ l : List Int, Dens H F (iv l) (arr eI b l) []
 | [] => by rw [arr_nil, Dens]; exact ⟨rfl, rfl⟩
 | a :: l => by
  rw [arr_cons]
  show Dens H F (.int .i64 a :: iv l) (.int .i64 a :: arr eI b l) []
  rw [Dens]
  exact ⟨_, _, [], [], rfl, rfl, by rw [Den]; exact ⟨rfl, rfl⟩, dens_iv l⟩
theorem own_chg (h : Sta H F env V Lf) {r : Nat} {y : Bool} {l : List Int} (hr : V.get r = .v (.sl true y 1 0 (arr eI true l))) (hy : y = true -> l ≠ []) :
  ∃ p, env.getD r .und = .sl p 0 l.length 1 false /\ p < H.sz /\ (H.get p).st = .own /\ (H.get p).cells = iv l /\ ¬ F p /\ p ∈ Lf r /\
   ∀ l' : List Int, l'.length = l.length -> Sta (H.put p (iv l')) F env ((cut r [] V).set r (.v (.sl true y 1 0 (arr eI true l')))) Lf := by
 have hd := h.den hr
 rw [Den] at hd
 have hkids : (T.sl true y 1 0 (arr eI true l)).kids = some (arr eI true l) := by
  cases y with
  | false => simp [T.kids]
  | true =>
   have : (arr eI true l).isEmpty = false := by
    rw [List.isEmpty_eq_false_iff]
    exact fun e => hy rfl (arr_eq_nil.1 e)
   simp only [T.kids, this, Bool.and_false, Bool.false_eq_true, if_false]
 rcases hd with ⟨h1, h2, _⟩ | ⟨p, o, n, cs, hv, he, hcs, hp, hd⟩
 ·cases y with
  | false => simp [nilOk] at h1
  | true => exact absurd (arr_eq_nil.1 h2) (hy rfl)
 rcases hd with ⟨_, h3, h4, h5, ⟨rest, h6, h7⟩, l1, h8, h9⟩ | ⟨h1, _⟩
 ·subst h3
  obtain ⟨rfl, rfl⟩ := dens_ints h9
  have hrest : rest = [] := List.eq_nil_of_length_eq_zero (by simpa using h7)
  subst hrest
  have hn : n = l.length := by simpa using hcs.symm
  subst hn
  have hv' : env.getD r .und = .sl p 0 l.length 1 false := by simpa using hv
  refine ⟨p, hv', hp, h4, by simpa using h6, h5, by rw [h8]; simp, fun l' hl' => ?_⟩
  obtain ⟨avs, rest, A, lc, B, g1, g2, g3, g4, g5, g6, g7⟩ := h.chg (p := []) (l := p) (cs := arr eI true l) hr (by rw [T.node]; exact hkids) (by rw [hv']; simp [plc, AV.place])
  rw [h8] at g5
  have hA : A = [] /\ lc = [] /\ B = [] := by
   have := congrArg List.length g5
   simp at this
   exact ⟨List.eq_nil_of_length_eq_zero (by omega), List.eq_nil_of_length_eq_zero (by omega), List.eq_nil_of_length_eq_zero (by omega)⟩
  obtain ⟨rfl, rfl, rfl⟩ := hA
  have hrs : rest = [] := by
   have e1 := g6.length
   have e2 := congrArg List.length g4
   rw [h6] at e2
   simp at e2 e1
   exact List.eq_nil_of_length_eq_zero (by omega)
  subst hrs
  have key := g7 (H.put p (iv l')) (iv l') (arr eI true l') [] (Nat.le_refl _) (fun k hk => by simp [Heap.put, hk]) (by simp [Heap.put]) (by simp [Heap.put]) (by simp [hl']) (dens_iv l') (by simp) (by simp)
  have hL : upL Lf r ([] ++ [p] ++ []) = Lf := by
   funext s
   unfold upL
   split
   ·rename_i e; subst e; rw [h8]; rfl
   ·rfl
  rw [hL] at key
  exact key
 ·cases h1
theorem put_tr {p : Nat} {cs : List AV} {P : Nat -> Prop} (hp : P p) : Tr H F P (H.put p cs) F P :=
 ⟨Nat.le_refl _, fun l _ hn => by
  have : l ≠ p := fun e => by subst e; exact hn hp
  simp [Heap.put, this], fun _ h => .inl h, fun _ h => h, fun _ h => .inl h⟩
theorem sh_ints {s : Nat} {ds : List Int} (h : Sta H F env V Lf) (hs : V.get s = .v (.sl false false 1 1 (arr eI false ds))) :
  (ds = [] /\ (env.getD s .und = .nils \/ ∃ p o x, env.getD s .und = .sl p o 0 1 x)) \/ ∃ p o, env.getD s .und = .sl p o ds.length 1 false /\ p < H.sz /\ (H.get p).st ≠ .dead /\ ∃ pre rest, (H.get p).cells = pre ++ iv ds ++ rest /\ pre.length = o := by
 have hd := h.den hs
 rw [Den] at hd
 rcases hd with ⟨_, h1, h2, _⟩ | ⟨p, o, n, cs, hv, he, hcs, hp, hd⟩
 ·refine .inl ⟨arr_eq_nil.1 h1, ?_⟩
  rcases h2 with h2 | ⟨p, o, h2⟩
  ·exact .inl h2
  ·exact .inr ⟨p, o, _, h2⟩
 refine .inr ?_
 rcases hd with ⟨h1, _⟩ | ⟨_, h3, h4, ⟨pre, rest, h5, h6⟩, _, h8⟩
 ·cases h1
 ·obtain ⟨rfl, _⟩ := dens_ints h8
  have hn : n = ds.length := by simpa using hcs.symm
  subst hn
  exact ⟨p, o, by simpa using hv, hp, h3, pre, rest, h5, h6⟩
theorem put_same {p : Nat} {cs : List AV} (h1 : (H.get p).st = .own) (h2 : (H.get p).cells = cs) : H.put p cs = H := by
 cases H with
 | mk sz get =>
  simp only [Heap.put, Heap.mk.injEq, true_and]
  funext i
  split
  ·rename_i e
   subst e
   simp only at h1 h2
   rw [<- h1, <- h2]
  ·rfl
theorem sem_cpy {a b r : Nat} {y : Bool} {l ds : List Int} (ha : V.get a = .al r) (hr : V.get r = .v (.sl true y 1 0 (arr eI true l))) (hy : y = true -> l ≠ []) (hb : V.get b = .v (.sl false false 1 1 (arr eI false ds))) :
  SemOp V (.cpy 1 (.t a) (.t b)) ((cut r [] V).set r (.v (.sl true y 1 0 (arr eI true (cpL l ds))))) (.v (.int .i64 (min ds.length l.length : Nat))) := by
 intro H F env Lf h
 obtain ⟨p, e1, e2, e3, e4, e5, e6, e7⟩ := own_chg h hr hy
 have hsa := h.sr a
 rw [ha] at hsa
 by_cases hm : min ds.length l.length = 0
 ·have e0 := e7 l rfl
  rw [put_same e3 e4] at e0
  have hc : cpL l ds = l := by
   unfold cpL
   have : ds.length = 0 \/ l.length = 0 := by omega
   rcases this with h0 | h0
   ·rw [List.eq_nil_of_length_eq_zero h0]; simp
   ·rw [List.eq_nil_of_length_eq_zero h0]; simp
  refine ⟨.int .i64 0, H, Lf, [], ?_, by rw [hc]; exact e0, ⟨Nat.le_refl _, fun _ _ _ => rfl, fun l hl => hl.elim .inl (by simp), fun _ h => h, fun _ h => .inl h⟩, Lo.plain (by rw [Den, hm]; exact ⟨rfl, rfl⟩)⟩
  simp only [heapOp, Opd.ev]
  rcases sh_ints h hb with ⟨f0, f1 | ⟨q, o, x, f1⟩⟩ | ⟨q, o, f1, _⟩
  ·rw [hsa.2.1, e1, f1]
  ·rw [hsa.2.1, e1, f1]; simp
  ·rw [hsa.2.1, e1, f1]; simp only [ne_eq, not_true_eq_false, or_self, if_false, if_pos hm]
 obtain ⟨q, o, f1, f2, f3, pre, rest, f4, f5⟩ := (sh_ints h hb).resolve_left fun hh => hm (by rw [hh.1]; simp)
 refine ⟨.int .i64 (min ds.length l.length : Nat), H.put p (iv (cpL l ds)), Lf, [], ?_, e7 _ cpL_len, ?_, Lo.plain (by rw [Den]; exact ⟨rfl, rfl⟩)⟩
 ·simp only [heapOp, Opd.ev]
  rw [hsa.2.1, e1, f1]
  simp only [ne_eq, not_true_eq_false, or_self, if_false, Nat.mul_one, if_neg hm]
  have hrd : H.rd q o (min ds.length l.length) = some (iv (ds.take l.length)) := by
   unfold Heap.rd
   rw [if_pos ⟨f3, f2, by rw [f4]; simp; omega⟩, f4]
   congr 1
   rw [List.append_assoc, <- f5, List.drop_left, List.take_append_of_le_length (by simp only [List.length_map]; omega), <- List.map_take]
   show iv _ = iv _
   congr 1
   rw [List.take_eq_take_iff]
   omega
  rw [hrd, Option.bind_some]
  have hwr : H.wr p 0 (iv (ds.take l.length)) = some (H.put p (iv (cpL l ds))) := by
   unfold Heap.wr
   rw [if_pos ⟨e3, e2, by rw [e4]; simp only [List.length_map, List.length_take]; omega, iv_one _⟩, e4]
   congr 2
   simp only [splice, List.take_zero, List.nil_append, cpL, iv, List.map_append, List.length_map, Nat.zero_add]
   congr 1
   rw [<- List.map_drop]
   congr 1
   rw [List.length_take]
   by_cases hc : ds.length <= l.length
   ·rw [Nat.min_eq_right hc]
   ·rw [Nat.min_eq_left (by omega), List.drop_of_length_le (by omega), List.drop_of_length_le (by omega)]
  rw [hwr]; rfl
 ·have := put_tr (H := H) (F := F) (cs := iv (cpL l ds)) (P := Pl Lf) ⟨r, e6⟩
  exact ⟨this.sz, this.fr, fun l hl => hl.elim (this.pl l) (by simp), this.fm, this.fp⟩
theorem gD_ne {env : Env} {s d : Nat} {v : AV} (h : s ≠ d) : (env.set d v).getD s .und = env.getD s .und := by
 simp [zD, List.getElem?_set_ne (Ne.symm h)]
theorem gD_eq {env : Env} {d : Nat} {v : AV} (h : d < env.length) : (env.set d v).getD d .und = v := by
 simp [zD, h]
theorem cs_ok {Tb : Nat -> Option CFn} {X : Ext} {r a c q t1 a2 c2 t2 d i1 i2 i3 i4 i5 : Nat} {u1 u2 u3 u4 : List (Nat × Nat)} {k1 k2 k3 k4 k5 : List Nat} {l : List Int} {k : Nat} {V1 : VEnv}
  (h : Sta H F env V Lf) (ha : V.get a = .al r) (hr : V.get r = .v (.sl true false 1 0 (arr eI true l))) (hc : V.get c = .v (.int .i64 k)) (hq : V.get q = .v (.int .i64 k)) (hk : k <= l.length)
  (hV : V.drops [a, c, t1, a2, c2, t2, d] = V1) (hr1 : V1.get r = .v (.sl true false 1 0 (arr eI true l)))
  (hnd : [r, q, t1, a2, c2, t2, d].Nodup) (h1 : t1 < env.length) (h2 : a2 < env.length) (h3 : c2 < env.length) (h4 : t2 < env.length) (h5 : d < env.length) :
  ∃ env' H' Lf', J Tb X (.op [(i1, ⟨some t1, .sls 1 (.t a) (some (.t c)) none none, none, u1, k1⟩), (i2, ⟨some a2, .mv (.t r), none, u2, k2⟩), (i3, ⟨some c2, .mv (.t q), none, u3, k3⟩), (i4, ⟨some t2, .sls 1 (.t a2) none (some (.t c2)) none, none, u4, k4⟩), (i5, ⟨some d, .cpy 1 (.t t1) (.t t2), none, [], k5⟩)] env H env' H') /\
   env'.length = env.length /\ Sta H' F env' ((unroot d (((((cut r [] V1).set r (.v (.sl true false 1 0 (arr eI true (csL l k))))).drop t1).drop a2).drop c2 |>.drop t2)).set d (.v (.int .i64 (min k (l.length - k) : Nat)))) Lf' /\ Tr H F (Pl Lf) H' F (Pl Lf') := by
 obtain ⟨Lf1, s1, sub1⟩ := h.drops [a, c, t1, a2, c2, t2, d]
 rw [hV] at s1
 obtain ⟨p, e1, e2, e3, e4, e5, e6, e7⟩ := own_chg s1 hr1 (by simp)
 have hsa := h.sr a
 rw [ha] at hsa
 have hea : env.getD a .und = .sl p 0 l.length 1 false := hsa.2.1.trans e1
 have hdc := h.den hc
 rw [Den] at hdc
 have hdq := h.den hq
 rw [Den] at hdq
 simp only [List.nodup_cons, List.mem_cons, List.not_mem_nil, or_false, not_or, List.nodup_nil, and_true, not_false_eq_true] at hnd
 obtain ⟨⟨n1, n2, n3, n4, n5, n6⟩, ⟨m1, m2, m3, m4, m5⟩, ⟨o1, o2, o3, o4⟩, ⟨p1, p2, p3⟩, ⟨w1, w2⟩, z1⟩ := hnd
 let v1 : AV := .sl p k (l.length - k) 1 false
 let v2 : AV := .sl p 0 l.length 1 false
 let v3 : AV := .int .i64 k
 let v4 : AV := .sl p 0 k 1 false
 let v5 : AV := .int .i64 (min k (l.length - k) : Nat)
 let E1 := env.set t1 v1
 let E2 := E1.set a2 v2
 let E3 := E2.set c2 v3
 let E4 := E3.set t2 v4
 let E5 := E4.set d v5
 have L1 : E1.length = env.length := by simp [E1]
 have L2 : E2.length = env.length := by simp [E2, L1]
 have L3 : E3.length = env.length := by simp [E3, L2]
 have L4 : E4.length = env.length := by simp [E4, L3]
 have L5 : E5.length = env.length := by simp [E5, L4]
 have r1 : E1.getD r .und = v2 := by show (env.set t1 v1).getD r .und = v2; rw [gD_ne n2]; exact e1
 have q2 : E2.getD q .und = v3 := by
  show ((env.set t1 v1).set a2 v2).getD q .und = v3
  rw [gD_ne m2, gD_ne m1]; exact hdq.1
 have a3 : E3.getD a2 .und = v2 := by
  show (E2.set c2 v3).getD a2 .und = v2
  rw [gD_ne p1]; exact gD_eq (by rw [L1]; exact h2)
 have c3 : E3.getD c2 .und = v3 := gD_eq (by rw [L2]; exact h3)
 have t4 : E4.getD t1 .und = v1 := by
  show (((E1.set a2 v2).set c2 v3).set t2 v4).getD t1 .und = v1
  rw [gD_ne o3, gD_ne o2, gD_ne o1]; exact gD_eq h1
 have t5 : E4.getD t2 .und = v4 := gD_eq (by rw [L3]; exact h4)
 have hl : l.length - k + k = l.length := by omega
 have hrd : H.rd p 0 (min k (l.length - k)) = some (iv ((l.take k).take (l.length - k))) := by
  unfold Heap.rd
  rw [if_pos ⟨by rw [e3]; simp, e2, by rw [e4]; simp only [List.length_map]; omega⟩, e4]
  congr 1
  rw [List.drop_zero, <- List.map_take, List.take_take]
  congr 2
  omega
 have hwr : H.wr p k (iv ((l.take k).take (l.length - k))) = some (H.put p (iv (csL l k))) := by
  unfold Heap.wr
  rw [if_pos ⟨e3, e2, by rw [e4]; simp only [List.length_map, List.length_take]; omega, iv_one _⟩, e4]
  congr 2
  simp only [splice, csL, iv, List.map_append, List.length_map, List.map_take, List.map_drop]
  rw [List.append_assoc]
  congr 3
  simp only [List.length_take, List.length_map]
  omega
 have hkept : ∀ (e : Env) (us : List (Nat × Nat)), Kept e us H H := fun e us s n _ l o _ vs h => h
 refine ⟨E5, H.put p (iv (csL l k)), upL (upL (upL (upL (upL Lf1 t1 []) a2 []) c2 []) t2 []) d [], ?_, L5, ?_, ?_⟩
 ·refine .opDo rfl rfl (v := v1) (H1 := H) ?_ (hkept _ _) (.opDo rfl rfl (v := v2) (H1 := H) ?_ (hkept _ _) (.opDo rfl rfl (v := v3) (H1 := H) ?_ (hkept _ _) (.opDo rfl rfl (v := v4) (H1 := H) ?_ (hkept _ _) (.opDo rfl rfl (v := v5) (H1 := H.put p (iv (csL l k))) ?_ (by intro s n hs; simp at hs) .opNil))))
  ·simp only [heapOp, pureOp, Opd.ev, obnd, hea, hdc.1, bnd]
   simp [hk, v1]
  ·show heapOp E1 H (.mv (.t r)) = _
   simp only [heapOp, pureOp, Opd.ev, r1, Option.map_some]
  ·show heapOp E2 H (.mv (.t q)) = _
   simp only [heapOp, pureOp, Opd.ev, q2, Option.map_some]
  ·show heapOp E3 H (.sls 1 (.t a2) none (some (.t c2)) none) = _
   simp only [heapOp, pureOp, Opd.ev, obnd, a3, c3, bnd, v2, v3]
   simp [hk, v4]
  ·show heapOp E4 H _ = _
   simp only [heapOp, Opd.ev, t4, t5, v1, v4]
   simp only [ne_eq, not_true_eq_false, or_self, if_false, Nat.mul_one, hrd, Option.bind_some, hwr]
   by_cases hm0 : min k (l.length - k) = 0
   ·have hcs : csL l k = l := by
     unfold csL
     have : k = 0 \/ l.length - k = 0 := by omega
     rcases this with h0 | h0
     ·subst h0; simp
     ·rw [h0]; simp
    rw [if_pos hm0, hcs, put_same e3 e4]
    show some (AV.i 0, H) = some (AV.int .i64 (min k (l.length - k) : Nat), H)
    rw [hm0]; rfl
   ·rw [if_neg hm0]; rfl
 ·have s2 := e7 (csL l k) (csL_len hk)
  have s3 := s2.drop t1 E1 L1 (fun s hs => gD_ne hs)
  have s4 := s3.drop a2 E2 (by rw [L2, L1]) (fun s hs => gD_ne hs)
  have s5 := s4.drop c2 E3 (by rw [L3, L2]) (fun s hs => gD_ne hs)
  have s6 := s5.drop t2 E4 (by rw [L4, L3]) (fun s hs => gD_ne hs)
  exact s6.put (d := d) (v := v5) (t := .int .i64 (min k (l.length - k) : Nat)) (ls := []) (by rw [L4]; exact h5) (Lo.plain (by rw [Den]; exact ⟨rfl, rfl⟩))
 ·have ht := put_tr (H := H) (F := F) (cs := iv (csL l k)) (P := Pl Lf) ⟨r, sub1 r p e6⟩
  refine ⟨ht.sz, ht.fr, fun z ⟨s, hz⟩ => .inl ?_, ht.fm, ht.fp⟩
  have hz : z ∈ Lf1 s := by
   unfold upL at hz
   repeat' split at hz
   all_goals first | (simp at hz; done) | exact hz
  exact ⟨s, sub1 s z hz⟩
end
section
section
variable {H : Heap} {F : Nat -> Prop} {env : Env} {V : VEnv} {Lf : Nat -> List Nat}
end
end
section
inductive Fr where
 | c (c : CCode)
 | o (ops : List (Nat × COper))
 | b (id : Nat)
def Rf (Tb : Nat -> Option CFn) : List Fr -> Ex -> Env -> Heap -> Ex -> Env -> Heap -> Prop
 | [], ex, env, H, ex', env', H' => ex' = ex /\ env' = env /\ H' = H
 | .c c :: ks, .normal, env, H, ex', env', H' => ∃ ex1 env1 H1, J Tb X0 (.co c env H ex1 env1 H1) /\ Rf Tb ks ex1 env1 H1 ex' env' H'
 | .c _ :: ks, ex, env, H, ex', env', H' => Rf Tb ks ex env H ex' env' H'
 | .o ops :: ks, .normal, env, H, ex', env', H' => ∃ env1 H1, J Tb X0 (.op ops env H env1 H1) /\ Rf Tb ks .normal env1 H1 ex' env' H'
 | .o _ :: ks, ex, env, H, ex', env', H' => Rf Tb ks ex env H ex' env' H'
 | .b id :: ks, .exit i, env, H, ex', env', H' => if i = id then Rf Tb ks .normal env H ex' env' H' else Rf Tb ks (.exit i) env H ex' env' H'
 | .b _ :: ks, ex, env, H, ex', env', H' => Rf Tb ks ex env H ex' env' H'
def Kf (x : Cx) (n : Nat) (ks : List Fr) (Q : Ex -> VEnv -> Prop) (ex : Ex) (V : VEnv) : Prop :=
 ∀ (H : Heap) (F : Nat -> Prop) (env : Env) (Lf : Nat -> List Nat), env.length = n -> Sta H F env V Lf -> ∃ ex' env' H' F' Lf' V', Rf x.fns ks ex env H ex' env' H' /\ env'.length = n /\ Sta H' F' env' V' Lf' /\ Tr H F (Pl Lf) H' F' (Pl Lf') /\ Q ex' V'
def Ws (x : Cx) (n : Nat) (ks : List Fr) (V : VEnv) (Q : Ex -> VEnv -> Prop) : Prop := Kf x n ks Q .normal V
class Cl (x : Cx) : Prop where
 snd : ∀ j, VJx x j -> VMot x.fns X0 x.io j
 ex : ∀ f ts t outs, CallOk x.fns X0 x.io f ts t outs -> VJx x (.ca f ts t outs)
variable {x : Cx} {n : Nat} {V V1 : VEnv} {Q : Ex -> VEnv -> Prop} {ks ks' : List Fr} {Tb : Nat -> Option CFn} {env : Env} {H : Heap}
theorem kf_end {ex : Ex} (hr : ∀ env H, Rf x.fns ks ex env H ex env H) (h : Q ex V) : Kf x n ks Q ex V := fun H F env Lf hn hs => ⟨ex, env, H, F, Lf, V, hr env H, hn, hs, Tr.refl _ _ _, h⟩
theorem kf_conv {ex ex1 : Ex} (hr : ∀ env H ex' env' H', Rf x.fns ks' ex1 env H ex' env' H' -> Rf x.fns ks ex env H ex' env' H') (h : Kf x n ks' Q ex1 V) : Kf x n ks Q ex V := by
 intro H F env Lf hn hs
 obtain ⟨ex', env', H', F', Lf', V', h1, h2⟩ := h H F env Lf hn hs
 exact ⟨ex', env', H', F', Lf', V', hr _ _ _ _ _ h1, h2⟩
theorem rf_ret : ∀ ks, Rf Tb ks .ret env H .ret env H
 | [] => ⟨rfl, rfl, rfl⟩
 | .c _ :: ks => rf_ret ks
 | .o _ :: ks => rf_ret ks
 | .b _ :: ks => rf_ret ks
theorem kf_ret (h : Q .ret V) (ks : List Fr) : Kf x n ks Q .ret V := kf_end (fun _ _ => rf_ret ks) h
def unw (id : Nat) : List Fr -> Option (List Fr)
 | [] => none
 | .b i :: ks => if i = id then some ks else unw id ks
 | _ :: ks => unw id ks
theorem rf_unw {id : Nat} {ex' : Ex} {env' : Env} {H' : Heap} : ∀ {ks ks' : List Fr}, unw id ks = some ks' -> Rf Tb ks' .normal env H ex' env' H' -> Rf Tb ks (.exit id) env H ex' env' H'
 | [], _, h, _ => by simp [unw] at h
 | .c _ :: ks, _, h, hw => rf_unw (ks := ks) h hw
 | .o _ :: ks, _, h, hw => rf_unw (ks := ks) h hw
 | .b i :: ks, ks', h, hw => by
  simp only [unw] at h
  simp only [Rf]
  split at h
  ·rename_i e; subst e
   simp only [zJ] at h; subst h
   rw [if_pos rfl]; exact hw
  ·rename_i e
   rw [if_neg (Ne.symm e)]; exact rf_unw h hw
theorem rf_out {id : Nat} : ∀ {ks : List Fr}, unw id ks = none -> Rf Tb ks (.exit id) env H (.exit id) env H
 | [], _ => ⟨rfl, rfl, rfl⟩
 | .c _ :: ks, h => rf_out (ks := ks) h
 | .o _ :: ks, h => rf_out (ks := ks) h
 | .b i :: ks, h => by
  simp only [unw] at h
  simp only [Rf]
  split at h
  ·simp at h
  ·rename_i e
   rw [if_neg (Ne.symm e)]; exact rf_out h
theorem kf_unw {id : Nat} (h : unw id ks = some ks') (hw : Ws x n ks' V Q) : Kf x n ks Q (.exit id) V := kf_conv (fun _ _ _ _ _ => rf_unw h) hw
theorem kf_out {id : Nat} (h : unw id ks = none) (hw : Q (.exit id) V) : Kf x n ks Q (.exit id) V := kf_end (fun _ _ => rf_out h) hw
theorem Ws.vj [hc : Cl x] {ops ops2 : List (Nat × COper)} (hv : VJx x (.op n ops V V1)) (h : Ws x n (.o ops2 :: ks) V1 Q) : Ws x n (.o (ops ++ ops2) :: ks) V Q := by
 intro H F env Lf hn hs
 obtain ⟨env1, H1, F1, Lf1, g1, g2, g3, g4⟩ := hc.snd _ hv H F env Lf hn hs
 obtain ⟨ex', env', H', F', Lf', V', h1, h2, h3, h4, h5⟩ := h H1 F1 env1 Lf1 g2 g3
 obtain ⟨env2, H2, k1, k2⟩ := h1
 exact ⟨ex', env', H', F', Lf', V', ⟨env2, H2, J_app g1 k1, k2⟩, h2, h3, g4.trans h4, h5⟩
theorem Ws.onil (h : Ws x n ks V Q) : Ws x n (.o [] :: ks) V Q := kf_conv (ks' := ks) (ex1 := .normal) (fun env H _ _ _ h => ⟨env, H, .opNil, h⟩) h
theorem Ws.kill [hc : Cl x] {ts : List Nat} (h : Ws x n ks (V.drops ts) Q) : Ws x n (.c (.kill ts) :: ks) V Q := by
 intro H F env Lf hn hs
 obtain ⟨env1, H1, F1, Lf1, g1, g2, g3, g4⟩ := hc.snd _ (VJ.kill (n := n) (ts := ts) (V := V)) H F env Lf hn hs
 obtain ⟨ex', env', H', F', Lf', V', h1, h2, h3, h4, h5⟩ := h H1 F1 env1 Lf1 g2 g3
 exact ⟨ex', env', H', F', Lf', V', ⟨_, _, _, g1, h1⟩, h2, h3, g4.trans h4, h5⟩
theorem Ws.skip (h : Ws x n ks V Q) : Ws x n (.c .skip :: ks) V Q := kf_conv (ks' := ks) (ex1 := .normal) (fun env H _ _ _ h => ⟨_, _, _, .skip, h⟩) h
theorem Ws.reg {d : Bool} {ops : List (Nat × COper)} (h : Ws x n (.o ops :: ks) V Q) : Ws x n (.c (.reg d ops) :: ks) V Q := kf_conv (ks' := .o ops :: ks) (ex1 := .normal) (fun env H _ _ _ ⟨_, _, h1, h2⟩ => ⟨_, _, _, .reg h1, h2⟩) h
theorem Ws.seq {a b : CCode} (h : Ws x n (.c a :: .c b :: ks) V Q) : Ws x n (.c (.seq a b) :: ks) V Q := by
 refine kf_conv (fun env H ex' env' H' hr => ?_) h
 obtain ⟨ex1, env1, H1, h1, h2⟩ := hr
 cases ex1 with
 | normal =>
  obtain ⟨ex2, env2, H2, h3, h4⟩ := h2
  exact ⟨_, _, _, .seqN h1 h3, h4⟩
 | exit id => exact ⟨_, _, _, .seqX (by simp) h1, h2⟩
 | ret => exact ⟨_, _, _, .seqX (by simp) h1, h2⟩
theorem Ws.bend {id : Nat} (h : Ws x n ks V Q) : Ws x n (.b id :: ks) V Q := kf_conv (ks' := ks) (ex1 := .normal) (fun _ _ _ _ _ h => h) h
theorem Ws.block {id : Nat} {c : CCode} (h : Ws x n (.c c :: .b id :: ks) V Q) : Ws x n (.c (.block id c) :: ks) V Q := by
 refine kf_conv (fun env H ex' env' H' hr => ?_) h
 obtain ⟨ex1, env1, H1, h1, h2⟩ := hr
 cases ex1 with
 | normal => exact ⟨_, _, _, .blockN (by simp) h1, h2⟩
 | ret => exact ⟨_, _, _, .blockN (by simp) h1, h2⟩
 | exit i =>
  simp only [Rf] at h2
  split at h2
  ·rename_i e; subst e; exact ⟨_, _, _, .blockE h1, h2⟩
  ·rename_i e; exact ⟨_, _, _, .blockN (by simpa using e) h1, h2⟩
def stopO (o : COper) : Bool := o.guard.isSome || o.op.isCall
def evS (n : Nat) : Nat -> Nat -> List Fr -> VEnv -> Option (List Fr × VEnv)
 | 0, _, ks, V => some (ks, V)
 | _ + 1, _, [], V => some ([], V)
 | k + 1, b, .b _ :: ks, V => evS n k b ks V
 | k + 1, b, .o ops :: ks, V => match ops with
  | [] => evS n k b ks V
  | (i, o) :: ops => match b with
   | 0 => some (.o ((i, o) :: ops) :: ks, V)
   | b + 1 => match stopO o with
    | true => some (.o ((i, o) :: ops) :: ks, V)
    | false => match evalO n [(i, o)] V with
     | some ([], V1) => evS n k b (.o ops :: ks) V1
     | _ => none
 | k + 1, b, .c c :: ks, V => match c with
  | .skip => evS n k b ks V
  | .kill ts => evS n k b ks (V.drops ts)
  | .seq a d => evS n k b (.c a :: .c d :: ks) V
  | .reg _ ops => evS n k b (.o ops :: ks) V
  | .exit id => match unw id ks with
   | some ks' => evS n k b ks' V
   | none => some (.c (.exit id) :: ks, V)
  | c => some (.c c :: ks, V)
theorem Ws.ev1 [hc : Cl x] {i : Nat} {o : COper} {ops : List (Nat × COper)} (h : evalO n [(i, o)] V = some ([], V1)) (hw : Ws x n (.o ops :: ks) V1 Q) : Ws x n (.o ((i, o) :: ops) :: ks) V Q := by
 obtain ⟨V', h1, rfl⟩ : Wo x n [(i, o)] V (fun V' => V' = V1) := Wo.eval h (Wo.nil rfl)
 exact Ws.vj (ops := [(i, o)]) h1 hw
theorem Ws.ev [hc : Cl x] : ∀ {k b : Nat} {ks ks' : List Fr} {V V1 : VEnv}, evS n k b ks V = some (ks', V1) -> Ws x n ks' V1 Q -> Ws x n ks V Q
 | 0, b, ks, ks', V, V1, h, hw => by
  simp only [evS, zJ, zP] at h
  obtain ⟨rfl, rfl⟩ := h; exact hw
 | k + 1, b, [], ks', V, V1, h, hw => by
  simp only [evS, zJ, zP] at h
  obtain ⟨rfl, rfl⟩ := h; exact hw
 | k + 1, b, .b id :: ks, ks', V, V1, h, hw => by
  simp only [evS] at h
  exact Ws.bend (Ws.ev (ks := ks) h hw)
 | k + 1, b, .o ops :: ks, ks', V, V1, h, hw => by
  simp only [evS] at h
  split at h
  ·exact Ws.onil (Ws.ev h hw)
  ·split at h
   ·simp only [zJ, zP] at h
    obtain ⟨rfl, rfl⟩ := h; exact hw
   ·split at h
    ·simp only [zJ, zP] at h
     obtain ⟨rfl, rfl⟩ := h; exact hw
    ·split at h
     ·rename_i e; exact Ws.ev1 e (Ws.ev h hw)
     ·simp at h
 | k + 1, b, .c c :: ks, ks', V, V1, h, hw => by
  cases c with
  | skip => simp only [evS] at h; exact Ws.skip (Ws.ev h hw)
  | kill ts => simp only [evS] at h; exact Ws.kill (Ws.ev h hw)
  | seq a d =>
   simp only [evS] at h
   exact Ws.seq (Ws.ev (ks := .c a :: .c d :: ks) h hw)
  | reg d ops => simp only [evS] at h; exact Ws.reg (Ws.ev h hw)
  | exit id =>
   simp only [evS] at h
   split at h
   ·rename_i e
    exact kf_conv (ex1 := .normal) (fun env H _ _ _ h => ⟨_, _, _, .exit, rf_unw e h⟩) (Ws.ev h hw)
   ·simp only [zJ, zP] at h
    obtain ⟨rfl, rfl⟩ := h; exact hw
  | _ =>
   simp only [evS, zJ, zP] at h
   obtain ⟨rfl, rfl⟩ := h; exact hw
@[simp] theorem evS_nil {k b : Nat} : evS n (k + 1) b [] V = some ([], V) := rfl
@[simp] theorem evS_b {k b id : Nat} : evS n (k + 1) b (.b id :: ks) V = evS n k b ks V := rfl
@[simp] theorem evS_o0 {k b : Nat} : evS n (k + 1) b (.o [] :: ks) V = evS n k b ks V := rfl
@[simp] theorem evS_o1 {k : Nat} {y : Nat × COper} {ops : List (Nat × COper)} : evS n (k + 1) 0 (.o (y :: ops) :: ks) V = some (.o (y :: ops) :: ks, V) := rfl
@[simp] theorem evS_oc {k b i f : Nat} {xs : List Opd} {us : List (Nat × Nat)} {kk : List Nat} {ops : List (Nat × COper)} {dst : Option Nat} {g : Option (Nat × Bool)} : evS n (k + 1) (b + 1) (.o ((i, ⟨dst, .call f xs, g, us, kk⟩) :: ops) :: ks) V = some (.o ((i, ⟨dst, .call f xs, g, us, kk⟩) :: ops) :: ks, V) := by simp [evS, stopO, COp.isCall]
@[simp] theorem evS_ov {k b i : Nat} {f : Opd} {xs : List Opd} {us : List (Nat × Nat)} {kk : List Nat} {ops : List (Nat × COper)} {dst : Option Nat} {g : Option (Nat × Bool)} : evS n (k + 1) (b + 1) (.o ((i, ⟨dst, .callv f xs, g, us, kk⟩) :: ops) :: ks) V = some (.o ((i, ⟨dst, .callv f xs, g, us, kk⟩) :: ops) :: ks, V) := by simp [evS, stopO, COp.isCall]
@[simp] theorem evS_og {k b i : Nat} {p : COp} {us : List (Nat × Nat)} {kk : List Nat} {ops : List (Nat × COper)} {dst : Option Nat} {g : Nat × Bool} : evS n (k + 1) (b + 1) (.o ((i, ⟨dst, p, some g, us, kk⟩) :: ops) :: ks) V = some (.o ((i, ⟨dst, p, some g, us, kk⟩) :: ops) :: ks, V) := by simp [evS, stopO]
theorem evS_op {k b i : Nat} {p : COp} {us : List (Nat × Nat)} {kk : List Nat} {ops : List (Nat × COper)} {dst : Option Nat} (hp : p.isCall = false) : evS n (k + 1) (b + 1) (.o ((i, ⟨dst, p, none, us, kk⟩) :: ops) :: ks) V = match evalO n [(i, ⟨dst, p, none, us, kk⟩)] V with
  | some ([], V1) => evS n k b (.o ops :: ks) V1
  | _ => none := by
 simp only [evS, stopO, hp, Option.isSome_none, Bool.or_self]
section
variable {k b i : Nat} {us : List (Nat × Nat)} {kk : List Nat} {ops : List (Nat × COper)} {dst : Option Nat}
@[simp] def evo0 {z0} := @evS_op n V ks k b i (.mv z0) us kk ops dst rfl
@[simp] def evo1 {z0} {z1} {z2} := @evS_op n V ks k b i (.pick z0 z1 z2) us kk ops dst rfl
@[simp] def evo2 {z0} {z1} {z2} := @evS_op n V ks k b i (.bin z0 z1 z2) us kk ops dst rfl
@[simp] def evo3 {z0} {z1} {z2} := @evS_op n V ks k b i (.beq z0 z1 z2) us kk ops dst rfl
@[simp] def evo4 {z0} {z1} {z2} {z3} := @evS_op n V ks k b i (.eqs z0 z1 z2 z3) us kk ops dst rfl
@[simp] def evo5 {z0} := @evS_op n V ks k b i (.neg z0) us kk ops dst rfl
@[simp] def evo6 {z0} := @evS_op n V ks k b i (.not z0) us kk ops dst rfl
@[simp] def evo7 {z0} {z1} := @evS_op n V ks k b i (.isnil z0 z1) us kk ops dst rfl
@[simp] def evo8 {z0} := @evS_op n V ks k b i (.len z0) us kk ops dst rfl
@[simp] def evo9 {z0} := @evS_op n V ks k b i (.lens z0) us kk ops dst rfl
@[simp] def evo10 {z0} {z1} := @evS_op n V ks k b i (.max z0 z1) us kk ops dst rfl
@[simp] def evo11 {z0} {z1} := @evS_op n V ks k b i (.conv z0 z1) us kk ops dst rfl
@[simp] def evo12 {z0} := @evS_op n V ks k b i (.b2s z0) us kk ops dst rfl
@[simp] def evo13 {z0} {z1} {z2} := @evS_op n V ks k b i (.ld z0 z1 z2) us kk ops dst rfl
@[simp] def evo14 {z0} {z1} {z2} := @evS_op n V ks k b i (.st z0 z1 z2) us kk ops dst rfl
@[simp] def evo15 {z0} := @evS_op n V ks k b i (.al z0) us kk ops dst rfl
@[simp] def evo16 {z0} {z1} := @evS_op n V ks k b i (.box z0 z1) us kk ops dst rfl
@[simp] def evo17 {z0} {z1} := @evS_op n V ks k b i (.bld z0 z1) us kk ops dst rfl
@[simp] def evo18 {z0} {z1} {z2} {z3} := @evS_op n V ks k b i (.bsl z0 z1 z2 z3) us kk ops dst rfl
@[simp] def evo19 {z0} {z1} {z2} {z3} {z4} := @evS_op n V ks k b i (.mk z0 z1 z2 z3 z4) us kk ops dst rfl
@[simp] def evo20 {z0} {z1} {z2} {z3} {z4} := @evS_op n V ks k b i (.sls z0 z1 z2 z3 z4) us kk ops dst rfl
@[simp] def evo21 {z0} {z1} {z2} {z3} {z4} := @evS_op n V ks k b i (.slx z0 z1 z2 z3 z4) us kk ops dst rfl
@[simp] def evo22 {z0} {z1} {z2} := @evS_op n V ks k b i (.sst z0 z1 z2) us kk ops dst rfl
@[simp] def evo23 {z0} {z1} := @evS_op n V ks k b i (.fa z0 z1) us kk ops dst rfl
@[simp] def evo24 {z0} {z1} {z2} := @evS_op n V ks k b i (.ia z0 z1 z2) us kk ops dst rfl
@[simp] def evo25 {z0} {z1} := @evS_op n V ks k b i (.ix z0 z1) us kk ops dst rfl
@[simp] def evo26 {z0} := @evS_op n V ks k b i (.nc z0) us kk ops dst rfl
@[simp] def evo27 {z0} {z1} := @evS_op n V ks k b i (.fn z0 z1) us kk ops dst rfl
@[simp] def evo28 {z0} {z1} := @evS_op n V ks k b i (.ex z0 z1) us kk ops dst rfl
@[simp] def evo31 {z0} {z1} {z2} {z3} := @evS_op n V ks k b i (.app z0 z1 z2 z3) us kk ops dst rfl
@[simp] def evo32 {z0} {z1} {z2} {z3} {z4} := @evS_op n V ks k b i (.appm z0 z1 z2 z3 z4) us kk ops dst rfl
@[simp] def evo33 {z0} {z1} {z2} := @evS_op n V ks k b i (.cpy z0 z1 z2) us kk ops dst rfl
@[simp] def evo34 {z0} := @evS_op n V ks k b i (.cap z0) us kk ops dst rfl
@[simp] def evo35 {z0} {z1} {z2} := @evS_op n V ks k b i (.clr z0 z1 z2) us kk ops dst rfl
@[simp] def evo36 := @evS_op n V ks k b i (.fail) us kk ops dst rfl
end
@[simp] theorem evS_skip {k b : Nat} : evS n (k + 1) b (.c .skip :: ks) V = evS n k b ks V := rfl
@[simp] theorem evS_kill {k b : Nat} {ts : List Nat} : evS n (k + 1) b (.c (.kill ts) :: ks) V = evS n k b ks (V.drops ts) := rfl
@[simp] theorem evS_seq {k b : Nat} {a d : CCode} : evS n (k + 1) b (.c (.seq a d) :: ks) V = evS n k b (.c a :: .c d :: ks) V := rfl
@[simp] theorem evS_reg {k b : Nat} {d : Bool} {ops : List (Nat × COper)} : evS n (k + 1) b (.c (.reg d ops) :: ks) V = evS n k b (.o ops :: ks) V := rfl
@[simp] theorem evS_exit {k b id : Nat} : evS n (k + 1) b (.c (.exit id) :: ks) V = match unw id ks with
   | some ks' => evS n k b ks' V
   | none => some (.c (.exit id) :: ks, V) := rfl
@[simp] theorem evS_cond {k b : Nat} {c : Opd} {a d : CCode} : evS n (k + 1) b (.c (.cond c a d) :: ks) V = some (.c (.cond c a d) :: ks, V) := rfl
@[simp] theorem evS_block {k b id : Nat} {c : CCode} : evS n (k + 1) b (.c (.block id c) :: ks) V = some (.c (.block id c) :: ks, V) := rfl
@[simp] theorem evS_loop {k b : Nat} {c : CCode} : evS n (k + 1) b (.c (.loop c) :: ks) V = some (.c (.loop c) :: ks, V) := rfl
@[simp] theorem evS_ret {k b : Nat} : evS n (k + 1) b (.c .ret :: ks) V = some (.c .ret :: ks, V) := rfl
attribute [simp] unw
attribute [irreducible] evS
theorem Ws.ret (h : Q .ret V) : Ws x n (.c .ret :: ks) V Q := kf_conv (ks' := ks) (ex1 := .ret) (fun env H _ _ _ h => ⟨_, _, _, .ret, h⟩) (kf_ret h ks)
theorem Ws.end (h : Q .normal V) : Ws x n [] V Q := kf_end (fun _ _ => ⟨rfl, rfl, rfl⟩) h
theorem Ws.exit {id : Nat} (e : unw id ks = none) (h : Q (.exit id) V) : Ws x n (.c (.exit id) :: ks) V Q := kf_conv (ks' := ks) (ex1 := .exit id) (fun env H _ _ _ h => ⟨_, _, _, .exit, h⟩) (kf_out e h)
theorem Ws.condT {c : Opd} {a d : CCode} (hc : sca V c = .bool true) (h : Ws x n (.c a :: ks) V Q) : Ws x n (.c (.cond c a d) :: ks) V Q := by
 intro H F env Lf hn hs
 obtain ⟨ex', env', H', F', Lf', V', ⟨ex1, env1, H1, h1, h2⟩, h3⟩ := h H F env Lf hn hs
 exact ⟨ex', env', H', F', Lf', V', ⟨ex1, env1, H1, .condT (sca_ev hs hc (by simp)) h1, h2⟩, h3⟩
theorem Ws.condF {c : Opd} {a d : CCode} (hc : sca V c = .bool false) (h : Ws x n (.c d :: ks) V Q) : Ws x n (.c (.cond c a d) :: ks) V Q := by
 intro H F env Lf hn hs
 obtain ⟨ex', env', H', F', Lf', V', ⟨ex1, env1, H1, h1, h2⟩, h3⟩ := h H F env Lf hn hs
 exact ⟨ex', env', H', F', Lf', V', ⟨ex1, env1, H1, .condF (sca_ev hs hc (by simp)) h1, h2⟩, h3⟩
theorem Ws.gh (hv : VLe V V1) (h : Ws x n ks V1 Q) : Ws x n ks V Q := by
 intro H F env Lf hn hs
 obtain ⟨F1, Lf1, g1, g2⟩ := hv H F env Lf hs
 obtain ⟨ex', env', H', F', Lf', V', h1, h2, h3, h4, h5⟩ := h H F1 env Lf1 hn g1
 exact ⟨ex', env', H', F', Lf', V', h1, h2, h3, g2.trans h4, h5⟩
theorem Ws.loc {s : Nat} {t : T} (hs0 : V.get s = .v t) (hu : t ≠ .und) (h : ∀ a, Ws x n ks ((unroot s V).set s (.v (.at a t))) Q) : Ws x n ks V Q := by
 intro H F env Lf hn hs
 have hst := hs.see (t1 := .at (env.getD s .und) t) hs0 hu (fun _ h => h) (fun _ h => .inl h) (fun _ h => h) (hs.nd s) (by rw [Den]; exact ⟨rfl, hs.den hs0⟩)
 obtain ⟨ex', env', H', F', Lf', V', h1, h2, h3, h4, h5⟩ := h (env.getD s .und) H F env _ hn hst
 refine ⟨ex', env', H', F', Lf', V', h1, h2, h3, (Tr.less ?_).trans h4, h5⟩
 rintro l ⟨q, hl⟩
 unfold upL at hl
 split at hl
 ·exact ⟨s, hl⟩
 ·exact ⟨q, hl⟩
theorem Ws.partC {c : CCode} {q : Ex -> VEnv -> Prop} (h1 : Ws x n [.c c] V q) (h2 : ∀ ex V', q ex V' -> Kf x n ks Q ex V') : Ws x n (.c c :: ks) V Q := by
 intro H F env Lf hn hs
 obtain ⟨ex1, env1, H1, F1, Lf1, V1, ⟨ex2, env2, H2, g1, g2⟩, k2, k3, k4, k5⟩ := h1 H F env Lf hn hs
 obtain ⟨rfl, rfl, rfl⟩ := g2
 obtain ⟨ex', env', H', F', Lf', V', h1, h2, h3, h4, h5⟩ := h2 _ _ k5 H1 F1 env1 Lf1 k2 k3
 exact ⟨ex', env', H', F', Lf', V', ⟨_, _, _, g1, h1⟩, h2, h3, k4.trans h4, h5⟩
theorem Ws.partO {ops : List (Nat × COper)} {q : Ex -> VEnv -> Prop} (h1 : Ws x n [.o ops] V q) (h2 : ∀ ex V', q ex V' -> Kf x n ks Q ex V') : Ws x n (.o ops :: ks) V Q := by
 intro H F env Lf hn hs
 obtain ⟨ex1, env1, H1, F1, Lf1, V1, ⟨env2, H2, g1, g2⟩, k2, k3, k4, k5⟩ := h1 H F env Lf hn hs
 obtain ⟨rfl, rfl, rfl⟩ := g2
 obtain ⟨ex', env', H', F', Lf', V', h1, h2, h3, h4, h5⟩ := h2 _ _ k5 H1 F1 env1 Lf1 k2 k3
 exact ⟨ex', env', H', F', Lf', V', ⟨_, _, g1, h1⟩, h2, h3, k4.trans h4, h5⟩
class Rn (x : Cx) {α : Type} (e : Option α) (f : outParam Nat) (ts : outParam (List T)) (res : outParam (α -> T)) (outs : outParam (α -> List T)) : Prop where
 run : ∀ r, e = some r -> VJx x (.ca f ts (res r) (outs r))
class Lp (x : Cx) {σ ρ : Type} (f : σ -> Option (σ ⊕ ρ)) (n : outParam Nat) (c : outParam CCode) (m : outParam (σ -> VEnv)) (q : outParam (ρ -> Ex -> VEnv -> Prop)) : Prop where
 run : ∀ s r, iter f s = some r -> Ws x n [.c (.loop c)] (m s) (q r)
class Io0 (x : Cx) (f : Nat) : Prop where
 io : x.io f = []
theorem run_ {α : Type} {e : Option α} {f : Nat} {ts : List T} {res : α -> T} {outs : α -> List T} [h : Rn x e f ts res outs] {r : α} (he : e = some r) : VJx x (.ca f ts (res r) (outs r)) := h.run r he
def Le (q : Ex -> VEnv -> Prop) (ex : Ex) (V : VEnv) : Prop := ∃ V2, VLe V V2 /\ q ex V2
theorem Ws.le {q : Ex -> VEnv -> Prop} (h : Ws x n ks V (Le q)) : Ws x n ks V q := by
 intro H F env Lf hn hs
 obtain ⟨ex', env', H', F', Lf', V', h1, h2, h3, h4, V2, h5, h6⟩ := h H F env Lf hn hs
 obtain ⟨F1, Lf1, g1, g2⟩ := h5 H' F' env' Lf' h3
 exact ⟨ex', env', H', F1, Lf1, V2, h1, h2, g1, h4.trans g2, h6⟩
theorem nqX {σ : Type} {id : Nat} {m : σ -> VEnv} : ∀ r V, ¬ QX id m r .normal V := fun _ _ h => nomatch h.1
theorem nqR {σ : Type} {m : σ -> VEnv} : ∀ r V, ¬ QR m r .normal V := fun _ _ h => nomatch h.1
theorem nqO {σ ρ : Type} {q : σ -> Ex -> VEnv -> Prop} {q' : ρ -> Ex -> VEnv -> Prop} (h : ∀ r V, ¬ q r .normal V) (h' : ∀ r V, ¬ q' r .normal V) : ∀ r V, ¬ QO q q' r .normal V
 | .inl s, V => h s V
 | .inr s, V => h' s V
theorem Lp.of {σ ρ : Type} {f : σ -> Option (σ ⊕ ρ)} {c : CCode} {m : σ -> VEnv} {q : ρ -> Ex -> VEnv -> Prop} (h : ∀ s o, f s = some o -> Ws x n [.c c] (m s) (Le (QO (QN m) q o))) (hq : ∀ r V, ¬ q r .normal V := by repeat' (first | exact nqX | exact nqR | refine nqO ?_ ?_)) : Lp x f n c m q := by
 refine ⟨fun s r hr => ?_⟩
 refine iter_run (P := fun s r => Ws x n [.c (.loop c)] (m s) (q r)) ?_ hr
 intro s o r hf hk hx H F env Lf hn hs
 obtain ⟨ex1, env1, H1, F1, Lf1, V1, ⟨ex2, env2, H2, g1, g2⟩, k2, k3, k4, k5⟩ := (h s o hf).le H F env Lf hn hs
 obtain ⟨rfl, rfl, rfl⟩ := g2
 cases o with
 | inl s' =>
  obtain ⟨rfl, rfl⟩ := k5
  obtain ⟨ex', env', H', F', Lf', V', ⟨ex3, env3, H3, p1, p2⟩, h2, h3, h4, h5⟩ := hk s' rfl H1 F1 env1 Lf1 k2 k3
  exact ⟨ex', env', H', F', Lf', V', ⟨_, _, _, .loopN g1 p1, p2⟩, h2, h3, k4.trans h4, h5⟩
 | inr r' =>
  have e := hx r' rfl
  subst e
  cases ex1 with
  | normal => exact absurd k5 (hq _ _)
  | exit id => exact ⟨_, _, _, F1, Lf1, V1, ⟨_, _, _, .loopX (by simp) g1, rfl, rfl, rfl⟩, k2, k3, k4, k5⟩
  | ret => exact ⟨_, _, _, F1, Lf1, V1, ⟨_, _, _, .loopX (by simp) g1, rfl, rfl, rfl⟩, k2, k3, k4, k5⟩
def RQ (x : Cx) (f : Nat) (rs : List CRes) (na : Nat) (t : T) (outs : List T) (ex : Ex) (V : VEnv) : Prop :=
 (ex = .normal \/ ex = .ret) /\ ∃ rts V2 outs' V3, resV V rs = some (rts, V2) /\ takesV V2 (ioOpds (x.io f) na) = some (outs', V3) /\ PFs (tupT rts :: outs') (t :: outs)
theorem rq_in {f : Nat} {rs : List CRes} {na : Nat} {t : T} {outs : List T} {ex : Ex} {rts outs' : List T} {V2 V3 : VEnv} (hex : ex = .normal \/ ex = .ret) (h1 : resV V rs = some (rts, V2)) (h2 : takesV V2 (ioOpds (x.io f) na) = some (outs', V3)) (h3 : PFs (tupT rts :: outs') (t :: outs)) : RQ x f rs na t outs ex V :=
 ⟨hex, _, _, _, _, h1, h2, h3⟩
theorem CallOk.see {Tb : Nat -> Option CFn} {X : Ext} {io : Nat -> List Nat} {f : Nat} {ts : List T} {t t1 : T} {outs outs1 : List T} (h : CallOk Tb X io f ts t outs) (hp : PFs (t :: outs) (t1 :: outs1)) : CallOk Tb X io f ts t1 outs1 := by
 intro H F vs ls hd hnd hF
 obtain ⟨v, H', F', l1, h1, h2, h3, h4, h5⟩ := h H F vs ls hd hnd hF
 obtain ⟨l2, g1, g2⟩ := hp _ _ _ _ h3 h4
 have hown := Dens.owned h3
 refine ⟨v, H', fun l => F' l \/ (l ∈ l1 /\ l ∉ l2), l2, h1, fun l hl => ?_, ?_, g1.nodup h4, ?_⟩
 ·rcases hl with hl | ⟨hl, _⟩
  ·exact h2 l hl
  ·exact ⟨(hown l hl).1, by rw [(hown l hl).2.1]; simp⟩
 ·refine g2 _ (fun l hl => .inl hl) (fun l hl hn => .inr ⟨hl, hn⟩) (fun l hl => ?_)
  rintro (hf | ⟨_, hn⟩)
  ·exact (hown l (g1.subset hl)).2.2 hf
  ·exact hn hl
 ·refine ⟨h5.sz, h5.fr, fun l hl => h5.pl l (g1.subset hl), fun l hl => .inl (h5.fm l hl), fun l hl => ?_⟩
  rcases hl with hl | ⟨hl, _⟩
  ·exact h5.fp l hl
  ·rcases h5.pl l hl with h | h
   ·exact .inr (.inl h)
   ·exact .inr (.inr h)
theorem Rn.of [hc : Cl x] {α : Type} {e : Option α} {f nt na : Nat} {ts : List T} {res : α -> T} {outs : α -> List T} {rs : List CRes} {b : CCode} (hf : x.fns f = some ⟨nt, na, rs, b⟩) (hl : ts.length = na) (hn : na <= nt) (hio : ((x.io f).all fun j => !(wrs b).contains j) = true)
    (h : ∀ r, e = some r -> Ws x nt [.c b] (startV 0 ts []) (RQ x f rs na (res r) (outs r))) : Rn x e f ts res outs := by
  refine ⟨fun r he => hc.ex _ _ _ _ ?_⟩
  intro H F vs ls hd hnd hfz
  have hvl := hd.length
  obtain ⟨env0, Lf0, k1, k2, k3⟩ := start_ok (i := 0) (Sta.empty nt hfz) hd hnd (by simp) (by simp; omega)
  have henv : env0 = vs ++ List.replicate (nt - na) .und := by
    rw [k2]; simp only [List.take_zero, List.nil_append, Nat.zero_add, List.drop_replicate]
    rw [hvl, hl]
  have hlen0 : env0.length = nt := by rw [henv]; simp; omega
  obtain ⟨ex, env', H', F', Lf', V', h0, h2, h3, h4, hex, rts, V2, outs', V3, hres, hout, hpf⟩ := h r he H F env0 Lf0 hlen0 k1
  obtain ⟨ex1, env1, H1, h1, e1⟩ := h0
  obtain ⟨rfl, rfl, rfl⟩ := e1
  have key : CallOk x.fns X0 x.io f ts (tupT rts) outs' -> CallOk x.fns X0 x.io f ts (res r) (outs r) := fun h => h.see hpf
  obtain ⟨rvs, m1, Lf1, e1, e2, e3⟩ := res_ok' h3 Lo.nil hres
  simp only [List.nil_append] at e2
  obtain ⟨m2, Lf2, g1, g2⟩ := takes_ok e2.st e2.lo hout
  obtain ⟨b1, b2, n1, n2, hb, hnn, d1, d2⟩ := g1.lo.den.split
  have hb1 : b1.length = rvs.length := by rw [d1.length, e2.lo.den.length]
  obtain ⟨rfl, rfl⟩ := List.append_inj hb hb1.symm
  obtain ⟨v, hv1, hv2⟩ := results_eq e1 d1
  have hkeep := (J_keep h1).2
  have hioeq : (ioOpds (x.io f) na).map (Opd.ev env') = ioSel (x.io f) 0 vs := by
    have := io_eq (io := x.io f) (env' := env') vs 0 fun j hj hc => by
      simp only [Nat.zero_add] at hc ⊢
      have hnw : j ∉ wrs b := by
        have := (List.all_eq_true.1 hio) j (by simpa using hc)
        simpa using this
      rw [hkeep j hnw, henv, zD, List.getElem?_append_left hj, <- zD]
    rw [<- this, hvl, hl]
    unfold ioOpds
    rw [List.range_eq_range']
  have hd3 : Dens H' F' (v :: ioSel (x.io f) 0 vs) (tupT rts :: outs') (m1 ++ m2) := by
    rw [Dens]
    rw [hioeq] at d2
    exact ⟨v, _, n1, n2, rfl, hnn, hv2, d2⟩
  have hpl : ∀ l, l ∈ m1 ++ m2 -> Pl Lf' l := by
    intro l hl
    rcases List.mem_append.1 hl with hl | hl
    · exact e3 l hl
    · obtain ⟨s, hs⟩ := g2 l hl; exact ⟨s, e2.sub s l hs⟩
  have h00 : ∀ l, Pl Lf0 l -> l ∈ ls := fun l hl => (k3 l hl).resolve_left (by rintro ⟨s, hs⟩; simp at hs)
  have htr : Tr H F (fun l => l ∈ ls) H' F' (fun l => l ∈ m1 ++ m2) := by
    refine ⟨h4.sz, fun l hl hn => h4.fr l hl fun hp => hn (h00 l hp), fun l hl => ?_, h4.fm, fun l hl => ?_⟩
    · exact (h4.pl l (hpl l hl)).imp (h00 l) id
    · exact (h4.fp l hl).imp id (Or.imp (h00 l) id)
  obtain ⟨l2, p1, p2⟩ := hpf _ _ _ _ hd3 g1.lo.nd
  have hown := Dens.owned hd3
  refine ⟨v, H', fun l => F' l \/ (l ∈ m1 ++ m2 /\ l ∉ l2), l2, .call hf (by rw [hvl, hl]) hn (by rw [henv] at h1; exact h1) hex hv1, fun l hl => ?_, ?_, p1.nodup g1.lo.nd, ?_⟩
  · rcases hl with hl | ⟨hl, _⟩
    · exact h3.fz l hl
    · exact ⟨(hown l hl).1, by rw [(hown l hl).2.1]; simp⟩
  · refine p2 _ (fun l hl => .inl hl) (fun l hl hn => .inr ⟨hl, hn⟩) (fun l hl => ?_)
    rintro (hf | ⟨_, hn⟩)
    · exact (hown l (p1.subset hl)).2.2 hf
    · exact hn hl
  · refine ⟨htr.sz, htr.fr, fun l hl => htr.pl l (p1.subset hl), fun l hl => .inl (htr.fm l hl), fun l hl => ?_⟩
    rcases hl with hl | ⟨hl, _⟩
    · exact htr.fp l hl
    · rcases htr.pl l hl with h | h
      · exact .inr (.inl h)
      · exact .inr (.inr h)
theorem Rn.o [hc : Cl x] {α : Type} {e : Option α} {f nt na : Nat} {ts : List T} {res : α -> T} {outs : α -> List T} {rs : List CRes} {b : CCode} (hf : x.fns f = some ⟨nt, na, rs, b⟩)
  (h : ∀ r, e = some r -> Ws x nt [.c b] (startV 0 ts []) (RQ x f rs na (res r) (outs r))) (hl : ts.length = na := by exact rfl) (hn : na <= nt := by decide) (hio : ((x.io f).all fun j => !(wrs b).contains j) = true := by exact rfl) : Rn x e f ts res outs := Rn.of hf hl hn hio h
section rules
variable {α β ρ σ : Type} {r : ρ} {P : Prop}
def jn (q : σ -> Ex -> VEnv -> Prop) (m : Option σ) : Option σ := m
def jb (id : Nat) (q : σ -> Ex -> VEnv -> Prop) (m : Option σ) : Option σ := m
def lw {γ : Type} (g : γ) (f : σ -> α) : σ -> α := f
def sn (b s : Nat) (t : T) (e : Option α) : Option α := e
def ag {γ : Type} (g : γ) (e : Option α) : Option α := e
def ca (ss : List Nat) (e : Option α) : Option α := e
def lc (b s : Nat) (f : AV -> Option α) : Option α := f .und
def fa (b : Nat) (avs : List AV) (e : Option α) : Option α := e
theorem none_in : (none : Option ρ) = some r -> P := fun h => nomatch h
theorem ite_in {c : Prop} [Decidable c] {a b : Option ρ} (h1 : c -> a = some r -> P) (h2 : ¬ c -> b = some r -> P) : (if c then a else b) = some r -> P := by
 split
 ·exact h1 ‹_›
 ·exact h2 ‹_›
theorem ix_in {l : List α} {i : Int} {k : α -> Option ρ} (h : ∀ v, 0 <= i -> i < (l.length : Int) -> l[i.toNat]? = some v -> l ≠ [] -> i.toNat < l.length -> k v = some r -> P) : (ix l i).bind k = some r -> P := by
 intro e
 obtain ⟨v, h1, h2⟩ := bind_some e
 obtain ⟨g1, g2, g3⟩ := ix_some h1
 exact h v g1 g2 g3 (ix_ne h1) (by omega) h2
theorem app_in {bs : Nat} {l l' : List α} {k : List α -> Option ρ} (h : ∀ v, app bs l l' = some v -> k v = some r -> P) : (app bs l l').bind k = some r -> P := fun e => let ⟨v, h1, h2⟩ := bind_some e; h v h1 h2
theorem mkl_in {bs n : Int} {a : α} {k : List α -> Option ρ} (h : ∀ v, 0 <= n -> bs * n <= 281474976710656 -> n <= 9223372036854775807 -> List.replicate n.toNat a = v -> k v = some r -> P) : (mkl bs n a).bind k = some r -> P := by
 intro e
 obtain ⟨v, h1, h2⟩ := bind_some e
 obtain ⟨g1, g2, g3, g4⟩ := mkl_some h1
 exact h v g1 g2 g3 g4 h2
theorem cut_in {l : List α} {lo hi : Int} {k : List α -> Option ρ} (h : ∀ v, 0 <= lo -> lo <= hi -> hi <= (l.length : Int) -> (l.take hi.toNat).drop lo.toNat = v -> k v = some r -> P) : (cutL l lo hi).bind k = some r -> P := by
 intro e
 obtain ⟨v, h1, h2⟩ := bind_some e
 obtain ⟨g1, g2, g3, g4⟩ := cut_some h1
 exact h v g1 g2 g3 g4 h2
theorem cat_in {a b : List UInt8} {k : List UInt8 -> Option ρ} (h : ∀ v, catOk a b -> ((a.length + b.length : Nat) : Int) <= IntKind.i64.max -> a ++ b = v -> k v = some r -> P) : (cat a b).bind k = some r -> P := by
 intro e
 obtain ⟨v, h1, h2⟩ := bind_some e
 obtain ⟨g1, g2⟩ := cat_some h1
 exact h v (catOk_iff.2 g1) g1 g2 h2
theorem nz_in {n : Int} {k : Unit -> Option ρ} (h : ∀ v, ¬ n = 0 -> k v = some r -> P) : (nz n).bind k = some r -> P := by
 intro e
 obtain ⟨v, h1, h2⟩ := bind_some e
 exact h v (nz_some h1) h2
theorem nn_in {n : Int} {k : Unit -> Option ρ} (h : ∀ v, ¬ n < 0 -> k v = some r -> P) : (nn n).bind k = some r -> P := by
 intro e
 obtain ⟨v, h1, h2⟩ := bind_some e
 exact h v (nn_some h1) h2
theorem nsk_in {n : Nat} {k : Unit -> Option ρ} (h : ∀ v, n = 0 -> k v = some r -> P) : (nsk n).bind k = some r -> P := by
 intro e
 obtain ⟨v, h1, h2⟩ := bind_some e
 exact h v (nsk_some h1) h2
def nel (l : List α) : Option Unit := if l.isEmpty then none else some ()
theorem nel_in {l : List α} {k : Unit -> Option ρ} (h : ∀ v, l ≠ [] -> k v = some r -> P) : (nel l).bind k = some r -> P := by
 intro e
 obtain ⟨v, h1, h2⟩ := bind_some e
 refine h v ?_ h2
 rintro rfl
 simp [nel] at h1
theorem apps_in {bs sk : Nat} {l l' : List α} {k : List α × Nat -> Option ρ} (h : ∀ v, apps bs l sk l' = some v -> k v = some r -> P) : (apps bs l sk l').bind k = some r -> P := fun e => let ⟨v, h1, h2⟩ := bind_some e; h v h1 h2
theorem Ws.evp [hc : Cl x] {k b : Nat} (h : evS n k b ks V = some (ks', V1)) (hw : P -> Ws x n ks' V1 Q) : P -> Ws x n ks V Q := fun p => Ws.ev h (hw p)
theorem Ws.ev1p [hc : Cl x] {i : Nat} {o : COper} {ops : List (Nat × COper)} (h : evalO n [(i, o)] V = some ([], V1)) (hw : P -> Ws x n (.o ops :: ks) V1 Q) : P -> Ws x n (.o ((i, o) :: ops) :: ks) V Q := fun p => Ws.ev1 h (hw p)
theorem Ws.retp (h : P -> Q .ret V) : P -> Ws x n (.c .ret :: ks) V Q := fun p => Ws.ret (h p)
theorem Ws.endp (h : P -> Q .normal V) : P -> Ws x n [] V Q := fun p => Ws.end (h p)
theorem Ws.exitp {id : Nat} (e : unw id ks = none) (h : P -> Q (.exit id) V) : P -> Ws x n (.c (.exit id) :: ks) V Q := fun p => Ws.exit e (h p)
theorem Ws.blockp {id : Nat} {c : CCode} (h : P -> Ws x n (.c c :: .b id :: ks) V Q) : P -> Ws x n (.c (.block id c) :: ks) V Q := fun p => Ws.block (h p)
theorem Ws.condTp {c : Opd} {a d : CCode} (hc : sca V c = .bool true) (h : P -> Ws x n (.c a :: ks) V Q) : P -> Ws x n (.c (.cond c a d) :: ks) V Q := fun p => Ws.condT hc (h p)
theorem Ws.condFp {c : Opd} {a d : CCode} (hc : sca V c = .bool false) (h : P -> Ws x n (.c d :: ks) V Q) : P -> Ws x n (.c (.cond c a d) :: ks) V Q := fun p => Ws.condF hc (h p)
theorem all_in {α : Type} {P : α -> Prop} (h : ∀ a, P a) : ∀ a, P a := h
theorem prod_in {P : α × β -> Prop} (h : ∀ a b, P (a, b)) : ∀ a, P a := fun ⟨a, b⟩ => h a b
theorem someL {v : ρ} {q : Ex -> VEnv -> Prop} {ex : Ex} (h : v = r -> Le q ex V) : some v = some r -> Le q ex V := fun e => h (Option.some.inj e)
theorem someR {v : ρ} {f na : Nat} {rs : List CRes} {t : T} {outs : List T} {ex : Ex} (h : v = r -> RQ x f rs na t outs ex V) : some v = some r -> RQ x f rs na t outs ex V := fun e => h (Option.some.inj e)
theorem Ws.lc [hc : Cl x] {b s : Nat} {t : T} {f : AV -> Option ρ} {V2 : AV -> VEnv} (h : evS n 4000 b ks V = some (ks', V1)) (hs : V1.get s = .v t) (hu : t ≠ .und) (hf : ∀ a, f a = f .und) (hv : ∀ a, (unroot s V1).set s (.v (.at a t)) = V2 a) (hw : ∀ a, f a = some r -> Ws x n ks' (V2 a) Q) : lc b s f = some r -> Ws x n ks V Q :=
 fun he => Ws.ev h (Ws.loc hs hu fun a => by rw [hv]; exact hw a ((hf a).trans he))
def AtOps (V : VEnv) : List AV -> List Opd -> Prop
 | [], [] => True
 | a :: az, .t s :: xs => (∃ t, V.get s = .v (.at a t)) /\ AtOps V az xs
 | _, _ => False
theorem atOps_ev {H : Heap} {F : Nat -> Prop} {env : Env} {Lf : Nat -> List Nat} (h : Sta H F env V Lf) : ∀ {avs : List AV} {xs : List Opd}, AtOps V avs xs -> xs.map (Opd.ev env) = avs
 | [], [], _ => rfl
 | [], _ :: _, hc => by simp [AtOps] at hc
 | _ :: _, [], hc => by simp [AtOps] at hc
 | a :: avs, .c v :: xs, hc => by simp [AtOps] at hc
 | a :: avs, .t s :: xs, hc => by
  obtain ⟨⟨t, h1⟩, h2⟩ := hc
  have hd := h.den h1
  rw [Den] at hd
  simp only [List.map_cons, Opd.ev]
  rw [hd.1]
  congr 1
  exact atOps_ev h h2
theorem sem_fnat {f : Nat} {avs : List AV} {xs : List Opd} (hc : AtOps V avs xs) : SemOp V (.fn f xs) V (.v (.at (.fn f avs) .und)) := by
 intro H F env Lf h
 refine Out.plain h (v := .fn f (xs.map (Opd.ev env))) rfl ?_
 rw [atOps_ev h hc, Den]
 exact ⟨rfl, by rw [Den]⟩
theorem Ws.fa [hcl : Cl x] {b i f : Nat} {avs : List AV} {e : Option ρ} {o : COper} {ops : List (Nat × COper)} {xs : List Opd} {V2 V3 : VEnv} (h : evS n 4000 b ks V = some (.o ((i, o) :: ops) :: ks', V1)) (ho : o.op = .fn f xs) (hg : gV V1 o.guard = some true) (hd : dstLt n o.dst = true) (hu : needUs V1 o = true) (hc : AtOps V1 avs xs) (hp : putR V1 o.dst (.v (.at (.fn f avs) .und)) = some V2) (hv : V2.drops o.ks = V3) (hw : e = some r -> Ws x n (.o ops :: ks') V3 Q) : fa b avs e = some r -> Ws x n ks V Q := by
 intro he
 subst hv
 exact Ws.ev h (Ws.vj (ops := [(i, o)]) (VJ.opSem hg hd hu (by rw [ho]; exact sem_fnat hc) hp .opNil) (hw he))
def cp (b : Nat) (e : Option α) : Option α := e
def cs (b : Nat) (e : Option α) : Option α := e
theorem Ws.cp [hcl : Cl x] {b i a c r0 : Nat} {e : Option ρ} {o : COper} {ops : List (Nat × COper)} {y : Bool} {l ds : List Int} {V0 V2 V3 : VEnv} (h : evS n 4000 b ks V = some (.o ((i, o) :: ops) :: ks', V1)) (ho : o.op = .cpy 1 (.t a) (.t c)) (ha : V1.get a = .al r0) (hr : V1.get r0 = .v (.sl true y 1 0 (arr eI true l))) (hy : y = true -> l ≠ []) (hb : V1.get c = .v (.sl false false 1 1 (arr eI false ds))) (hg : gV V1 o.guard = some true) (hd : dstLt n o.dst = true) (hu : needUs V1 o = true) (h0 : (cut r0 [] V1).set r0 (.v (.sl true y 1 0 (arr eI true (cpL l ds)))) = V0) (hp : putR V0 o.dst (.v (.int .i64 (min ds.length l.length : Nat))) = some V2) (hv : V2.drops o.ks = V3) (hw : e = some r -> Ws x n (.o ops :: ks') V3 Q) : cp b e = some r -> Ws x n ks V Q := by
 intro he
 subst hv h0
 exact Ws.ev h (Ws.vj (ops := [(i, o)]) (VJ.opSem hg hd hu (by rw [ho]; exact sem_cpy ha hr hy hb) hp .opNil) (hw he))
theorem Ws.cs [hcl : Cl x] {b r0 a c q t1 a2 c2 t2 d i1 i2 i3 i4 i5 : Nat} {u1 u2 u3 u4 : List (Nat × Nat)} {k1 k2 k3 k4 k5 : List Nat} {l : List Int} {k : Int} {e : Option ρ} {ops : List (Nat × COper)} {V2 V3 : VEnv}
  (h : evS n 4000 b ks V = some (.o ((i1, ⟨some t1, .sls 1 (.t a) (some (.t c)) none none, none, u1, k1⟩) :: (i2, ⟨some a2, .mv (.t r0), none, u2, k2⟩) :: (i3, ⟨some c2, .mv (.t q), none, u3, k3⟩) :: (i4, ⟨some t2, .sls 1 (.t a2) none (some (.t c2)) none, none, u4, k4⟩) :: (i5, ⟨some d, .cpy 1 (.t t1) (.t t2), none, [], k5⟩) :: ops) :: ks', V1))
  (ha : V1.get a = .al r0) (hr : V1.get r0 = .v (.sl true false 1 0 (arr eI true l))) (hc : V1.get c = .v (.int .i64 k)) (hq : V1.get q = .v (.int .i64 k)) (h0 : 0 <= k) (hk : k <= (l.length : Int))
  (hV : V1.drops [a, c, t1, a2, c2, t2, d] = V2) (hr1 : V2.get r0 = .v (.sl true false 1 0 (arr eI true l)))
  (hnd : [r0, q, t1, a2, c2, t2, d].Nodup) (hlt : ([t1, a2, c2, t2, d].all fun s => decide (s < n)) = true)
  (hV3 : (unroot d ((((((cut r0 [] V2).set r0 (.v (.sl true false 1 0 (arr eI true (csL l k.toNat))))).drop t1).drop a2).drop c2).drop t2)).set d (.v (.int .i64 (min k ((l.length : Int) - k)))) = V3)
  (hw : e = some r -> Ws x n (.o ops :: ks') V3 Q) : cs b e = some r -> Ws x n ks V Q := by
 intro he
 refine Ws.ev h ?_
 intro H F env Lf hn hs
 subst hn
 simp only [List.all_cons, List.all_nil, Bool.and_true, Bool.and_eq_true, decide_eq_true_eq] at hlt
 obtain ⟨g1, g2, g3, g4, g5⟩ := hlt
 obtain ⟨m, rfl⟩ : ∃ m : Nat, k = m := ⟨k.toNat, by omega⟩
 obtain ⟨env1, H1, Lf1, j1, j2, j3, j4⟩ := cs_ok (Tb := x.fns) (X := X0) (i1 := i1) (i2 := i2) (i3 := i3) (i4 := i4) (i5 := i5) (u1 := u1) (u2 := u2) (u3 := u3) (u4 := u4) (k1 := k1) (k2 := k2) (k3 := k3) (k4 := k4) (k5 := k5) hs ha hr hc hq (by omega) hV hr1 hnd g1 g2 g3 g4 g5
 have e2 : ((min m (l.length - m) : Nat) : Int) = min (m : Int) ((l.length : Int) - m) := by omega
 rw [e2] at j3
 rw [Int.toNat_natCast] at hV3
 rw [hV3] at j3
 obtain ⟨ex', env', H', F', Lf', V', ⟨env2, H2, p1, p2⟩, q2, q3, q4, q5⟩ := hw he H1 F env1 Lf1 j2 j3
 exact ⟨ex', env', H', F', Lf', V', ⟨env2, H2, J_app j1 p1, p2⟩, q2, q3, j4.trans q4, q5⟩
def dl (b : Nat) (e : Option α) : Option α := e
theorem sem_ldm {n i r k : Nat} {p : List Nat} {ag : Bool} {cs : List T} {t0 u : T} (ha : adrOf V (.t i) = some (.own r p k cs)) (ht0 : V.get r = .v t0) (hu : rng cs k n ag = some u) : SemOp V (.ld n ag (.t i)) ((cut r p V).set r (.v (T.setNode (holes cs k n) t0 p))) (.v u) := by
 intro H F env Lf h
 obtain ⟨l, hloc, he⟩ := adr_ok h ha
 obtain ⟨t0', e1, e2, e3⟩ := id hloc
 rw [ht0] at e1
 simp only [S.v.injEq] at e1
 subst e1
 obtain ⟨hkn, hag, hu'⟩ := rng_split hu
 obtain ⟨avs0, rest, lc, g1, g2, g3, g4, g5, g6, g7⟩ := h.node hloc
 obtain ⟨a1, a2, a3, m1, m2, m3, rfl, rfl, l1, l2, d1, d2, d3⟩ := dens_mid g6 hkn
 obtain ⟨v, hv, hv'⟩ := ld_val (ag := ag) (p := .t i) he g1 (by rw [g2]; simp) (by rw [g4]; simp only [List.append_assoc]) l1 l2.symm hag (avs := a2) (rest := a3 ++ rest) (pre := a1)
 have hcond : if ag then v = .agg (((H.get l).cells.drop k).take n) else n = 1 /\ v = (H.get l).cells.getD k .und := by
  have hcell : (H.get l).cells.drop k = a2 ++ (a3 ++ rest) := by
   rw [g4]; simp only [List.append_assoc]; rw [<- l1, List.drop_left]
  cases ag with
  | true =>
   simp only [if_true] at hv' ⊢
   rw [hv', hcell, <- l2, List.take_left]
  | false =>
   simp only [Bool.false_eq_true, if_false] at hv' ⊢
   refine ⟨hag.resolve_left (by simp), ?_⟩
   rw [hv', zD, zD, <- Nat.add_zero k, <- List.getElem?_drop, hcell, List.getElem?_append_left (by rw [l2, hag.resolve_left (by simp)]; exact Nat.zero_lt_one)]
 obtain ⟨ls, Lf', h1, h2⟩ := rng_take h Lo.nil ht0 e2 e3 hkn hcond hu
 refine ⟨v, H, Lf', ls, hv, h1.st, ⟨Nat.le_refl _, fun _ _ _ => rfl, fun l hl => ?_, fun _ h => h, fun _ h => .inl h⟩, by simpa using h1.lo⟩
 rcases hl with ⟨s, hs⟩ | hl
 ·exact .inl ⟨s, h1.sub s l hs⟩
 ·exact .inl (h2 l hl)
def pl (b : Bool) (e : Option α) : Option α := e
theorem pl_in {b : Bool} {e : Option α} {v : α} {P : Prop} (h1 : b = true -> e = some v -> P) (h2 : b = false -> e = some v -> P) : pl b e = some v -> P := by
 cases b
 ·exact h2 rfl
 ·exact h1 rfl
def ml (l : List α) (k : Nat) (i : Int) : Option α := if i = ((k : Nat) : Int) then l[k]? else none
theorem ml_in {l : List α} {k : Nat} {i : Int} {g : α -> Option ρ} (h : ∀ v, i = ((k : Nat) : Int) -> k < l.length -> l[k]? = some v -> g v = some r -> P) : (ml l k i).bind g = some r -> P := by
 intro e
 obtain ⟨v, h1, h2⟩ := bind_some e
 unfold ml at h1
 split at h1
 ·rename_i hi
  exact h v hi (zS h1).1 h1 h2
 ·cases h1
def arrM (E : En α) (k : Nat) (l : List α) : List T := List.replicate (k * E.w) .und ++ (arr E true l).drop (k * E.w)
theorem arrM_len {E : En α} {k : Nat} {l : List α} (h : k < l.length) : (arrM E k l).length = l.length * E.w := by
 unfold arrM
 have := Nat.mul_le_mul_right E.w (Nat.le_of_lt h)
 rw [List.length_append, List.length_replicate, List.length_drop, arr_len]; omega
theorem arrM_zero {E : En α} {l : List α} : arrM E 0 l = arr E true l := by simp [arrM]
theorem arrM_rng {E : En α} {k : Nat} {l : List α} {v : α} (h : l[k]? = some v) : rng (arrM E k l) (k * E.w) E.w true = some (.agg (E.c true v)) := by
 obtain ⟨hk, e⟩ := zS h
 have hm : k * E.w + E.w <= l.length * E.w := by
  have := Nat.mul_le_mul_right E.w (show k + 1 <= l.length by omega)
  rw [Nat.add_mul] at this; omega
 unfold rng
 rw [if_pos (by rw [arrM_len hk]; exact hm), if_pos rfl]
 congr 2
 unfold arrM
 rw [List.drop_left' (by simp), arr_drop, List.drop_eq_getElem_cons hk, arr_cons, e, <- E.hw true v, List.take_left]
theorem arrM_holes {E : En α} {k : Nat} {l : List α} (hk : k < l.length) : holes (arrM E k l) (k * E.w) E.w = arrM E (k + 1) l := by
 unfold holes arrM
 rw [List.take_left' (by simp), <- List.drop_drop, List.drop_left' (by simp), List.drop_drop, <- List.append_assoc, List.replicate_append_replicate, Nat.add_mul, Nat.one_mul]
def mv (b : Nat) (e : Option α) : Option α := e
theorem Ws.mv [hcl : Cl x] {b i s r0 d w k sk : Nat} {y : Bool} {E : En α} {l : List α} {v : α} {us : List (Nat × Nat)} {kk : List Nat} {e : Option ρ} {ops : List (Nat × COper)} {V2 V3 V4 : VEnv}
  (h : evS n 4000 b ks V = some (.o ((i, ⟨some d, .ld w true (.t s), none, us, kk⟩) :: ops) :: ks', V1)) (ha : V1.get s = .adr r0 [] (k * w)) (hr : V1.get r0 = .v (.sl true y w sk (arrM E k l))) (hw : E.w = w) (hl : l[k]? = some v)
  (hd : dstLt n (some d) = true) (hu : needUs V1 ⟨some d, .ld w true (.t s), none, us, kk⟩ = true) (h0 : (cut r0 [] V1).set r0 (.v (.sl true y w sk (arrM E (k + 1) l))) = V2) (hp : putR V2 (some d) (.v (.agg (E.c true v))) = some V3) (hv : V3.drops kk = V4) (hw' : e = some r -> Ws x n (.o ops :: ks') V4 Q) : mv b e = some r -> Ws x n ks V Q := by
 intro he
 subst hv h0 hw
 have hk := (zS hl).1
 have hne : (arrM E k l).isEmpty = false := by
  rw [List.isEmpty_eq_false_iff, <- List.length_pos_iff, arrM_len hk]
  exact Nat.mul_pos (by omega) E.hp
 have hnode : (T.sl true y E.w sk (arrM E k l)).node [] = some (arrM E k l) := by simp [T.node, T.kids, hne]
 have had : adrOf V1 (.t s) = some (.own r0 [] (k * E.w) (arrM E k l)) := by
  simp only [adrOf, ha, hr, hnode]
 have hsem := sem_ldm (n := E.w) (ag := true) had hr (arrM_rng hl)
 rw [arrM_holes hk] at hsem
 exact Ws.ev h (Ws.vj (ops := [(i, ⟨some d, .ld E.w true (.t s), none, us, kk⟩)]) (VJ.opSem rfl hd hu hsem hp .opNil) (hw' he))
def mf (b : Nat) (e : Option α) : Option α := e
theorem Ws.mf [hcl : Cl x] {b i s r0 d k : Nat} {cs : List T} {u : T} {us : List (Nat × Nat)} {kk : List Nat} {e : Option ρ} {ops : List (Nat × COper)} {V2 V3 V4 : VEnv}
  (h : evS n 4000 b ks V = some (.o ((i, ⟨some d, .ld 1 false (.t s), none, us, kk⟩) :: ops) :: ks', V1)) (ha : V1.get s = .adr r0 [] k) (hr : V1.get r0 = .v (.ptr true cs)) (hl : cs[k]? = some u)
  (hd : dstLt n (some d) = true) (hu : needUs V1 ⟨some d, .ld 1 false (.t s), none, us, kk⟩ = true) (h0 : (cut r0 [] V1).set r0 (.v (.ptr true (cs.set k .und))) = V2) (hp : putR V2 (some d) (.v u) = some V3) (hv : V3.drops kk = V4) (hw' : e = some r -> Ws x n (.o ops :: ks') V4 Q) : mf b e = some r -> Ws x n ks V Q := by
 intro he
 subst hv h0
 obtain ⟨hk, e1⟩ := zS hl
 have had : adrOf V1 (.t s) = some (.own r0 [] k cs) := by
  simp only [adrOf, ha, hr, T.node, T.kids]
 have hrng : rng cs k 1 false = some u := by
  unfold rng
  rw [if_pos (by omega), if_neg (by simp), if_pos rfl, hl]
 have hh : holes cs k 1 = cs.set k .und := by
  unfold holes
  rw [List.set_eq_take_append_cons_drop, if_pos hk]; rfl
 have hsem := sem_ldm (n := 1) (ag := false) had hr hrng
 rw [hh] at hsem
 exact Ws.ev h (Ws.vj (ops := [(i, ⟨some d, .ld 1 false (.t s), none, us, kk⟩)]) (VJ.opSem rfl hd hu hsem hp .opNil) (hw' he))
theorem PFs.und : ∀ {X R : List T}, PFs (X ++ R) (List.replicate X.length .und ++ R)
 | [], R => by
  have : PFs R R := by
   induction R with
   | nil => exact PFs.nil
   | cons t R ih => exact PFs.cons (PF.refl t) ih
  exact this
 | t :: X, R => by
  rw [List.length_cons, List.replicate_succ]
  exact PFs.cons (fun H F v ls hd hn => ⟨[], by simp, fun G _ _ _ => by rw [Den]⟩) PFs.und
def mg (b : Nat) (e : Option α) : Option α := e
def CallK (x : Cx) (n : Nat) (V V1 : VEnv) (xs : List Opd) (rs : List Nat) (t : T) (outs : List T) (o : COper) (W : VEnv -> Prop) : Prop :=
 (rs.isEmpty || (t.alone && alones outs)) = true /\ ∃ V2 V3, backs V V1 n V1 xs outs = some V2 /\ putR V2 o.dst (.v t) = some V3 /\ W (V3.drops o.ks)
theorem callk_in {V2 V3 V4 : VEnv} {xs : List Opd} {rs : List Nat} {t : T} {outs : List T} {o : COper} {W : VEnv -> Prop} (h1 : (rs.isEmpty || (t.alone && alones outs)) = true) (h2 : backs V V1 n V1 xs outs = some V2) (h3 : putR V2 o.dst (.v t) = some V3) (h4 : V3.drops o.ks = V4) (h : P -> W V4) : P -> CallK x n V V1 xs rs t outs o W := fun p => ⟨h1, V2, V3, h2, h3, h4 ▸ h p⟩
theorem Ws.call [hcl : Cl x] {e : Option α} {k : α -> Option ρ} {f f' : Nat} {ts ts' : List T} {res : α -> T} {outs : α -> List T} [hr : Rn x e f ts res outs] {i : Nat} {o : COper} {ops : List (Nat × COper)} {rs : List Nat} {xs : List Opd}
  (hg : gV V o.guard = some true) (hd : dstLt n o.dst = true) (hc : callV x.io V o.op = some (f', ts', rs, V1, xs)) (hf : f' = f) (ha : TLes ts' ts) (hus : (o.us.isEmpty || xs.isEmpty || usOk V1 o.us []) = true)
  (h : ∀ v, k v = some r -> CallK x n V V1 xs rs (res v) (outs v) o fun V4 => Ws x n (.o ops :: ks) V4 Q) : e.bind k = some r -> Ws x n (.o ((i, o) :: ops) :: ks) V Q := by
 intro he
 obtain ⟨v, h1, h2⟩ := bind_some he
 subst hf
 obtain ⟨g1, V2, V3, g2, g3, g4⟩ := h v h2
 exact Ws.vj (ops := [(i, o)]) (VJ.opCall hg hd hc hus ((hr.run v h1).res ha (TLe.refl _) (TLes.refl _)) g1 g2 g3 .opNil) g4
theorem Ws.ca [hcl : Cl x] {e : Option α} {k : α -> Option ρ} {f f' s : Nat} {ss : List Nat} {avs : List AV} {u : T} {ts ts' : List T} {res : α -> T} {outs : α -> List T} [hr : Rn x e f ts res outs] {i : Nat} {o : COper} {ops : List (Nat × COper)} {rs : List Nat} {xs ys : List Opd}
  (hop : o.op = .callv (.t s) xs) (hs : V.get s = .v (.at (.fn f' avs) u)) (hcp : AtCaps V avs ss) (hg : gV V o.guard = some true) (hd : dstLt n o.dst = true) (hc : callV x.io V (.call f' (xs ++ ss.map Opd.t)) = some (f', ts', rs, V1, ys)) (hf : f' = f) (ha : TLes ts' ts) (hus : (o.us.isEmpty || ys.isEmpty || usOk V1 o.us []) = true)
  (h : ∀ v, k v = some r -> CallK x n V V1 ys rs (res v) (outs v) o fun V4 => Ws x n (.o ops :: ks) V4 Q) : (ca ss e).bind k = some r -> Ws x n (.o ((i, o) :: ops) :: ks) V Q := by
 intro he
 obtain ⟨v, h1, h2⟩ := bind_some he
 subst hf
 obtain ⟨g1, V2, V3, g2, g3, g4⟩ := h v h2
 exact Ws.vj (ops := [(i, o)]) (VJ.rew hop rfl hs hcp (VJ.opCall (o := { o with op := .call f' (xs ++ ss.map Opd.t) }) hg hd hc hus ((hr.run v h1).res ha (TLe.refl _) (TLes.refl _)) g1 g2 g3 .opNil)) g4
theorem Ws.loop {f : σ -> Option (σ ⊕ α)} {s : σ} {k : α -> Option ρ} {c : CCode} {m : σ -> VEnv} {q : α -> Ex -> VEnv -> Prop} [hl : Lp x f n c m q] (hv : VLe V (m s)) (h : ∀ w ex V', q w ex V' -> k w = some r -> Kf x n ks Q ex V') : (iter f s).bind k = some r -> Ws x n (.c (.loop c) :: ks) V Q := by
 intro he
 obtain ⟨w, h1, h2⟩ := bind_some he
 exact Ws.gh hv (Ws.partC (hl.run s w h1) fun ex V' hq => h w ex V' hq h2)
theorem Ws.joinB {id : Nat} {c : CCode} {q : σ -> Ex -> VEnv -> Prop} {m : Option σ} {k : σ -> Option ρ} (h1 : ∀ w, m = some w -> Ws x n [.c c, .b id] V (Le (q w))) (h2 : ∀ w ex V', q w ex V' -> k w = some r -> Kf x n ks Q ex V') : (jb id q m).bind k = some r -> Ws x n (.c (.block id c) :: ks) V Q := by
 intro he
 obtain ⟨w, g1, g2⟩ := bind_some he
 exact Ws.partC (Ws.block (h1 w g1)).le fun ex V' hq => h2 w ex V' hq g2
theorem Ws.joinC {c : CCode} {q : σ -> Ex -> VEnv -> Prop} {m : Option σ} {k : σ -> Option ρ} (h1 : ∀ w, m = some w -> Ws x n [.c c] V (Le (q w))) (h2 : ∀ w ex V', q w ex V' -> k w = some r -> Kf x n ks Q ex V') : (jn q m).bind k = some r -> Ws x n (.c c :: ks) V Q := by
 intro he
 obtain ⟨w, g1, g2⟩ := bind_some he
 exact Ws.partC (h1 w g1).le fun ex V' hq => h2 w ex V' hq g2
theorem Ws.joinO {ops : List (Nat × COper)} {q : σ -> Ex -> VEnv -> Prop} {m : Option σ} {k : σ -> Option ρ} (h1 : ∀ w, m = some w -> Ws x n [.o ops] V (Le (q w))) (h2 : ∀ w ex V', q w ex V' -> k w = some r -> Kf x n ks Q ex V') : (jn q m).bind k = some r -> Ws x n (.o ops :: ks) V Q := by
 intro he
 obtain ⟨w, g1, g2⟩ := bind_some he
 exact Ws.partO (h1 w g1).le fun ex V' hq => h2 w ex V' hq g2
theorem po {q1 : α -> Ex -> VEnv -> Prop} {q2 : β -> Ex -> VEnv -> Prop} {k : α ⊕ β -> Option ρ} {K : Ex -> VEnv -> Prop} (h1 : ∀ w ex V', q1 w ex V' -> k (.inl w) = some r -> K ex V') (h2 : ∀ w ex V', q2 w ex V' -> k (.inr w) = some r -> K ex V') : ∀ w ex V', QO q1 q2 w ex V' -> k w = some r -> K ex V'
 | .inl w, ex, V', hq, hk => h1 w ex V' hq hk
 | .inr w, ex, V', hq, hk => h2 w ex V' hq hk
theorem pn {m : α -> VEnv} {k : α -> Option ρ} (h : ∀ w, k w = some r -> Ws x n ks (m w) Q) : ∀ w ex V', QN m w ex V' -> k w = some r -> Kf x n ks Q ex V' := by
 rintro w ex V' ⟨rfl, rfl⟩ hk
 exact h w hk
theorem px {id : Nat} {m : α -> VEnv} {k : α -> Option ρ} (hu : unw id ks = some ks') (h : ∀ w, k w = some r -> Ws x n ks' (m w) Q) : ∀ w ex V', QX id m w ex V' -> k w = some r -> Kf x n ks Q ex V' := by
 rintro w ex V' ⟨rfl, rfl⟩ hk
 exact kf_unw hu (h w hk)
theorem px0 {id : Nat} {m : α -> VEnv} {k : α -> Option ρ} (hu : unw id ks = none) (h : ∀ w, k w = some r -> Q (.exit id) (m w)) : ∀ w ex V', QX id m w ex V' -> k w = some r -> Kf x n ks Q ex V' := by
 rintro w ex V' ⟨rfl, rfl⟩ hk
 exact kf_out hu (h w hk)
theorem pr {m : α -> VEnv} {k : α -> Option ρ} (h : ∀ w, k w = some r -> Q .ret (m w)) : ∀ w ex V', QR m w ex V' -> k w = some r -> Kf x n ks Q ex V' := by
 rintro w ex V' ⟨rfl, rfl⟩ hk
 exact kf_ret (h w hk) ks
theorem leO1 {q1 : α -> Ex -> VEnv -> Prop} {q2 : β -> Ex -> VEnv -> Prop} {w : α} {ex : Ex} (h : Le (q1 w) ex V) : Le (QO q1 q2 (.inl w)) ex V := h
theorem leO2 {q1 : α -> Ex -> VEnv -> Prop} {q2 : β -> Ex -> VEnv -> Prop} {w : β} {ex : Ex} (h : Le (q2 w) ex V) : Le (QO q1 q2 (.inr w)) ex V := h
theorem leN {m : α -> VEnv} {w : α} (h : VLe V (m w)) : Le (QN m w) .normal V := ⟨_, h, rfl, rfl⟩
theorem leX {id : Nat} {m : α -> VEnv} {w : α} (h : VLe V (m w)) : Le (QX id m w) (.exit id) V := ⟨_, h, rfl, rfl⟩
theorem leR {m : α -> VEnv} {w : α} (h : VLe V (m w)) : Le (QR m w) .ret V := ⟨_, h, rfl, rfl⟩
theorem Ws.sn [hc : Cl x] {e : Option ρ} {b s : Nat} {t t0 : T} {V2 : VEnv} (h : evS n 4000 b ks V = some (ks', V1)) (hs : V1.get s = .v t0) (hu : t0 ≠ .und) (hp : PF t0 t) (hv : (unroot s V1).set s (.v t) = V2) (hw : e = some r -> Ws x n ks' V2 Q) : sn b s t e = some r -> Ws x n ks V Q :=
 fun he => Ws.ev h (Ws.gh (vle_pf hs hu hp hv) (hw he))
end rules
theorem Sta.getx {H : Heap} {F : Nat -> Prop} {env : Env} {Lf : Nat -> List Nat} (h : Sta H F env V Lf) (hg : ∀ s, V1.get s = V.get s) : Sta H F env V1 Lf :=
 ⟨h.fz, fun s => by rw [hg]; exact (h.sr s).congr fun r _ => ⟨hg r, rfl⟩, h.nd, h.dj, fun s hs => by rw [hg]; exact h.ln s hs⟩
theorem VLe.getx (hg : ∀ s, V1.get s = V.get s) : VLe V V1 := fun H F env Lf h => ⟨F, Lf, h.getx hg, Tr.refl _ _ _⟩
def VQ (pre V W : VEnv) : Prop := VLe (pre ++ V) (pre ++ W)
theorem vq_in (h : VQ [] V V1) : VLe V V1 := h
theorem vq_end {pre : VEnv} : VQ pre [] [] := VLe.refl _
theorem vq_eq {pre W : VEnv} {y : Nat × S} (h : VQ (pre ++ [y]) V W) : VQ pre (y :: V) (y :: W) := by unfold VQ at h ⊢; simpa using h
theorem get_app {pre : VEnv} {k : Nat} {W : VEnv} (hk : ∀ e ∈ pre, e.1 ≠ k) : (pre ++ W).get k = W.get k := by
 induction pre with
 | nil => rfl
 | cons e pre ih =>
  obtain ⟨a, b⟩ := e
  simp only [List.cons_append, VEnv.get]
  rw [if_neg (by have := hk (a, b) (by simp); simpa using this)]
  exact ih fun e he => hk e (by simp [he])
theorem get_upto {pre : VEnv} {k : Nat} {a b : S} {W : VEnv} : ∀ {s : Nat}, s ≠ k -> (pre ++ (k, a) :: W).get s = (pre ++ (k, b) :: W).get s := by
 intro s hs
 induction pre with
 | nil => simp only [List.nil_append, VEnv.get]; rw [if_neg (Ne.symm hs), if_neg (Ne.symm hs)]
 | cons e pre ih =>
  obtain ⟨c, d⟩ := e
  simp only [List.cons_append, VEnv.get]; rw [ih]
theorem get_root {k : Nat} : ∀ {W : VEnv}, (W.all fun e => !e.2.rooted k) = true -> ∀ s, (W.get s).rooted k = false
 | [], _, s => rfl
 | (a, b) :: W, h, s => by
  simp only [List.all_cons, Bool.and_eq_true] at h
  simp only [VEnv.get]
  split
  ·simpa using h.1
  ·exact get_root h.2 s
theorem vq_pf {pre W : VEnv} {k : Nat} {t t1 : T} (hu : t ≠ .und) (hp : PF t t1) (h1 : (pre.all fun e => !(e.1 == k)) = true) (h2 : ((pre ++ V).all fun e => !e.2.rooted k) = true) (h : VQ (pre ++ [(k, .v t1)]) V W) : VQ pre ((k, .v t) :: V) ((k, .v t1) :: W) := by
 unfold VQ at h ⊢
 rw [List.append_assoc, List.append_assoc, List.singleton_append, List.singleton_append] at h
 have hk : ∀ e ∈ pre, e.1 ≠ k := fun e he => by
  have := List.all_eq_true.1 h1 e he
  simpa using this
 have hg : (pre ++ (k, S.v t) :: V).get k = .v t := by rw [get_app hk]; simp [VEnv.get]
 refine (vle_pf hg hu hp rfl).trans (VLe.trans (VLe.getx fun s => ?_) h)
 rw [VEnv.get_set, unroot_get]
 by_cases e : k = s
 ·subst e
  rw [if_pos rfl, get_app hk]; simp [VEnv.get]
 ·rw [if_neg e]
  have hr : ((pre ++ (k, S.v t) :: V).get s).rooted k = false := by
   refine get_root ?_ s
   rw [List.all_append] at h2 ⊢
   simp only [Bool.and_eq_true, List.all_cons] at h2 ⊢
   exact ⟨h2.1, rfl, h2.2⟩
  rw [hr]
  simp only [Bool.false_eq_true, if_false]
  exact get_upto (Ne.symm e)
theorem get_none {k : Nat} : ∀ {V : VEnv}, (V.all fun e => !(e.1 == k)) = true -> V.get k = .v .und
 | [], _ => rfl
 | (a, b) :: V, h => by
  simp only [List.all_cons, Bool.and_eq_true, Bool.not_eq_true', beq_eq_false_iff_ne] at h
  rw [VEnv.get, if_neg h.1, get_none h.2]
theorem vq_drop {pre V W : VEnv} {k : Nat} {t : T} (h1 : (pre.all fun e => !(e.1 == k)) = true) (h0 : (V.all fun e => !(e.1 == k)) = true) (h2 : ((pre ++ V).all fun e => !e.2.rooted k) = true) (h : VQ pre V W) : VQ pre ((k, .v t) :: V) W := by
 unfold VQ at h ⊢
 have hk : ∀ e ∈ pre, e.1 ≠ k := fun e he => by
  have := List.all_eq_true.1 h1 e he
  simpa using this
 have hg : (pre ++ (k, S.v t) :: V).get k = .v t := by rw [get_app hk]; simp [VEnv.get]
 have hn : (pre ++ V).get k = .v .und := by rw [get_app hk, get_none h0]
 have ho : ∀ s, s ≠ k -> (pre ++ (k, S.v t) :: V).get s = (pre ++ V).get s := fun s hs => by
  clear h1 h2 hg hn h
  induction pre with
  | nil => simp only [List.nil_append, VEnv.get]; rw [if_neg (Ne.symm hs)]
  | cons e pre ih =>
   obtain ⟨c, d⟩ := e
   simp only [List.cons_append, VEnv.get]; rw [ih fun e he => hk e (List.mem_cons_of_mem _ he)]
 by_cases hu : t = .und
 ·subst hu
  refine VLe.trans (VLe.getx fun s => ?_) h
  by_cases e : s = k
  ·subst e; rw [hg, hn]
  ·exact (ho s e).symm
 have hp : PF t .und := fun H F v ls hd hn => ⟨[], by simp, fun G _ _ _ => by rw [Den]⟩
 refine (vle_pf hg hu hp rfl).trans (VLe.trans (VLe.getx fun s => ?_) h)
 rw [VEnv.get_set, unroot_get]
 by_cases e : k = s
 ·subst e
  rw [if_pos rfl, hn]
 ·rw [if_neg e]
  have hr : ((pre ++ (k, S.v t) :: V).get s).rooted k = false := by
   refine get_root ?_ s
   rw [List.all_append] at h2 ⊢
   simp only [Bool.and_eq_true, List.all_cons] at h2 ⊢
   exact ⟨h2.1, rfl, h2.2⟩
  rw [if_neg (by rw [hr]; simp)]
  exact (ho s (Ne.symm e)).symm
theorem PF.own {e : Nat} {cs cs1 cs2 : List T} (h1 : cs1 = cs2) (h : TLes cs cs2) (hl : cs.length = cs2.length) : PF (.sl true false e 0 cs) (.sl true true e 0 cs1) := by subst h1; exact .le (.own h hl)
theorem TLe.own2 {e : Nat} {cs cs1 cs2 : List T} (h1 : cs1 = cs2) (h : TLes cs cs2) (hl : cs.length = cs2.length) : TLe (.sl true false e 0 cs) (.sl true true e 0 cs1) := by subst h1; exact .own h hl
theorem TLe.sh2 {y : Bool} {e : Nat} {cs cs1 cs2 : List T} (h1 : cs1 = cs2) (h : TLes cs cs2) : TLe (.sl false y e 0 cs) (.sl false y e 1 cs1) := by subst h1; exact .sh h
theorem PFs.tle {t t1 : T} {ts ts1 : List T} (h : TLe t t1) (h' : PFs ts ts1) : PFs (t :: ts) (t1 :: ts1) := .cons (.le h) h'
def lb {σ : Type} (b k s : Nat) (asd : List Nat) (q : σ -> VEnv) (m : Option σ) : Option σ := m
def UQ (s : Nat) (t : T) (wr asd : List Nat) (V0 q : VEnv) (_ : Ex) (V : VEnv) : Prop := Unl s t wr asd V0 V q
theorem unl_in {α : Type} {v w : α} {s : Nat} {t : T} {wr asd : List Nat} {V0 V q : VEnv} {ex : Ex} (h : v = w -> Unl s t wr asd V0 V q) : some v = some w -> UQ s t wr asd V0 q ex V := fun e => h (Option.some.inj e)
theorem Ws.lend {ops ops2 : List (Nat × COper)} {s : Nat} {t : T} {V2 : VEnv} (asd : List Nat) (hs0 : V.get s = .v t) (hu : t ≠ .und) (hwr : (opsWrs ops).contains s = false)
  (h1 : Ws x n [.o ops] (((unroot s V).set s (.v t.frz)).drops asd) (UQ s t (opsWrs ops) asd V V2)) (h2 : Ws x n (.o ops2 :: ks) V2 Q) : Ws x n (.o (ops ++ ops2) :: ks) V Q := by
 intro H F env Lf hn hs
 have hst := hs.see (G := fun l => F l \/ l ∈ Lf s) (l1 := []) hs0 hu (fun _ h => .inl h) (fun _ h => h) (by simp) List.nodup_nil (Den.frz (fun _ h => .inl h) (fun _ h => .inr h) (hs.den hs0))
 obtain ⟨Lf0, hd1, hd2⟩ := hst.drops asd
 obtain ⟨ex1, env1, H1, F1, Lf1, V1, ⟨env2, H2, g1, g2⟩, k2, k3, k4, k5⟩ := h1 H _ env _ hn hd1
 obtain ⟨rfl, rfl, rfl⟩ := g2
 obtain ⟨F2, Lf2, e1, e2⟩ := lend_back hs hs0 hu hd1 hd2 (fun q hq => drops_get asd _ q hq) k3 k4 (by omega) (J_keep g1).2 hwr k5
 obtain ⟨ex', env', H', F', Lf', V', ⟨env3, H3, j1, j2⟩, w2, w3, w4, w5⟩ := h2 _ F2 _ Lf2 k2 e1
 exact ⟨ex', env', H', F', Lf', V', ⟨env3, H3, J_app g1 j1, j2⟩, w2, w3, e2.trans w4, w5⟩
theorem Ws.lb {ρ : Type} {r : ρ} [hcl : Cl x] {σ : Type} {b k s : Nat} {asd : List Nat} {t : T} {q : σ -> VEnv} {m : Option σ} {kk : σ -> Option ρ} {ops o1 o2 : List (Nat × COper)} {V3 : VEnv} (h : evS n 4000 b ks V = some (.o ops :: ks', V1)) (hs : V1.get s = .v t) (hu : t ≠ .und) (ho1 : ops.take k = o1) (ho2 : ops.drop k = o2) (hw : (opsWrs o1).contains s = false)
  (hv : ((unroot s V1).set s (.v t.frz)).drops asd = V3) (h1 : ∀ w, m = some w -> Ws x n [.o o1] V3 (UQ s t (opsWrs o1) asd V1 (q w))) (h2 : ∀ w, kk w = some r -> Ws x n (.o o2 :: ks') (q w) Q) : (lb b k s asd q m).bind kk = some r -> Ws x n ks V Q := fun e => by
 obtain ⟨w, e1, e2⟩ := bind_some e
 subst ho1; subst ho2; subst hv
 have := Ws.lend asd hs hu hw (h1 w e1) (h2 w e2)
 rw [List.take_append_drop] at this
 exact Ws.ev h this
section
variable {α ρ : Type} {r : ρ}
def om (o : Option α) (f : Option α -> Option ρ) : Option ρ := f o
theorem om_in {o : Option α} {f : Option α -> Option ρ} {P : Prop} (h1 : o = none -> f none = some r -> P) (h2 : ∀ l, o = some l -> f (some l) = some r -> P) : om o f = some r -> P := by
 cases o with
 | none => exact h1 rfl
 | some l => exact h2 l rfl
end
def optT : Option (List Int) -> T
 | none => .nils
 | some l => .sl true false 1 0 (arr eI true l)
@[simp] theorem optT_none : optT none = .nils := rfl
@[simp] theorem optT_some {l : List Int} : optT (some l) = .sl true false 1 0 (arr eI true l) := rfl
end
section
variable {α β : Type} {E : En α} {b b' : Bool} {l l' : List α} {i o bs : Nat} {y : Bool}
theorem mul_fit {i n w : Nat} (h : i < n) : i * w + w <= n * w := by
 have := Nat.mul_le_mul_right w (show i + 1 <= n by omega)
 rw [Nat.add_mul] at this; omega
theorem cell_fit {i n w o : Nat} (h : i < n) (ho : o <= w) : i * w + o <= n * w := by have := mul_fit (w := w) h; omega
theorem cell_lt {i n w o : Nat} (h : i < n) (ho : o < w) : i * w + o < n * w := by have := mul_fit (w := w) h; omega
theorem cell_lt0 {i n w : Nat} (h : i < n) (ho : 0 < w) : i * w < n * w := by have := mul_fit (w := w) h; omega
theorem cell_fit2 {i n w o p : Nat} (h : i < n) (ho : o + p <= w) : i * w + o + p <= n * w := by have := mul_fit (w := w) h; omega
theorem part_fit {i n w o : Nat} (h : i < n) (ho : o <= w) : o <= (n - i) * w := by
 have := Nat.mul_le_mul_right w (show 1 <= n - i by omega)
 omega
theorem part_lt {i n w o : Nat} (h : i < n) (ho : o < w) : o < (n - i) * w := by
 have := Nat.mul_le_mul_right w (show 1 <= n - i by omega)
 omega
@[simp] theorem cell_ltz {n w o : Nat} (h : 0 < n) (ho : o < w) : o < n * w := by have := Nat.mul_le_mul_right w (show 1 <= n by omega); omega
theorem arr_at2 {w : Nat} (hw : E.w = w) (i : Nat) : (arr E b l).drop (i * w) = arr E b (l.drop i) := by subst hw; exact arr_drop i
theorem arr_take2 {w : Nat} (hw : E.w = w) (i : Nat) : (arr E b l).take (i * w) = arr E b (l.take i) := by subst hw; exact arr_take i
theorem arr_get2 {w : Nat} (hw : E.w = w) (ho : o < w) : (arr E b l)[i * w + o]? = l[i]?.bind fun a => (E.c b a)[o]? := by
 subst hw
 cases h : l[i]? with
 | some a => rw [arr_get h ho]; rfl
 | none =>
  rw [List.getElem?_eq_none_iff] at h
  have := Nat.mul_le_mul_right E.w h
  rw [List.getElem?_eq_none (by rw [arr_len]; omega)]; rfl
theorem arr_get20 {w : Nat} (hw : E.w = w) : (arr E b l)[i * w]? = l[i]?.bind fun a => (E.c b a)[0]? := arr_get2 (o := 0) hw (hw ▸ E.hp)
theorem arr_get0 {w : Nat} (hw : E.w = w) (ho : o < w) : (arr E b l)[o]? = l[0]?.bind fun a => (E.c b a)[o]? := by have := arr_get2 (E := E) (b := b) (l := l) (i := 0) hw ho; simpa using this
theorem arr_take0 {w : Nat} (hw : E.w = w) : (arr E b l).take w = l[0]?.elim [] (E.c b) := by
 subst hw
 cases l with
 | nil => simp
 | cons a l => rw [arr_cons, <- E.hw b a, List.take_left]; rfl
theorem arr_tk {w : Nat} (hw : E.w = w) (h : i < w) : (arr E b l).take i = l[0]?.elim [] fun a => (E.c b a).take i := by
 subst hw
 cases l with
 | nil => simp
 | cons a l =>
  have := E.hw b a
  rw [arr_cons, List.take_append_of_le_length (by omega)]; rfl
theorem arr_tl {w : Nat} (hw : E.w = w) : (arr E b l).drop w = arr E b l.tail := by
 have := arr_at2 (E := E) (b := b) (l := l) hw 1
 simpa using this
theorem arr_part {w : Nat} (hw : E.w = w) (h : o + i <= w) : ((arr E b l).drop o).take i = l[0]?.elim [] fun a => ((E.c b a).drop o).take i := by
 subst hw
 cases l with
 | nil => simp
 | cons a l =>
  have := E.hw b a
  rw [arr_cons, List.drop_append_of_le_length (by omega), List.take_append_of_le_length (by rw [List.length_drop]; omega)]; rfl
theorem arr_part2 {w j : Nat} (hw : E.w = w) (h : o + i <= w) : ((arr E b l).drop (j * w + o)).take i = l[j]?.elim [] fun a => ((E.c b a).drop o).take i := by
 rw [<- List.drop_drop, arr_at2 hw, arr_part hw h]
 congr 1
 rw [List.getElem?_drop]; rfl
theorem app_none (hb : bs ≠ 0) (h : app bs l l' = none) : appT E.w bs (.sl true y E.w 0 (arr E b l)) (arr E b l') = none := by
 unfold app at h
 have hw := E.hp
 split at h
 ·simp at h
 ·rename_i hc
  simp only [not_or] at hc
  have hl : 0 < l'.length := by omega
  have e1 : (arr E b l').length / E.w = l'.length := by rw [arr_len, Nat.mul_div_cancel _ hw]
  have e2 : (arr E b l).length / E.w = l.length := by rw [arr_len, Nat.mul_div_cancel _ hw]
  have hne : ¬ ((arr E b l').length = 0) := by
   rw [arr_len]
   have := Nat.mul_pos hl hw
   omega
  have hg : ¬ (E.w = 0 \/ bs = 0 \/ (arr E b l').all T.one = false) := by rw [arr_ones]; simp; omega
  unfold appT
  rw [if_neg hne, if_neg hg]
  simp only [e1, e2, true_and]
  rw [if_neg hc.2]
theorem appT_eq (hb : bs ≠ 0) : appT E.w bs (.sl true y E.w 0 (arr E b l)) (arr E b l') = (app bs l l').map fun v => .sl true y E.w 0 (arr E b v) := by
 cases h : app bs l l' with
 | some v => rw [appT_arr h hb]; rfl
 | none => rw [app_none hb h]; rfl
theorem appT_eq2 (hb : bs ≠ 0) (he : E.c b' = E.c b) : appT E.w bs (.sl true y E.w 0 (arr E b l)) (arr E b' l') = (app bs l l').map fun v => .sl true y E.w 0 (arr E b v) := by rw [arr_sc he, appT_eq hb]
theorem appT_w {w : Nat} (hw : E.w = w) (hb : bs ≠ 0) : appT w bs (.sl true y w 0 (arr E b l)) (arr E b l') = (app bs l l').map fun v => .sl true y w 0 (arr E b v) := by subst hw; exact appT_eq hb
theorem rep_w {n : Nat} (a : α) {cs : List T} (hc : E.c b a = cs) : (List.replicate n cs).flatten = arr E b (List.replicate n a) := by subst hc; exact rep_arr rfl
theorem appT_one (a : α) (hb : bs ≠ 0) : appT E.w bs (.sl true y E.w 0 (arr E b l)) (E.c b a) = (app bs l [a]).map fun v => .sl true y E.w 0 (arr E b v) := by rw [<- arr_one, appT_eq hb]
theorem appT_1w {w : Nat} (hw : E.w = w) (a : α) {cs : List T} (hc : E.c b a = cs) (hb : bs ≠ 0) : appT w bs (.sl true y w 0 (arr E b l)) cs = (app bs l [a]).map fun v => .sl true y w 0 (arr E b v) := by subst hw hc; exact appT_one a hb
theorem appT_11 {w : Nat} (hw : E.w = w) (a : α) {cs : List T} (hc : E.c b a = cs) (hb : bs ≠ 0) : appT w bs (.sl true y w 0 cs) (arr E b l') = (app bs [a] l').map fun v => .sl true y w 0 (arr E b v) := by subst hw hc; rw [<- arr_one, appT_eq hb]
theorem lay_w {w : Nat} (hw : E.w = w) (a : α) {cs : List T} (hc : E.c b a = cs) (h : i < l.length) : layT (arr E b l) (i * w) w cs = arr E b (l.set i a) := by subst hw hc; exact lay_set a h
theorem appT_two (a c : α) (hb : bs ≠ 0) : appT E.w bs (.sl true y E.w 0 (arr E b l)) (E.c b a ++ E.c b c) = (app bs l [a, c]).map fun v => .sl true y E.w 0 (arr E b v) := by
 have : arr E b [a, c] = E.c b a ++ E.c b c := by rw [arr_cons, arr_one]
 rw [<- this, appT_eq hb]
theorem appT_w0 {w : Nat} (hw : E.w = w) (hb : bs ≠ 0) : appT w bs (.sl true y w 0 []) (arr E b l') = (app bs [] l').map fun v => .sl true y w 0 (arr E b v) := by have := appT_w (l := []) (l' := l') (b := b) (y := y) hw hb; simpa using this
theorem appT_10 {w : Nat} (hw : E.w = w) (a : α) {cs : List T} (hc : E.c b a = cs) (hb : bs ≠ 0) : appT w bs (.sl true y w 0 []) cs = (app bs [] [a]).map fun v => .sl true y w 0 (arr E b v) := by have := appT_1w (l := []) (b := b) (y := y) hw a hc hb; simpa using this
@[simp] theorem aI_app0 {k : IntKind} {l' : List Int} (hb : bs ≠ 0) : appT 1 bs (.sl true y 1 0 []) (arr (eInt k) b l') = (app bs [] l').map fun v => .sl true y 1 0 (arr (eInt k) true v) := appT_w0 (E := eInt k) (b := b) rfl hb
@[simp] theorem aB_app0 {l' : List Bool} (hb : bs ≠ 0) : appT 1 bs (.sl true y 1 0 []) (arr eB b l') = (app bs [] l').map fun v => .sl true y 1 0 (arr eB true v) := appT_w0 (E := eB) (b := b) rfl hb
@[simp] theorem aS_app0 {l' : List (List UInt8)} (hb : bs ≠ 0) : appT 1 bs (.sl true y 1 0 []) (arr eS b l') = (app bs [] l').map fun v => .sl true y 1 0 (arr eS true v) := appT_w0 (E := eS) (b := b) rfl hb
@[simp] theorem aL_app0 {l' : List (List α)} (hb : bs ≠ 0) : appT 1 bs (.sl true y 1 0 []) (arr (eL E) b l') = (app bs [] l').map fun v => .sl true y 1 0 (arr (eL E) b v) := appT_w0 (E := eL E) rfl hb
@[simp] theorem aI_app10 {k : IntKind} {n : Int} (hb : bs ≠ 0) : appT 1 bs (.sl true y 1 0 []) [.int k n] = (app bs [] [n]).map fun v => .sl true y 1 0 (arr (eInt k) true v) := appT_10 (E := eInt k) rfl n rfl hb
@[simp] theorem aB_app10 {n : Bool} (hb : bs ≠ 0) : appT 1 bs (.sl true y 1 0 []) [.bool n] = (app bs [] [n]).map fun v => .sl true y 1 0 (arr eB true v) := appT_10 (E := eB) rfl n rfl hb
@[simp] theorem aS_app10 {n : List UInt8} (hb : bs ≠ 0) : appT 1 bs (.sl true y 1 0 []) [.str n] = (app bs [] [n]).map fun v => .sl true y 1 0 (arr eS true v) := appT_10 (E := eS) rfl n rfl hb
theorem aLt_app10 {w : Nat} (hw : E.w = w) {n : List α} (hb : bs ≠ 0) : appT 1 bs (.sl true y 1 0 []) [.sl true true w 0 (arr E true n)] = (app bs [] [n]).map fun v => .sl true y 1 0 (arr (eL E) true v) := by subst hw; exact appT_10 (E := eL E) (b := true) rfl n rfl hb
@[simp] theorem aLt_app10I {k : IntKind} {n : List Int} (hb : bs ≠ 0) : appT 1 bs (.sl true y 1 0 []) [.sl true true 1 0 (arr (eInt k) true n)] = (app bs [] [n]).map fun v => .sl true y 1 0 (arr (eL (eInt k)) true v) := aLt_app10 (E := (eInt k)) rfl hb
@[simp] theorem aLt_app10B {n : List Bool} (hb : bs ≠ 0) : appT 1 bs (.sl true y 1 0 []) [.sl true true 1 0 (arr eB true n)] = (app bs [] [n]).map fun v => .sl true y 1 0 (arr (eL eB) true v) := aLt_app10 (E := eB) rfl hb
@[simp] theorem aLt_app10S {n : List (List UInt8)} (hb : bs ≠ 0) : appT 1 bs (.sl true y 1 0 []) [.sl true true 1 0 (arr eS true n)] = (app bs [] [n]).map fun v => .sl true y 1 0 (arr (eL eS) true v) := aLt_app10 (E := eS) rfl hb
@[simp] theorem aLt_app10L {n : List (List α)} (hb : bs ≠ 0) : appT 1 bs (.sl true y 1 0 []) [.sl true true 1 0 (arr (eL E) true n)] = (app bs [] [n]).map fun v => .sl true y 1 0 (arr (eL (eL E)) true v) := aLt_app10 (E := (eL E)) rfl hb
theorem aLf_app10 {w : Nat} (hw : E.w = w) {n : List α} (hb : bs ≠ 0) : appT 1 bs (.sl true y 1 0 []) [.sl false false w 1 (arr E false n)] = (app bs [] [n]).map fun v => .sl true y 1 0 (arr (eL E) false v) := by subst hw; exact appT_10 (E := eL E) (b := false) rfl n rfl hb
@[simp] theorem aLf_app10I {k : IntKind} {n : List Int} (hb : bs ≠ 0) : appT 1 bs (.sl true y 1 0 []) [.sl false false 1 1 (arr (eInt k) false n)] = (app bs [] [n]).map fun v => .sl true y 1 0 (arr (eL (eInt k)) false v) := aLf_app10 (E := (eInt k)) rfl hb
@[simp] theorem aLf_app10B {n : List Bool} (hb : bs ≠ 0) : appT 1 bs (.sl true y 1 0 []) [.sl false false 1 1 (arr eB false n)] = (app bs [] [n]).map fun v => .sl true y 1 0 (arr (eL eB) false v) := aLf_app10 (E := eB) rfl hb
@[simp] theorem aLf_app10S {n : List (List UInt8)} (hb : bs ≠ 0) : appT 1 bs (.sl true y 1 0 []) [.sl false false 1 1 (arr eS false n)] = (app bs [] [n]).map fun v => .sl true y 1 0 (arr (eL eS) false v) := aLf_app10 (E := eS) rfl hb
@[simp] theorem aLf_app10L {n : List (List α)} (hb : bs ≠ 0) : appT 1 bs (.sl true y 1 0 []) [.sl false false 1 1 (arr (eL E) false n)] = (app bs [] [n]).map fun v => .sl true y 1 0 (arr (eL (eL E)) false v) := aLf_app10 (E := (eL E)) rfl hb
@[simp] theorem aI_get {k : IntKind} {l : List Int} : (arr (eInt k) b l)[i]? = l[i]?.map (T.int k) := by
 have := arr_get2 (E := eInt k) (b := b) (l := l) (i := i) (o := 0) rfl (by simp)
 simp only [eInt_w, Nat.mul_one, Nat.add_zero] at this
 rw [this]; cases l[i]? <;> rfl
@[simp] theorem aB_get {l : List Bool} : (arr eB b l)[i]? = l[i]?.map T.bool := by
 have := arr_get2 (E := eB) (b := b) (l := l) (i := i) (o := 0) rfl (by simp)
 simp only [eB_w, Nat.mul_one, Nat.add_zero] at this
 rw [this]; cases l[i]? <;> rfl
@[simp] theorem aS_get {l : List (List UInt8)} : (arr eS b l)[i]? = l[i]?.map T.str := by
 have := arr_get2 (E := eS) (b := b) (l := l) (i := i) (o := 0) rfl (by simp)
 simp only [eS_w, Nat.mul_one, Nat.add_zero] at this
 rw [this]; cases l[i]? <;> rfl
@[simp] theorem aLt_get {l : List (List α)} : (arr (eL E) true l)[i]? = l[i]?.map (osl E true) := by
 have := arr_get2 (E := eL E) (b := true) (l := l) (i := i) (o := 0) rfl (by simp)
 simp only [eL_w, Nat.mul_one, Nat.add_zero] at this
 rw [this]; cases l[i]? <;> rfl
@[simp] theorem aLf_get {l : List (List α)} : (arr (eL E) false l)[i]? = l[i]?.map (ssl E) := by
 have := arr_get2 (E := eL E) (b := false) (l := l) (i := i) (o := 0) rfl (by simp)
 simp only [eL_w, Nat.mul_one, Nat.add_zero] at this
 rw [this]; cases l[i]? <;> rfl
theorem arr_set1 {g : α -> T} (hw : E.w = 1) (h : ∀ a, E.c b a = [g a]) (a : α) : (arr E b l).set i (g a) = arr E b (l.set i a) := by
 have : ∀ l : List α, arr E b l = l.map g := by
  intro l
  induction l with
  | nil => rfl
  | cons a l ih => rw [arr_cons, ih, h]; rfl
 rw [this, this, List.map_set]
@[simp] theorem aI_set {k : IntKind} {l : List Int} {n : Int} : (arr (eInt k) b l).set i (.int k n) = arr (eInt k) b (l.set i n) := arr_set1 (g := T.int k) rfl (fun _ => rfl) n
@[simp] theorem aB_set {l : List Bool} {n : Bool} : (arr eB b l).set i (.bool n) = arr eB b (l.set i n) := arr_set1 (g := T.bool) rfl (fun _ => rfl) n
@[simp] theorem aS_set {l : List (List UInt8)} {n : List UInt8} : (arr eS b l).set i (.str n) = arr eS b (l.set i n) := arr_set1 (g := T.str) rfl (fun _ => rfl) n
theorem aLt_set {w : Nat} (hw : E.w = w) {l : List (List α)} {n : List α} : (arr (eL E) true l).set i (.sl true true w 0 (arr E true n)) = arr (eL E) true (l.set i n) := by subst hw; exact arr_set1 (g := osl E true) rfl (fun _ => rfl) n
@[simp] theorem aLt_setI {k : IntKind} {l : List (List Int)} {n : List Int} : (arr (eL (eInt k)) true l).set i (.sl true true 1 0 (arr (eInt k) true n)) = arr (eL (eInt k)) true (l.set i n) := aLt_set (E := (eInt k)) rfl 
@[simp] theorem aLt_setB {l : List (List Bool)} {n : List Bool} : (arr (eL eB) true l).set i (.sl true true 1 0 (arr eB true n)) = arr (eL eB) true (l.set i n) := aLt_set (E := eB) rfl 
@[simp] theorem aLt_setS {l : List (List (List UInt8))} {n : List (List UInt8)} : (arr (eL eS) true l).set i (.sl true true 1 0 (arr eS true n)) = arr (eL eS) true (l.set i n) := aLt_set (E := eS) rfl 
@[simp] theorem aLt_setL {l : List (List (List α))} {n : List (List α)} : (arr (eL (eL E)) true l).set i (.sl true true 1 0 (arr (eL E) true n)) = arr (eL (eL E)) true (l.set i n) := aLt_set (E := (eL E)) rfl 
theorem aLf_set {w : Nat} (hw : E.w = w) {l : List (List α)} {n : List α} : (arr (eL E) false l).set i (.sl false false w 1 (arr E false n)) = arr (eL E) false (l.set i n) := by subst hw; exact arr_set1 (g := ssl E) rfl (fun _ => rfl) n
@[simp] theorem aLf_setI {k : IntKind} {l : List (List Int)} {n : List Int} : (arr (eL (eInt k)) false l).set i (.sl false false 1 1 (arr (eInt k) false n)) = arr (eL (eInt k)) false (l.set i n) := aLf_set (E := (eInt k)) rfl 
@[simp] theorem aLf_setB {l : List (List Bool)} {n : List Bool} : (arr (eL eB) false l).set i (.sl false false 1 1 (arr eB false n)) = arr (eL eB) false (l.set i n) := aLf_set (E := eB) rfl 
@[simp] theorem aLf_setS {l : List (List (List UInt8))} {n : List (List UInt8)} : (arr (eL eS) false l).set i (.sl false false 1 1 (arr eS false n)) = arr (eL eS) false (l.set i n) := aLf_set (E := eS) rfl 
@[simp] theorem aLf_setL {l : List (List (List α))} {n : List (List α)} : (arr (eL (eL E)) false l).set i (.sl false false 1 1 (arr (eL E) false n)) = arr (eL (eL E)) false (l.set i n) := aLf_set (E := (eL E)) rfl 
theorem layT1 {cs : List T} {t : T} (h : i < cs.length) : layT cs i 1 [t] = cs.set i t := by
 rw [List.set_eq_take_append_cons_drop, if_pos h]; rfl
@[simp] theorem aI_lay {k : IntKind} {l : List Int} {n : Int} (h : i < l.length) : layT (arr (eInt k) b l) i 1 [.int k n] = arr (eInt k) b (l.set i n) := by rw [layT1 (by simpa using h), aI_set]
@[simp] theorem aB_lay {l : List Bool} {n : Bool} (h : i < l.length) : layT (arr eB b l) i 1 [.bool n] = arr eB b (l.set i n) := by rw [layT1 (by simpa using h), aB_set]
@[simp] theorem aS_lay {l : List (List UInt8)} {n : List UInt8} (h : i < l.length) : layT (arr eS b l) i 1 [.str n] = arr eS b (l.set i n) := by rw [layT1 (by simpa using h), aS_set]
theorem aLt_lay {w : Nat} (hw : E.w = w) {l : List (List α)} {n : List α} (h : i < l.length) : layT (arr (eL E) true l) i 1 [.sl true true w 0 (arr E true n)] = arr (eL E) true (l.set i n) := by subst hw; rw [layT1 (by simpa using h), aLt_set rfl]
@[simp] theorem aLt_layI {k : IntKind} {l : List (List Int)} {n : List Int} (h : i < l.length) : layT (arr (eL (eInt k)) true l) i 1 [.sl true true 1 0 (arr (eInt k) true n)] = arr (eL (eInt k)) true (l.set i n) := aLt_lay (E := (eInt k)) rfl h
@[simp] theorem aLt_layB {l : List (List Bool)} {n : List Bool} (h : i < l.length) : layT (arr (eL eB) true l) i 1 [.sl true true 1 0 (arr eB true n)] = arr (eL eB) true (l.set i n) := aLt_lay (E := eB) rfl h
@[simp] theorem aLt_layS {l : List (List (List UInt8))} {n : List (List UInt8)} (h : i < l.length) : layT (arr (eL eS) true l) i 1 [.sl true true 1 0 (arr eS true n)] = arr (eL eS) true (l.set i n) := aLt_lay (E := eS) rfl h
@[simp] theorem aLt_layL {l : List (List (List α))} {n : List (List α)} (h : i < l.length) : layT (arr (eL (eL E)) true l) i 1 [.sl true true 1 0 (arr (eL E) true n)] = arr (eL (eL E)) true (l.set i n) := aLt_lay (E := (eL E)) rfl h
theorem aLf_lay {w : Nat} (hw : E.w = w) {l : List (List α)} {n : List α} (h : i < l.length) : layT (arr (eL E) false l) i 1 [.sl false false w 1 (arr E false n)] = arr (eL E) false (l.set i n) := by subst hw; rw [layT1 (by simpa using h), aLf_set rfl]
@[simp] theorem aLf_layI {k : IntKind} {l : List (List Int)} {n : List Int} (h : i < l.length) : layT (arr (eL (eInt k)) false l) i 1 [.sl false false 1 1 (arr (eInt k) false n)] = arr (eL (eInt k)) false (l.set i n) := aLf_lay (E := (eInt k)) rfl h
@[simp] theorem aLf_layB {l : List (List Bool)} {n : List Bool} (h : i < l.length) : layT (arr (eL eB) false l) i 1 [.sl false false 1 1 (arr eB false n)] = arr (eL eB) false (l.set i n) := aLf_lay (E := eB) rfl h
@[simp] theorem aLf_layS {l : List (List (List UInt8))} {n : List (List UInt8)} (h : i < l.length) : layT (arr (eL eS) false l) i 1 [.sl false false 1 1 (arr eS false n)] = arr (eL eS) false (l.set i n) := aLf_lay (E := eS) rfl h
@[simp] theorem aLf_layL {l : List (List (List α))} {n : List (List α)} (h : i < l.length) : layT (arr (eL (eL E)) false l) i 1 [.sl false false 1 1 (arr (eL E) false n)] = arr (eL (eL E)) false (l.set i n) := aLf_lay (E := (eL E)) rfl h
@[simp] theorem aI_app {k : IntKind} {l l' : List Int} (hb : bs ≠ 0) : appT 1 bs (.sl true y 1 0 (arr (eInt k) b l)) (arr (eInt k) b' l') = (app bs l l').map fun v => .sl true y 1 0 (arr (eInt k) b v) := appT_eq2 (E := eInt k) hb rfl
@[simp] theorem aB_app {l l' : List Bool} (hb : bs ≠ 0) : appT 1 bs (.sl true y 1 0 (arr eB b l)) (arr eB b' l') = (app bs l l').map fun v => .sl true y 1 0 (arr eB b v) := appT_eq2 (E := eB) hb rfl
@[simp] theorem aS_app {l l' : List (List UInt8)} (hb : bs ≠ 0) : appT 1 bs (.sl true y 1 0 (arr eS b l)) (arr eS b' l') = (app bs l l').map fun v => .sl true y 1 0 (arr eS b v) := appT_eq2 (E := eS) hb rfl
@[simp] theorem aL_app {l l' : List (List α)} (hb : bs ≠ 0) : appT 1 bs (.sl true y 1 0 (arr (eL E) b l)) (arr (eL E) b l') = (app bs l l').map fun v => .sl true y 1 0 (arr (eL E) b v) := appT_eq (E := eL E) hb
@[simp] theorem aI_apps {k : IntKind} {l l' : List Int} {s : Nat} (hb : bs ≠ 0) (h : (apps bs l s l').isSome = true) : appT 1 bs (.sl true y 1 s (arr (eInt k) b l)) (arr (eInt k) b' l') = (apps bs l s l').map fun v => .sl true y 1 v.2 (arr (eInt k) b v.1) := by
 obtain ⟨v, hv⟩ := Option.isSome_iff_exists.1 h
 rw [hv]; exact appT_sk (E := eInt k) hv hb rfl
@[simp] theorem aL_apps {l l' : List (List α)} {s : Nat} (hb : bs ≠ 0) (h : (apps bs l s l').isSome = true) : appT 1 bs (.sl true y 1 s (arr (eL E) b l)) (arr (eL E) b l') = (apps bs l s l').map fun v => .sl true y 1 v.2 (arr (eL E) b v.1) := by
 obtain ⟨v, hv⟩ := Option.isSome_iff_exists.1 h
 rw [hv]; exact appT_sk (E := eL E) hv hb rfl
@[simp] theorem aI_app1 {k : IntKind} {l : List Int} {n : Int} (hb : bs ≠ 0) : appT 1 bs (.sl true y 1 0 (arr (eInt k) b l)) [.int k n] = (app bs l [n]).map fun v => .sl true y 1 0 (arr (eInt k) b v) := appT_one (E := eInt k) n hb
@[simp] theorem aI_app2 {k : IntKind} {l : List Int} {n m : Int} (hb : bs ≠ 0) : appT 1 bs (.sl true y 1 0 (arr (eInt k) b l)) [.int k n, .int k m] = (app bs l [n, m]).map fun v => .sl true y 1 0 (arr (eInt k) b v) := appT_two (E := eInt k) n m hb
@[simp] theorem aB_app1 {l : List Bool} {n : Bool} (hb : bs ≠ 0) : appT 1 bs (.sl true y 1 0 (arr eB b l)) [.bool n] = (app bs l [n]).map fun v => .sl true y 1 0 (arr eB b v) := appT_one (E := eB) n hb
@[simp] theorem aS_app1 {l : List (List UInt8)} {n : List UInt8} (hb : bs ≠ 0) : appT 1 bs (.sl true y 1 0 (arr eS b l)) [.str n] = (app bs l [n]).map fun v => .sl true y 1 0 (arr eS b v) := appT_one (E := eS) n hb
theorem aLt_app1 {w : Nat} (hw : E.w = w) {l : List (List α)} {n : List α} (hb : bs ≠ 0) : appT 1 bs (.sl true y 1 0 (arr (eL E) true l)) [.sl true true w 0 (arr E true n)] = (app bs l [n]).map fun v => .sl true y 1 0 (arr (eL E) true v) := by subst hw; exact appT_one (E := eL E) (b := true) n hb
@[simp] theorem aLt_app1I {k : IntKind} {l : List (List Int)} {n : List Int} (hb : bs ≠ 0) : appT 1 bs (.sl true y 1 0 (arr (eL (eInt k)) true l)) [.sl true true 1 0 (arr (eInt k) true n)] = (app bs l [n]).map fun v => .sl true y 1 0 (arr (eL (eInt k)) true v) := aLt_app1 (E := (eInt k)) rfl hb
@[simp] theorem aLt_app1B {l : List (List Bool)} {n : List Bool} (hb : bs ≠ 0) : appT 1 bs (.sl true y 1 0 (arr (eL eB) true l)) [.sl true true 1 0 (arr eB true n)] = (app bs l [n]).map fun v => .sl true y 1 0 (arr (eL eB) true v) := aLt_app1 (E := eB) rfl hb
@[simp] theorem aLt_app1S {l : List (List (List UInt8))} {n : List (List UInt8)} (hb : bs ≠ 0) : appT 1 bs (.sl true y 1 0 (arr (eL eS) true l)) [.sl true true 1 0 (arr eS true n)] = (app bs l [n]).map fun v => .sl true y 1 0 (arr (eL eS) true v) := aLt_app1 (E := eS) rfl hb
@[simp] theorem aLt_app1L {l : List (List (List α))} {n : List (List α)} (hb : bs ≠ 0) : appT 1 bs (.sl true y 1 0 (arr (eL (eL E)) true l)) [.sl true true 1 0 (arr (eL E) true n)] = (app bs l [n]).map fun v => .sl true y 1 0 (arr (eL (eL E)) true v) := aLt_app1 (E := (eL E)) rfl hb
theorem aLf_app1 {w : Nat} (hw : E.w = w) {l : List (List α)} {n : List α} (hb : bs ≠ 0) : appT 1 bs (.sl true y 1 0 (arr (eL E) false l)) [.sl false false w 1 (arr E false n)] = (app bs l [n]).map fun v => .sl true y 1 0 (arr (eL E) false v) := by subst hw; exact appT_one (E := eL E) (b := false) n hb
@[simp] theorem aLf_app1I {k : IntKind} {l : List (List Int)} {n : List Int} (hb : bs ≠ 0) : appT 1 bs (.sl true y 1 0 (arr (eL (eInt k)) false l)) [.sl false false 1 1 (arr (eInt k) false n)] = (app bs l [n]).map fun v => .sl true y 1 0 (arr (eL (eInt k)) false v) := aLf_app1 (E := (eInt k)) rfl hb
@[simp] theorem aLf_app1B {l : List (List Bool)} {n : List Bool} (hb : bs ≠ 0) : appT 1 bs (.sl true y 1 0 (arr (eL eB) false l)) [.sl false false 1 1 (arr eB false n)] = (app bs l [n]).map fun v => .sl true y 1 0 (arr (eL eB) false v) := aLf_app1 (E := eB) rfl hb
@[simp] theorem aLf_app1S {l : List (List (List UInt8))} {n : List (List UInt8)} (hb : bs ≠ 0) : appT 1 bs (.sl true y 1 0 (arr (eL eS) false l)) [.sl false false 1 1 (arr eS false n)] = (app bs l [n]).map fun v => .sl true y 1 0 (arr (eL eS) false v) := aLf_app1 (E := eS) rfl hb
@[simp] theorem aLf_app1L {l : List (List (List α))} {n : List (List α)} (hb : bs ≠ 0) : appT 1 bs (.sl true y 1 0 (arr (eL (eL E)) false l)) [.sl false false 1 1 (arr (eL E) false n)] = (app bs l [n]).map fun v => .sl true y 1 0 (arr (eL (eL E)) false v) := aLf_app1 (E := (eL E)) rfl hb
@[simp] theorem aLt_app1J {k : IntKind} {l : List (List Int)} {n : Int} (hb : bs ≠ 0) : appT 1 bs (.sl true y 1 0 (arr (eL (eInt k)) true l)) [.sl true true 1 0 [.int k n]] = (app bs l [[n]]).map fun v => .sl true y 1 0 (arr (eL (eInt k)) true v) := aLt_app1 (E := eInt k) (n := [n]) rfl hb
@[simp high] theorem aLt_app10J {k : IntKind} {n : Int} (hb : bs ≠ 0) : appT 1 bs (.sl true y 1 0 []) [.sl true true 1 0 [.int k n]] = (app bs [] [[n]]).map fun v => .sl true y 1 0 (arr (eL (eInt k)) true v) := aLt_app10 (E := eInt k) (n := [n]) rfl hb
@[simp high] theorem aLf_app10N (hb : bs ≠ 0) : appT 1 bs (.sl true y 1 0 []) [.sl false false 1 1 []] = (app bs [] [[]]).map fun v => .sl true y 1 0 (arr (eL eI) false v) := aLf_app10 (E := eI) (n := []) rfl hb
@[simp high] theorem aLt_app10N (hb : bs ≠ 0) : appT 1 bs (.sl true y 1 0 []) [.sl true true 1 0 []] = (app bs [] [[]]).map fun v => .sl true y 1 0 (arr (eL eI) true v) := aLt_app10 (E := eI) (n := []) rfl hb
@[simp] theorem arrB_drop {l : List Bool} (n : Nat) : (arr eB b l).drop n = arr eB b (l.drop n) := arr_drop1 rfl n
@[simp] theorem arrS_drop {l : List (List UInt8)} (n : Nat) : (arr eS b l).drop n = arr eS b (l.drop n) := arr_drop1 rfl n
attribute [simp] arrI_drop arrL_drop mul_fit part_fit part_lt cell_fit cell_lt cell_lt0 cell_fit2
@[simp] theorem repI {k : IntKind} {n : Nat} {a : Int} : List.replicate n (T.int k a) = arr (eInt k) true (List.replicate n a) := arrI_rep
@[simp] theorem repB {n : Nat} {a : Bool} : List.replicate n (T.bool a) = arr eB true (List.replicate n a) := arrB_rep
@[simp] theorem sca_dec {p : Prop} [Decidable p] : (T.bool (decide p) = T.bool true) = p := by simp
attribute [simp] Nat.add_one_le_iff List.getElem?_cons_zero List.getElem?_cons_succ
section slots
variable {k s q d m n : Nat} {t : T} {r : VEnv} {p : List Nat} {ag : Bool} {y : S}
@[simp high] theorem unroot_nil : unroot d [] = [] := rfl
@[simp high] theorem unroot_v : unroot d ((k, .v t) :: r) = (k, .v t) :: unroot d r := rfl
@[simp high] theorem unroot_al : unroot d ((k, .al q) :: r) = (k, if q = d then .v .und else .al q) :: unroot d r := by simp [unroot, VEnv.upd, S.rooted]
@[simp high] theorem unroot_adr : unroot d ((k, .adr q p m) :: r) = (k, if q = d then .v .und else .adr q p m) :: unroot d r := by simp [unroot, VEnv.upd, S.rooted]
@[simp high] theorem unroot_ref : unroot d ((k, .ref q p m n ag) :: r) = (k, if q = d then .v .und else .ref q p m n ag) :: unroot d r := by simp [unroot, VEnv.upd, S.rooted]
@[simp high] theorem drop_nil : VEnv.drop [] d = [] := rfl
@[simp high] theorem drop_v : VEnv.drop ((k, .v t) :: r) d = if k = d then VEnv.drop r d else (k, .v t) :: VEnv.drop r d := by simp [VEnv.drop, unroot, VEnv.upd, S.rooted, VEnv.del]
@[simp high] theorem drop_al : VEnv.drop ((k, .al q) :: r) d = if k = d then VEnv.drop r d else (k, if q = d then .v .und else .al q) :: VEnv.drop r d := by simp [VEnv.drop, unroot, VEnv.upd, S.rooted, VEnv.del]
@[simp high] theorem drop_adr : VEnv.drop ((k, .adr q p m) :: r) d = if k = d then VEnv.drop r d else (k, if q = d then .v .und else .adr q p m) :: VEnv.drop r d := by simp [VEnv.drop, unroot, VEnv.upd, S.rooted, VEnv.del]
@[simp high] theorem drop_ref : VEnv.drop ((k, .ref q p m n ag) :: r) d = if k = d then VEnv.drop r d else (k, if q = d then .v .und else .ref q p m n ag) :: VEnv.drop r d := by simp [VEnv.drop, unroot, VEnv.upd, S.rooted, VEnv.del]
end slots
theorem PF.rep {e n : Nat} {a : α} {v : List α} {zs cs : List T} (h : List.replicate n a = v) (hc : E.c b a = cs) (hz : TLes zs cs) : PF (.sl true false e 0 (List.replicate n zs).flatten) (.sl true true e 0 (arr E b v)) := .le (.own0 (tles_rep h (hc ▸ hz)))
theorem tles_go {ts ts1 : List T} (h : TLes ts ts1 := by
    first
    | with_reducible exact TLes.refl _
    | ((try dsimp only [eL_ct, eL_cf])
       repeat' (first
        | with_reducible exact TLes.refl _
        | with_reducible exact TLe.refl _
        | with_reducible refine TLes.cons ?_ ?_
        | exact TLe.nil rfl (by decide)
        | with_reducible refine TLe.agg ?_
        | with_reducible refine TLe.ptr ?_
        | with_reducible refine TLe.tup ?_
        | (apply tle_eq; first | rfl | simp [*]; done)
        | (apply tle_own; first | rfl | simp [*]; done)
        | (apply tle_sh; first | rfl | simp [*]; done)
        | (apply TLe.own0; apply TLes.of_eq; simp [*]; done)
        | (with_reducible refine TLe.own0 (tles_rep1 ‹_› ?_))
        | (with_reducible apply TLe.own2
           · (conv => lhs; simp) <;> rfl
           rotate_left
           · simp; done)
        | (with_reducible apply TLe.sh2
           · (conv => lhs; simp) <;> rfl)))) : TLes ts ts1 := h
theorem PF.inner2 {α : Type} {E : En α} {y : Bool} {w w' sk : Nat} {l : List α} (h1 : E.w = w) (h2 : E.w = w') : PF (.sl true y w sk (arr E true l)) (.sl true y w' sk (arr E false l)) := by subst h1; subst h2; exact PF.inner l
theorem holes_0 {a : T} {l : List T} : holes (a :: l) 0 1 = .und :: l := by simp [holes]
theorem holes_1 {a c : T} {l : List T} : holes (a :: c :: l) 1 1 = a :: .und :: l := by simp [holes]
@[simp] theorem plains_int {k : IntKind} {b : Bool} {l : List Int} : plains (arr (eInt k) b l) = true := (congrArg plains (arr_sc (b := false) (b' := b) rfl l)).trans arr_plain
theorem beq_decS {a b : List UInt8} : (a == b) = decide (a = b) := by by_cases h : a = b <;> simp [h]
theorem pfs_go {ts ts1 : List T} (h : PFs ts ts1 := by
    (try dsimp only)
    (try simp only [holes_0])
    (try simp only [holes_1])
    repeat' (first
        | with_reducible exact PFs.nil
        | with_reducible refine PFs.cons ?_ ?_
        | with_reducible exact PF.refl _
        | (with_reducible apply PF.frze; simp; done)
        | exact PF.le (TLe.nil rfl (by decide))
        | (with_reducible refine PF.le (tle_own ?_); first | rfl | simp [*]; done)
        | (with_reducible refine PF.le (tle_sh ?_); first | rfl | simp [*]; done)
        | with_reducible refine PF.agg ?_
        | with_reducible refine PF.ptr ?_
        | with_reducible refine PF.tup ?_
        | (with_reducible refine PF.le (tle_eq ?_); first | rfl | simp [*]; done)
        | (with_reducible refine PF.le (TLe.own0 (TLes.of_eq ?_)); simp [*]; done)
        | ((with_reducible refine PF.le (TLe.own0 (tles_rep1 ‹_› ?_))); exact tles_go)
        | (apply PF.rep
           · assumption
           · (conv => lhs; simp) <;> rfl
           · exact tles_go)
        | (with_reducible apply PF.own
           · (conv => lhs; simp) <;> rfl
           · exact tles_go
           · simp; done)
        | exact PF.inner _
        | (with_reducible apply PF.inner2 <;> (first | with_reducible rfl | simp; done))
        | (with_reducible refine PF.le (tle_eq ?_); simp [beq_decS]; done)
        | refine PF.tup ?_)) : PFs ts ts1 := h
theorem pf_go {t t1 : T} (h : PFs [t] [t1] := by exact pfs_go) : PF t t1 := by
 intro H F v ls hd hn
 obtain ⟨l1, s1, f1⟩ := h H F [v] ls (dens_one.2 hd) hn
 exact ⟨l1, s1, fun G h1 h2 h3 => dens_one.1 (f1 G h1 h2 h3)⟩
theorem vle_go {V W : VEnv} (h : VLe V W := by
    (try dsimp only)
    first
    | with_reducible exact VLe.refl _
    | (refine vq_in ?_
       repeat (first
        | with_reducible exact vq_end
        | with_reducible refine vq_eq ?_
        | (with_reducible refine vq_pf ?_ ?_ ?_ ?_ ?_
           · simp; done
           · exact pf_go
           · simp; done
           · simp; done)
        | (with_reducible refine vq_drop ?_ ?_ ?_ ?_
           · simp; done
           · simp; done
           · simp; done)))) : VLe V W := h
@[simp] theorem le_max0 {a b : Int} (h : a <= b) : (a <= max b 0) = True := by rw [eq_iff_iff, iff_true]; omega
@[simp] theorem arrM_ne {k : Nat} (h : k < l.length) : (arrM E k l = []) = False := by
 rw [eq_iff_iff, iff_false]
 intro e
 have := congrArg List.length e
 rw [arrM_len h, List.length_nil] at this
 exact Nat.ne_of_gt (Nat.mul_pos (by omega) E.hp) this
attribute [simp] arrM_zero arrM_len
theorem jn_in {α ρ : Type} {q : α -> Ex -> VEnv -> Prop} {e : Option α} {k : α -> Option ρ} {r : ρ} {P : Prop} (h : e.bind k = some r -> P) : (jn q e).bind k = some r -> P := h
theorem go {P : Prop} (h : P := by
    repeat' (first
      | with_reducible exact none_in
      | (with_reducible refine ite_in (fun k1 => ?_) (fun k1 => ?_) <;> ((try (have k5 : ((_ : List UInt8) == _) = false := beq_eq_false_iff_ne.2 k1)); (try (have k3 := k1; simp only [Bool.not_eq_true, decide_eq_true_eq, Classical.not_not] at k3; try simp only [gt_iff_lt, Int.natCast_pos] at k3)); (try (have k4 : ¬ ((_ : Int) < _) := k1; simp only [Int.ofNat_lt] at k4)); (try (have k4 : ¬ ((_ : Int) <= _) := k1; simp only [Int.ofNat_le] at k4)); have k2 := k1; (try simp at k2); first | subst k2 | rw [(k2 : (_ : Int) = _)] | rw [(k2 : (_ : Bool) = Prod.snd _)] | skip))
      | (with_reducible refine ix_in (fun _ _ gb g1 gn g2 => ?_); (try simp only [Int.toNat_natCast, Int.reduceToNat, List.length_set] at g1 g2 gb); (try simp at gn); (try (rw [List.getElem?_set_self (by simpa only [List.length_set] using g2)] at g1; cases g1)))
      | with_reducible refine app_in (fun _ _ => ?_)
      | (with_reducible refine cut_in (fun _ ga gb gc g1 => ?_); (try simp only [w64] at ga); (try simp only [w64] at gb); (try simp only [w64] at gc); have gd := Int.le_trans ga gb; (try simp only [List.length_cons, List.length_nil, Nat.reduceAdd, Int.cast_ofNat_Int] at gc); try simp at g1)
      | (with_reducible refine mkl_in (fun _ _ g0 _ g1 => ?_); (try simp only [Int.toNat_natCast, Int.reduceToNat] at g1); try simp only [Int.one_mul] at g0)
      | (with_reducible refine cat_in (fun _ gC g0 _ => ?_); try simp at g0)
      | with_reducible refine nz_in (fun _ _ => ?_)
      | with_reducible refine nn_in (fun _ _ => ?_)
      | with_reducible refine nsk_in (fun _ _ => ?_)
      | with_reducible refine nel_in (fun _ _ => ?_)
      | with_reducible refine dlk_in (fun _ gd0 gd1 gd2 => ?_)
      | with_reducible refine apps_in (fun _ _ => ?_)
      | with_reducible refine pl_in (fun _ => ?_) (fun _ => ?_)
      | (with_reducible refine ml_in (fun _ gi gk gv => ?_); subst gi)
      | (with_reducible refine mlg_in (fun _ _ gi gj gk gl gv => ?_); subst gi)
      | with_reducible refine po ?_ ?_
      | with_reducible refine pn ?_
      | with_reducible refine px rfl ?_
      | with_reducible refine px0 rfl ?_
      | with_reducible refine pr ?_
      | (with_reducible refine prod_in (fun _ => ?_))
      | (with_reducible refine all_in (fun _ => ?_); try dsimp only)
      | (with_reducible apply Ws.sn
         · (conv => lhs; simp [-getElem?_pos, -List.reduceReplicate, *]) <;> rfl
         · (conv => lhs; simp) <;> rfl
         · simp
         · exact pf_go
         · (conv => lhs; simp) <;> rfl)
      | (with_reducible apply Ws.lc
         · (conv => lhs; simp [-getElem?_pos, -List.reduceReplicate, *]) <;> rfl
         · (conv => lhs; simp) <;> rfl
         · simp; done
         · intro _; rfl
         · intro _; (conv => lhs; simp) <;> rfl
         intro _)
      | (with_reducible apply Ws.cp
         · (conv => lhs; simp [-getElem?_pos, -List.reduceReplicate, *]) <;> rfl
         · rfl
         · (conv => lhs; simp) <;> rfl
         · (conv => lhs; simp) <;> rfl
         · simp [*]; done
         · (conv => lhs; simp) <;> rfl
         · simp; done
         · simp; done
         · simp; done
         · (conv => lhs; simp) <;> rfl
         · (conv => lhs; simp) <;> rfl
         · (conv => lhs; simp) <;> rfl)
      | (with_reducible apply Ws.cs
         · (conv => lhs; simp [-getElem?_pos, -List.reduceReplicate, *]) <;> rfl
         · (conv => lhs; simp) <;> rfl
         · (conv => lhs; simp) <;> rfl
         · (conv => lhs; simp) <;> rfl
         · (conv => lhs; simp) <;> rfl
         · first | omega | simp [*]; done
         · omega
         · (conv => lhs; simp) <;> rfl
         · (conv => lhs; simp) <;> rfl
         · simp; done
         · simp; done
         · (conv => lhs; simp) <;> rfl)
      | (with_reducible apply Ws.dl
         · (conv => lhs; simp [-getElem?_pos, -List.reduceReplicate, *]) <;> rfl
         · (conv => lhs; simp) <;> rfl
         · (conv => lhs; simp) <;> rfl
         · rfl
         · (conv => lhs; simp) <;> rfl
         · (conv => lhs; simp) <;> rfl
         · assumption
         · assumption
         · decide
         · assumption
         · (conv => lhs; simp) <;> rfl
         · (conv => lhs; simp) <;> rfl
         · simp; done
         · simp; done
         · (conv => lhs; simp) <;> rfl
         · (conv => lhs; simp) <;> rfl)
      | (with_reducible apply Ws.mv
         · (conv => lhs; simp [-getElem?_pos, -List.reduceReplicate, *]) <;> rfl
         · (conv => lhs; simp) <;> rfl
         · (conv => lhs; simp) <;> rfl
         · rfl
         · assumption
         · simp; done
         · simp; done
         · (conv => lhs; simp) <;> rfl
         · (conv => lhs; simp) <;> rfl
         · (conv => lhs; simp) <;> rfl)
      | (with_reducible apply Ws.mf
         · (conv => lhs; simp [-getElem?_pos, -List.reduceReplicate, *]) <;> rfl
         · (conv => lhs; simp) <;> rfl
         · (conv => lhs; simp) <;> rfl
         · rfl
         · simp; done
         · simp; done
         · (conv => lhs; simp) <;> rfl
         · (conv => lhs; simp) <;> rfl
         · (conv => lhs; simp) <;> rfl)
      | (with_reducible apply Ws.mg
         · (conv => lhs; simp [-getElem?_pos, -List.reduceReplicate, *]) <;> rfl
         · (conv => lhs; simp) <;> rfl
         · (conv => lhs; simp) <;> rfl
         · rfl
         · assumption
         · assumption
         · simp; done
         · simp; done
         · (conv => lhs; simp) <;> rfl
         · (conv => lhs; simp) <;> rfl
         · (conv => lhs; simp) <;> rfl
         · (conv => lhs; simp) <;> rfl
         · (conv => lhs; simp) <;> rfl)
      | (with_reducible apply Ws.fa
         · (conv => lhs; simp [-getElem?_pos, -List.reduceReplicate, *]) <;> rfl
         · rfl
         · simp; done
         · simp; done
         · simp; done
         · simp [AtOps]; done
         · (conv => lhs; simp) <;> rfl
         · (conv => lhs; simp) <;> rfl)
      | (with_reducible refine om_in (fun e0 => ?_) (fun _ e0 => ?_) <;> ((first | subst e0 | simp only [e0]); try dsimp only))
      | (with_reducible apply Ws.lb
         · (conv => lhs; simp [-getElem?_pos, -List.reduceReplicate, *]) <;> rfl
         · (conv => lhs; simp) <;> rfl
         · simp; done
         · (conv => lhs; simp) <;> rfl
         · (conv => lhs; simp) <;> rfl
         · simp; done
         · (conv => lhs; simp) <;> rfl)
      | (with_reducible refine unl_in ?_; intro h; cases h; simp; done)
      | with_reducible refine leO1 ?_
      | with_reducible refine leO2 ?_
      | with_reducible refine leN vle_go
      | with_reducible refine leX vle_go
      | with_reducible refine leR vle_go
      | (with_reducible apply rq_in
         · simp
         · (conv => lhs; simp [-getElem?_pos, -List.reduceReplicate, *]) <;> rfl
         · (conv => lhs; simp [-getElem?_pos, -List.reduceReplicate, cx, List.range, List.range.loop, *]) <;> rfl
         · exact pfs_go)
      | (with_reducible apply Ws.evp (k := 4000) (b := 4000)
         · (conv => lhs; simp [-getElem?_pos, -List.reduceReplicate, *]) <;> rfl
         first
         | (with_reducible apply Ws.call
            · simp [*]; done
            · simp; done
            · (conv => lhs; simp [-getElem?_pos, -List.reduceReplicate, cx, *]) <;> rfl
            · rfl
            · exact tles_go
            · simp; done
            intro _
            with_reducible apply callk_in
            · simp; done
            · (conv => lhs; simp [-getElem?_pos, -List.reduceReplicate, *]) <;> rfl
            · (conv => lhs; simp [-getElem?_pos, -List.reduceReplicate, *]) <;> rfl
            · (conv => lhs; simp) <;> rfl)
         | (with_reducible apply Ws.ca
            · rfl
            · (conv => lhs; simp) <;> rfl
            · simp [AtCaps]; done
            · simp [*]; done
            · simp; done
            · (conv => lhs; simp [-getElem?_pos, -List.reduceReplicate, cx, *]) <;> rfl
            · rfl
            · exact tles_go
            · simp; done
            intro _
            with_reducible apply callk_in
            · simp; done
            · (conv => lhs; simp [-getElem?_pos, -List.reduceReplicate, *]) <;> rfl
            · (conv => lhs; simp [-getElem?_pos, -List.reduceReplicate, *]) <;> rfl
            · (conv => lhs; simp) <;> rfl)
         | (with_reducible refine Ws.loop ?_ ?_
            · exact vle_go)
         | (with_reducible refine Ws.condTp ?_ ?_
            · simp [-getElem?_pos, -List.reduceReplicate, *]; done)
         | (with_reducible refine Ws.condFp ?_ ?_
            · simp [-getElem?_pos, -List.reduceReplicate, *]; done)
         | (with_reducible apply Ws.ev1p
            · (conv => lhs; simp [-getElem?_pos, -List.reduceReplicate, *]) <;> rfl)
         | with_reducible refine Ws.joinB ?_ ?_
         | with_reducible refine Ws.blockp ?_
         | with_reducible refine Ws.joinC ?_ ?_
         | with_reducible refine Ws.joinO ?_ ?_
         | with_reducible refine Ws.retp ?_
         | with_reducible refine Ws.endp ?_
         | with_reducible refine Ws.exitp rfl ?_)
      | (with_reducible refine someL ?_; intro h; cases h)
      | (with_reducible refine someR ?_; intro h; cases h)
      | (with_reducible refine jn_in ?_; intro h; simp at h; subst h)
      )) : P := h
end
section
open Go Go.RowKit
section
variable {P : Program} {base : Nat} {m : Map} {H : Heap} {w w' : World}
theorem Ok.below (h : Rel base m H w) (hb : Below w.heap.size w w') : Ok base m H w m H w' := by
 refine ⟨⟨h.dom, Nat.le_trans h.size hb.size, fun l i e hs => ?_, fun l i e hs => ?_, h.ro, h.sep, h.tab.on fun b hb' => hb.block b (Nat.lt_of_lt_of_le hb' h.size)⟩, MLe.refl _, Nat.le_refl _, fun l _ e => ⟨e, rfl⟩, ⟨hb.os, hb.tape, hb.output, hb.size, fun b h1 _ => hb.block b h1⟩, fun l i e hs => .inr ⟨l, i, e, hs, rfl⟩⟩
 ·obtain ⟨h1, h2⟩ := h.cells l i e hs
  refine ⟨h1, fun j hj => ?_⟩
  obtain ⟨v, hv, hr⟩ := h2 j hj
  refine ⟨v, ?_, hr⟩
  rw [cell_of_heap (hb.block _ (World.block_lt_of_cell? w _ hv)), hv]
 ·obtain ⟨h1, h2, ⟨ar, T', fz, h3, h4⟩, h5⟩ := h.own l i e hs
  have hlt : i.b < w.heap.size := (Array.getElem?_eq_some_iff.1 h3).1
  exact ⟨h1, h2, ⟨ar, T', fz, by rw [hb.block _ hlt, h3], h4⟩, fun off => by rw [frozen_of_heap (hb.block _ hlt), h5]⟩
theorem orX_ok {X Y : Ext} (h1 : ExtOk P X) (h2 : ExtOk P Y) : ExtOk P (orX X Y) := fun f args H v H' h => h.elim (h1 f args H v H') (h2 f args H v H')
open Go.Sort in
theorem setCells_map (b : Nat) : ∀ (vs : List Value) (o : Nat) (w : World), w.setCells b o vs = mapBlock w b (fun c => c.mapIdx fun k x => if o <= k /\ k < o + vs.length then vs.getD (k - o) undef else x)
 | [], o, w => by
  rw [World.setCells, mapBlock_id]
  intro c e fr _
  apply Array.ext_getElem?
  intro k
  rw [Array.getElem?_mapIdx]
  cases c[k]? with
  | none => rfl
  | some y => rw [Option.map_some, if_neg (by simp)]
 | v :: vs, o, w => by
  rw [World.setCells, setCells_map b vs (o + 1), setCell_eq, mapBlock_mapBlock]
  refine mapBlock_congr _ _ _ _ fun c _ _ _ => ?_
  apply Array.ext_getElem?
  intro k
  simp only [Array.getElem?_mapIdx, Array.getElem?_setIfInBounds, List.length_cons]
  by_cases hk : o = k
  ·subst hk
   by_cases hc : o < c.size
   ·rw [if_pos rfl, if_pos hc, Array.getElem?_eq_getElem hc, Option.map_some, Option.map_some, if_neg (by omega), if_pos (by omega)]
    simp
   ·rw [if_pos rfl, if_neg hc, Array.getElem?_eq_none (by omega)]; rfl
  ·rw [if_neg hk]
   cases c[k]? with
   | none => rfl
   | some y =>
    rw [Option.map_some, Option.map_some]
    by_cases hr : o + 1 <= k /\ k < o + 1 + vs.length
    ·rw [if_pos hr, if_pos (by omega), show k - o = (k - (o + 1)) + 1 by omega, List.getD_cons_succ]
    ·rw [if_neg hr, if_neg (by omega)]
open Go.Sort in
theorem putRow_setCells (w : World) (b o : Nat) (zs : List Int) : putRow (Value.int .i64) w b o zs.toArray = w.setCells b o (zs.map (Value.int .i64)) := by
 rw [setCells_map]
 refine mapBlock_congr _ _ _ _ fun c _ _ _ => ?_
 apply Array.ext_getElem?
 intro k
 simp only [putCells, Array.getElem?_mapIdx, List.length_map, List.size_toArray]
 cases c[k]? with
 | none => rfl
 | some y =>
  rw [Option.map_some, Option.map_some]
  by_cases hr : o <= k /\ k < o + zs.length
  ·rw [if_pos hr, if_pos hr]
   have : k - o < zs.length := by omega
   simp [zD, this]
  ·rw [if_neg hr, if_neg hr]
theorem ints_val {m : Map} : ∀ {zs : List Int} {us : List Value}, VRs m (zs.map fun n => AV.int .i64 n) us -> us = zs.map (Value.int .i64)
 | [], us, h => by simpa [VRs] using h
 | x :: xs, us, h => by
  rw [List.map_cons, VRs] at h
  obtain ⟨v, vs, rfl, h1, h2⟩ := h
  rw [VR] at h1
  rw [ints_val h2, List.map_cons, h1]
theorem val_ints {m : Map} : ∀ {zs : List Int}, VRs m (zs.map fun n => AV.int .i64 n) (zs.map (Value.int .i64))
 | [] => by simp [VRs]
 | x :: xs => by rw [List.map_cons, VRs]; exact ⟨_, _, rfl, by rw [VR], val_ints⟩
theorem row_ok (hr : Rel base m H w) {l o n : Nat} {i : Inf} {zs ys : List Int} {H' : Heap} (hm : m l = some i) (hrd : H.rd l o zs.length = some (zs.map fun n => .int .i64 n)) (hw : H.wr l o (ys.map fun n => .int .i64 n) = some H') :
    (Go.Sort.Holds (Value.int .i64) w i.b (i.off + o) zs.toArray /\ i.b < w.heap.size) /\ ∀ w', (∃ q os, w' = Sort.grow (Sort.putRow (Value.int .i64) (Sort.ahead w q) i.b (i.off + o) ys.toArray) os) -> Ok base m H w m H' w' := by
  have hst : (H.get l).st = .own := by
    unfold Heap.wr at hw
    split at hw
    · rename_i h; exact h.1
    · simp at hw
  obtain ⟨hb, hbs, ⟨arr, T, fz, hheap, harr⟩, hfz⟩ := hr.own l i hm hst
  obtain ⟨g1, g2, us, g3, g4, g5⟩ := hr.rd hm hrd
  have hus := ints_val g4
  refine ⟨⟨fun j hj => ?_, (Array.getElem?_eq_some_iff.1 hheap).1⟩, ?_⟩
  · have hj' : j < zs.length := by simpa using hj
    refine ⟨?_, hfz _⟩
    refine g5 j _ ?_
    rw [hus]
    simp [hj']
  · rintro w' ⟨q, os, rfl⟩
    obtain ⟨_, _, _, hok⟩ := Ok.put hr hm hw (val_ints (m := m) (zs := ys))
    rw [putRow_setCells]
    refine hok.trans (Ok.below hok.rel ?_)
    refine ⟨?_, ?_, ?_, ?_, fun k hk => ?_⟩
    · exact (setCells_os i.b _ _ (Sort.ahead w q)).1.trans (setCells_os i.b _ _ w).1.symm
    · exact (setCells_os i.b _ _ (Sort.ahead w q)).2.1.trans (setCells_os i.b _ _ w).2.1.symm
    · exact (setCells_os i.b _ _ (Sort.ahead w q)).2.2.trans (setCells_os i.b _ _ w).2.2.symm
    · show _ <= (((Sort.ahead w q).setCells _ _ _).heap ++ os).size
      rw [Array.size_append, setCells_size, setCells_size]
      exact Nat.le_add_right _ _
    · show (((Sort.ahead w q).setCells _ _ _).heap ++ os)[k]? = _
      have hk' : k < w.heap.size := by rw [setCells_size] at hk; exact hk
      rw [Array.getElem?_append_left (by rw [setCells_size]; exact hk'), setCells_map, setCells_map]
      rfl
theorem sortX_ok {fs : Nat}
  (h0 : ∀ (a : Option Addr) (c : Nat) (w : World), Calls P fs #[.slice a 0 c] w fun e w' => e = .returned (.tuple #[]) /\ Below w.heap.size w w')
  (hS : ∀ (b o c : Nat) (zs : List Int) (w : World), Go.Sort.Holds (Value.int .i64) w b o zs.toArray -> b < w.heap.size -> zs.length < 4611686018427387904 ->
   Calls P fs #[.slice (some ⟨b, o, none⟩) zs.length c] w fun e w' => e = .returned (.tuple #[]) /\ ∃ q os, w' = Sort.grow (Sort.putRow (Value.int .i64) (Sort.ahead w q) b o (srtL zs).toArray) os)
  (cS : Callable P fs) : ExtOk P (sortX fs) := by
 rintro f args H v H' ⟨rfl, rfl, h⟩
 rcases h with ⟨rfl, a, rfl, h⟩ | ⟨l, o, zs, rfl, hn, hp, hrd, hw⟩
 ·refine ⟨Nat.le_refl _, fun base m w args' hr ha => ?_, cS⟩
  rw [VRs] at ha
  obtain ⟨u, us, rfl, h1, h2⟩ := ha
  rw [VRs] at h2
  subst h2
  obtain ⟨ad, c, rfl⟩ : ∃ ad c, u = .slice ad 0 c := by
   rcases h with rfl | ⟨l, o, e, x, rfl⟩
   ·rw [VR] at h1; exact ⟨none, 0, h1⟩
   ·rw [VR] at h1
    obtain ⟨i, a, cap, _, rfl, _⟩ := h1
    exact ⟨_, _, rfl⟩
  refine (h0 ad c w).mono fun e w' ⟨he, hw⟩ => ⟨_, m, he, ?_, Ok.below hr hw⟩
  rw [VR]
  exact ⟨#[], rfl, by simp [VRs]⟩
 ·have hsz : H'.sz = H.sz := by
   unfold Heap.wr at hw
   split at hw
   ·simp only [zJ] at hw; subst hw; rfl
   ·simp at hw
  refine ⟨Nat.le_of_eq hsz.symm, fun base m w args' hr ha => ?_, cS⟩
  rw [VRs] at ha
  obtain ⟨u, us, rfl, h1, h2⟩ := ha
  rw [VRs] at h2
  subst h2
  rw [VR] at h1
  obtain ⟨i, a, cap, hm, rfl, hc, _, _, _, _, ha, _⟩ := h1
  obtain rfl := ha (by omega)
  obtain ⟨⟨k1, k2⟩, k3⟩ := row_ok (n := 0) hr hm hrd hw
  refine (hS i.b (i.off + o) cap zs w k1 k2 hn).mono fun e w' ⟨he, hw'⟩ => ⟨_, m, he, ?_, k3 w' hw'⟩
  rw [VR]
  exact ⟨#[], rfl, by simp [VRs]⟩
theorem grow_none (w : World) : Sort.grow w #[] = w := by
 unfold Sort.grow
 rw [Array.append_empty]
theorem Ok.trim {base : Nat} {m : Map} {H : Heap} {w : World} (h : Rel base m H w) {l n : Nat} {i : Inf} (hm : m l = some i) (hst : (H.get l).st = .own) (hn : n <= i.n) :
  Ok base m H w (m.add H.sz ⟨i.b, i.off, n, i.bsz⟩) ((H.kill l).new ((H.get l).cells.take n)) w := by
 obtain ⟨hlen, hcells⟩ := h.cells l i hm (by rw [hst]; simp)
 obtain ⟨hb, hbs, ⟨arr, T, fz, hheap, harr⟩, hfz⟩ := h.own l i hm hst
 have hlsz := h.dom l i hm
 have hle : MLe m (m.add H.sz ⟨i.b, i.off, n, i.bsz⟩) := MLe.add h.fresh
 have key : ∀ k j, m.add H.sz ⟨i.b, i.off, n, i.bsz⟩ k = some j -> (k = H.sz /\ j = ⟨i.b, i.off, n, i.bsz⟩) \/ (k ≠ H.sz /\ m k = some j) := by
  intro k j e
  unfold Map.add at e
  split at e
  ·rename_i hk; exact .inl ⟨hk, by simpa using e.symm⟩
  ·rename_i hk; exact .inr ⟨hk, e⟩
 have hg : ∀ k, k ≠ l -> k ≠ H.sz -> ((H.kill l).new ((H.get l).cells.take n)).get k = H.get k := fun k h1 h2 => by simp [Heap.kill, Heap.new, h1, h2]
 have hgl : ((H.kill l).new ((H.get l).cells.take n)).get l = ⟨[], .dead⟩ := by
  have : l ≠ H.sz := by omega
  simp [Heap.kill, Heap.new, this]
 have hgn : ((H.kill l).new ((H.get l).cells.take n)).get H.sz = ⟨(H.get l).cells.take n, .own⟩ := by simp [Heap.kill, Heap.new]
 have old : ∀ {k j st}, (((H.kill l).new ((H.get l).cells.take n)).get k).st = st -> st ≠ .dead -> k ≠ H.sz -> m k = some j -> k ≠ l /\ (H.get k).st = st := by
  intro k j st hs hd hk e
  have hkl : k ≠ l := by rintro rfl; rw [hgl] at hs; exact hd hs.symm
  rw [hg k hkl hk] at hs
  exact ⟨hkl, hs⟩
 refine ⟨⟨?_, h.size, ?_, ?_, ?_, ?_, h.tab⟩, hle, by simp [Heap.kill, Heap.new], ?_, Frame.refl _ _ _, ?_⟩
 ·intro k j e
  rcases key k j e with ⟨rfl, _⟩ | ⟨_, e⟩
  ·simp [Heap.kill, Heap.new]
  ·have := h.dom k j e; simp [Heap.kill, Heap.new]; omega
 ·intro k j e hs
  rcases key k j e with ⟨rfl, rfl⟩ | ⟨hk, e⟩
  ·rw [hgn]
   refine ⟨by simp only [List.length_take, hlen]; omega, fun q hq => ?_⟩
   simp only at hq
   obtain ⟨v, hv, hr⟩ := hcells q (by omega)
   refine ⟨v, hv, ?_⟩
   have e : ((H.get l).cells.take n).getD q .und = (H.get l).cells.getD q .und := by
    simp only [zD]
    rw [List.getElem?_take_of_lt hq]
   rw [e]; exact hr.mono hle
  ·obtain ⟨hkl, _⟩ := old rfl hs hk e
   rw [hg k hkl hk] at hs ⊢
   obtain ⟨e1, e2⟩ := h.cells k j e hs
   exact ⟨e1, fun q hq => let ⟨v, hv, hr⟩ := e2 q hq; ⟨v, hv, hr.mono hle⟩⟩
 ·intro k j e hs
  rcases key k j e with ⟨rfl, rfl⟩ | ⟨hk, e⟩
  ·exact ⟨hb, by simp only; omega, ⟨arr, T, fz, hheap, harr⟩, hfz⟩
  ·exact h.own k j e (old hs (by simp) hk e).2
 ·intro k j e hs hn
  rcases key k j e with ⟨rfl, rfl⟩ | ⟨hk, e⟩
  ·rw [hgn] at hs; simp at hs
  ·exact h.ro k j e (old hs (by simp) hk e).2 hn
 ·intro k k' j j' e e' hne hs hs'
  rcases key k j e with ⟨rfl, rfl⟩ | ⟨hk, e⟩ <;> rcases key k' j' e' with ⟨rfl, rfl⟩ | ⟨hk', e'⟩
  ·exact absurd rfl hne
  ·obtain ⟨a1, a2⟩ := old hs' (by simp) hk' e'
   exact (h.sep k' l j' i e' hm a1 a2 hst).symm
  ·obtain ⟨a1, a2⟩ := old hs (by simp) hk e
   exact h.sep k l j i e hm a1 a2 hst
  ·exact h.sep k k' j j' e e' hne (old hs (by simp) hk e).2 (old hs' (by simp) hk' e').2
 ·intro k hk e
  have hne : k ≠ H.sz := by omega
  refine ⟨by unfold Map.add; rw [if_neg hne, e], hg k ?_ hne⟩
  rintro rfl; rw [hm] at e; simp at e
 ·intro k j e hs
  rcases key k j e with ⟨rfl, rfl⟩ | ⟨hk, e⟩
  ·exact .inr ⟨l, i, hm, hst, rfl⟩
  ·exact .inr ⟨k, j, e, (old hs (by simp) hk e).2, rfl⟩
theorem compX_ok {fc : Nat}
  (h0 : ∀ (a : Option Addr) (c : Nat) (w : World), Calls P fc #[.slice a 0 c] w fun e w' => e = .returned (.slice a 0 c) /\ Below w.heap.size w w')
  (hS : ∀ (b o c : Nat) (zs : List Int) (w : World), Go.Sort.Holds (Value.int .i64) w b o zs.toArray -> zs.length <= 9223372036854775807 -> zs.length <= c ->
   Calls P fc #[.slice (some ⟨b, o, none⟩) zs.length c] w fun e w' => e = .returned (.slice (some ⟨b, o, none⟩) (compactL zs).length c) /\ ∃ q, w' = Sort.putRow (Value.int .i64) (Sort.ahead w q) b o (compactL zs ++ List.replicate (zs.length - (compactL zs).length) 0).toArray)
  (cS : Callable P fc) : ExtOk P (compX fc) := by
 rintro f args H v H' ⟨rfl, h⟩
 rcases h with ⟨rfl, rfl, h⟩ | ⟨l, zs, H1, rfl, hn, hp, hrd, hw, rfl, rfl⟩
 ·refine ⟨Nat.le_refl _, fun base m w args' hr ha => ?_, cS⟩
  rw [VRs] at ha
  obtain ⟨u, us, rfl, h1, h2⟩ := ha
  rw [VRs] at h2
  subst h2
  obtain ⟨ad, c, rfl⟩ : ∃ ad c, u = .slice ad 0 c := by
   rcases h with rfl | ⟨l, o, e, x, rfl⟩
   ·rw [VR] at h1; exact ⟨none, 0, h1⟩
   ·rw [VR] at h1
    obtain ⟨i, a, cap, _, rfl, _⟩ := h1
    exact ⟨_, _, rfl⟩
  exact (h0 ad c w).mono fun e w' ⟨he, hw⟩ => ⟨_, m, he, h1, Ok.below hr hw⟩
 ·have hl := compactL_len zs
  have hwr : H1.sz = H.sz /\ (H1.get l).st = .own := by
   unfold Heap.wr at hw
   split at hw
   ·simp only [zJ] at hw; subst hw; exact ⟨rfl, by simp [Heap.put]⟩
   ·simp at hw
  refine ⟨by simp [Heap.kill, Heap.new]; omega, fun base m w args' hr ha => ?_, cS⟩
  rw [VRs] at ha
  obtain ⟨u, us, rfl, h1, h2⟩ := ha
  rw [VRs] at h2
  subst h2
  rw [VR] at h1
  obtain ⟨i, a, cap, hm, rfl, hc, hx, h5, h6, h7, ha, he⟩ := h1
  obtain rfl := ha (by omega)
  obtain ⟨⟨k1, k2⟩, k3⟩ := row_ok (n := 0) hr hm hrd hw
  refine (hS i.b (i.off + 0) cap zs w k1 hn hc).mono fun e w' ⟨he', q, hw'⟩ => ?_
  have ok := k3 w' ⟨q, #[], by rw [grow_none]; exact hw'⟩
  have ok2 := Ok.trim ok.rel hm hwr.2 (n := (compactL zs).length) (by omega)
  refine ⟨_, _, he', ?_, ok.trans ok2⟩
  rw [VR]
  exact ⟨⟨i.b, i.off, (compactL zs).length, i.bsz⟩, _, cap, by unfold Map.add; rw [if_pos rfl], rfl, by omega, by simp, by simp, fun _ => by simp only; omega, h7, fun _ => rfl, he⟩
end
section
variable {Tb : Nat -> Option CFn} {io : Nat -> List Nat} {fi fj : Nat}
end
end
section
variable {Tb : Nat -> Option CFn} {io : Nat -> List Nat} {X : Ext} {l : List Int}
theorem srtL_len : (srtL l).length = l.length := (List.mergeSort_perm _ _).length_eq
theorem own_ints {H : Heap} {F : Nat -> Prop} {v : AV} {ls : List Nat} (hd : Den H F v (osl eI true l) ls) :
  (l = [] /\ (v = .nils \/ ∃ q o e x, v = .sl q o 0 e x)) \/ ∃ p, 0 < l.length /\ v = .sl p 0 l.length 1 false /\ ls = [p] /\ p < H.sz /\ (H.get p).st = .own /\ ¬ F p /\ (H.get p).cells = l.map fun n => .int .i64 n := by
 rw [Den] at hd
 rcases hd with ⟨_, hl, hv, _, _⟩ | ⟨p, o, n, avs, hv, he, hn, hp, hd⟩
 ·refine .inl ⟨by simpa using hl, ?_⟩
  rcases hv with rfl | ⟨q, o, rfl⟩
  ·exact .inl rfl
  ·exact .inr ⟨_, _, _, _, rfl⟩
 ·rcases hd with ⟨_, h3, h4, h5, ⟨rest, h6, h7⟩, l1, h8, h9⟩ | ⟨h1, _⟩
  ·subst h3
   obtain ⟨rfl, rfl⟩ := dens_ints h9
   have hrest : rest = [] := List.eq_nil_of_length_eq_zero (by simpa using h7)
   subst hrest
   have hln : l.length = n := by simpa using hn
   subst hln
   have hv' : v = .sl p 0 l.length 1 false := by rw [hv]; simp
   by_cases hz : l.length = 0
   ·refine .inl ⟨List.eq_nil_of_length_eq_zero hz, .inr ⟨p, 0, 1, false, ?_⟩⟩
    rw [hv', hz]
   ·exact .inr ⟨p, by omega, hv', h8, hp, h4, h5, by simpa using h6⟩
  ·cases h1
theorem put_all {H : Heap} {p : Nat} {ys : List Int} (hp : p < H.sz) (ho : (H.get p).st = .own) (hc : (H.get p).cells = l.map fun n => AV.int .i64 n) (hy : ys.length = l.length) :
    H.rd p 0 l.length = some (l.map fun n => .int .i64 n) /\ H.wr p 0 (ys.map fun n => .int .i64 n) = some (H.put p (ys.map fun n => .int .i64 n)) := by
  constructor
  · unfold Heap.rd
    rw [if_pos ⟨by rw [ho]; simp, hp, by rw [hc]; simp⟩, hc, List.drop_zero, List.take_of_length_le (by simp)]
  · unfold Heap.wr
    rw [if_pos ⟨ho, hp, by rw [hc]; simp [hy], by rw [List.all_map]; exact List.all_eq_true.2 fun _ _ => rfl⟩]
    congr 2
    unfold splice
    rw [hc, List.take_zero, List.nil_append, List.drop_of_length_le (by simp [hy]), List.append_nil]
theorem sort_call {fs : Nat} (hX : ∀ f a H v H', sortX fs f a H v H' -> X f a H v H') (hio : io fs = [0]) (hmax : l.length < 4611686018427387904) : CallOk Tb X io fs [osl eI true l] (.tup []) [osl eI true (srtL l)] := by
 intro H F vs ls hd hnd hfz
 have hvl := hd.length
 match vs, hvl, hd with
 | [v], _, hd =>
 rw [dens_one] at hd
 have hd0 := hd
 rcases own_ints hd with ⟨rfl, hv⟩ | ⟨p, hpos, rfl, rfl, hp, ho, hF, hc⟩
 ·refine ⟨.tup [], H, F, ls, .ext (hX _ _ _ _ _ ⟨rfl, rfl, .inl ⟨rfl, v, rfl, hv⟩⟩), hfz, ?_, hnd, Tr.refl _ _ _⟩
  rw [hio, Dens]
  refine ⟨_, [v], [], ls, rfl, rfl, by rw [Den]; exact ⟨[], rfl, by rw [Dens]; exact ⟨rfl, rfl⟩⟩, dens_one.2 ?_⟩
  rw [show srtL [] = [] by simp [srtL]]; exact hd0
 ·obtain ⟨k1, k2⟩ := put_all (ys := srtL l) hp ho hc srtL_len
  have hg : ∀ q, q ≠ p -> (H.put p ((srtL l).map fun n => .int .i64 n)).get q = H.get q := fun q hq => by simp [Heap.put, hq]
  have hgp : (H.put p ((srtL l).map fun n => .int .i64 n)).get p = ⟨(srtL l).map fun n => .int .i64 n, .own⟩ := by simp [Heap.put]
  refine ⟨.tup [], _, F, [p], .ext (hX _ _ _ _ _ ⟨rfl, rfl, .inr ⟨p, 0, l, rfl, hmax, hpos, k1, k2⟩⟩), ?_, ?_, hnd, ⟨Nat.le_refl _, fun k hk hn => hg k (by simpa using hn), fun k hk => .inl hk, fun k hk => hk, fun k hk => .inl hk⟩⟩
  ·intro k hk
   have hkp : k ≠ p := fun e => by subst e; exact hF hk
   rw [hg k hkp]; exact hfz k hk
  ·rw [hio, Dens]
   refine ⟨_, [.sl p 0 l.length 1 false], [], [p], rfl, rfl, by rw [Den]; exact ⟨[], rfl, by rw [Dens]; exact ⟨rfl, rfl⟩⟩, dens_one.2 ?_⟩
   rw [Den]
   exact .inr ⟨p, 0, _, (srtL l).map (fun n => .int .i64 n), rfl, by decide, by simp [srtL_len], hp, .inl ⟨rfl, rfl, by rw [hgp], hF, ⟨[], by rw [hgp]; simp, rfl⟩, [], rfl, ints_dens⟩⟩
theorem comp_call {fc : Nat} (hX : ∀ f a H v H', compX fc f a H v H' -> X f a H v H') (hio : io fc = [0]) (hmax : l.length <= 9223372036854775807) : CallOk Tb X io fc [osl eI true l] (osl eI true (compactL l)) [.und] := by
 intro H F vs ls hd hnd hfz
 have hvl := hd.length
 match vs, hvl, hd with
 | [v], _, hd =>
 rw [dens_one] at hd
 have hd0 := hd
 rcases own_ints hd with ⟨rfl, hv⟩ | ⟨p, hpos, rfl, rfl, hp, ho, hF, hc⟩
 ·refine ⟨v, H, F, ls, .ext (hX _ _ _ _ _ ⟨rfl, .inl ⟨rfl, rfl, hv⟩⟩), hfz, ?_, hnd, Tr.refl _ _ _⟩
  rw [hio, Dens]
  exact ⟨v, [v], ls, [], rfl, by simp, hd0, by rw [dens_one, Den]⟩
 ·have hl := compactL_len l
  have hy : (compactL l ++ List.replicate (l.length - (compactL l).length) 0).length = l.length := by simp; omega
  obtain ⟨k1, k2⟩ := put_all (ys := compactL l ++ List.replicate (l.length - (compactL l).length) 0) hp ho hc hy
  have hgp : (H.put p ((compactL l ++ List.replicate (l.length - (compactL l).length) 0).map fun n => .int .i64 n)).get p = ⟨(compactL l ++ List.replicate (l.length - (compactL l).length) 0).map fun n => .int .i64 n, .own⟩ := by simp [Heap.put]
  have hcl : ((H.put p ((compactL l ++ List.replicate (l.length - (compactL l).length) 0).map fun n => .int .i64 n)).get p).cells.take (compactL l).length = (compactL l).map fun n => .int .i64 n := by
   rw [hgp]; simp
  refine ⟨.sl H.sz 0 (compactL l).length 1 false, _, F, [H.sz], .ext (hX _ _ _ _ _ ⟨rfl, .inr ⟨p, l, _, rfl, hmax, hpos, k1, k2, rfl, rfl⟩⟩), ?_, ?_, by simp, ?_⟩
  ·intro k hk
   have hkp : k ≠ p := fun e => by subst e; exact hF hk
   obtain ⟨h1, h2⟩ := hfz k hk
   have hkn : k ≠ H.sz := by omega
   refine ⟨by simp [Heap.kill, Heap.new, Heap.put]; omega, ?_⟩
   simpa [Heap.kill, Heap.new, Heap.put, hkp, hkn] using h2
  ·rw [hio, Dens]
   refine ⟨_, [.sl p 0 l.length 1 false], [H.sz], [], rfl, by simp, ?_, by rw [dens_one, Den]⟩
   rw [Den, hcl]
   have hFn : ¬ F H.sz := fun h => by have := (hfz _ h).1; omega
   refine .inr ⟨H.sz, 0, _, (compactL l).map (fun n => .int .i64 n), rfl, by decide, by simp, by simp [Heap.kill, Heap.new, Heap.put], .inl ⟨rfl, rfl, by simp [Heap.new, Heap.kill, Heap.put], hFn, ⟨[], by simp [Heap.new, Heap.kill, Heap.put], by simp⟩, [], by simp, ints_dens⟩⟩
  ·refine ⟨by simp [Heap.kill, Heap.new, Heap.put], fun k hk hn => ?_, fun k hk => ?_, fun k hk => hk, fun k hk => .inl hk⟩
   ·have hkp : k ≠ p := by simpa using hn
    have hkn : k ≠ H.sz := by omega
    simp [Heap.kill, Heap.new, Heap.put, hkp, hkn]
   ·right
    simp only [List.mem_singleton] at hk
    omega
def sortN (l : List Int) : Option (List Int) := if l.length < 4611686018427387904 then some (srtL l) else none
theorem ca_sort {x : Cx} {X : Ext} {fs : Nat} {r : List Int} (hX : ∀ f a H v H', sortX fs f a H v H' -> X f a H v H') (hx : ∀ f ts t outs, CallOk x.fns X x.io f ts t outs -> x.X f ts t outs) (hio : x.io fs = [0]) (h : sortN l = some r) : VJx x (.ca fs [osl eI true l] (.tup []) [osl eI true r]) := by
 unfold sortN at h
 split at h
 ·rename_i hc
  simp only [zJ] at h
  subst h
  exact VJ.ext (hx _ _ _ _ (sort_call hX hio hc))
 ·simp at h
theorem ca_comp {x : Cx} {X : Ext} {fc : Nat} {r : List Int} (hX : ∀ f a H v H', compX fc f a H v H' -> X f a H v H') (hx : ∀ f ts t outs, CallOk x.fns X x.io f ts t outs -> x.X f ts t outs) (hio : x.io fc = [0]) (h : compactN l = some r) : VJx x (.ca fc [osl eI true l] (osl eI true r) [.und]) := by
 unfold compactN at h
 split at h
 ·rename_i hc
  simp only [zJ] at h
  subst h
  exact VJ.ext (hx _ _ _ _ (comp_call hX hio (Nat.le_of_lt hc)))
 ·simp at h
end
section
variable {α β σ ρ : Type}
theorem ix_nat {l : List α} {i : Nat} (h : i < l.length) : ix l (i : Int) = some l[i] := by
 unfold ix
 rw [if_pos (by omega), Int.toNat_natCast, zE h]
theorem ix_cast {l : List α} {i : Nat} : ix l (i : Int) = l[i]? := by
 unfold ix
 rw [if_pos (by omega), Int.toNat_natCast]
theorem ix_of {l : List α} {j : Int} (h0 : 0 <= j) : ix l j = l[j.toNat]? := by
 unfold ix; rw [if_pos h0]
theorem app_fits {bs : Nat} {l l' : List α} (h : (l.length + l'.length) * bs <= 140737488355328) : app bs l l' = some (l ++ l') := by
 unfold app; rw [if_pos (.inr h)]
theorem mkl_ok {bs n : Int} {a : α} (h0 : 0 <= n) (h : bs * n <= 281474976710656) (hn : n <= 9223372036854775807) : mkl bs n a = some (List.replicate n.toNat a) := by
 unfold mkl; rw [if_pos ⟨h0, h, hn⟩]
theorem w64_of {n : Int} (h : -9223372036854775808 <= n /\ n <= 9223372036854775807) : w64 n = n := by
 unfold w64; rw [IntKind.wrap_i64]; omega
theorem w64_succ {i : Nat} (h : i < 9223372036854775807) : w64 ((i : Int) + 1) = ((i + 1 : Nat) : Int) := by
 rw [w64_of (by omega)]; omega
theorem cutL_ok {l : List α} {lo hi : Int} (h0 : 0 <= lo) (h1 : lo <= hi) (h2 : hi <= l.length) : cutL l lo hi = some ((l.take hi.toNat).drop lo.toNat) := by
 unfold cutL; rw [if_pos ⟨h0, h1, h2⟩]
theorem cat_ok {a b : List UInt8} (h : a.length + b.length <= 9223372036854775807) : cat a b = some (a ++ b) := by
 unfold cat
 rw [if_pos]
 have : IntKind.i64.max = 9223372036854775807 := by decide
 rw [this]; omega
theorem iter_steps {f : σ -> Option (σ ⊕ ρ)} (st : Nat -> σ) (n : Nat) (r : ρ) (hs : ∀ i, i < n -> f (st i) = some (.inl (st (i + 1)))) (he : f (st n) = some (.inr r)) : iter f (st 0) = some r := by
 have : ∀ k i, k = n - i -> i <= n -> iter f (st i) = some r := by
  intro k
  induction k with
  | zero =>
   intro i hk hi
   have : i = n := by omega
   subst this
   rw [iter_eq, he]
  | succ k ih =>
   intro i hk hi
   rw [iter_eq, hs i (by omega)]
   exact ih (i + 1) (by omega) (by omega)
 exact this n 0 (by omega) (by omega)
end
section
variable {α β σ ρ : Type}
theorem iter_up {f : σ -> Option (σ ⊕ ρ)} (n : Nat) (I : Nat -> σ -> Prop) (Q : ρ -> Prop)
  (hs : ∀ i s, i < n -> I i s -> ∃ o, f s = some o /\ (match o with | .inl s' => I (i + 1) s' | .inr r => Q r)) (he : ∀ s, I n s -> ∃ r, f s = some (.inr r) /\ Q r) :
  ∀ (s : σ), I 0 s -> ∃ r, iter f s = some r /\ Q r := by
 have : ∀ k i s, k = n - i -> i <= n -> I i s -> ∃ r, iter f s = some r /\ Q r := by
  intro k
  induction k with
  | zero =>
   intro i s hk hi h
   have : i = n := by omega
   subst this
   obtain ⟨r, h1, h2⟩ := he s h
   exact ⟨r, by rw [iter_eq, h1], h2⟩
  | succ k ih =>
   intro i s hk hi h
   obtain ⟨o, h1, h2⟩ := hs i s (by omega) h
   rw [iter_eq, h1]
   cases o with
   | inl s' => exact ih (i + 1) s' (by omega) (by omega) h2
   | inr r => exact ⟨r, rfl, h2⟩
 exact fun s h => this n 0 s (by omega) (by omega) h
theorem take_succ' {l : List α} {i : Nat} (h : i < l.length) : l.take (i + 1) = l.take i ++ [l[i]] := by
 rw [List.take_add_one, zE h]; rfl
theorem set_copy {a L : List α} {i : Nat} (h : i < a.length) (hl : L.length = a.length) : (a.take i ++ L.drop i).set i a[i] = a.take (i + 1) ++ L.drop (i + 1) := by
 apply List.ext_getElem?
 intro j
 rw [List.getElem?_set]
 have e1 : (a.take i).length = i := by simp; omega
 have e2 : (a.take (i + 1)).length = i + 1 := by simp; omega
 by_cases hj : i = j
 ·subst hj
  rw [if_pos rfl, if_pos (by simp; omega), List.getElem?_append_left (by omega), List.getElem?_take, if_pos (by omega), zE h]
 ·rw [if_neg hj]
  by_cases hlt : j < i
  ·rw [List.getElem?_append_left (by omega), List.getElem?_append_left (by omega), List.getElem?_take, List.getElem?_take, if_pos hlt, if_pos (by omega)]
  ·rw [List.getElem?_append_right (by omega), List.getElem?_append_right (by omega), e1, e2, List.getElem?_drop, List.getElem?_drop]
   congr 1; omega
theorem iter_copy {f : List α × Int -> Option ((List α × Int) ⊕ List α)} {a L : List α} (hl : L.length = a.length)
  (hs : ∀ (i : Nat) (h : i < a.length) out, i < out.length -> f (out, (i : Int)) = some (.inl (out.set i a[i], ((i + 1 : Nat) : Int)))) (he : ∀ out, f (out, (a.length : Int)) = some (.inr out)) :
  iter f (L, 0) = some a := by
 have := iter_steps (f := f) (fun i => (a.take i ++ L.drop i, (i : Int))) a.length a (fun i hi => by rw [hs i hi _ (by simp; omega), set_copy hi hl]) (by
  rw [he, List.take_of_length_le (Nat.le_refl _), List.drop_of_length_le (by omega), List.append_nil])
 simpa using this
theorem iter_ex {f : Int -> Option (Int ⊕ (Unit ⊕ ρ))} (L : List α) (p : α -> Bool) (c : ρ)
  (hs : ∀ (i : Nat) (h : i < L.length), f (i : Int) = some (if p L[i] = true then .inr (.inr c) else .inl ((i + 1 : Nat) : Int))) (he : f (L.length : Int) = some (.inr (.inl ()))) :
  iter f 0 = some (if L.any p = true then .inr c else .inl ()) := by
 obtain ⟨r, h1, h2⟩ := iter_up (f := f) L.length (fun i s => s = (i : Int) /\ (L.take i).any p = false) (fun r => r = if L.any p = true then .inr c else .inl ()) (fun i s hi ⟨h, hp⟩ => by
   subst h
   refine ⟨_, hs i hi, ?_⟩
   by_cases hc : p L[i] = true
   ·rw [if_pos hc]
    dsimp only
    rw [if_pos (List.any_eq_true.2 ⟨L[i], List.getElem_mem hi, hc⟩)]
   ·rw [if_neg hc]
    refine ⟨rfl, ?_⟩
    rw [take_succ' hi, List.any_append, hp]
    simpa using hc) (fun s ⟨h, hp⟩ => by
   subst h
   refine ⟨_, he, ?_⟩
   rw [List.take_of_length_le (Nat.le_refl _)] at hp
   rw [hp]; rfl) 0 ⟨rfl, by simp⟩
 rw [h1, h2]
theorem iter_idx {f : Int -> Option (Int ⊕ (Unit ⊕ Int))} (L : List α) (p : α -> Bool)
  (hs : ∀ (i : Nat) (h : i < L.length), f (i : Int) = some (if p L[i] = true then .inr (.inr (i : Int)) else .inl ((i + 1 : Nat) : Int))) (he : f (L.length : Int) = some (.inr (.inl ()))) :
  ∃ o, iter f 0 = some o /\ (match o with | .inl _ => L.any p = false | .inr x => 0 <= x /\ L.any p = true) := by
 refine iter_up (f := f) L.length (fun i s => s = (i : Int) /\ (L.take i).any p = false) (fun o => match o with | .inl _ => L.any p = false | .inr x => 0 <= x /\ L.any p = true) (fun i s hi ⟨h, hp⟩ => ?_) (fun s ⟨h, hp⟩ => ?_) 0 ⟨rfl, by simp⟩
 ·subst h
  refine ⟨_, hs i hi, ?_⟩
  by_cases hc : p L[i] = true
  ·rw [if_pos hc]
   exact ⟨by omega, List.any_eq_true.2 ⟨L[i], List.getElem_mem hi, hc⟩⟩
  ·rw [if_neg hc]
   refine ⟨rfl, ?_⟩
   rw [take_succ' hi, List.any_append, hp]
   simpa using hc
 ·subst h
  refine ⟨_, he, ?_⟩
  rw [List.take_of_length_le (Nat.le_refl _)] at hp
  exact hp
def lft (n : Int) (s : Nat) : Int := if (s : Int) <= n then n - s else -1
theorem lft_neg {n : Int} {s : Nat} : lft n s < 0 ↔ n < s := by unfold lft; split <;> omega
theorem lft_pos {n : Int} {s : Nat} (h : ¬ lft n s < 0) : lft n s = n - s /\ (s : Int) <= n := by
 unfold lft at h ⊢
 by_cases hc : (s : Int) <= n
 ·rw [if_pos hc]; exact ⟨rfl, hc⟩
 ·rw [if_neg hc] at h; omega
theorem lft_bad {n : Int} {s : Nat} (h : lft n s < 0) : lft n s = -1 := by
 unfold lft at h ⊢
 by_cases hc : (s : Int) <= n
 ·rw [if_pos hc] at h; omega
 ·rw [if_neg hc]
theorem iter_sz {f : Int × Int -> Option ((Int × Int) ⊕ (Int ⊕ Int))} (s : α -> Nat) (L : List α) (b0 : Int) (h0 : 0 <= b0)
  (hs : ∀ (i : Nat) (h : i < L.length) (b : Int), 0 <= b -> b <= b0 -> f (b, (i : Int)) = some (if lft b (s L[i]) < 0 then .inr (.inr (-1)) else .inl (lft b (s L[i]), ((i + 1 : Nat) : Int))))
  (he : ∀ b, f (b, (L.length : Int)) = some (.inr (.inl b))) : iter f (b0, 0) = some (if lft b0 (L.map s).sum < 0 then .inr (-1) else .inl (lft b0 (L.map s).sum)) := by
 obtain ⟨r, h1, h2⟩ := iter_up (f := f) L.length (fun i x => x = (b0 - ((L.take i).map s).sum, (i : Int)) /\ (((L.take i).map s).sum : Int) <= b0) (fun r => r = (if lft b0 (L.map s).sum < 0 then .inr (-1) else .inl (lft b0 (L.map s).sum))) (fun i x hi ⟨h, hp⟩ => by
   subst h
   refine ⟨_, hs i hi _ (by omega) (by omega), ?_⟩
   have e1 : ((L.take (i + 1)).map s).sum = ((L.take i).map s).sum + s L[i] := by
    rw [take_succ' hi, List.map_append, List.sum_append]; simp
   have e2 : ((L.take (i + 1)).map s).sum <= (L.map s).sum := by
    conv => rhs; rw [<- List.take_append_drop (i + 1) L, List.map_append, List.sum_append]
    omega
   by_cases hc : lft (b0 - ((L.take i).map s).sum) (s L[i]) < 0
   ·rw [if_pos hc]
    dsimp only
    rw [if_pos]
    rw [lft_neg] at hc ⊢
    omega
   ·rw [if_neg hc]
    obtain ⟨g1, g2⟩ := lft_pos hc
    refine ⟨?_, by omega⟩
    rw [g1, e1]
    congr 1; omega) (fun x ⟨h, hp⟩ => by
   subst h
   refine ⟨_, he _, ?_⟩
   rw [List.take_of_length_le (Nat.le_refl _)] at hp ⊢
   have e3 : lft b0 (L.map s).sum = b0 - (L.map s).sum := by unfold lft; rw [if_pos hp]
   rw [e3, if_neg (by omega)]) (b0, 0) ⟨by simp, by simpa using h0⟩
 rw [h1, h2]
theorem mem_le_sum {s : α -> Nat} {l : List α} {a : α} (h : a ∈ l) : s a <= (l.map s).sum := by
 induction l with
 | nil => simp at h
 | cons b l ih =>
  rw [List.map_cons, List.sum_cons]
  rcases List.mem_cons.1 h with rfl | h
  ·omega
  ·have := ih h; omega
end
section
variable {α β γ σ ρ : Type}
theorem iter_flat {f : List γ × Int -> Option ((List γ × Int) ⊕ ρ)} (L : List α) (g : α -> List γ) (fin : List γ -> ρ)
  (hs : ∀ (i : Nat) (h : i < L.length), f ((L.take i).flatMap g, (i : Int)) = some (.inl ((L.take i).flatMap g ++ g L[i], ((i + 1 : Nat) : Int)))) (he : f (L.flatMap g, (L.length : Int)) = some (.inr (fin (L.flatMap g)))) :
  iter f ([], 0) = some (fin (L.flatMap g)) := by
 obtain ⟨r, h1, h2⟩ := iter_up (f := f) L.length (fun i s => s = ((L.take i).flatMap g, (i : Int))) (fun r => r = fin (L.flatMap g)) (fun i s hi h => by
   subst h
   refine ⟨_, hs i hi, ?_⟩
   dsimp only
   rw [take_succ' hi, List.flatMap_append]; simp) (fun s h => by
   subst h
   rw [List.take_of_length_le (Nat.le_refl _)]
   exact ⟨_, he, rfl⟩) ([], 0) (by simp)
 rw [h1, h2]
theorem any_not {l : List α} {p : α -> Bool} : (l.any fun a => !p a) = !l.all p := by
 induction l with
 | nil => rfl
 | cons a l ih => simp [ih, Bool.not_and]
theorem take_flat_le {l : List α} {i : Nat} {g : α -> List γ} {m : Nat} (h : ∀ a, (g a).length <= m) : ((l.take i).flatMap g).length <= i * m := by
 have : ∀ l : List α, (l.flatMap g).length <= l.length * m := by
  intro l
  induction l with
  | nil => simp
  | cons a l ih => rw [List.flatMap_cons, List.length_append, List.length_cons, Nat.add_mul]; have := h a; omega
 refine Nat.le_trans (this _) (Nat.mul_le_mul_right _ ?_)
 simp; omega
end
section
variable {α β : Type}
def Ens (x : Option α) (Q : α -> Prop) : Prop := ∃ a, x = some a /\ Q a
theorem Ens.of {a : α} {Q : α -> Prop} (h : Q a) : Ens (some a) Q := ⟨a, rfl, h⟩
theorem Ens.bind {x : Option α} {f : α -> Option β} {Q : α -> Prop} {R : β -> Prop} (h : Ens x Q) (g : ∀ a, Q a -> Ens (f a) R) : Ens (x.bind f) R := by
 obtain ⟨a, rfl, ha⟩ := h
 exact g a ha
theorem Ens.mono {x : Option α} {Q R : α -> Prop} (h : Ens x Q) (g : ∀ a, Q a -> R a) : Ens x R := by
 obtain ⟨a, h1, h2⟩ := h
 exact ⟨a, h1, g a h2⟩
theorem Ens.ite {c : Prop} [Decidable c] {x y : Option α} {Q : α -> Prop} (h : c -> Ens x Q) (g : ¬ c -> Ens y Q) : Ens (if c then x else y) Q := by
 by_cases hc : c
 ·rw [if_pos hc]; exact h hc
 ·rw [if_neg hc]; exact g hc
theorem Ens.eq {x : Option α} {Q : α -> Prop} (h : Ens x Q) (a : α) (g : ∀ b, Q b -> b = a) : x = some a := by
 obtain ⟨b, h1, h2⟩ := h
 rw [h1, g b h2]
end
end Go.Proofs.YtbpdhmbdpjafeaaGreatH
