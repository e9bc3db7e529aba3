/- The machine of trees: slicing, appending, parts of results. -/
import Derived.Test.YtabmomjfdondnaaHm22
set_option linter.unusedVariables false
set_option linter.unusedSimpArgs false
namespace Go.Proofs.YtabmomjfdondnaaH
open Go

/-- The elements' cells that are appended. -/
def moreV (V : VEnv) (e : Nat) (x : Opd) : Option (List T × VEnv) :=
  match see V x with
  | some .nils => some ([], V)
  | some (.sl _ _ e' _ cs) => if e = e' then if plains cs then some (cs, V) else match takeV V x with
      | some (.sl _ _ e' _ cs', V1) => if e = e' then some (cs', V1) else none
      | _ => none
    else none
  | _ => none
def appV0 (V : VEnv) (e bs : Nat) (s x : Opd) : Option (T × VEnv) :=
  match moreV V e x with
  | some (ys, V1) => match takeV V1 s with
    | some (t, V2) =>
      if ys.length = 0 then (match t with
        | .nils => some (.nils, V2)
        | .sl o y e' sk cs => if e = e' then some (.sl o y e' sk cs, V2) else none
        | _ => none)
      else if e = 0 ∨ bs = 0 ∨ ys.all T.one = false then none
      else match t with
        | .nils => if (ys.length / e) * bs ≤ room then some (.sl true false e 0 ys, V2) else none
        | .sl true y e' sk cs => if e = e' ∧ (cs.length / e + ys.length / e) * bs ≤ room then
            if ys.length / e ≤ sk then some (.sl true y e (sk - ys.length / e) (cs ++ ys), V2) else if sk = 0 then some (.sl true y e 0 (cs ++ ys), V2) else none
          else none
        | .sl false true e' _ cs => if e = e' ∧ (cs.length / e + ys.length / e) * bs ≤ room ∧ cs.all T.one = true then some (.sl true false e 0 (cs ++ ys), V2) else none
        | _ => none
    | none => none
  | none => none
/-- Onto a slice. -/
def appT (e bs : Nat) (t : T) (ys : List T) : Option T :=
  if ys.length = 0 then (match t with
    | .nils => some .nils
    | .sl o y e' sk cs => if e = e' then some (.sl o y e' sk cs) else none
    | _ => none)
  else if e = 0 ∨ bs = 0 ∨ ys.all T.one = false then none
  else match t with
    | .nils => if (ys.length / e) * bs ≤ room then some (.sl true false e 0 ys) else none
    | .sl true y e' sk cs => if e = e' ∧ (cs.length / e + ys.length / e) * bs ≤ room then
        if ys.length / e ≤ sk then some (.sl true y e (sk - ys.length / e) (cs ++ ys)) else if sk = 0 then some (.sl true y e 0 (cs ++ ys)) else none
      else none
    | .sl false true e' _ cs => if e = e' ∧ (cs.length / e + ys.length / e) * bs ≤ room ∧ cs.all T.one = true then some (.sl true false e 0 (cs ++ ys)) else none
    | _ => none
def appV (V : VEnv) (e bs : Nat) (s x : Opd) : Option (T × VEnv) :=
  match moreV V e x with
  | some (ys, V1) => match takeV V1 s with
    | some (t, V2) => (appT e bs t ys).map fun u => (u, V2)
    | none => none
  | none => none
theorem appV_eq (V : VEnv) (e bs : Nat) (s x : Opd) : appV V e bs s x = appV0 V e bs s x := by
  unfold appV appV0
  split
  · split
    · unfold appT
      split
      · split
        · rfl
        · split <;> rfl
        · rfl
      · split
        · rfl
        · split
          · split <;> rfl
          · split
            · split
              · rfl
              · split <;> rfl
            · rfl
          · split <;> rfl
          · rfl
    · rfl
  · rfl
/-- The tuple in a slot. -/
def tupOf (V : VEnv) : Opd → Option (Nat × List T)
  | .t s => match V.get s with
    | .v (.tup cs) => some (s, cs)
    | .al r => match V.get r with
      | .v (.tup cs) => some (r, cs)
      | _ => none
    | _ => none
  | _ => none
def exV (V : VEnv) (x : Opd) (i : Nat) : Option (T × VEnv) :=
  match tupOf V x with
  | some (s, cs) => match cs[i]? with
    | some u => if u.plain then some (u, V) else some (u, V.set s (.v (.tup (cs.set i .und))))
    | none => none
  | none => none
def cutT (y : Bool) (e : Nat) (cs : List T) (V : VEnv) (lo hi mx : Option Opd) : Option T :=
  match mx with
  | none => match osca (sca V) (cs.length / e) (cs.length / e) hi with
    | some h => match osca (sca V) h 0 lo with
      | some a => if y = true ∧ h ≠ cs.length / e then none else some (.sl false y e 0 ((cs.take (h * e)).drop (a * e)))
      | none => none
    | none => none
  | some m => match bnd (cs.length / e) (sca V m), hi with
    | some m', some h => match bnd m' (sca V h) with
      | some h' => match osca (sca V) h' 0 lo with
        | some a => if m' = h' then some (.sl false true e 0 ((cs.take (h' * e)).drop (a * e))) else none
        | none => none
      | none => none
    | _, _ => none
def T.mayNil : T → T
  | .sl false y e _ cs => .sl false y e 1 cs
  | t => t
def sliceV (V : VEnv) (e : Nat) (x : Opd) (lo hi mx : Option Opd) : Option T :=
  match see V x with
  | some (.sl false y e' 1 cs) => if e = e' then match mx with
    | none => (cutT y e cs V lo hi none).map T.mayNil
    | some _ => none
    else none
  | some .nils => match osca (sca V) 0 0 hi, osca (sca V) 0 0 lo, mx with
    | some _, some _, none => some .nils
    | _, _, _ => none
  | _ => match slOf V x with
    | some (.sh y e' cs) => if e = e' then cutT y e cs V lo hi mx else none
    | _ => none

variable {H H' : Heap} {F F' : Nat → Prop} {env env' : Env} {V V' : VEnv} {Lf : Nat → List Nat} {v : AV} {ls : List Nat} {ks : List Nat} {r : RV}

theorem osca_obnd (h : Sta H F env V Lf) {y n a : Nat} {x : Option Opd} (hx : osca (sca V) y n x = some a) : obnd env y n x = some a := by
  rw [← osca_ev]; exact osca_mono (sca_ok h) hx
theorem bnd_le2 {y a : Nat} {x : AV} (h : bnd y x = some a) : a ≤ y := by
  unfold bnd at h
  split at h
  · split at h
    · simp only [Option.some.injEq] at h; omega
    · simp at h
  · simp at h
theorem osca_le {ev : Opd → AV} {y n a : Nat} {x : Option Opd} (h : osca ev y n x = some a) (hn : n ≤ y) : a ≤ y := by
  cases x with
  | none => simp only [osca, Option.some.injEq] at h; omega
  | some x => exact bnd_le2 h
theorem bnd_sca (h : Sta H F env V Lf) {y a : Nat} {x : Opd} (hx : bnd y (sca V x) = some a) : bnd y (x.ev env) = some a := by
  rcases sca_ok h x with e | e
  · rw [e] at hx; simp [bnd] at hx
  · rw [← e]; exact hx

theorem cut_den {l o e n hh a : Nat} {z : Bool} {avs pre rest : List AV} {cs : List T} (hl : l < H.sz) (hst : (H.get l).st ≠ .dead) (hF : F l) (hc : (H.get l).cells = pre ++ avs ++ rest) (hpre : pre.length = o) (hd : Dens H F avs cs [])
    (hn : cs.length = n * e) (he : 0 < e) (hle : hh ≤ n) (hale : a ≤ hh) : Den H F (.sl l (o + a * e) (hh - a) e z) (.sl false z e 0 ((cs.take (hh * e)).drop (a * e))) [] := by
  have h1 : a * e ≤ hh * e := Nat.mul_le_mul_right e hale
  have h2 : hh * e ≤ n * e := Nat.mul_le_mul_right e hle
  have hmid : (cs.drop (a * e)).take (hh * e - a * e) = (cs.take (hh * e)).drop (a * e) := by rw [List.drop_take]
  obtain ⟨a1, a2, a3, m1, m2, m3, rfl, hm, l1, l2, d1, d2, d3⟩ := dens_mid hd (k := a * e) (n := hh * e - a * e) (by omega)
  have hm2 : m2 = [] := by
    have := congrArg List.length hm; simp at this
    exact List.eq_nil_of_length_eq_zero (by omega)
  subst hm2
  rw [hmid] at d2
  rw [Den]
  refine .inr ⟨l, o + a * e, hh - a, a2, rfl, he, by rw [l2, Nat.sub_mul], hl, .inr ⟨rfl, hst, hF, ⟨pre ++ a1, a3 ++ rest, by rw [hc]; simp, by simp; omega⟩, rfl, d2⟩⟩

theorem cut_ok {e l o n : Nat} {y : Bool} {x : Opd} {lo hi mx : Option Opd} {t : T} {avs pre rest : List AV} {cs : List T} (h : Sta H F env V Lf) (he : x.ev env = .sl l o n e y) (g1 : l < H.sz) (g2 : (H.get l).st ≠ .dead) (g3 : F l)
    (g4 : (H.get l).cells = pre ++ avs ++ rest) (g5 : pre.length = o) (g6 : Dens H F avs cs []) (hn : cs.length = n * e) (hpos : 0 < e) (hx : cutT y e cs V lo hi mx = some t) :
    ∃ v, heapOp env H (.sls e x lo hi mx) = some (v, H) ∧ heapOp env H (.slx e x lo hi mx) = some (v, H) ∧ Den H F v t [] ∧ ∃ z ds, t = .sl false z e 0 ds := by
  have hdiv : cs.length / e = n := by rw [hn, Nat.mul_div_cancel _ hpos]
  have hguard : ¬ (e ≠ e ∨ e = 0) := by omega
  unfold cutT at hx
  rw [hdiv] at hx
  split at hx
  · split at hx
    · rename_i hh h1
      split at hx
      · rename_i a h2
        split at hx
        · simp at hx
        · rename_i hy
          simp only [Option.some.injEq] at hx; subst hx
          have e1 := osca_obnd h h1
          have e2 := osca_obnd h h2
          have hle := osca_le h1 (Nat.le_refl _)
          have hale := osca_le h2 (Nat.zero_le _)
          have hb : hbnd env H l o n e y hi = some hh := by
            cases hi with
            | none => simpa [hbnd, obnd] using e1
            | some q =>
              simp only [obnd, bnd] at e1
              simp only [hbnd]
              split at e1
              · rename_i w hw
                split at e1
                · rename_i hb; rw [if_pos ⟨hb.1, .inl hb.2⟩]; exact e1
                · simp at e1
              · simp at e1
          refine ⟨.sl l (o + a * e) (hh - a) e y, ?_, ?_, cut_den g1 g2 g3 g4 g5 g6 hn hpos hle hale, _, _, rfl⟩
          · simp only [heapOp, pureOp, he, e1, e2, if_neg hguard, if_neg hy, Option.map_some]
          · simp only [heapOp, he, hb, e2, if_neg hguard, if_neg hy]
      · simp at hx
    · simp at hx
  · rename_i m
    split at hx
    · rename_i m' q h0
      split at hx
      · rename_i hh h1
        split at hx
        · rename_i a h2
          split at hx
          · rename_i hmh
            simp only [Option.some.injEq] at hx; subst hx
            have e0 := bnd_sca h h0
            have e1 := bnd_sca h h1
            have e2 := osca_obnd h h2
            have hle0 := bnd_le2 h0
            have hle := bnd_le2 h1
            have hale := osca_le h2 (Nat.zero_le _)
            refine ⟨.sl l (o + a * e) (hh - a) e true, ?_, ?_, cut_den g1 g2 g3 g4 g5 g6 hn hpos (by omega) hale, _, _, rfl⟩
            · simp only [heapOp, pureOp, he, e0, e1, e2, if_neg hguard, if_pos hmh, Option.map_some]
            · simp only [heapOp, he, e0, e1, e2, if_neg hguard, if_pos hmh]
          · simp at hx
        · simp at hx
      · simp at hx
    · simp at hx
theorem slice_ok {e : Nat} {x : Opd} {lo hi mx : Option Opd} {t : T} (h : Sta H F env V Lf) (hx : sliceV V e x lo hi mx = some t) :
    ∃ v, heapOp env H (.sls e x lo hi mx) = some (v, H) ∧ heapOp env H (.slx e x lo hi mx) = some (v, H) ∧ Den H F v t [] := by
  unfold sliceV at hx
  split at hx
  · rename_i y e' cs hs
    split at hx
    · rename_i hee
      subst hee
      split at hx
      · obtain ⟨u, hu, rfl⟩ := Option.map_eq_some_iff.1 hx
        obtain ⟨ls, hd⟩ := see_ok h hs
        have hls : ls = [] := Den.plain (t := .sl false y e 1 cs) rfl hd
        subst hls
        rw [Den] at hd
        rcases hd with ⟨_, rfl, hv0, _, hpos⟩ | ⟨l, o, n, avs, hv, hpos, hn, hl, hd⟩
        · unfold cutT at hu
          simp only [List.length_nil, Nat.zero_div] at hu
          split at hu
          · rename_i hh h1
            split at hu
            · rename_i a h2
              split at hu
              · simp at hu
              · simp only [Option.some.injEq] at hu; subst hu
                have hh0 : hh = 0 := Nat.le_zero.1 (osca_le h1 (Nat.le_refl _))
                subst hh0
                have e1 := osca_obnd h h1
                have e2 := osca_obnd h h2
                rcases hv0 with hv | ⟨l, o, hv⟩
                · refine ⟨.nils, by simp only [heapOp, pureOp, hv, e1, e2]; rfl, by simp only [heapOp, hv, e1, e2], ?_⟩
                  simp only [T.mayNil]
                  rw [Den]
                  exact .inl ⟨rfl, by simp, .inl rfl, rfl, hpos⟩
                · have ha : a = 0 := Nat.le_zero.1 (osca_le h2 (Nat.le_refl _))
                  subst ha
                  have hguard : ¬ (e ≠ e ∨ e = 0) := by omega
                  have hb : hbnd env H l o 0 e true hi = some 0 := by
                    cases hi with
                    | none => rfl
                    | some q =>
                      simp only [obnd, bnd] at e1
                      simp only [hbnd]
                      split at e1
                      · rename_i w hw
                        split at e1
                        · rename_i hb; rw [if_pos ⟨hb.1, .inl hb.2⟩]; exact e1
                        · simp at e1
                      · simp at e1
                  refine ⟨.sl l (o + 0 * e) 0 e true, ?_, ?_, ?_⟩
                  · simp only [heapOp, pureOp, hv, e1, e2, if_neg hguard]; simp
                  · simp only [heapOp, hv, hb, e2, if_neg hguard]; simp
                  · simp only [T.mayNil]
                    rw [Den]
                    exact .inl ⟨rfl, by simp, .inr ⟨_, _, rfl⟩, rfl, hpos⟩
            · simp at hu
          · simp at hu
        · rcases hd with ⟨h1, _⟩ | ⟨_, h2, h3, ⟨pre, rest, h4, h5⟩, _, h6⟩
          · cases h1
          · obtain ⟨v, k1, k2, k3, z, ds, rfl⟩ := cut_ok h hv hl h2 h3 h4 h5 h6 (by rw [← h6.length]; exact hn) hpos hu
            refine ⟨v, k1, k2, ?_⟩
            simp only [T.mayNil]
            rw [Den] at k3 ⊢
            rcases k3 with ⟨k4, _⟩ | k3
            · cases k4
            · obtain ⟨l', o', n', c', q1, q2, q3, q4, q5⟩ := k3
              rcases q5 with ⟨q, _⟩ | q5
              · cases q
              · exact .inr ⟨l', o', n', c', q1, q2, q3, q4, .inr q5⟩
      · simp at hx
    · simp at hx
  · rename_i hs
    obtain ⟨ls, hd⟩ := see_ok h hs
    rw [Den] at hd
    split at hx
    · rename_i a b h1 h2
      simp only [Option.some.injEq] at hx; subst hx
      have e1 := osca_obnd h h1
      have e2 := osca_obnd h h2
      refine ⟨.nils, by simp only [heapOp, pureOp, hd.1, e1, e2]; rfl, by simp only [heapOp, hd.1, e1, e2], ?_⟩
      rw [Den]; exact ⟨rfl, rfl⟩
    · simp at hx
  · split at hx
    · rename_i y e' cs ha
      split at hx
      · rename_i hee
        subst hee
        obtain ⟨l, o, n, avs, he, g1, g2, g3, ⟨pre, rest, g4, g5⟩, g6, hn, hpos⟩ := sl_ok h ha
        obtain ⟨v, k1, k2, k3, _⟩ := cut_ok h he g1 g2 g3 g4 g5 g6 hn hpos hx
        exact ⟨v, k1, k2, k3⟩
      · simp at hx
    · simp at hx

/-- A tuple loses a part. -/
theorem Sta.reden (h : Sta H F env V Lf) {s : Nat} {t t' : T} {l1 : List Nat} (hs : V.get s = .v t) (hu : t ≠ .und) (hk : t.kids = none) (hd : Den H F (env.getD s .und) t' l1) (hnd : l1.Nodup) (hsub : ∀ l ∈ l1, l ∈ Lf s) :
    Sta H F env (V.set s (.v t')) (upL Lf s l1) := by
  have hno : ∀ p, t.node p = none := by intro p; cases p <;> simp [T.node, hk]
  have hup : ∀ s' l, l ∈ upL Lf s l1 s' → l ∈ Lf s' := by
    intro s' l hl
    unfold upL at hl
    split at hl
    · rename_i e; subst e; exact hsub l hl
    · exact hl
  have hloc : ∀ q p l cs, Loc H env V q p l cs → Loc H env (V.set s (.v t')) q p l cs := by
    intro q p l cs hl
    refine hl.congr ?_ rfl
    rw [VEnv.get_set, if_neg]
    intro e
    subst e
    obtain ⟨t0, h1, h2, _⟩ := hl
    rw [hs] at h1
    simp only [S.v.injEq] at h1
    subst h1
    rw [hno] at h2; simp at h2
  refine ⟨h.fz, fun s' => ?_, fun s' => ?_, fun a b l h1 h2 => h.dj a b l (hup _ _ h1) (hup _ _ h2), fun s' hl => ?_⟩
  · rw [VEnv.get_set]
    unfold upL
    by_cases e : s = s'
    · subst e
      rw [if_pos rfl, if_pos rfl]; exact hd
    · rw [if_neg e, if_neg e]
      have hsr := h.sr s'
      cases hx : V.get s' with
      | v u => rw [hx] at hsr; exact hsr
      | al q =>
        rw [hx] at hsr
        obtain ⟨a1, a2, u, a3⟩ := hsr
        refine ⟨a1, a2, ?_⟩
        rw [VEnv.get_set]
        split
        · exact ⟨_, rfl⟩
        · exact ⟨u, a3⟩
      | ref q p k n ag =>
        rw [hx] at hsr
        obtain ⟨a1, l, cs, a2, a3⟩ := hsr
        exact ⟨a1, l, cs, hloc _ _ _ _ a2, a3⟩
      | adr q p k =>
        rw [hx] at hsr
        obtain ⟨a1, l, cs, a2, a3⟩ := hsr
        exact ⟨a1, l, cs, hloc _ _ _ _ a2, a3⟩
      | clo f cs =>
        rw [hx] at hsr
        obtain ⟨a1, vs, a2, a3⟩ := hsr
        refine ⟨a1, vs, a2, a3.imp fun c v _ hc => ?_⟩
        cases c with
        | t u => exact hc
        | a q p k =>
          obtain ⟨l, cs', b1, b2⟩ := hc
          exact ⟨l, cs', hloc _ _ _ _ b1, b2⟩
  · unfold upL
    split
    · exact hnd
    · exact h.nd s'
  · rw [VEnv.get_set]
    split
    · rename_i e; subst e
      rw [h.ln s hl] at hs
      simp only [S.v.injEq] at hs
      exact absurd hs.symm hu
    · exact h.ln s' hl

theorem tup_ok {x : Opd} {s : Nat} {cs : List T} (h : Sta H F env V Lf) (hx : tupOf V x = some (s, cs)) : V.get s = .v (.tup cs) ∧ x.ev env = env.getD s .und := by
  cases x with
  | c a => simp [tupOf] at hx
  | t q =>
    simp only [tupOf] at hx
    split at hx
    · rename_i cs' hq
      simp only [Option.some.injEq, Prod.mk.injEq] at hx
      obtain ⟨rfl, rfl⟩ := hx
      exact ⟨hq, rfl⟩
    · rename_i q' hq
      have hsr := h.sr q
      rw [hq] at hsr
      split at hx
      · rename_i cs' hq'
        simp only [Option.some.injEq, Prod.mk.injEq] at hx
        obtain ⟨rfl, rfl⟩ := hx
        exact ⟨hq', hsr.2.1⟩
      · simp at hx
    · simp at hx

theorem ex_ok {x : Opd} {i : Nat} {t : T} (h : Sta H F env V Lf) (hx : exV V x i = some (t, V')) : Out H F env Lf V' (.ex x i) (.v t) := by
  unfold exV at hx
  split at hx
  · rename_i s cs hs
    obtain ⟨h1, h2⟩ := tup_ok h hs
    have hd := h.den h1
    rw [Den] at hd
    obtain ⟨avs, hv, hd⟩ := hd
    split at hx
    · rename_i u hu
      obtain ⟨c, l1, lu, l2, hc, hl, hdu, hset⟩ := hd.at hu
      have hop : heapOp env H (.ex x i) = some (c, H) := by
        simp only [heapOp, pureOp, h2, hv, hc]; rfl
      split at hx
      · rename_i hp
        simp only [Option.some.injEq, Prod.mk.injEq] at hx
        obtain ⟨rfl, rfl⟩ := hx
        rw [Den.plain hp hdu] at hdu
        exact Out.plain h hop hdu
      · simp only [Option.some.injEq, Prod.mk.injEq] at hx
        obtain ⟨rfl, rfl⟩ := hx
        have hnd := h.nd s
        rw [hl] at hnd
        have hd' := hset H F .und [] ⟨Nat.le_refl _, fun _ h => ⟨rfl, h⟩, fun l hm => ⟨rfl, (hd.owned l (by rw [hl]; simp at hm ⊢; grind)).2.2⟩⟩ (by rw [Den])
        have hst := h.reden (t' := .tup (cs.set i .und)) (l1 := l1 ++ [] ++ l2) h1 (by simp) rfl (by rw [Den]; exact ⟨avs, hv, hd'⟩) (by
          refine List.Sublist.nodup ?_ hnd
          simp) (fun l hm => by rw [hl]; simp at hm ⊢; grind)
        have hlu : ∀ l ∈ lu, l ∈ Lf s := fun l hm => by rw [hl]; simp [hm]
        have hsub : ∀ s' l, l ∈ upL Lf s (l1 ++ [] ++ l2) s' → l ∈ Lf s' := by
          intro s' l hm
          unfold upL at hm
          split at hm
          · rename_i e; subst e; rw [hl]; simp at hm ⊢; grind
          · exact hm
        refine ⟨c, H, _, lu, hop, hst, ⟨Nat.le_refl _, fun _ _ _ => rfl, fun l hm => .inl ?_, fun _ h => h, fun _ h => .inl h⟩, dens_one.2 hdu, ?_, fun s' l hm hm' => ?_⟩
        · rcases hm with ⟨s', hm⟩ | hm
          · exact ⟨s', hsub s' l hm⟩
          · exact ⟨s, hlu l hm⟩
        · exact (List.nodup_append.1 (List.nodup_append.1 hnd).1).2.1
        · have e := h.dj _ _ _ (hlu l hm) (hsub s' l hm')
          subst e
          unfold upL at hm'
          rw [if_pos rfl] at hm'
          simp only [List.append_assoc, List.nodup_append, List.mem_append, List.nil_append] at hnd hm'
          grind
    · simp at hx
  · simp at hx

end Go.Proofs.YtabmomjfdondnaaH
