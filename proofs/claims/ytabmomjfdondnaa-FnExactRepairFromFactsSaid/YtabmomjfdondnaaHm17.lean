/- The machine of trees: what its states stand for; taking, putting, changing. -/
import Derived.Test.YtabmomjfdondnaaHm16
set_option linter.unusedVariables false
set_option linter.unusedSimpArgs false
namespace Go.Proofs.YtabmomjfdondnaaH
open Go

def Loc (H : Heap) (env : Env) (V : VEnv) (s : Nat) (p : List Nat) (l : Nat) (cs : List T) : Prop :=
  ∃ t, V.get s = .v t ∧ t.node p = some cs ∧ plc H (env.getD s .und) p = some l
def CapR (H : Heap) (F : Nat → Prop) (env : Env) (V : VEnv) (v : AV) : Cap → Prop
  | .t t => Den H F v t []
  | .a s p k => ∃ l cs, Loc H env V s p l cs ∧ v = .ptr l k
def CapsR (H : Heap) (F : Nat → Prop) (env : Env) (V : VEnv) : List AV → List Cap → Prop
  | vs, [] => vs = []
  | vs, c :: cs => ∃ v vs', vs = v :: vs' ∧ CapR H F env V v c ∧ CapsR H F env V vs' cs
def SR (H : Heap) (F : Nat → Prop) (env : Env) (V : VEnv) (v : AV) (ls : List Nat) : S → Prop
  | .v t => Den H F v t ls
  | .al s => ls = [] ∧ v = env.getD s .und ∧ ∃ t, V.get s = .v t
  | .ref s p k n ag => ls = [] ∧ ∃ l cs, Loc H env V s p l cs ∧ k + n ≤ cs.length ∧
      (if ag then v = .agg (((H.get l).cells.drop k).take n) else n = 1 ∧ v = (H.get l).cells.getD k .und)
  | .adr s p k => ls = [] ∧ ∃ l cs, Loc H env V s p l cs ∧ v = .ptr l k
  | .clo f cs => ls = [] ∧ ∃ vs, v = .fn f vs ∧ CapsR H F env V vs cs

structure Sta (H : Heap) (F : Nat → Prop) (env : Env) (V : VEnv) (Lf : Nat → List Nat) : Prop where
  fz : ∀ l, F l → l < H.sz ∧ (H.get l).st ≠ .dead
  sr : ∀ s, SR H F env V (env.getD s .und) (Lf s) (V.get s)
  nd : ∀ s, (Lf s).Nodup
  dj : ∀ s s' l, l ∈ Lf s → l ∈ Lf s' → s = s'
  ln : ∀ s, env.length ≤ s → V.get s = .v .und

variable {H H' : Heap} {F F' : Nat → Prop} {env env' : Env} {V V' : VEnv} {Lf : Nat → List Nat} {v : AV} {ls : List Nat}

theorem SR.alias {x : S} (h : SR H F env V v ls x) (hx : ∀ t, x ≠ .v t) : ls = [] := by
  cases x with
  | v t => exact absurd rfl (hx t)
  | al | ref | adr | clo => exact h.1
theorem SR.rooted {x : S} {r : Nat} (h : SR H F env V v ls x) (hx : x.rooted r = true) : ls = [] := h.alias fun t e => by subst e; simp [S.rooted] at hx

theorem Loc.congr {s : Nat} {p : List Nat} {l : Nat} {cs : List T} (h : Loc H env V s p l cs) (h1 : V'.get s = V.get s) (h2 : env'.getD s .und = env.getD s .und) : Loc H env' V' s p l cs := by
  obtain ⟨t, h3, h4, h5⟩ := h
  exact ⟨t, by rw [h1]; exact h3, h4, by rw [h2]; exact h5⟩
theorem CapsR.congr : ∀ {cs : List Cap} {vs : List AV}, (∀ r, cs.any (Cap.rooted r) = true → V'.get r = V.get r ∧ env'.getD r .und = env.getD r .und) → CapsR H F env V vs cs → CapsR H F env' V' vs cs
  | [], vs, _, h => h
  | c :: cs, vs, hr, h => by
    obtain ⟨v, vs', rfl, h1, h2⟩ := h
    refine ⟨v, vs', rfl, ?_, CapsR.congr (fun r hx => hr r (by simp [hx])) h2⟩
    cases c with
    | t t => exact h1
    | a s p k =>
      obtain ⟨l, cs', h3, h4⟩ := h1
      obtain ⟨e1, e2⟩ := hr s (by simp [Cap.rooted])
      exact ⟨l, cs', h3.congr e1 e2, h4⟩
theorem SR.congr {x : S} (hr : ∀ r, x.rooted r = true → V'.get r = V.get r ∧ env'.getD r .und = env.getD r .und) (h : SR H F env V v ls x) : SR H F env' V' v ls x := by
  cases x with
  | v t => exact h
  | al s =>
    obtain ⟨h1, h2, t, h3⟩ := h
    obtain ⟨e1, e2⟩ := hr s (by simp [S.rooted])
    exact ⟨h1, by rw [e2]; exact h2, t, by rw [e1]; exact h3⟩
  | ref s p k n ag =>
    obtain ⟨h1, l, cs, h2, h3⟩ := h
    obtain ⟨e1, e2⟩ := hr s (by simp [S.rooted])
    exact ⟨h1, l, cs, h2.congr e1 e2, h3⟩
  | adr s p k =>
    obtain ⟨h1, l, cs, h2, h3⟩ := h
    obtain ⟨e1, e2⟩ := hr s (by simp [S.rooted])
    exact ⟨h1, l, cs, h2.congr e1 e2, h3⟩
  | clo f cs =>
    obtain ⟨h1, vs, h2, h3⟩ := h
    exact ⟨h1, vs, h2, h3.congr fun r hx => hr r hx⟩

theorem CapsR.root : ∀ {cs : List Cap} {vs : List AV} {r : Nat}, CapsR H F env V vs cs → cs.any (Cap.rooted r) = true → ∃ t, V.get r = .v t
  | [], vs, r, _, hx => by simp at hx
  | c :: cs, vs, r, h, hx => by
    obtain ⟨v, vs', _, h4, h5⟩ := h
    simp only [List.any_cons, Bool.or_eq_true] at hx
    rcases hx with hx | hx
    · cases c with
      | t t => simp [Cap.rooted] at hx
      | a q p k =>
        simp only [Cap.rooted, beq_iff_eq] at hx; subst hx
        obtain ⟨_, _, ⟨t, h6, _⟩, _⟩ := h4
        exact ⟨t, h6⟩
    · exact CapsR.root h5 hx
theorem SR.root {x : S} {r : Nat} (h : SR H F env V v ls x) (hx : x.rooted r = true) : ∃ t, V.get r = .v t := by
  cases x with
  | v t => simp [S.rooted] at hx
  | al q => simp only [S.rooted, beq_iff_eq] at hx; subst hx; exact h.2.2
  | ref q p k n ag =>
    simp only [S.rooted, beq_iff_eq] at hx; subst hx
    obtain ⟨_, _, _, ⟨t, h3, _⟩, _⟩ := h
    exact ⟨t, h3⟩
  | adr q p k =>
    simp only [S.rooted, beq_iff_eq] at hx; subst hx
    obtain ⟨_, _, _, ⟨t, h3, _⟩, _⟩ := h
    exact ⟨t, h3⟩
  | clo f cs =>
    obtain ⟨_, vs, _, h3⟩ := h
    exact h3.root hx

/-! ### Other heaps -/
theorem plc_agree : ∀ (p : List Nat) {v : AV} {t : T} {ls : List Nat} {cs : List T}, Den H F v t ls → t.node p = some cs → (∀ l ∈ ls, H'.get l = H.get l) → plc H' v p = plc H v p
  | [], _, _, _, _, _, _, _ => rfl
  | k :: p, v, t, ls, cs, h, hn, ha => by
    simp only [T.node] at hn
    split at hn
    · rename_i kc hkc
      split at hn
      · rename_i u hu
        obtain ⟨l0, avs0, rest0, lc0, h1, h2, h3, h4, h5, rfl, h7, _⟩ := kids_den h hkc
        obtain ⟨c, l1, lu, l2, hc, rfl, hdu, _⟩ := h7.at hu
        have hcell : (H.get l0).cells.getD k .und = c := by
          rw [h5, List.getD_eq_getElem?_getD, List.getElem?_append_left (List.getElem?_eq_some_iff.1 hc).1, hc]; rfl
        simp only [plc, h1, ha l0 (by simp), hcell]
        exact plc_agree p hdu hn fun l hl => ha l (by simp [hl])
      · simp at hn
    · simp at hn

theorem Sta.den (h : Sta H F env V Lf) {s : Nat} {t : T} (hs : V.get s = .v t) : Den H F (env.getD s .und) t (Lf s) := by
  have := h.sr s
  rw [hs] at this
  exact this

/-- What lies at a path of a state. -/
theorem Sta.node (h : Sta H F env V Lf) {s : Nat} {p : List Nat} {l : Nat} {cs : List T} (hl : Loc H env V s p l cs) :
    ∃ avs rest lc, l < H.sz ∧ (H.get l).st = .own ∧ ¬ F l ∧ (H.get l).cells = avs ++ rest ∧ l ∈ Lf s ∧ Dens H F avs cs lc ∧ ∀ k ∈ lc, k ∈ Lf s := by
  obtain ⟨t, h1, h2, h3⟩ := hl
  obtain ⟨l', avs, rest, A, lc, B, g1, g2, g3, g4, g5, g6, g7, _⟩ := node_den p (h.den h1) (h.nd s) h2
  rw [g1] at h3
  simp only [Option.some.injEq] at h3
  subst h3
  refine ⟨avs, rest, lc, g2, g3, g4, g5, by rw [g6]; simp, g7, fun k hk => by rw [g6]; simp [hk]⟩

theorem Sta.loc_agree (h : Sta H F env V Lf) {s : Nat} {p : List Nat} {l : Nat} {cs : List T} (ha : ∀ l ∈ Lf s, H'.get l = H.get l) (hl : Loc H env V s p l cs) : Loc H' env V s p l cs ∧ H'.get l = H.get l := by
  obtain ⟨_, _, _, _, _, _, _, hm, _⟩ := h.node hl
  obtain ⟨t, h1, h2, h3⟩ := hl
  exact ⟨⟨t, h1, h2, by rw [plc_agree p (h.den h1) h2 ha]; exact h3⟩, ha l hm⟩

theorem Sta.capsR (h : Sta H F env V Lf) (hsz : H.sz ≤ H'.sz) (hF : ∀ l, F l → H'.get l = H.get l ∧ F' l) (ha : ∀ s, ∀ l ∈ Lf s, H'.get l = H.get l) : ∀ {cs : List Cap} {vs : List AV}, CapsR H F env V vs cs → CapsR H' F' env V vs cs
  | [], vs, h => h
  | c :: cs, vs, hc => by
    obtain ⟨v, vs', rfl, h1, h2⟩ := hc
    refine ⟨v, vs', rfl, ?_, h.capsR hsz hF ha h2⟩
    cases c with
    | t t => exact Den.agree ⟨hsz, hF, by simp⟩ h1
    | a s p k =>
      obtain ⟨l, cs', h3, h4⟩ := h1
      exact ⟨l, cs', (h.loc_agree (ha s) h3).1, h4⟩

/-- The heap grows; other places change; more is shared. -/
theorem Sta.heap (h : Sta H F env V Lf) (ha : ∀ s, Agree H H' F F' (Lf s)) (hF : ∀ l, F' l → l < H'.sz ∧ (H'.get l).st ≠ .dead) : Sta H' F' env V Lf := by
  refine ⟨hF, fun s => ?_, h.nd, h.dj, h.ln⟩
  have := h.sr s
  have ha' : ∀ s, ∀ l ∈ Lf s, H'.get l = H.get l := fun s l hl => ((ha s).ow l hl).1
  cases hx : V.get s with
  | v t => rw [hx] at this; exact Den.agree (ha s) this
  | al r => rw [hx] at this; exact this
  | ref r p k n ag =>
    rw [hx] at this
    obtain ⟨h1, l, cs, h2, h3, h4⟩ := this
    obtain ⟨g1, g2⟩ := h.loc_agree (ha' r) h2
    exact ⟨h1, l, cs, g1, h3, by rw [g2]; exact h4⟩
  | adr r p k =>
    rw [hx] at this
    obtain ⟨h1, l, cs, h2, h3⟩ := this
    exact ⟨h1, l, cs, (h.loc_agree (ha' r) h2).1, h3⟩
  | clo f cs =>
    rw [hx] at this
    obtain ⟨h1, vs, h2, h3⟩ := this
    exact ⟨h1, vs, h2, h.capsR (ha s).sz (ha s).sh ha' h3⟩

/-! ### What is at hand, outside the slots -/
structure Lo (H : Heap) (F : Nat → Prop) (Lf : Nat → List Nat) (avs : List AV) (ts : List T) (ls : List Nat) : Prop where
  den : Dens H F avs ts ls
  nd : ls.Nodup
  dj : ∀ s l, l ∈ ls → l ∉ Lf s

def upL (Lf : Nat → List Nat) (d : Nat) (ls : List Nat) : Nat → List Nat := fun s => if d = s then ls else Lf s

/-- A slot's value is given away, or lost. -/
def VEnv.drop (V : VEnv) (s : Nat) : VEnv := (unroot s V).del s
theorem VEnv.get_drop (V : VEnv) (d s : Nat) : (V.drop d).get s = if d = s then .v .und else if (V.get s).rooted d then .v .und else V.get s := by
  unfold VEnv.drop
  rw [VEnv.get_del, unroot_get]

theorem Sta.drop (h : Sta H F env V Lf) (d : Nat) (env' : Env) (hlen : env'.length = env.length) (he : ∀ s, s ≠ d → env'.getD s .und = env.getD s .und) : Sta H F env' (V.drop d) (upL Lf d []) := by
  have hsub : ∀ s l, l ∈ upL Lf d [] s → l ∈ Lf s := by
    intro s l hl
    unfold upL at hl
    split at hl
    · simp at hl
    · exact hl
  refine ⟨h.fz, fun s => ?_, fun s => ?_, fun s s' l h1 h2 => h.dj s s' l (hsub _ _ h1) (hsub _ _ h2), fun s hs => ?_⟩
  · rw [VEnv.get_drop]
    unfold upL
    by_cases hd : d = s
    · rw [if_pos hd, if_pos hd]
      simp only [SR]; rw [Den]
    · rw [if_neg hd, if_neg hd, he s (Ne.symm hd)]
      have hsr := h.sr s
      by_cases hr : (V.get s).rooted d = true
      · rw [if_pos hr]
        simp only [SR]; rw [Den]
        exact hsr.rooted hr
      · rw [if_neg hr]
        refine hsr.congr fun r hx => ?_
        have hrd : r ≠ d := fun e => by subst e; exact hr hx
        refine ⟨?_, he r hrd⟩
        rw [VEnv.get_drop, if_neg (Ne.symm hrd)]
        split
        · rename_i hrr
          -- the root itself leads into what is given away: it holds no value
          exfalso
          obtain ⟨t, ht⟩ := hsr.root hx
          rw [ht] at hrr; simp [S.rooted] at hrr
        · rfl
  · unfold upL
    split
    · exact List.nodup_nil
    · exact h.nd s
  · rw [VEnv.get_drop]
    split
    · rfl
    · rw [h.ln s (by omega)]; simp [S.rooted]

/-- A value is put into a slot. -/
theorem Sta.put (h : Sta H F env V Lf) {d : Nat} {v : AV} {t : T} {ls : List Nat} (hd : d < env.length) (hl : Lo H F Lf [v] [t] ls) : Sta H F (env.set d v) ((unroot d V).set d (.v t)) (upL Lf d ls) := by
  have h1 := h.drop d (env.set d v) (by simp) (fun s hs => by simp [List.getD_eq_getElem?_getD, List.getElem?_set_ne (Ne.symm hs)])
  have hg : ∀ s, ((unroot d V).set d (.v t)).get s = if d = s then .v t else (V.drop d).get s := by
    intro s
    rw [VEnv.get_set, VEnv.get_drop, unroot_get]
    split <;> rfl
  refine ⟨h.fz, fun s => ?_, fun s => ?_, fun s s' l hs hs' => ?_, fun s hs => ?_⟩
  · rw [hg]
    unfold upL
    by_cases hds : d = s
    · subst hds
      rw [if_pos rfl, if_pos rfl]
      have : (env.set d v).getD d .und = v := by simp [List.getD_eq_getElem?_getD, hd]
      rw [this]
      exact dens_one.1 hl.den
    · rw [if_neg hds, if_neg hds]
      have := h1.sr s
      unfold upL at this
      rw [if_neg hds] at this
      refine this.congr fun r hx => ⟨?_, rfl⟩
      rw [hg]
      split
      · rename_i hdr; subst hdr
        rw [VEnv.get_drop, if_neg hds] at hx
        split at hx
        · simp [S.rooted] at hx
        · rename_i hn; exact absurd hx hn
      · rfl
  · unfold upL
    split
    · exact hl.nd
    · exact h.nd s
  · unfold upL at hs hs'
    split at hs <;> split at hs'
    · rename_i a b; rw [← a, ← b]
    · exact absurd hs' (hl.dj _ _ hs)
    · exact absurd hs (hl.dj _ _ hs')
    · exact h.dj s s' l hs hs'
  · rw [hg]
    split
    · rename_i hds; subst hds; rw [List.length_set] at hs; omega
    · exact h1.ln s hs
/-- What leads elsewhere is put into a slot. -/
theorem Sta.putA (h : Sta H F env V Lf) {d : Nat} {v : AV} {x : S} (hd : d < env.length) (hx : SR H F env V v [] x) (hr : x.rooted d = false) : Sta H F (env.set d v) ((unroot d V).set d x) (upL Lf d []) := by
  have h1 := h.drop d (env.set d v) (by simp) (fun s hs => by simp [List.getD_eq_getElem?_getD, List.getElem?_set_ne (Ne.symm hs)])
  have hg : ∀ s, ((unroot d V).set d x).get s = if d = s then x else (V.drop d).get s := by
    intro s
    rw [VEnv.get_set, VEnv.get_drop, unroot_get]
    split <;> rfl
  refine ⟨h.fz, fun s => ?_, h1.nd, h1.dj, fun s hs => ?_⟩
  · rw [hg]
    by_cases hds : d = s
    · subst hds
      unfold upL
      rw [if_pos rfl, if_pos rfl]
      have : (env.set d v).getD d .und = v := by simp [List.getD_eq_getElem?_getD, hd]
      rw [this]
      refine hx.congr fun r hxr => ?_
      have hrd : r ≠ d := fun e => by subst e; rw [hr] at hxr; cases hxr
      refine ⟨?_, by simp [List.getD_eq_getElem?_getD, List.getElem?_set_ne (Ne.symm hrd)]⟩
      rw [hg, if_neg (Ne.symm hrd), VEnv.get_drop, if_neg (Ne.symm hrd)]
      split
      · rename_i hrr
        exfalso
        obtain ⟨t, ht⟩ := hx.root hxr
        rw [ht] at hrr; simp [S.rooted] at hrr
      · rfl
    · rw [if_neg hds]
      have := h1.sr s
      refine this.congr fun r hxr => ⟨?_, rfl⟩
      rw [hg]
      split
      · rename_i hdr; subst hdr
        rw [VEnv.get_drop, if_neg hds] at hxr
        split at hxr
        · simp [S.rooted] at hxr
        · rename_i hn; exact absurd hxr hn
      · rfl
  · rw [hg]
    split
    · rename_i hds; subst hds; rw [List.length_set] at hs; omega
    · exact h1.ln s hs

end Go.Proofs.YtabmomjfdondnaaH
