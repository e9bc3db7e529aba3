/- The machine of trees: changing what lies at a path; taking a value out of a slot; looking at it. -/
import Derived.Test.YtabmomjfdondnaaHm17
set_option linter.unusedVariables false
set_option linter.unusedSimpArgs false
namespace Go.Proofs.YtabmomjfdondnaaH
open Go

def pre : List Nat → List Nat → Bool
  | [], _ => true
  | a :: q, b :: p => a == b && pre q p
  | _ :: _, [] => false
/-- What leads into a slot's value is kept if it ends at, or above, a path. -/
def keepC (r : Nat) (p : List Nat) : Cap → Bool
  | .t _ => true
  | .a s q _ => s != r || pre q p
def keepS (r : Nat) (p : List Nat) : S → Bool
  | .ref s q _ _ _ => s != r || (pre q p && decide (q.length < p.length))
  | .adr s q _ => s != r || pre q p
  | .clo _ cs => cs.all (keepC r p)
  | _ => true
def cut (r : Nat) (p : List Nat) (V : VEnv) : VEnv := V.upd fun x => if keepS r p x then x else .v .und
theorem cut_get (r : Nat) (p : List Nat) (V : VEnv) (s : Nat) : (cut r p V).get s = if keepS r p (V.get s) then V.get s else .v .und := by
  unfold cut
  rw [VEnv.get_upd _ (by simp [keepS])]

theorem kids_setKids : ∀ {t : T} {cs cs' : List T}, t.kids = some cs → cs'.length = cs.length → (t.setKids cs').kids = some cs'
  | .at a t, cs, cs', h, hl => by
    simp only [T.kids] at h
    simp only [T.setKids, T.kids]
    exact kids_setKids h hl
  | .sl o x e sk c, cs, cs', h, hl => by
    cases o with
    | false => simp [T.kids] at h
    | true =>
      simp only [T.kids] at h
      split at h
      · simp at h
      · rename_i hne
        simp only [Option.some.injEq] at h; subst h
        simp only [T.setKids, T.kids]
        rw [if_neg]
        intro hc
        simp only [Bool.and_eq_true, List.isEmpty_iff] at hc hne
        refine hne ⟨hc.1, ?_⟩
        rw [hc.2] at hl
        exact List.eq_nil_of_length_eq_zero (by simpa using hl.symm)
  | .ptr o c, cs, cs', h, hl => by
    cases o with
    | false => simp [T.kids] at h
    | true => rfl
  | .und, cs, cs', h, hl => by simp [T.kids] at h
  | .int _ _, cs, cs', h, hl => by simp [T.kids] at h
  | .bool _, cs, cs', h, hl => by simp [T.kids] at h
  | .str _, cs, cs', h, hl => by simp [T.kids] at h
  | .nilp, cs, cs', h, hl => by simp [T.kids] at h
  | .nils, cs, cs', h, hl => by simp [T.kids] at h
  | .nilf, cs, cs', h, hl => by simp [T.kids] at h
  | .fn _ _, cs, cs', h, hl => by simp [T.kids] at h
  | .agg _, cs, cs', h, hl => by simp [T.kids] at h
  | .tup _, cs, cs', h, hl => by simp [T.kids] at h
  | .slo _ _, cs, cs', h, hl => by simp [T.kids] at h

variable {H H' : Heap} {F F' : Nat → Prop} {env env' : Env} {V V' : VEnv} {Lf : Nat → List Nat} {v : AV} {ls : List Nat}

theorem pre_node {l : Nat} (hH : ∀ k, k ≠ l → H'.get k = H.get k) : ∀ (p q : List Nat) {v : AV} {t : T} {ls : List Nat} {cs cs' : List T}, Den H F v t ls → ls.Nodup → t.node p = some cs → plc H v p = some l → cs'.length = cs.length → pre q p = true →
    ∃ c0 c0', t.node q = some c0 ∧ (T.setNode cs' t p).node q = some c0' ∧ c0'.length = c0.length ∧ plc H' v q = plc H v q ∧ (q.length < p.length → plc H v q ≠ some l)
  | [], [], v, t, ls, cs, cs', h, hnd, hn, hp, hl, _ => by
    simp only [T.node] at hn
    exact ⟨cs, cs', by simpa [T.node] using hn, by simp only [T.setNode, T.node]; exact kids_setKids hn hl, hl, rfl, by simp⟩
  | [], _ :: _, v, t, ls, cs, cs', h, hnd, hn, hp, hl, hq => by simp [pre] at hq
  | k :: p, q, v, t, ls, cs, cs', h, hnd, hn, hp, hl, hq => by
    simp only [T.node] at hn
    split at hn
    · rename_i kc hkc
      split at hn
      · rename_i u hu
        obtain ⟨l0, avs0, rest0, lc0, h1, h2, h3, h4, h5, rfl, h7, _⟩ := kids_den h hkc
        obtain ⟨c, l1, lu, l2, hc, rfl, hdu, _⟩ := h7.at hu
        have hcell : (H.get l0).cells.getD k .und = c := by
          rw [h5, List.getD_eq_getElem?_getD, List.getElem?_append_left (List.getElem?_eq_some_iff.1 hc).1, hc]; rfl
        have hnu : lu.Nodup := by
          have := (List.nodup_cons.1 hnd).2
          exact (List.nodup_append.1 (List.nodup_append.1 this).1).2.1
        simp only [plc, h1, hcell] at hp
        have hl0 : l0 ≠ l := by
          obtain ⟨l', _, _, A, lc, B, g1, _, _, _, _, g6, _, _⟩ := node_den p hdu hnu hn
          rw [g1] at hp
          simp only [Option.some.injEq] at hp
          subst hp
          intro e
          subst e
          refine (List.nodup_cons.1 hnd).1 ?_
          rw [g6]
          simp
        have hset : T.setNode cs' t (k :: p) = t.setKids (kc.set k (T.setNode cs' u p)) := by simp [T.setNode, hkc, hu]
        rw [hset]
        cases q with
        | nil =>
          refine ⟨kc, _, by simpa [T.node] using hkc, by simp only [T.node]; exact kids_setKids hkc (by simp), by simp, rfl, fun _ => ?_⟩
          simp only [plc, h1]
          intro e
          simp only [Option.some.injEq] at e
          exact hl0 e
        | cons a q =>
          simp only [pre, Bool.and_eq_true, beq_iff_eq] at hq
          obtain ⟨rfl, hq⟩ := hq
          obtain ⟨c0, c0', g1, g2, g3, g4, g5⟩ := pre_node hH p q hdu hnu hn hp hl hq
          have hlt : a < kc.length := (List.getElem?_eq_some_iff.1 hu).1
          refine ⟨c0, c0', by simp only [T.node, hkc, hu]; exact g1, ?_, g3, ?_, ?_⟩
          · simp only [T.node, kids_setKids hkc (cs' := kc.set a (T.setNode cs' u p)) (by simp), List.getElem?_set_self hlt]; exact g2
          · simp only [plc, h1, hH l0 hl0, hcell]; exact g4
          · intro hlen
            simp only [plc, h1, hcell]
            exact g5 (by simpa using hlen)
      · simp at hn
    · simp at hn

theorem CapsR.imp : ∀ {cs : List Cap} {vs : List AV}, CapsR H F env V vs cs → (∀ c v, c ∈ cs → CapR H F env V v c → CapR H' F' env' V' v c) → CapsR H' F' env' V' vs cs
  | [], vs, h, _ => h
  | c :: cs, vs, h, hi => by
    obtain ⟨v, vs', rfl, h1, h2⟩ := h
    exact ⟨v, vs', rfl, hi c v (by simp) h1, h2.imp fun c v hc => hi c v (by simp [hc])⟩

/-- What lies at a path changes. -/
theorem Sta.chg (h : Sta H F env V Lf) {r : Nat} {p : List Nat} {l : Nat} {cs : List T} {t : T} (ht : V.get r = .v t) (hn : t.node p = some cs) (hp : plc H (env.getD r .und) p = some l) :
    ∃ avs rest A lc B, l < H.sz ∧ (H.get l).st = .own ∧ ¬ F l ∧ (H.get l).cells = avs ++ rest ∧ Lf r = A ++ (l :: lc) ++ B ∧ Dens H F avs cs lc ∧
      ∀ (H' : Heap) (avs' : List AV) (cs' : List T) (lc' : List Nat), H.sz ≤ H'.sz → (∀ k, k ≠ l → H'.get k = H.get k) → (H'.get l).st = .own → (H'.get l).cells = avs' ++ rest → cs'.length = cs.length → Dens H' F avs' cs' lc' →
        (A ++ (l :: lc') ++ B).Nodup → (∀ s, s ≠ r → ∀ k ∈ lc', k ∉ Lf s) → Sta H' F env ((cut r p V).set r (.v (T.setNode cs' t p))) (upL Lf r (A ++ (l :: lc') ++ B)) := by
  have hden := h.den ht
  obtain ⟨l', avs, rest, A, lc, B, g1, g2, g3, g4, g5, g6, g7, g8⟩ := node_den p hden (h.nd r) hn
  rw [hp] at g1
  simp only [Option.some.injEq] at g1
  subst g1
  refine ⟨avs, rest, A, lc, B, g2, g3, g4, g5, g6, g7, ?_⟩
  intro H' avs' cs' lc' hsz hH hst hc hlen hd hnd hdj
  have hlr : l ∈ Lf r := by rw [g6]; simp
  have hne : ∀ s, s ≠ r → ∀ k ∈ Lf s, k ≠ l := fun s hs k hk e => by subst e; exact hs (h.dj _ _ _ hk hlr)
  have hFl : ∀ k, F k → k ≠ l := fun k hk e => by subst e; exact g4 hk
  have hnl : ∀ k, k ∈ A ++ B → k ≠ l := by
    intro k hk e
    subst e
    have := h.nd r
    rw [g6] at this
    simp only [List.append_assoc, List.cons_append] at this
    have h1 := List.nodup_append.1 this
    rcases List.mem_append.1 hk with hk | hk
    · exact h1.2.2 k hk k (by simp) rfl
    · exact (List.nodup_cons.1 h1.2.1).1 (by simp [hk])
  have hget : ∀ s, ((cut r p V).set r (.v (T.setNode cs' t p))).get s = if r = s then .v (T.setNode cs' t p) else if keepS r p (V.get s) then V.get s else .v .und := by
    intro s; rw [VEnv.get_set, cut_get]
  have hroot : ∀ s t', V.get s = .v t' → ∃ t'', ((cut r p V).set r (.v (T.setNode cs' t p))).get s = .v t'' := by
    intro s t' hs
    rw [hget]
    split
    · exact ⟨_, rfl⟩
    · rw [hs]; exact ⟨t', by simp [keepS]⟩
  have hloc : ∀ s q k0 c0, Loc H env V s q k0 c0 → (s = r → pre q p = true) → ∃ c0', Loc H' env ((cut r p V).set r (.v (T.setNode cs' t p))) s q k0 c0' ∧ c0'.length = c0.length ∧ ((s = r → q.length < p.length) → H'.get k0 = H.get k0) := by
    intro s q k0 c0 hl hq
    by_cases hs : s = r
    · subst hs
      obtain ⟨t0, e1, e2, e3⟩ := hl
      rw [ht] at e1
      simp only [S.v.injEq] at e1
      subst e1
      obtain ⟨d0, d0', f1, f2, f3, f4, f5⟩ := pre_node hH p q hden (h.nd _) hn hp hlen (hq rfl)
      rw [f1] at e2
      simp only [Option.some.injEq] at e2
      subst e2
      refine ⟨d0', ⟨_, by rw [hget, if_pos rfl], f2, by rw [f4]; exact e3⟩, f3, fun hlt => ?_⟩
      have := f5 (hlt rfl)
      rw [e3] at this
      exact hH k0 fun e => this (by rw [e])
    · obtain ⟨t0, e1, e2, e3⟩ := hl
      have ha : ∀ k ∈ Lf s, H'.get k = H.get k := fun k hk => hH k (hne s hs k hk)
      obtain ⟨_, _, _, _, _, _, _, hm, _⟩ := h.node ⟨t0, e1, e2, e3⟩
      refine ⟨c0, ⟨t0, ?_, e2, by rw [plc_agree q (h.den e1) e2 ha]; exact e3⟩, rfl, fun _ => ha k0 hm⟩
      rw [hget, if_neg (Ne.symm hs), e1]; simp [keepS]
  refine ⟨fun k hk => ?_, fun s => ?_, fun s => ?_, fun s s' k h1 h2 => ?_, fun s hs => ?_⟩
  · rw [hH k (hFl k hk)]
    exact ⟨Nat.lt_of_lt_of_le (h.fz k hk).1 hsz, (h.fz k hk).2⟩
  · rw [hget]
    unfold upL
    by_cases hs : r = s
    · subst hs
      rw [if_pos rfl, if_pos rfl]
      exact g8 H' F avs' cs' lc' ⟨hsz, fun k hk => ⟨hH k (hFl k hk), hk⟩, fun k hk => ⟨hH k (hnl k hk), (hden.owned k (by rw [g6]; rcases List.mem_append.1 hk with hk | hk <;> simp [hk])).2.2⟩⟩ hst g4 hc hlen hd
    · rw [if_neg hs, if_neg hs]
      have hsr := h.sr s
      by_cases hk : keepS r p (V.get s) = true
      · rw [if_pos hk]
        cases hx : V.get s with
        | v t' =>
          rw [hx] at hsr
          refine Den.agree ⟨hsz, fun k hk => ⟨hH k (hFl k hk), hk⟩, fun k hk => ⟨hH k (hne s (Ne.symm hs) k hk), ?_⟩⟩ hsr
          exact (Den.owned hsr k hk).2.2
        | al q =>
          rw [hx] at hsr
          obtain ⟨a1, a2, t', a3⟩ := hsr
          obtain ⟨t'', a4⟩ := hroot q t' a3
          exact ⟨a1, a2, t'', a4⟩
        | ref q0 q k n ag =>
          rw [hx] at hsr hk
          obtain ⟨a1, l0, c0, a2, a3, a4⟩ := hsr
          simp only [keepS, Bool.or_eq_true, bne_iff_ne, ne_eq, Bool.and_eq_true, decide_eq_true_eq] at hk
          obtain ⟨c0', b1, b2, b3⟩ := hloc q0 q l0 c0 a2 (fun e => (hk.resolve_left (by simp [e])).1)
          refine ⟨a1, l0, c0', b1, by omega, ?_⟩
          rw [b3 fun e => (hk.resolve_left (by simp [e])).2]
          exact a4
        | adr q0 q k =>
          rw [hx] at hsr hk
          obtain ⟨a1, l0, c0, a2, a3⟩ := hsr
          simp only [keepS, Bool.or_eq_true, bne_iff_ne, ne_eq] at hk
          obtain ⟨c0', b1, b2, b3⟩ := hloc q0 q l0 c0 a2 (fun e => hk.resolve_left (by simp [e]))
          exact ⟨a1, l0, c0', b1, a3⟩
        | clo f caps =>
          rw [hx] at hsr hk
          obtain ⟨a1, vs, a2, a3⟩ := hsr
          refine ⟨a1, vs, a2, ?_⟩
          simp only [keepS, List.all_eq_true] at hk
          refine a3.imp fun c v hc b1 => ?_
          cases c with
          | t t' => exact Den.agree ⟨hsz, fun k hk => ⟨hH k (hFl k hk), hk⟩, by simp⟩ b1
          | a q0 q k =>
            obtain ⟨l0, c0, d1, d2⟩ := b1
            have := hk (.a q0 q k) hc
            simp only [keepC, Bool.or_eq_true, bne_iff_ne, ne_eq] at this
            obtain ⟨c0', d3, _, _⟩ := hloc q0 q l0 c0 d1 (fun e => this.resolve_left (by simp [e]))
            exact ⟨l0, c0', d3, d2⟩
      · rw [if_neg hk]
        have : ∀ t', V.get s ≠ .v t' := fun t' e => hk (by rw [e]; simp [keepS])
        simp only [SR]; rw [Den]
        exact hsr.alias this
  · unfold upL
    split
    · exact hnd
    · exact h.nd s
  · unfold upL at h1 h2
    have aux : ∀ s, s ≠ r → k ∈ A ++ (l :: lc') ++ B → k ∉ Lf s := by
      intro s hs hk hks
      rcases List.mem_append.1 hk with hk | hk
      · rcases List.mem_append.1 hk with hk | hk
        · exact hs (h.dj _ _ _ hks (by rw [g6]; simp [hk]))
        · rcases List.mem_cons.1 hk with rfl | hk
          · exact hne s hs k hks rfl
          · exact hdj s hs k hk hks
      · exact hs (h.dj _ _ _ hks (by rw [g6]; simp [hk]))
    split at h1 <;> split at h2
    · rename_i a b; rw [← a, ← b]
    · rename_i a b; exact absurd h2 (aux s' (Ne.symm b) h1)
    · rename_i a b; exact absurd h1 (aux s (Ne.symm a) h2)
    · exact h.dj s s' k h1 h2
  · rw [hget]
    split
    · rename_i hrs; subst hrs
      rw [h.ln _ hs] at ht
      simp only [S.v.injEq] at ht
      subst ht
      cases p <;> simp [T.node, T.kids] at hn
    · rw [h.ln s hs]; simp

/-! ### Taking -/
def rng (cs : List T) (k n : Nat) (ag : Bool) : Option T :=
  if k + n ≤ cs.length then if ag then some (.agg ((cs.drop k).take n)) else if n = 1 then cs[k]? else none else none
def holes (cs : List T) (k n : Nat) : List T := cs.take k ++ (List.replicate n .und ++ cs.drop (k + n))
def T.ofAV : AV → Option T
  | .int k n => some (.int k n)
  | .bool b => some (.bool b)
  | .str s => some (.str s)
  | .nilp => some .nilp
  | .nils => some .nils
  | .nilf => some .nilf
  | .fn f [] => some (.fn f [])
  | .tup [] => some (.tup [])
  | _ => none
def takeV (V : VEnv) : Opd → Option (T × VEnv)
  | .c a => (T.ofAV a).map (·, V)
  | .t s => match V.get s with
    | .v t => if t.plain then some (t, V) else some (t, V.drop s)
    | .al r => match V.get r with
      | .v t => if t.plain then some (t, V) else some (t, V.drop r)
      | _ => none
    | .ref r p k n ag => match V.get r with
      | .v t => match t.node p with
        | some cs => match rng cs k n ag with
          | some u => if u.plain then some (u, V) else some (u, (cut r p V).set r (.v (T.setNode (holes cs k n) t p)))
          | none => none
        | none => none
      | _ => none
    | _ => none

theorem ofAV_den {a : AV} {t : T} (h : T.ofAV a = some t) : Den H F a t [] ∧ t.plain = true := by
  unfold T.ofAV at h
  split at h <;> simp only [Option.some.injEq, reduceCtorEq] at h <;> subst h <;> (refine ⟨?_, by simp [T.plain, plains]⟩; rw [Den]) <;> try exact ⟨rfl, rfl⟩
  · exact ⟨[], rfl, rfl, by rw [Dens]; exact ⟨rfl, rfl⟩⟩
  · exact ⟨[], rfl, by rw [Dens]; exact ⟨rfl, rfl⟩⟩

theorem dens_und : ∀ (cs : List AV), Dens H F cs (List.replicate cs.length .und) []
  | [] => by rw [List.length_nil, List.replicate_zero, Dens]; exact ⟨rfl, rfl⟩
  | c :: cs => by
    rw [List.length_cons, List.replicate_succ, Dens]
    exact ⟨c, cs, [], [], rfl, rfl, by rw [Den], dens_und cs⟩

theorem Lo.sub {Lf' : Nat → List Nat} {avs : List AV} {ts : List T} (h : Lo H F Lf avs ts ls) (hs : ∀ s l, l ∈ Lf' s → l ∈ Lf s) : Lo H F Lf' avs ts ls := ⟨h.den, h.nd, fun s l hl hs' => h.dj s l hl (hs s l hs')⟩
theorem Lo.snoc {avs : List AV} {ts : List T} {v : AV} {t : T} {l1 : List Nat} (h : Lo H F Lf avs ts ls) (hd : Den H F v t l1) (hnd : l1.Nodup) (hdj : ∀ s l, l ∈ l1 → l ∉ Lf s) (hx : ∀ l ∈ l1, l ∉ ls) : Lo H F Lf (avs ++ [v]) (ts ++ [t]) (ls ++ l1) := by
  refine ⟨h.den.append (dens_one.2 hd), List.nodup_append.2 ⟨h.nd, hnd, fun a ha b hb e => hx b hb (by rw [← e]; exact ha)⟩, fun s l hl => ?_⟩
  rcases List.mem_append.1 hl with hl | hl
  · exact h.dj s l hl
  · exact hdj s l hl

/-- What taking leads to. -/
structure Took (H : Heap) (F : Nat → Prop) (env : Env) (V' : VEnv) (Lf Lf' : Nat → List Nat) (avs : List AV) (ts : List T) (ls : List Nat) : Prop where
  st : Sta H F env V' Lf'
  lo : Lo H F Lf' avs ts ls
  sub : ∀ s l, l ∈ Lf' s → l ∈ Lf s

theorem rng_take {r : Nat} {p : List Nat} {l k n : Nat} {ag : Bool} {cs : List T} {t0 u : T} {w : AV} {avs : List AV} {ts : List T} (h : Sta H F env V Lf) (hl : Lo H F Lf avs ts ls) (e1 : V.get r = .v t0) (e2 : t0.node p = some cs) (e3 : plc H (env.getD r .und) p = some l) (hkn : k + n ≤ cs.length)
    (hv : if ag then w = .agg (((H.get l).cells.drop k).take n) else n = 1 ∧ w = (H.get l).cells.getD k .und) (hu : rng cs k n ag = some u) :
    ∃ l1 Lf', Took H F env ((cut r p V).set r (.v (T.setNode (holes cs k n) t0 p))) Lf Lf' (avs ++ [w]) (ts ++ [u]) (ls ++ l1) ∧ ∀ l ∈ l1, ∃ s, l ∈ Lf s := by
  obtain ⟨avs0, rest, A, lc, B, g2, g3, g4, g5, g6, g7, g8⟩ := h.chg e1 e2 e3
  -- the cells' three parts
  have hcs : cs = cs.take k ++ ((cs.drop k).take n ++ cs.drop (k + n)) := by
    rw [← List.drop_drop, List.take_append_drop, List.take_append_drop]
  have g7' := g7
  rw [hcs] at g7'
  obtain ⟨a1, a23, m1, m23, rfl, rfl, d1, d23⟩ := g7'.split
  obtain ⟨a2, a3, m2, m3, rfl, rfl, d2, d3⟩ := d23.split
  have hl1 : a1.length = k := by rw [d1.length]; simp; omega
  have hl2 : a2.length = n := by rw [d2.length]; simp; omega
  have hcell : ((H.get l).cells.drop k).take n = a2 := by
    rw [g5, List.append_assoc, ← hl1, List.drop_left, List.append_assoc, ← hl2, List.take_left]
  have hval : ∀ {u : T}, rng cs k n ag = some u → Den H F w u m2 := by
    intro u hu
    unfold rng at hu
    rw [if_pos hkn] at hu
    cases ag with
    | true =>
      simp only [if_true, Option.some.injEq] at hu hv
      subst hu
      rw [hv, hcell, Den]
      exact ⟨a2, rfl, d2⟩
    | false =>
      simp only [Bool.false_eq_true, if_false] at hu hv
      obtain ⟨rfl, hv⟩ := hv
      rw [if_pos rfl] at hu
      have hlt := (List.getElem?_eq_some_iff.1 hu)
      have h1 : (cs.drop k).take 1 = [u] := by
        rw [List.drop_eq_getElem_cons hlt.1, hlt.2]; rfl
      rw [h1] at d2
      match a2, hl2, hcell, d2 with
      | [c], _, hcell, d2 =>
        have : (H.get l).cells.getD k .und = c := by
          have h2 : ((H.get l).cells.drop k)[0]? = some c := by
            have : ((H.get l).cells.drop k).take 1 = [c] := hcell
            have h3 := congrArg (·[0]?) this
            simpa [List.getElem?_take] using h3
          rw [List.getElem?_drop, Nat.add_zero] at h2
          rw [List.getD_eq_getElem?_getD, h2]; rfl
        rw [hv, this]
        exact dens_one.1 d2
  have hholes : Dens H F (a1 ++ (a2 ++ a3)) (holes cs k n) (m1 ++ ([] ++ m3)) := by
    unfold holes
    refine d1.append (Dens.append ?_ d3)
    have := dens_und (H := H) (F := F) a2
    rw [hl2] at this
    exact this
  have hnd := h.nd r
  rw [g6] at hnd
  have hnd' : (A ++ (l :: (m1 ++ ([] ++ m3))) ++ B).Nodup := by
    refine List.Sublist.nodup ?_ hnd
    refine List.Sublist.append (List.Sublist.append (List.Sublist.refl _) ?_) (List.Sublist.refl _)
    refine List.Sublist.cons_cons _ (List.Sublist.append (List.Sublist.refl _) ?_)
    simp
  have hsta := g8 H (a1 ++ (a2 ++ a3)) (holes cs k n) (m1 ++ ([] ++ m3)) (Nat.le_refl _) (fun _ _ => rfl) g3 (by rw [g5]) (by simp [holes]; omega) hholes hnd' (by
    intro s' hs' k' hk' hk''
    exact hs' (h.dj _ _ _ hk'' (by rw [g6]; simp at hk' ⊢; grind)))
  have hsub : ∀ s' l', l' ∈ upL Lf r (A ++ (l :: (m1 ++ ([] ++ m3))) ++ B) s' → l' ∈ Lf s' := by
    intro s' l' hm
    unfold upL at hm
    split at hm
    · rename_i hrs; subst hrs
      rw [g6]
      simp at hm ⊢; grind
    · exact hm
  have hm2 : ∀ l' ∈ m2, l' ∈ Lf r := by intro l' hm; rw [g6]; simp [hm]
  refine ⟨m2, _, ⟨hsta, ?_, hsub⟩, fun l' hm => ⟨r, hm2 l' hm⟩⟩
  refine (hl.sub hsub).snoc (hval hu) ?_ (fun s' l' hm hm' => ?_) (fun l' hm hm' => hl.dj r l' hm' (hm2 l' hm))
  · refine List.Sublist.nodup ?_ hnd
    refine List.Sublist.trans ?_ (List.sublist_append_left _ _)
    refine List.Sublist.trans ?_ (List.sublist_append_right _ _)
    refine List.Sublist.cons _ ?_
    refine List.Sublist.trans ?_ (List.sublist_append_right _ _)
    exact List.sublist_append_left _ _
  · have hrs := h.dj _ _ _ (hm2 l' hm) (hsub s' l' hm')
    subst hrs
    unfold upL at hm'
    rw [if_pos rfl] at hm'
    -- l' is in m2 and in the rest
    have : (A ++ l :: (m1 ++ (m2 ++ m3)) ++ B).Nodup := hnd
    simp only [List.append_assoc, List.cons_append, List.nil_append, List.nodup_append, List.nodup_cons, List.mem_append, List.mem_cons] at this hm'
    grind

theorem take_ok {x : Opd} {t : T} {avs : List AV} {ts : List T} (h : Sta H F env V Lf) (hl : Lo H F Lf avs ts ls) (hx : takeV V x = some (t, V')) :
    ∃ l1 Lf', Took H F env V' Lf Lf' (avs ++ [x.ev env]) (ts ++ [t]) (ls ++ l1) ∧ ∀ l ∈ l1, ∃ s, l ∈ Lf s := by
  have plainCase : ∀ {u : T}, Den H F (x.ev env) u [] → ∃ l1 Lf', Took H F env V Lf Lf' (avs ++ [x.ev env]) (ts ++ [u]) (ls ++ l1) ∧ ∀ l ∈ l1, ∃ s, l ∈ Lf s := fun {u} hd =>
    ⟨[], Lf, ⟨h, hl.snoc hd (by simp) (by simp) (by simp), fun _ _ h => h⟩, by simp⟩
  have dropCase : ∀ {u : T} {s : Nat}, V.get s = .v u → x.ev env = env.getD s .und → ∃ l1 Lf', Took H F env (V.drop s) Lf Lf' (avs ++ [x.ev env]) (ts ++ [u]) (ls ++ l1) ∧ ∀ l ∈ l1, ∃ s, l ∈ Lf s := by
    intro u s hs hev
    have hsub : ∀ s' l, l ∈ upL Lf s [] s' → l ∈ Lf s' := by
      intro s' l hm
      unfold upL at hm
      split at hm
      · simp at hm
      · exact hm
    refine ⟨Lf s, upL Lf s [], ⟨h.drop s env rfl (fun _ _ => rfl), ?_, hsub⟩, fun l hm => ⟨s, hm⟩⟩
    refine (hl.sub hsub).snoc (by rw [hev]; exact h.den hs) (h.nd s) (fun s' l hm hm' => ?_) (fun l hm hm' => hl.dj s l hm' hm)
    unfold upL at hm'
    split at hm'
    · simp at hm'
    · rename_i hne; exact hne (h.dj _ _ _ hm hm')
  cases x with
  | c a =>
    simp only [takeV] at hx
    obtain ⟨u, hu, hx⟩ := Option.map_eq_some_iff.1 hx
    simp only [Prod.mk.injEq] at hx
    obtain ⟨rfl, rfl⟩ := hx
    exact plainCase (ofAV_den hu).1
  | t s =>
    simp only [takeV] at hx
    split at hx
    · rename_i u hs
      split at hx
      · rename_i hp
        simp only [Option.some.injEq, Prod.mk.injEq] at hx
        obtain ⟨rfl, rfl⟩ := hx
        have hd := h.den hs
        rw [Den.plain hp hd] at hd
        exact plainCase hd
      · simp only [Option.some.injEq, Prod.mk.injEq] at hx
        obtain ⟨rfl, rfl⟩ := hx
        exact dropCase hs rfl
    · rename_i r hs
      have hsr := h.sr s
      rw [hs] at hsr
      split at hx
      · rename_i u hr
        split at hx
        · rename_i hp
          simp only [Option.some.injEq, Prod.mk.injEq] at hx
          obtain ⟨rfl, rfl⟩ := hx
          have hd := h.den hr
          rw [Den.plain hp hd, ← hsr.2.1] at hd
          exact plainCase hd
        · simp only [Option.some.injEq, Prod.mk.injEq] at hx
          obtain ⟨rfl, rfl⟩ := hx
          exact dropCase hr hsr.2.1
      · simp at hx
    · rename_i r p k n ag hs
      have hsr := h.sr s
      rw [hs] at hsr
      obtain ⟨_, l, cs, ⟨t0, e1, e2, e3⟩, hkn, hv⟩ := hsr
      simp only [e1, e2] at hx
      obtain ⟨avs0, rest, A, lc, B, g2, g3, g4, g5, g6, g7, g8⟩ := h.chg e1 e2 e3
      -- the cells' three parts
      have hcs : cs = cs.take k ++ ((cs.drop k).take n ++ cs.drop (k + n)) := by
        rw [← List.drop_drop, List.take_append_drop, List.take_append_drop]
      have g7' := g7
      rw [hcs] at g7'
      obtain ⟨a1, a23, m1, m23, rfl, rfl, d1, d23⟩ := g7'.split
      obtain ⟨a2, a3, m2, m3, rfl, rfl, d2, d3⟩ := d23.split
      have hl1 : a1.length = k := by rw [d1.length]; simp; omega
      have hl2 : a2.length = n := by rw [d2.length]; simp; omega
      have hcell : ((H.get l).cells.drop k).take n = a2 := by
        rw [g5, List.append_assoc, ← hl1, List.drop_left, List.append_assoc, ← hl2, List.take_left]
      have hval : ∀ {u : T}, rng cs k n ag = some u → Den H F (env.getD s .und) u m2 := by
        intro u hu
        unfold rng at hu
        rw [if_pos hkn] at hu
        cases ag with
        | true =>
          simp only [if_true, Option.some.injEq] at hu hv
          subst hu
          rw [hv, hcell, Den]
          exact ⟨a2, rfl, d2⟩
        | false =>
          simp only [Bool.false_eq_true, if_false] at hu hv
          obtain ⟨rfl, hv⟩ := hv
          rw [if_pos rfl] at hu
          have hlt := (List.getElem?_eq_some_iff.1 hu)
          have h1 : (cs.drop k).take 1 = [u] := by
            rw [List.drop_eq_getElem_cons hlt.1, hlt.2]; rfl
          rw [h1] at d2
          match a2, hl2, hcell, d2 with
          | [c], _, hcell, d2 =>
            have : (H.get l).cells.getD k .und = c := by
              have h2 : ((H.get l).cells.drop k)[0]? = some c := by
                have : ((H.get l).cells.drop k).take 1 = [c] := hcell
                have h3 := congrArg (·[0]?) this
                simpa [List.getElem?_take] using h3
              rw [List.getElem?_drop, Nat.add_zero] at h2
              rw [List.getD_eq_getElem?_getD, h2]; rfl
            rw [hv, this]
            exact dens_one.1 d2
      split at hx
      · rename_i u hu
        split at hx
        · rename_i hp
          simp only [Option.some.injEq, Prod.mk.injEq] at hx
          obtain ⟨rfl, rfl⟩ := hx
          have hd := hval hu
          rw [Den.plain hp hd] at hd
          exact plainCase hd
        · simp only [Option.some.injEq, Prod.mk.injEq] at hx
          obtain ⟨rfl, rfl⟩ := hx
          have hholes : Dens H F (a1 ++ (a2 ++ a3)) (holes cs k n) (m1 ++ ([] ++ m3)) := by
            unfold holes
            refine d1.append (Dens.append ?_ d3)
            have := dens_und (H := H) (F := F) a2
            rw [hl2] at this
            exact this
          have hnd := h.nd r
          rw [g6] at hnd
          have hnd' : (A ++ (l :: (m1 ++ ([] ++ m3))) ++ B).Nodup := by
            refine List.Sublist.nodup ?_ hnd
            refine List.Sublist.append (List.Sublist.append (List.Sublist.refl _) ?_) (List.Sublist.refl _)
            refine List.Sublist.cons_cons _ (List.Sublist.append (List.Sublist.refl _) ?_)
            simp
          have hsta := g8 H (a1 ++ (a2 ++ a3)) (holes cs k n) (m1 ++ ([] ++ m3)) (Nat.le_refl _) (fun _ _ => rfl) g3 (by rw [g5]) (by simp [holes]; omega) hholes hnd' (by
            intro s' hs' k' hk' hk''
            exact hs' (h.dj _ _ _ hk'' (by rw [g6]; simp at hk' ⊢; grind)))
          have hsub : ∀ s' l', l' ∈ upL Lf r (A ++ (l :: (m1 ++ ([] ++ m3))) ++ B) s' → l' ∈ Lf s' := by
            intro s' l' hm
            unfold upL at hm
            split at hm
            · rename_i hrs; subst hrs
              rw [g6]
              simp at hm ⊢; grind
            · exact hm
          have hm2 : ∀ l' ∈ m2, l' ∈ Lf r := by intro l' hm; rw [g6]; simp [hm]
          refine ⟨m2, _, ⟨hsta, ?_, hsub⟩, fun l' hm => ⟨r, hm2 l' hm⟩⟩
          refine (hl.sub hsub).snoc (hval hu) ?_ (fun s' l' hm hm' => ?_) (fun l' hm hm' => hl.dj r l' hm' (hm2 l' hm))
          · refine List.Sublist.nodup ?_ hnd
            refine List.Sublist.trans ?_ (List.sublist_append_left _ _)
            refine List.Sublist.trans ?_ (List.sublist_append_right _ _)
            refine List.Sublist.cons _ ?_
            refine List.Sublist.trans ?_ (List.sublist_append_right _ _)
            exact List.sublist_append_left _ _
          · have hrs := h.dj _ _ _ (hm2 l' hm) (hsub s' l' hm')
            subst hrs
            unfold upL at hm'
            rw [if_pos rfl] at hm'
            -- l' is in m2 and in the rest
            have : (A ++ l :: (m1 ++ (m2 ++ m3)) ++ B).Nodup := hnd
            simp only [List.append_assoc, List.cons_append, List.nil_append, List.nodup_append, List.nodup_cons, List.mem_append, List.mem_cons] at this hm'
            grind
      · simp at hx
    · simp at hx

end Go.Proofs.YtabmomjfdondnaaH
