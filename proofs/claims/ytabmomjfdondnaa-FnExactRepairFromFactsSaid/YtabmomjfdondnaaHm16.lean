/- The machine of trees: slots, paths, states. -/
import Derived.Test.YtabmomjfdondnaaHm15
set_option linter.unusedVariables false
set_option linter.unusedSimpArgs false
namespace Go.Proofs.YtabmomjfdondnaaH
open Go

/-- What a function has captured: a value, or the address of cell k of what lies at a path from a slot. -/
inductive Cap where
  | t (t : T)
  | a (s : Nat) (p : List Nat) (k : Nat)
  deriving Inhabited

/-- What a slot holds: a value; what another slot holds; n cells from cell k on of what lies at a path from a slot; such a cell's address; a function. -/
inductive S where
  | v (t : T)
  | al (s : Nat)
  | ref (s : Nat) (p : List Nat) (k n : Nat) (ag : Bool)
  | adr (s : Nat) (p : List Nat) (k : Nat)
  | clo (f : Nat) (cs : List Cap)
  deriving Inhabited

def Cap.rooted (r : Nat) : Cap → Bool
  | .t _ => false
  | .a s _ _ => s == r
def S.rooted (r : Nat) : S → Bool
  | .v _ => false
  | .al s => s == r
  | .ref s _ _ _ _ => s == r
  | .adr s _ _ => s == r
  | .clo _ cs => cs.any (Cap.rooted r)

abbrev VEnv := List (Nat × S)
def VEnv.get : VEnv → Nat → S
  | [], _ => .v .und
  | (k, x) :: r, s => if k = s then x else VEnv.get r s
def VEnv.set : VEnv → Nat → S → VEnv
  | [], s, y => [(s, y)]
  | (k, x) :: r, s, y => if s = k then (s, y) :: r else if s < k then (s, y) :: (k, x) :: r else (k, x) :: VEnv.set r s y
def VEnv.del : VEnv → Nat → VEnv
  | [], _ => []
  | (k, x) :: r, s => if k = s then VEnv.del r s else (k, x) :: VEnv.del r s
def VEnv.upd (f : S → S) : VEnv → VEnv
  | [] => []
  | (k, x) :: r => (k, f x) :: VEnv.upd f r

theorem VEnv.get_set : ∀ (V : VEnv) (d : Nat) (y : S) (s : Nat), (V.set d y).get s = if d = s then y else V.get s
  | [], d, y, s => by simp [VEnv.set, VEnv.get]
  | (k, x) :: r, d, y, s => by
    simp only [VEnv.set]
    split
    · rename_i h; subst h
      simp only [VEnv.get]
      split <;> simp_all
    · split
      · simp only [VEnv.get]
      · simp only [VEnv.get, VEnv.get_set r d y s]
        split
        · rename_i h1 h2 h3; subst h3; rw [if_neg h1]
        · rfl
theorem VEnv.get_del : ∀ (V : VEnv) (d s : Nat), (V.del d).get s = if d = s then .v .und else V.get s
  | [], d, s => by simp [VEnv.del, VEnv.get]
  | (k, x) :: r, d, s => by
    simp only [VEnv.del]
    split
    · rename_i h; subst h
      rw [VEnv.get_del r k s]
      simp only [VEnv.get]
      split <;> rfl
    · simp only [VEnv.get, VEnv.get_del r d s]
      rename_i h
      split
      · rename_i h3; subst h3; rw [if_neg (Ne.symm h)]
      · rfl
theorem VEnv.get_upd (f : S → S) (hf : f (.v .und) = .v .und) : ∀ (V : VEnv) (s : Nat), (V.upd f).get s = f (V.get s)
  | [], s => by simp [VEnv.upd, VEnv.get, hf]
  | (k, x) :: r, s => by
    simp only [VEnv.upd, VEnv.get, VEnv.get_upd f hf r s]
    split <;> rfl

/-- What leads into a slot's value is lost. -/
def unroot (d : Nat) (V : VEnv) : VEnv := V.upd fun x => if x.rooted d then .v .und else x
theorem unroot_get (d : Nat) (V : VEnv) (s : Nat) : (unroot d V).get s = if (V.get s).rooted d then .v .und else V.get s := by
  unfold unroot
  rw [VEnv.get_upd _ (by simp)]

/-! ### Paths -/
def T.kids : T → Option (List T)
  | .sl true x _ _ cs => if x && cs.isEmpty then none else some cs
  | .ptr true cs => some cs
  | .at _ t => t.kids
  | _ => none
def T.setKids (cs : List T) : T → T
  | .sl o x e sk _ => .sl o x e sk cs
  | .ptr o _ => .ptr o cs
  | .at a t => .at a (t.setKids cs)
  | t => t
/-- The cells of what is owned at a path. -/
def T.node : T → List Nat → Option (List T)
  | t, [] => t.kids
  | t, k :: p => match t.kids with
    | some cs => match cs[k]? with
      | some u => u.node p
      | none => none
    | none => none
def T.setNode (cs' : List T) : T → List Nat → T
  | t, [] => t.setKids cs'
  | t, k :: p => match t.kids with
    | some cs => match cs[k]? with
      | some u => t.setKids (cs.set k (T.setNode cs' u p))
      | none => t
    | none => t

def AV.place : AV → Option Nat
  | .ptr l _ => some l
  | .sl l _ n _ x => if n = 0 ∧ x = true then none else some l
  | _ => none
def plc (H : Heap) : AV → List Nat → Option Nat
  | v, [] => v.place
  | v, k :: p => match v.place with
    | some l => plc H ((H.get l).cells.getD k .und) p
    | none => none

theorem kids_den0 {H : Heap} {F : Nat → Prop} {v : AV} {t : T} {ls : List Nat} {cs : List T} (h : Den H F v t ls) (hk : t.kids = some cs) (hat : ∀ a u, t ≠ .at a u) :
    ∃ l avs rest lc, v.place = some l ∧ l < H.sz ∧ (H.get l).st = .own ∧ ¬ F l ∧ (H.get l).cells = avs ++ rest ∧ ls = l :: lc ∧ Dens H F avs cs lc ∧
      ∀ (H' : Heap) (F' : Nat → Prop) (avs' : List AV) (cs' : List T) (lc' : List Nat), H.sz ≤ H'.sz → (H'.get l).st = .own → ¬ F' l → (H'.get l).cells = avs' ++ rest → cs'.length = cs.length → Dens H' F' avs' cs' lc' → Den H' F' v (t.setKids cs') (l :: lc') := by
  unfold T.kids at hk
  split at hk
  · rename_i x e sk cs0
    split at hk
    · simp at hk
    rename_i hne
    simp only [Option.some.injEq] at hk; subst hk
    rw [Den] at h
    rcases h with ⟨g1, g2, _⟩ | ⟨l, o, n, avs, rfl, he, hcs, hl, h⟩
    · simp only [nilOk, if_true, Bool.and_eq_true] at g1
      rw [g1.1, g2] at hne
      simp at hne
    rcases h with ⟨h1, h3, h4, h5, ⟨rest, h6, h7⟩, l1, rfl, h8⟩ | ⟨h1, _⟩
    · refine ⟨l, avs, rest, l1, by simp [AV.place], hl, h4, h5, h6, rfl, h8, ?_⟩
      intro H' F' avs' cs' lc' hsz hst hF hc hlen hd
      simp only [T.setKids]
      rw [Den]
      refine .inr ⟨l, o, n, avs', rfl, he, ?_, Nat.lt_of_lt_of_le hl hsz, .inl ⟨h1, h3, hst, hF, ⟨rest, hc, h7⟩, lc', rfl, hd⟩⟩
      rw [hd.length, hlen, ← h8.length, hcs]
    · cases h1
  · simp only [Option.some.injEq] at hk; subst hk
    rw [Den] at h
    obtain ⟨l, o, avs, rfl, hl, h⟩ := h
    rcases h with ⟨h1, h3, h4, h5, h6, l1, rfl, h8⟩ | ⟨h1, _⟩
    · refine ⟨l, avs, [], l1, rfl, hl, h4, h5, by simpa using h6, rfl, h8, ?_⟩
      intro H' F' avs' cs' lc' hsz hst hF hc hlen hd
      simp only [T.setKids]
      rw [Den]
      exact ⟨l, o, avs', rfl, Nat.lt_of_lt_of_le hl hsz, .inl ⟨h1, h3, hst, hF, by simpa using hc, lc', rfl, hd⟩⟩
    · cases h1
  · exact absurd rfl (hat _ _)
  · simp at hk
theorem kids_den {H : Heap} {F : Nat → Prop} {v : AV} : ∀ {t : T} {ls : List Nat} {cs : List T}, Den H F v t ls → t.kids = some cs →
    ∃ l avs rest lc, v.place = some l ∧ l < H.sz ∧ (H.get l).st = .own ∧ ¬ F l ∧ (H.get l).cells = avs ++ rest ∧ ls = l :: lc ∧ Dens H F avs cs lc ∧
      ∀ (H' : Heap) (F' : Nat → Prop) (avs' : List AV) (cs' : List T) (lc' : List Nat), H.sz ≤ H'.sz → (H'.get l).st = .own → ¬ F' l → (H'.get l).cells = avs' ++ rest → cs'.length = cs.length → Dens H' F' avs' cs' lc' → Den H' F' v (t.setKids cs') (l :: lc')
  | .at a t, ls, cs, h, hk => by
    rw [Den] at h
    simp only [T.kids] at hk
    obtain ⟨l, avs, rest, lc, h1, h2, h3, h4, h5, h6, h7, h8⟩ := kids_den h.2 hk
    refine ⟨l, avs, rest, lc, h1, h2, h3, h4, h5, h6, h7, fun H' F' avs' cs' lc' a1 a2 a3 a4 a5 a6 => ?_⟩
    rw [T.setKids, Den]
    exact ⟨h.1, h8 H' F' avs' cs' lc' a1 a2 a3 a4 a5 a6⟩
  | .sl _ _ _ _ _, ls, cs, h, hk => kids_den0 h hk (by simp)
  | .ptr _ _, ls, cs, h, hk => kids_den0 h hk (by simp)
  | .und, ls, cs, h, hk => by simp [T.kids] at hk
  | .int _ _, ls, cs, h, hk => by simp [T.kids] at hk
  | .bool _, ls, cs, h, hk => by simp [T.kids] at hk
  | .str _, ls, cs, h, hk => by simp [T.kids] at hk
  | .nilp, ls, cs, h, hk => by simp [T.kids] at hk
  | .nils, ls, cs, h, hk => by simp [T.kids] at hk
  | .nilf, ls, cs, h, hk => by simp [T.kids] at hk
  | .fn _ _, ls, cs, h, hk => by simp [T.kids] at hk
  | .agg _, ls, cs, h, hk => by simp [T.kids] at hk
  | .tup _, ls, cs, h, hk => by simp [T.kids] at hk
  | .slo _ _, ls, cs, h, hk => by simp [T.kids] at hk

theorem Dens.at {H : Heap} {F : Nat → Prop} {ts : List T} {cs : List AV} {ls : List Nat} {k : Nat} {u : T} (h : Dens H F cs ts ls) (hk : ts[k]? = some u) :
    ∃ c l1 lu l2, cs[k]? = some c ∧ ls = l1 ++ lu ++ l2 ∧ Den H F c u lu ∧
      ∀ (H' : Heap) (F' : Nat → Prop) (u' : T) (lu' : List Nat), Agree H H' F F' (l1 ++ l2) → Den H' F' c u' lu' → Dens H' F' cs (ts.set k u') (l1 ++ lu' ++ l2) := by
  have hlt : k < ts.length := (List.getElem?_eq_some_iff.1 hk).1
  have hts : ts = ts.take k ++ ([u] ++ ts.drop (k + 1)) := by
    rw [← List.take_append_drop k ts]
    congr 1
    · simp
    · rw [List.take_append_drop, List.drop_eq_getElem_cons hlt, (List.getElem?_eq_some_iff.1 hk).2]; rfl
  rw [hts] at h
  obtain ⟨c1, c2, l1, l23, rfl, rfl, h1, h2⟩ := h.split
  obtain ⟨cu, c3, lu, l2, rfl, rfl, h3, h4⟩ := h2.split
  have hcu := h3.length
  match cu, hcu with
  | [c], _ =>
    have hk1 : c1.length = k := by rw [h1.length]; simp; omega
    refine ⟨c, l1, lu, l2, by rw [List.getElem?_append_right (by omega)]; simp [hk1], by simp, dens_one.1 h3, ?_⟩
    intro H' F' u' lu' ha hd
    have : ts.set k u' = ts.take k ++ ([u'] ++ ts.drop (k + 1)) := by
      rw [List.set_eq_take_append_cons_drop, if_pos hlt]; rfl
    rw [this, List.append_assoc]
    exact (h1.agree (ha.sub (by simp +contextual))).append ((dens_one.2 hd).append (h4.agree (ha.sub (by simp +contextual))))

/-- What lies at a path: its place, its cells, and the tree with other cells there. -/
theorem node_den {H : Heap} {F : Nat → Prop} : ∀ (p : List Nat) {v : AV} {t : T} {ls : List Nat} {cs : List T}, Den H F v t ls → ls.Nodup → t.node p = some cs →
    ∃ l avs rest A lc B, plc H v p = some l ∧ l < H.sz ∧ (H.get l).st = .own ∧ ¬ F l ∧ (H.get l).cells = avs ++ rest ∧ ls = A ++ (l :: lc) ++ B ∧ Dens H F avs cs lc ∧
      ∀ (H' : Heap) (F' : Nat → Prop) (avs' : List AV) (cs' : List T) (lc' : List Nat), Agree H H' F F' (A ++ B) → (H'.get l).st = .own → ¬ F' l → (H'.get l).cells = avs' ++ rest → cs'.length = cs.length → Dens H' F' avs' cs' lc' →
        Den H' F' v (T.setNode cs' t p) (A ++ (l :: lc') ++ B)
  | [], v, t, ls, cs, h, hnd, hn => by
    simp only [T.node] at hn
    obtain ⟨l, avs, rest, lc, h1, h2, h3, h4, h5, rfl, h7, h8⟩ := kids_den h hn
    refine ⟨l, avs, rest, [], lc, [], h1, h2, h3, h4, h5, by simp, h7, ?_⟩
    intro H' F' avs' cs' lc' ha hst hF hc hlen hd
    simpa [T.setNode] using h8 H' F' avs' cs' lc' ha.sz hst hF hc hlen hd
  | k :: p, v, t, ls, cs, h, hnd, hn => by
    simp only [T.node] at hn
    split at hn
    · rename_i kc hkc
      split at hn
      · rename_i u hu
        obtain ⟨l0, avs0, rest0, lc0, h1, h2, h3, h4, h5, rfl, h7, h8⟩ := kids_den h hkc
        obtain ⟨c, l1, lu, l2, hc, rfl, hdu, hset⟩ := h7.at hu
        have hcell : (H.get l0).cells.getD k .und = c := by
          rw [h5, List.getD_eq_getElem?_getD, List.getElem?_append_left (List.getElem?_eq_some_iff.1 hc).1, hc]; rfl
        have hnu : lu.Nodup := by
          have := (List.nodup_cons.1 hnd).2
          exact (List.nodup_append.1 (List.nodup_append.1 this).1).2.1
        obtain ⟨l, avs, rest, A, lc, B, g1, g2, g3, g4, g5, rfl, g7, g8⟩ := node_den p hdu hnu hn
        refine ⟨l, avs, rest, l0 :: (l1 ++ A), lc, B ++ l2, by simp only [plc, h1, hcell]; exact g1, g2, g3, g4, g5, by simp, g7, ?_⟩
        intro H' F' avs' cs' lc' ha hst hF hcl hlen hd
        have e0 := ha.ow l0 (by simp)
        have hdu' := g8 H' F' avs' cs' lc' (ha.sub (by grind)) hst hF hcl hlen hd
        have hds := hset H' F' _ _ (ha.sub (by grind)) hdu'
        have := h8 H' F' avs0 _ _ ha.sz (by rw [e0.1]; exact h3) e0.2 (by rw [e0.1]; exact h5) (by simp) hds
        simp only [T.setNode, hkc, hu]
        simpa using this
      · simp at hn
    · simp at hn

end Go.Proofs.YtabmomjfdondnaaH
