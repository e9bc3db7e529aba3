/- The machine of trees: calls and runs. -/
import Derived.Test.YtabmomjfdondnaaHm25
set_option linter.unusedVariables false
set_option linter.unusedSimpArgs false
namespace Go.Proofs.YtabmomjfdondnaaH
open Go

def gV (V : VEnv) : Option (Nat × Bool) → Option Bool
  | none => some true
  | some (j, b) => match sca V (.t j) with
    | .bool c => some (c == b)
    | .tup [] => some false
    | _ => none
/-- Arguments that the callee may write are taken. -/
def ioTakes (io : List Nat) : VEnv → Nat → List Opd → Option (List T × VEnv)
  | V, _, [] => some ([], V)
  | V, i, x :: xs => if io.contains i then match takeV V x with
      | some (t, V1) => (ioTakes io V1 (i + 1) xs).map fun (ts, V2) => (t :: ts, V2)
      | none => none
    else ioTakes io V (i + 1) xs
/-- The others are lent. -/
def ioLends (V : VEnv) (io : List Nat) : Nat → List Opd → List T → Option (List T × List Nat)
  | _, [], [] => some ([], [])
  | _, [], _ :: _ => none
  | i, x :: xs, tios => if io.contains i then match tios with
      | t :: tios' => (ioLends V io (i + 1) xs tios').map fun (ts, rs) => (t :: ts, rs)
      | [] => none
    else match lend V x with
      | some (t, rs) => (ioLends V io (i + 1) xs tios).map fun (ts, rs') => (t :: ts, rs ++ rs')
      | none => none
def ioSel {α : Type} (io : List Nat) : Nat → List α → List α
  | _, [] => []
  | i, x :: xs => if io.contains i then x :: ioSel io (i + 1) xs else ioSel io (i + 1) xs
/-- What the callee may have written is put back. -/
def back1 (V0 V1 V : VEnv) (n : Nat) (x : Opd) (t : T) : Option VEnv :=
  match x with
  | .c _ => none
  | .t s => match V0.get s with
    | .v .nils => (match t with | .nils => some V | _ => none)
    | .v t0 => if t0.plain then none else if s < n then match V.get s with
      | .v .und => some (V.set s (.v t))
      | _ => none
      else none
    | .al r => match V0.get r with
      | .v t0 => if t0.plain then none else if r < n then match V.get r with
        | .v .und => some (V.set r (.v t))
        | _ => none
        else none
      | _ => none
    | .ref r p k 1 false => match V1.get r with
      | .v t1 => match t1.node p with
        | some _ => match V.get r with
          | .v t0 => match t0.node p with
            | some cs => match cs[k]? with
              | some .und => some ((cut r p V).set r (.v (T.setNode (cs.set k t) t0 p)))
              | _ => none
            | none => none
          | _ => none
        | none => none
      | _ => none
    | _ => none
def isUnd : T → Bool
  | .und => true
  | _ => false
/-- What is used up is not put back. -/
def back0 (V0 V1 V : VEnv) (n : Nat) (x : Opd) (t : T) : Option VEnv := if isUnd t then some V else back1 V0 V1 V n x t
def backs (V0 V1 : VEnv) (n : Nat) : VEnv → List Opd → List T → Option VEnv
  | V, [], [] => some V
  | V, x :: xs, t :: ts => match back0 V0 V1 V n x t with
    | some V' => backs V0 V1 n V' xs ts
    | none => none
  | _, _, _ => none
/-- A call: callee, arguments, the slots whose memory is lent, what is left, the operands that may be written. -/
def callV (io : Nat → List Nat) (V : VEnv) : COp → Option (Nat × List T × List Nat × VEnv × List Opd)
  | .call f xs => match ioTakes (io f) V 0 xs with
    | some (tios, V1) => (ioLends V1 (io f) 0 xs tios).map fun (ts, rs) => (f, ts, rs, V1, ioSel (io f) 0 xs)
    | none => none
  | .callv (.t s) xs => match V.get s with
    | .v (.fn f cs) => if (io f).isEmpty then (ioLends V [] 0 xs []).map fun (ts, rs) => (f, ts ++ cs, rs, V, []) else none
    | .clo f cs => if (io f).isEmpty then match ioLends V [] 0 xs [], lendC V cs with
      | some (ts, rs), some (us, rs') => some (f, ts ++ us, rs ++ rs', V, [])
      | _, _ => none
      else none
    | _ => none
  | _ => none

variable {H H' : Heap} {F F' : Nat → Prop} {env env' : Env} {V V' : VEnv} {Lf : Nat → List Nat} {v : AV} {ls : List Nat} {ks : List Nat} {r : RV} {io : List Nat}

theorem ioTakes_ok : ∀ {xs : List Opd} {V : VEnv} {Lf : Nat → List Nat} {i : Nat} {ts : List T} {avs0 : List AV} {ts0 : List T} {ls : List Nat} {V' : VEnv}, Sta H F env V Lf → Lo H F Lf avs0 ts0 ls → ioTakes io V i xs = some (ts, V') →
    ∃ l1 Lf', Took H F env V' Lf Lf' (avs0 ++ (ioSel io i xs).map (Opd.ev env)) (ts0 ++ ts) (ls ++ l1) ∧ ∀ l ∈ l1, ∃ s, l ∈ Lf s
  | [], V, Lf, i, ts, avs0, ts0, ls, V', h, hl, hx => by
    simp only [ioTakes, Option.some.injEq, Prod.mk.injEq] at hx
    obtain ⟨rfl, rfl⟩ := hx
    exact ⟨[], Lf, ⟨h, by simpa [ioSel] using hl, fun _ _ h => h⟩, by simp⟩
  | x :: xs, V, Lf, i, ts, avs0, ts0, ls, V', h, hl, hx => by
    simp only [ioTakes] at hx
    split at hx
    · rename_i hi
      split at hx
      · rename_i t V1 h1
        obtain ⟨⟨ts', V2⟩, h2, hx⟩ := Option.map_eq_some_iff.1 hx
        simp only [Prod.mk.injEq] at hx
        obtain ⟨rfl, rfl⟩ := hx
        obtain ⟨l1, Lf1, k1, p1⟩ := take_ok h hl h1
        obtain ⟨l2, Lf2, k2, p2⟩ := ioTakes_ok k1.st k1.lo h2
        have hsel : ioSel io i (x :: xs) = x :: ioSel io (i + 1) xs := by simp only [ioSel]; rw [if_pos hi]
        refine ⟨l1 ++ l2, Lf2, ⟨k2.st, by rw [hsel]; simpa using k2.lo, fun s l hl => k1.sub s l (k2.sub s l hl)⟩, fun l hl => ?_⟩
        rcases List.mem_append.1 hl with hl | hl
        · exact p1 l hl
        · obtain ⟨s, hs⟩ := p2 l hl; exact ⟨s, k1.sub s l hs⟩
      · simp at hx
    · rename_i hi
      have := ioTakes_ok h hl hx
      have hsel : ioSel io i (x :: xs) = ioSel io (i + 1) xs := by simp only [ioSel]; rw [if_neg hi]
      rw [hsel]; exact this

theorem ioLends_ok (h : Sta H F env V Lf) {G : Nat → Prop} (hFG : ∀ l, F l → G l) : ∀ {xs : List Opd} {i : Nat} {tios ts : List T} {avs : List AV} {ls rs : List Nat}, avs = (ioSel io i xs).map (Opd.ev env) → Dens H F avs tios ls → (∀ l ∈ ls, ¬ G l) →
    ioLends V io i xs tios = some (ts, rs) → (∀ l, Lent F Lf rs l → G l) → Dens H G (xs.map (Opd.ev env)) ts ls
  | [], i, tios, ts, avs, ls, rs, ha, hd, hn, hx, hG => by
    cases tios with
    | nil =>
      simp only [ioLends, Option.some.injEq, Prod.mk.injEq] at hx
      obtain ⟨rfl, rfl⟩ := hx
      rw [Dens] at hd
      rw [List.map_nil, Dens]; exact ⟨rfl, hd.2⟩
    | cons => simp [ioLends] at hx
  | x :: xs, i, tios, ts, avs, ls, rs, ha, hd, hn, hx, hG => by
    simp only [ioLends] at hx
    split at hx
    · rename_i hi
      cases tios with
      | nil => simp at hx
      | cons t tios =>
        simp only at hx
        obtain ⟨⟨ts', rs'⟩, h2, hx⟩ := Option.map_eq_some_iff.1 hx
        simp only [Prod.mk.injEq] at hx
        obtain ⟨rfl, rfl⟩ := hx
        simp only [ioSel, hi, if_true, List.map_cons] at ha
        subst ha
        rw [Dens] at hd
        obtain ⟨c, cs', l1, l2, e, rfl, h3, h4⟩ := hd
        simp only [List.cons.injEq] at e
        obtain ⟨rfl, rfl⟩ := e
        rw [List.map_cons, Dens]
        exact ⟨_, _, l1, l2, rfl, rfl, h3.agree ⟨Nat.le_refl _, fun l hl => ⟨rfl, hFG l hl⟩, fun l hl => ⟨rfl, hn l (by simp [hl])⟩⟩, ioLends_ok h hFG rfl h4 (fun l hl => hn l (by simp [hl])) h2 hG⟩
    · rename_i hi
      split at hx
      · rename_i t rs0 h1
        obtain ⟨⟨ts', rs'⟩, h2, hx⟩ := Option.map_eq_some_iff.1 hx
        simp only [Prod.mk.injEq] at hx
        obtain ⟨rfl, rfl⟩ := hx
        simp only [ioSel, hi, if_false] at ha
        rw [List.map_cons, Dens]
        refine ⟨_, _, [], ls, rfl, rfl, lend_ok h h1 fun l hl => hG l ?_, ioLends_ok h hFG ha hd hn h2 fun l hl => hG l ?_⟩
        · rcases hl with hl | ⟨r, hr, hl⟩
          · exact .inl hl
          · exact .inr ⟨r, by simp [hr], hl⟩
        · rcases hl with hl | ⟨r, hr, hl⟩
          · exact .inl hl
          · exact .inr ⟨r, by simp [hr], hl⟩
      · simp at hx

/-- A slot that was emptied is filled again. -/
theorem Sta.fill (h : Sta H F env V Lf) {s : Nat} {t : T} {l1 : List Nat} (hs : V.get s = .v .und) (hlt : s < env.length) (hd : Den H F (env.getD s .und) t l1) (hnd : l1.Nodup) (hdj : ∀ q l, l ∈ l1 → l ∉ Lf q) :
    Sta H F env (V.set s (.v t)) (upL Lf s l1) := by
  have hloc : ∀ q p l cs, Loc H env V q p l cs → Loc H env (V.set s (.v t)) q p l cs := by
    intro q p l cs hl
    refine hl.congr ?_ rfl
    rw [VEnv.get_set, if_neg]
    intro e
    subst e
    obtain ⟨t0, h1, h2, _⟩ := hl
    rw [hs] at h1
    simp only [S.v.injEq] at h1
    subst h1
    cases p <;> simp [T.node, T.kids] at h2
  refine ⟨h.fz, fun s' => ?_, fun s' => ?_, fun a b l h1 h2 => ?_, fun s' hl => ?_⟩
  · rw [VEnv.get_set]
    unfold upL
    by_cases e : s = s'
    · subst e
      rw [if_pos rfl, if_pos rfl]; exact hd
    · rw [if_neg e, if_neg e]
      have hsr := h.sr s'
      cases hx : V.get s' with
      | v u => rw [hx] at hsr; exact hsr
      | al q =>
        rw [hx] at hsr
        obtain ⟨a1, a2, u, a3⟩ := hsr
        refine ⟨a1, a2, ?_⟩
        rw [VEnv.get_set]
        split
        · exact ⟨_, rfl⟩
        · exact ⟨u, a3⟩
      | ref q p k n ag =>
        rw [hx] at hsr
        obtain ⟨a1, l, cs, a2, a3⟩ := hsr
        exact ⟨a1, l, cs, hloc _ _ _ _ a2, a3⟩
      | adr q p k =>
        rw [hx] at hsr
        obtain ⟨a1, l, cs, a2, a3⟩ := hsr
        exact ⟨a1, l, cs, hloc _ _ _ _ a2, a3⟩
      | clo f cs =>
        rw [hx] at hsr
        obtain ⟨a1, vs, a2, a3⟩ := hsr
        refine ⟨a1, vs, a2, a3.imp fun c v _ hc => ?_⟩
        cases c with
        | t u => exact hc
        | a q p k =>
          obtain ⟨l, cs', b1, b2⟩ := hc
          exact ⟨l, cs', hloc _ _ _ _ b1, b2⟩
  · unfold upL
    split
    · exact hnd
    · exact h.nd s'
  · unfold upL at h1 h2
    split at h1 <;> split at h2
    · rename_i e e'; rw [← e, ← e']
    · exact absurd h2 (hdj _ _ h1)
    · exact absurd h1 (hdj _ _ h2)
    · exact h.dj a b l h1 h2
  · rw [VEnv.get_set]
    split
    · rename_i e; subst e; omega
    · exact h.ln s' hl

/-- Where a taken cell lies. -/
def CellAt (H : Heap) (env : Env) (V0 V1 : VEnv) (x : Opd) : Prop :=
  ∀ s r p k, x = .t s → V0.get s = .ref r p k 1 false → ∀ t1 cs1, V1.get r = .v t1 → t1.node p = some cs1 → ∃ l, plc H (env.getD r .und) p = some l ∧ (H.get l).cells.getD k .und = x.ev env
theorem cellAt {V0 V1 : VEnv} {Lf0 Lf1 : Nat → List Nat} (h0 : Sta H F env V0 Lf0) (h1 : Sta H F env V1 Lf1) (ha : ∀ s, ∀ l ∈ Lf1 s, H'.get l = H.get l) (x : Opd) : CellAt H' env V0 V1 x := by
  intro s r p k hx hs t1 cs1 ht1 hn1
  subst hx
  have hsr := h0.sr s
  rw [hs] at hsr
  obtain ⟨_, l, cs, ⟨t0, e1, e2, e3⟩, hkn, hv⟩ := hsr
  simp only [Bool.false_eq_true, if_false] at hv
  obtain ⟨g1, g2⟩ := h1.loc_agree (ha r) ⟨t1, ht1, hn1, e3⟩
  obtain ⟨_, _, _, g3⟩ := g1
  exact ⟨l, g3, by rw [g2, Opd.ev, hv.2]⟩

/-- Putting back: state, values at hand. -/
theorem back1_ok {V0 V1 : VEnv} {Lf0 : Nat → List Nat} {H0 : Heap} {F0 : Nat → Prop} {x : Opd} {t : T} {l1 : List Nat} (h0 : Sta H0 F0 env V0 Lf0) (h : Sta H F env V Lf) (hc : CellAt H env V0 V1 x) (hd : Den H F (x.ev env) t l1) (hnd : l1.Nodup) (hdj : ∀ q l, l ∈ l1 → l ∉ Lf q)
    (hx : back1 V0 V1 V env.length x t = some V') : ∃ Lf', Sta H F env V' Lf' ∧ ∀ l, Pl Lf' l → Pl Lf l ∨ l ∈ l1 := by
  cases x with
  | c a => simp [back1] at hx
  | t s =>
    have fill : ∀ {q : Nat}, V.get q = .v .und → q < env.length → env.getD s .und = env.getD q .und → ∃ Lf', Sta H F env (V.set q (.v t)) Lf' ∧ ∀ l, Pl Lf' l → Pl Lf l ∨ l ∈ l1 := by
      intro q hq hlt he
      refine ⟨_, h.fill hq hlt (by rw [← he]; exact hd) hnd hdj, fun l ⟨s', hl⟩ => ?_⟩
      unfold upL at hl
      split at hl
      · exact .inr hl
      · exact .inl ⟨s', hl⟩
    have hsr := h0.sr s
    simp only [back1] at hx
    split at hx
    · split at hx
      · simp only [Option.some.injEq] at hx; subst hx
        exact ⟨Lf, h, fun l hl => .inl hl⟩
      · simp at hx
    · split at hx
      · simp at hx
      · split at hx
        · rename_i hlt
          split at hx
          · rename_i hq
            simp only [Option.some.injEq] at hx; subst hx
            exact fill hq hlt rfl
          · simp at hx
        · simp at hx
    · rename_i q hq0
      rw [hq0] at hsr
      split at hx
      · split at hx
        · simp at hx
        · split at hx
          · rename_i hlt
            split at hx
            · rename_i hq
              simp only [Option.some.injEq] at hx; subst hx
              exact fill hq hlt hsr.2.1
            · simp at hx
          · simp at hx
      · simp at hx
    · rename_i r p k hs
      split at hx
      · rename_i t1 ht1
        split at hx
        · rename_i cs1 hcs1
          obtain ⟨l, hp, hcell⟩ := hc s r p k rfl hs t1 cs1 ht1 hcs1
          split at hx
          · rename_i t0 ht0
            split at hx
            · rename_i cs hcs
              split at hx
              · rename_i hk
                simp only [Option.some.injEq] at hx; subst hx
                obtain ⟨avs, rest, A, lc, B, g2, g3, g4, g5, g6, g7, g8⟩ := h.chg ht0 hcs hp
                obtain ⟨c, m1, mu, m2, hck, rfl, hdu, hset⟩ := g7.at hk
                rw [Den] at hdu
                subst hdu
                have hcx : c = (Opd.t s).ev env := by
                  rw [← hcell, g5, List.getD_eq_getElem?_getD, List.getElem?_append_left (List.getElem?_eq_some_iff.1 hck).1, hck]; rfl
                have hd' := hset H F t l1 ⟨Nat.le_refl _, fun _ h => ⟨rfl, h⟩, fun l hl => ⟨rfl, (g7.owned l (by simpa using hl)).2.2⟩⟩ (by rw [hcx]; exact hd)
                have hndr := h.nd r
                rw [g6] at hndr
                have hdjr := hdj r
                rw [g6] at hdjr
                have hst := g8 H avs (cs.set k t) (m1 ++ l1 ++ m2) (Nat.le_refl _) (fun _ _ => rfl) g3 g5 (by simp) hd' (by
                  simp only [List.append_assoc, List.cons_append, List.nil_append, List.nodup_append, List.nodup_cons, List.mem_append, List.mem_cons] at hndr hdjr ⊢
                  grind) (by
                  intro s' hs' l' hl' hl''
                  rcases List.mem_append.1 hl' with hl' | hl'
                  · rcases List.mem_append.1 hl' with hl' | hl'
                    · exact hs' (h.dj _ _ _ hl'' (by rw [g6]; simp [hl']))
                    · exact hdj s' l' hl' hl''
                  · exact hs' (h.dj _ _ _ hl'' (by rw [g6]; simp [hl'])))
                refine ⟨_, hst, fun l' ⟨s', hl'⟩ => ?_⟩
                unfold upL at hl'
                split at hl'
                · by_cases hm : l' ∈ l1
                  · exact .inr hm
                  · refine .inl ⟨r, ?_⟩
                    rw [g6]; simp at hl' ⊢; grind
                · exact .inl ⟨s', hl'⟩
              · simp at hx
            · simp at hx
          · simp at hx
        · simp at hx
      · simp at hx
    · simp at hx

theorem back0_ok {V0 V1 : VEnv} {Lf0 : Nat → List Nat} {H0 : Heap} {F0 : Nat → Prop} {x : Opd} {t : T} {l1 : List Nat} (h0 : Sta H0 F0 env V0 Lf0) (h : Sta H F env V Lf) (hc : CellAt H env V0 V1 x) (hd : Den H F (x.ev env) t l1) (hnd : l1.Nodup) (hdj : ∀ q l, l ∈ l1 → l ∉ Lf q)
    (hx : back0 V0 V1 V env.length x t = some V') : ∃ Lf', Sta H F env V' Lf' ∧ ∀ l, Pl Lf' l → Pl Lf l ∨ l ∈ l1 := by
  unfold back0 at hx
  split at hx
  · simp only [Option.some.injEq] at hx
    subst hx
    exact ⟨Lf, h, fun l hl => .inl hl⟩
  · exact back1_ok h0 h hc hd hnd hdj hx
theorem backs_ok {V0 V1 : VEnv} {Lf0 : Nat → List Nat} {H0 : Heap} {F0 : Nat → Prop} (h0 : Sta H0 F0 env V0 Lf0) : ∀ {xs : List Opd} {ts : List T} {V : VEnv} {Lf : Nat → List Nat} {l1 : List Nat}, Sta H F env V Lf → (∀ x, CellAt H env V0 V1 x) → Dens H F (xs.map (Opd.ev env)) ts l1 → l1.Nodup → (∀ q l, l ∈ l1 → l ∉ Lf q) →
    backs V0 V1 env.length V xs ts = some V' → ∃ Lf', Sta H F env V' Lf' ∧ ∀ l, Pl Lf' l → Pl Lf l ∨ l ∈ l1
  | [], [], V, Lf, l1, h, hc, hd, hnd, hdj, hx => by
    simp only [backs, Option.some.injEq] at hx
    subst hx
    exact ⟨Lf, h, fun l hl => .inl hl⟩
  | x :: xs, t :: ts, V, Lf, l1, h, hc, hd, hnd, hdj, hx => by
    simp only [backs] at hx
    split at hx
    · rename_i V2 h1
      rw [List.map_cons, Dens] at hd
      obtain ⟨c, cs', m1, m2, e, rfl, h3, h4⟩ := hd
      simp only [List.cons.injEq] at e
      obtain ⟨rfl, rfl⟩ := e
      obtain ⟨n1, n2, n3⟩ := List.nodup_append.1 hnd
      obtain ⟨Lf1, k1, k2⟩ := back0_ok h0 h (hc x) h3 n1 (fun q l hl => hdj q l (by simp [hl])) h1
      obtain ⟨Lf2, k3, k4⟩ := backs_ok h0 k1 hc h4 n2 (fun q l hl hl' => by
        rcases k2 l ⟨q, hl'⟩ with ⟨s, h5⟩ | h5
        · exact hdj s l (by simp [hl]) h5
        · exact n3 l h5 l hl rfl) hx
      refine ⟨Lf2, k3, fun l hl => ?_⟩
      rcases k4 l hl with h5 | h5
      · rcases k2 l h5 with h6 | h6
        · exact .inl h6
        · exact .inr (by simp [h6])
      · exact .inr (by simp [h5])
    · simp at hx
  | [], _ :: _, V, Lf, l1, h, hc, hd, hnd, hdj, hx => by simp [backs] at hx
  | _ :: _, [], V, Lf, l1, h, hc, hd, hnd, hdj, hx => by simp [backs] at hx

end Go.Proofs.YtabmomjfdondnaaH
