/- The machine of trees: runs. -/
import Derived.Test.YtabmomjfdondnaaHm24
import Derived.Test.YtabmomjfdondnaaHm14
set_option linter.unusedVariables false
set_option linter.unusedSimpArgs false
namespace Go.Proofs.YtabmomjfdondnaaH
open Go

def VEnv.drops (V : VEnv) : List Nat → VEnv
  | [] => V
  | s :: ss => VEnv.drops (V.drop s) ss
def putR (V : VEnv) : Option Nat → RV → Option VEnv
  | none, _ => some V
  | some d, .v t => some ((unroot d V).set d (.v t))
  | some d, .s x => if x.rooted d then none else some ((unroot d V).set d x)
def dstLt (n : Nat) : Option Nat → Bool
  | none => true
  | some d => decide (d < n)
/-- The slot whose memory an operand leads into. -/
def baseOf (V : VEnv) : Opd → Option Nat
  | .c _ => none
  | .t s => match V.get s with
    | .v _ => some s
    | .al r => some r
    | .ref r _ _ _ _ => some r
    | .adr r _ _ => some r
    | .clo _ _ => none
def rootOf (V : VEnv) (x : Opd) : Option Nat :=
  match x with
  | .c _ => none
  | .t s => match V.get s with
    | .adr r _ _ => some r
    | _ => match see V (.t s) with
      | some t => match t.bare with
        | .sl _ _ _ _ _ => baseOf V (.t s)
        | .ptr _ _ => baseOf V (.t s)
        | _ => none
      | _ => none
/-- The operand whose memory an operation changes. -/
def target : COp → Option Opd
  | .st _ p _ => some p
  | .app _ _ s _ => some s
  | _ => none
/-- The loads that may come before or behind lead elsewhere. -/
def usOk (V : VEnv) (us : List (Nat × Nat)) (bad : List (Option Nat)) : Bool :=
  us.all fun p => match V.get p.1 with
    | .v (.ptr false _) => true
    | _ => match rootOf V (.t p.1) with
      | some r => !bad.contains (some r)
      | none => false
/-- The slot whose memory an operation writes. -/
def tgt (V : VEnv) : Opd → Option (List (Option Nat))
  | .c .nils => some []
  | .c _ => none
  | .t s => match V.get s with
    | .adr r _ _ => some [some r]
    | _ => match see V (.t s) with
      | some t => match t.bare with
        | .nils => some []
        | .sl true _ _ _ _ => (baseOf V (.t s)).map fun r => [some r]
        | .ptr true _ => (baseOf V (.t s)).map fun r => [some r]
        | _ => none
      | _ => none
def needUs (V : VEnv) (o : COper) : Bool :=
  match o.us with
  | [] => true
  | us => match o.op with
    | .cpy .. | .clr .. => false
    | c => match target c with
      | some x => match tgt V x with
        | some bad => usOk V us bad
        | none => false
      | none => true

variable {H H' : Heap} {F F' : Nat → Prop} {env env' : Env} {V V' : VEnv} {Lf : Nat → List Nat} {v : AV} {ls : List Nat} {ks : List Nat} {r : RV}

theorem Sta.drops (h : Sta H F env V Lf) : ∀ (ss : List Nat), ∃ Lf', Sta H F env (V.drops ss) Lf' ∧ ∀ s l, l ∈ Lf' s → l ∈ Lf s := by
  intro ss
  induction ss generalizing V Lf with
  | nil => exact ⟨Lf, h, fun _ _ h => h⟩
  | cons s ss ih =>
    obtain ⟨Lf', h1, h2⟩ := ih (h.drop s env rfl fun _ _ => rfl)
    refine ⟨Lf', h1, fun s' l hl => ?_⟩
    have := h2 s' l hl
    unfold upL at this
    split at this
    · simp at this
    · exact this
theorem Sta.kills (h : Sta H F env V Lf) : ∀ (ss : List Nat), ∃ Lf', Sta H F (killT env ss) (V.drops ss) Lf' ∧ ∀ s l, l ∈ Lf' s → l ∈ Lf s := by
  intro ss
  induction ss generalizing V Lf env with
  | nil => exact ⟨Lf, h, fun _ _ h => h⟩
  | cons s ss ih =>
    obtain ⟨Lf', h1, h2⟩ := ih (h.drop s (env.set s .und) (by simp) fun s' hs' => by simp [List.getD_eq_getElem?_getD, List.getElem?_set_ne (Ne.symm hs')])
    refine ⟨Lf', by simpa [killT, VEnv.drops] using h1, fun s' l hl => ?_⟩
    have := h2 s' l hl
    unfold upL at this
    split at this
    · simp at this
    · exact this
theorem killT_len : ∀ (ss : List Nat) (env : Env), (killT env ss).length = env.length
  | [], env => rfl
  | s :: ss, env => by
    have := killT_len ss (env.set s .und)
    simpa [killT] using this

/-- A result goes to its slot. -/
theorem put_ok {d : Option Nat} {t1 : List Nat} (h : Sta H F env V Lf) (hd : dstLt env.length d = true) (hr : match r with | .v t => Lo H F Lf [v] [t] t1 | .s x => SR H F env V v [] x) (hp : putR V d r = some V') :
    ∃ Lf', Sta H F (putD env d v) V' Lf' ∧ ∀ l, Pl Lf' l → Pl Lf l ∨ l ∈ t1 := by
  cases d with
  | none =>
    simp only [putR, Option.some.injEq] at hp
    subst hp
    exact ⟨Lf, h, fun l hl => .inl hl⟩
  | some d =>
    simp only [dstLt, decide_eq_true_eq] at hd
    cases r with
    | v t =>
      simp only [putR, Option.some.injEq] at hp
      subst hp
      refine ⟨_, h.put hd hr, fun l ⟨s, hl⟩ => ?_⟩
      unfold upL at hl
      split at hl
      · exact .inr hl
      · exact .inl ⟨s, hl⟩
    | s x =>
      simp only [putR] at hp
      split at hp
      · simp at hp
      · rename_i hx
        simp only [Option.some.injEq] at hp
        subst hp
        refine ⟨_, h.putA hd hr (by simpa using hx), fun l ⟨s, hl⟩ => ?_⟩
        unfold upL at hl
        split at hl
        · simp at hl
        · exact .inl ⟨s, hl⟩

/-- The place that an operand leads to. -/
theorem bare_not_at : ∀ (t : T) (a : AV) (u : T), t.bare ≠ .at a u
  | .at _ t, a, u => by rw [T.bare]; exact bare_not_at t a u
  | .sl _ _ _ _ _, _, _ => by simp [T.bare]
  | .ptr _ _, _, _ => by simp [T.bare]
  | .und, _, _ => by simp [T.bare]
  | .int _ _, _, _ => by simp [T.bare]
  | .bool _, _, _ => by simp [T.bare]
  | .str _, _, _ => by simp [T.bare]
  | .nilp, _, _ => by simp [T.bare]
  | .nils, _, _ => by simp [T.bare]
  | .nilf, _, _ => by simp [T.bare]
  | .fn _ _, _, _ => by simp [T.bare]
  | .agg _, _, _ => by simp [T.bare]
  | .tup _, _, _ => by simp [T.bare]
  | .slo _ _, _, _ => by simp [T.bare]
theorem root_ok (h : Sta H F env V Lf) {x : Opd} {l : Nat} {r : Nat} (hl : (x.ev env).place = some l) (hr : rootOf V x = some r) : F l ∨ l ∈ Lf r := by
  have den : ∀ {w : AV} {t : T} {ls : List Nat}, Den H F w t ls → t ≠ .und → (∀ a u, t ≠ .at a u) → w.place = some l → F l ∨ l ∈ ls := by
    intro w t ls hd ht hat hw
    cases t with
    | «at» a u => exact absurd rfl (hat a u)
    | slo =>
      rw [Den] at hd
      rcases hd with ⟨_, rfl | ⟨_, _, rfl⟩, _⟩ | ⟨l', _, _, _, _, l1, rfl, _, _, _, _, _, _, _, rfl, _⟩
      · simp [AV.place] at hw
      · simp [AV.place] at hw
      · simp only [AV.place] at hw
        split at hw
        · simp at hw
        simp only [Option.some.injEq] at hw
        subst hw
        exact .inr (by simp)
    | und => exact absurd rfl ht
    | int => rw [Den] at hd; rw [hd.1] at hw; simp [AV.place] at hw
    | bool => rw [Den] at hd; rw [hd.1] at hw; simp [AV.place] at hw
    | str => rw [Den] at hd; rw [hd.1] at hw; simp [AV.place] at hw
    | nilp => rw [Den] at hd; rw [hd.1] at hw; simp [AV.place] at hw
    | nils => rw [Den] at hd; rw [hd.1] at hw; simp [AV.place] at hw
    | nilf => rw [Den] at hd; rw [hd.1] at hw; simp [AV.place] at hw
    | sl =>
      rw [Den] at hd
      rcases hd with ⟨_, _, rfl | ⟨_, _, rfl⟩, _⟩ | ⟨l', _, _, _, rfl, _, _, _, hd⟩
      · simp [AV.place] at hw
      · simp [AV.place] at hw
      simp only [AV.place] at hw
      split at hw
      · simp at hw
      simp only [Option.some.injEq] at hw
      subst hw
      rcases hd with ⟨_, _, _, _, _, l1, rfl, _⟩ | ⟨_, _, h3, _⟩
      · exact .inr (by simp)
      · exact .inl h3
    | ptr =>
      rw [Den] at hd
      obtain ⟨l', _, _, rfl, _, hd⟩ := hd
      simp only [AV.place, Option.some.injEq] at hw
      subst hw
      rcases hd with ⟨_, _, _, _, _, l1, rfl, _⟩ | ⟨_, _, h3, _⟩
      · exact .inr (by simp)
      · exact .inl h3
    | fn => rw [Den] at hd; obtain ⟨_, rfl, _⟩ := hd; simp [AV.place] at hw
    | agg => rw [Den] at hd; obtain ⟨_, rfl, _⟩ := hd; simp [AV.place] at hw
    | tup => rw [Den] at hd; obtain ⟨_, rfl, _⟩ := hd; simp [AV.place] at hw
  cases x with
  | c a => simp [rootOf] at hr
  | t s =>
    have hsr := h.sr s
    have key : ∀ t, see V (.t s) = some t → baseOf V (.t s) = some r → t.bare ≠ .und → F l ∨ l ∈ Lf r := by
      intro t hs hb ht
      have hna := bare_not_at t
      simp only [see] at hs
      simp only [baseOf] at hb
      split at hs
      · rename_i u hu
        rw [hu] at hb
        simp only [Option.some.injEq] at hs hb
        subst hs hb
        exact den (h.den hu).bare ht hna hl
      · rename_i q hq
        rw [hq] at hb hsr
        simp only [Option.some.injEq] at hb
        subst hb
        split at hs
        · rename_i u hu
          simp only [Option.some.injEq] at hs
          subst hs
          have hd := h.den hu
          rw [← hsr.2.1] at hd
          exact den hd.bare ht hna hl
        · simp at hs
      · rename_i q p k n ag hq
        rw [hq] at hb hsr
        simp only [Option.some.injEq] at hb
        subst hb
        obtain ⟨_, l0, cs, hloc, hkn, hv⟩ := hsr
        have hloc' := hloc
        obtain ⟨t0, e1, e2, e3⟩ := hloc
        simp only [e1, e2] at hs
        obtain ⟨ls, hd, hsub⟩ := rng_den h hloc' hkn hv hs
        rcases den hd.bare ht hna hl with h1 | h1
        · exact .inl h1
        · exact .inr (hsub l h1)
      · simp at hs
    simp only [rootOf] at hr
    split at hr
    · rename_i q p k hq
      simp only [Option.some.injEq] at hr
      subst hr
      rw [hq] at hsr
      obtain ⟨_, l0, cs, hloc, hv⟩ := hsr
      rw [Opd.ev, hv] at hl
      simp only [AV.place, Option.some.injEq] at hl
      subst hl
      obtain ⟨_, _, _, _, _, _, _, hm, _⟩ := h.node hloc
      exact .inr hm
    · split at hr
      · rename_i t0 hs
        split at hr
        · rename_i ht; exact key _ hs hr (by rw [ht]; simp)
        · rename_i ht; exact key _ hs hr (by rw [ht]; simp)
        · simp at hr
      · simp at hr

/-- An operation changes its target alone. -/
theorem heap_target {c : COp} {H1 : Heap} (hop : heapOp env H c = some (v, H1)) (hcc : ∀ e d s, c ≠ .cpy e d s) (hcl : ∀ e zs x, c ≠ .clr e zs x) {l : Nat} (hl : l < H.sz) (ht : ∀ x, target c = some x → (x.ev env).place ≠ some l) : H1.get l = H.get l := by
  cases c with
  | st n p x =>
    have ht := ht p rfl
    simp only [heapOp] at hop
    split at hop
    · rename_i l0 o he
      split at hop
      · obtain ⟨H2, hw, hop⟩ := Option.map_eq_some_iff.1 hop
        simp only [Prod.mk.injEq] at hop
        obtain ⟨_, rfl⟩ := hop
        unfold Heap.wr at hw
        split at hw
        · simp only [Option.some.injEq] at hw
          subst hw
          have : l ≠ l0 := fun e => ht (by rw [he, e]; rfl)
          simp [Heap.put, this]
        · simp at hw
      · simp at hop
    · simp at hop
  | appm e bs zs s x =>
    simp only [heapOp] at hop
    split at hop
    · split at hop
      · simp only [Option.some.injEq, Prod.mk.injEq] at hop; rw [← hop.2]; simp [Heap.new, Nat.ne_of_lt hl]
      · simp at hop
    · simp at hop
  | app e bs s x =>
    have ht := ht s rfl
    simp only [heapOp] at hop
    obtain ⟨⟨k, ys⟩, _, hop⟩ := Option.bind_eq_some_iff.1 hop
    simp only at hop
    split at hop
    · split at hop
      · simp only [Option.some.injEq, Prod.mk.injEq] at hop; rw [← hop.2]
      · split at hop
        · simp only [Option.some.injEq, Prod.mk.injEq] at hop; rw [← hop.2]
        · simp at hop
      · simp at hop
    · split at hop
      · simp at hop
      · split at hop
        · split at hop
          · simp only [Option.some.injEq, Prod.mk.injEq] at hop; rw [← hop.2]; simp [Heap.new, Nat.ne_of_lt hl]
          · simp at hop
        · rename_i l0 o n e' y he
          have hne0 : y = false → l ≠ l0 := fun hy e => ht (by rw [he, e, hy]; simp [AV.place])
          split at hop
          · simp at hop
          · obtain ⟨xs, _, hop⟩ := Option.bind_eq_some_iff.1 hop
            split at hop
            · split at hop
              · simp only [Option.some.injEq, Prod.mk.injEq] at hop; rw [← hop.2]; simp [Heap.new, Nat.ne_of_lt hl]
              · simp at hop
            · rename_i hy
              have hne := hne0 (by simpa using hy)
              split at hop
              · obtain ⟨H2, hw, hop⟩ := Option.map_eq_some_iff.1 hop
                simp only [Prod.mk.injEq] at hop
                obtain ⟨_, rfl⟩ := hop
                unfold Heap.wr at hw
                split at hw
                · simp only [Option.some.injEq] at hw
                  subst hw
                  simp [Heap.put, hne]
                · simp at hw
              · split at hop
                · simp only [Option.some.injEq, Prod.mk.injEq] at hop; rw [← hop.2]; simp [Heap.new, Heap.kill, hne, Nat.ne_of_lt hl]
                · simp at hop
        · simp at hop
  | cpy e d s => exact absurd rfl (hcc e d s)
  | clr e zs x => exact absurd rfl (hcl e zs x)
  | b2s x =>
    simp only [heapOp] at hop
    split at hop
    · simp only [Option.some.injEq, Prod.mk.injEq] at hop; rw [← hop.2]
    · split at hop
      · obtain ⟨xs, _, hop⟩ := Option.bind_eq_some_iff.1 hop
        obtain ⟨s, _, hop⟩ := Option.map_eq_some_iff.1 hop
        simp only [Prod.mk.injEq] at hop; rw [← hop.2]
      · simp at hop
    · simp at hop
  | slx e x lo hi mx =>
    have key : ∀ {b : Option (AV × Heap)}, b = some (v, H1) → (∀ p, b = some p → p.2 = H) → H1.get l = H.get l := by
      intro b hb hp
      rw [← hp _ hb]
    refine key hop ?_
    intro p hp
    simp only [heapOp] at hp
    repeat' split at hp
    all_goals first
      | (simp only [Option.some.injEq] at hp; rw [← hp])
      | simp at hp
  | call => simp [heapOp, pureOp] at hop
  | callv => simp [heapOp, pureOp] at hop
  | fail => simp [heapOp, pureOp] at hop
  | _ =>
    rcases quiet_heap rfl hop with h1 | ⟨cs, _, h1⟩
    · rw [h1]
    · rw [h1]; exact new_get hl

theorem kept_of {us : List (Nat × Nat)} {bad : List (Option Nat)} (h : Sta H F env V Lf) (hu : usOk V us bad = true) (hsz : H.sz ≤ H'.sz)
    (hc : ∀ l, l < H.sz → (F l ∨ ∃ r, l ∈ Lf r ∧ bad.contains (some r) = false) → H'.get l = H.get l) : Kept env us H H' := by
  intro s n hs l o he vs hrd
  have hl : l < H.sz := by
    unfold Heap.rd at hrd
    split at hrd
    · rename_i hc; exact hc.2.1
    · simp at hrd
  have hget : H'.get l = H.get l := by
    refine hc l hl ?_
    have := (List.all_eq_true.1 hu) (s, n) hs
    simp only at this
    split at this
    · rename_i cs hv
      have hd := h.den hv
      rw [he, Den] at hd
      obtain ⟨l', _, _, e1, _, hd⟩ := hd
      simp only [AV.ptr.injEq] at e1
      obtain ⟨rfl, rfl⟩ := e1
      rcases hd with ⟨h1, _⟩ | ⟨_, _, h3, _⟩
      · cases h1
      · exact .inl h3
    · split at this
      · rename_i r hr
        rcases root_ok h (x := .t s) (by rw [Opd.ev, he]; rfl) hr with h1 | h1
        · exact .inl h1
        · exact .inr ⟨r, h1, by simpa using this⟩
      · simp at this
  unfold Heap.rd at hrd ⊢
  split at hrd
  · rename_i hc
    rw [if_pos ⟨by rw [hget]; exact hc.1, Nat.lt_of_lt_of_le hl hsz, by rw [hget]; exact hc.2.2⟩, hget]
    exact hrd
  · simp at hrd

theorem tgt_ok (h : Sta H F env V Lf) {x : Opd} {bad : List (Option Nat)} {l : Nat} (hx : tgt V x = some bad) (hl : (x.ev env).place = some l) : ∃ r, bad = [some r] ∧ l ∈ Lf r ∧ ¬ F l := by
  cases x with
  | c a =>
    cases a with
    | nils => simp [Opd.ev, AV.place] at hl
    | _ => simp [tgt] at hx
  | t s =>
    have hsr := h.sr s
    have key : ∀ t r, see V (.t s) = some t → baseOf V (.t s) = some r → ((∃ y e sk cs, t.bare = .sl true y e sk cs) ∨ ∃ cs, t.bare = .ptr true cs) → l ∈ Lf r ∧ ¬ F l := by
      intro t r hs hb ht
      have den : ∀ {w : AV} {ls : List Nat}, Den H F w t ls → w.place = some l → l ∈ ls ∧ ¬ F l := by
        intro w ls hd hw
        replace hd := hd.bare
        rcases ht with ⟨y, e, sk, cs, ht⟩ | ⟨cs, ht⟩ <;> rw [ht] at hd
        · rw [Den] at hd
          rcases hd with ⟨_, _, rfl | ⟨_, _, rfl⟩, _⟩ | ⟨l', _, _, _, rfl, _, _, _, hd⟩
          · simp [AV.place] at hw
          · simp [AV.place] at hw
          simp only [AV.place] at hw
          split at hw
          · simp at hw
          simp only [Option.some.injEq] at hw
          subst hw
          rcases hd with ⟨_, _, _, h4, _, l1, rfl, _⟩ | ⟨h3, _⟩
          · exact ⟨by simp, h4⟩
          · cases h3
        · obtain ⟨l', avs, rest, lc, h1, _, _, h4, _, rfl, _⟩ := kids_den hd rfl
          rw [hw] at h1
          simp only [Option.some.injEq] at h1
          subst h1
          exact ⟨by simp, h4⟩
      simp only [see] at hs
      simp only [baseOf] at hb
      split at hs
      · rename_i u hu
        rw [hu] at hb
        simp only [Option.some.injEq] at hs hb
        subst hs hb
        exact den (h.den hu) hl
      · rename_i q hq
        rw [hq] at hb hsr
        simp only [Option.some.injEq] at hb
        subst hb
        split at hs
        · rename_i u hu
          simp only [Option.some.injEq] at hs
          subst hs
          have hd := h.den hu
          rw [← hsr.2.1] at hd
          exact den hd hl
        · simp at hs
      · rename_i q p k n ag hq
        rw [hq] at hb hsr
        simp only [Option.some.injEq] at hb
        subst hb
        obtain ⟨_, l0, cs, hloc, hkn, hv⟩ := hsr
        have hloc' := hloc
        obtain ⟨t0, e1, e2, e3⟩ := hloc
        simp only [e1, e2] at hs
        obtain ⟨ls, hd, hsub⟩ := rng_den h hloc' hkn hv hs
        obtain ⟨h1, h2⟩ := den hd hl
        exact ⟨hsub l h1, h2⟩
      · simp at hs
    simp only [tgt] at hx
    split at hx
    · rename_i q p k hq
      simp only [Option.some.injEq] at hx
      subst hx
      rw [hq] at hsr
      obtain ⟨_, l0, cs, hloc, hv⟩ := hsr
      rw [Opd.ev, hv] at hl
      simp only [AV.place, Option.some.injEq] at hl
      subst hl
      obtain ⟨_, _, _, _, _, hF, _, hm, _⟩ := h.node hloc
      exact ⟨q, rfl, hm, hF⟩
    · split at hx
      · rename_i t0 hs
        split at hx
        · rename_i ht
          obtain ⟨ls, hd⟩ := see_ok h hs
          replace hd := hd.bare
          rw [ht, Den] at hd
          rw [hd.1] at hl; simp [AV.place] at hl
        · rename_i ht
          obtain ⟨r, hr, hx⟩ := Option.map_eq_some_iff.1 hx
          exact ⟨r, hx.symm, key _ r hs hr (.inl ⟨_, _, _, _, ht⟩)⟩
        · rename_i ht
          obtain ⟨r, hr, hx⟩ := Option.map_eq_some_iff.1 hx
          exact ⟨r, hx.symm, key _ r hs hr (.inr ⟨_, ht⟩)⟩
        · simp at hx
      · simp at hx

theorem needUs_ok {o : COper} {H1 : Heap} (h : Sta H F env V Lf) (hop : heapOp env H o.op = some (v, H1)) (hsz : H.sz ≤ H1.sz) (hu : needUs V o = true) : Kept env o.us H H1 := by
  unfold needUs at hu
  split at hu
  · rename_i hus; rw [hus]; intro s n hs; simp at hs
  · split at hu
    · simp at hu
    · simp at hu
    · rename_i c hc1 hc2
      split at hu
      · rename_i x hx
        split at hu
        · rename_i bad hbad
          refine kept_of h hu hsz fun l hl hlr => heap_target hop (fun e d s hh => hc1 _ _ _ hh) (fun e d s hh => hc2 _ _ _ hh) hl fun y hy hpl => ?_
          rw [hx] at hy
          simp only [Option.some.injEq] at hy
          subst hy
          obtain ⟨r, rfl, h1, h2⟩ := tgt_ok h hbad hpl
          rcases hlr with h3 | ⟨r', h3, h4⟩
          · exact h2 h3
          · have := h.dj _ _ _ h1 h3
            subst this
            simp at h4
        · simp at hu
      · rename_i hx
        intro s n hs l o' he vs hrd
        have hl : l < H.sz := by
          unfold Heap.rd at hrd
          split at hrd
          · rename_i hc; exact hc.2.1
          · simp at hrd
        have hget := heap_target hop (fun e d s hh => hc1 _ _ _ hh) (fun e d s hh => hc2 _ _ _ hh) hl fun y hy => by rw [hx] at hy; simp at hy
        unfold Heap.rd at hrd ⊢
        split at hrd
        · rename_i hc
          rw [if_pos ⟨by rw [hget]; exact hc.1, Nat.lt_of_lt_of_le hl hsz, by rw [hget]; exact hc.2.2⟩, hget]
          exact hrd
        · simp at hrd

end Go.Proofs.YtabmomjfdondnaaH
