/- The machine of trees: looking at operands. -/
import Derived.Test.YtabmomjfdondnaaHm18
set_option linter.unusedVariables false
set_option linter.unusedSimpArgs false
namespace Go.Proofs.YtabmomjfdondnaaH
open Go

variable {H H' : Heap} {F F' : Nat → Prop} {env env' : Env} {V V' : VEnv} {Lf : Nat → List Nat} {v : AV} {ls : List Nat}

/-! ### Whole numbers, truth values, strings -/
def T.av : T → AV
  | .int k n => .int k n
  | .bool b => .bool b
  | .str s => .str s
  | .tup [] => .tup []
  | _ => .und
def sca (V : VEnv) : Opd → AV
  | .c a => a
  | .t s => match V.get s with
    | .v t => t.av
    | _ => .und
theorem sca_ok (h : Sta H F env V Lf) (x : Opd) : sca V x = .und ∨ sca V x = x.ev env := by
  cases x with
  | c a => exact .inr rfl
  | t s =>
    simp only [sca]
    split
    · rename_i t hs
      have hd := h.den hs
      cases t with
      | int k n => rw [Den] at hd; exact .inr hd.1.symm
      | bool b => rw [Den] at hd; exact .inr hd.1.symm
      | str s => rw [Den] at hd; exact .inr hd.1.symm
      | tup cs => cases cs with
        | nil =>
          rw [Den] at hd
          obtain ⟨cs, hv, h2⟩ := hd
          rw [Dens] at h2
          rw [h2.1] at hv
          exact .inr hv.symm
        | cons => exact .inl rfl
      | _ => exact .inl rfl
    · exact .inl rfl

def osca (ev : Opd → AV) (y n : Nat) : Option Opd → Option Nat
  | some l => bnd y (ev l)
  | none => some n
/-- Operations on whole numbers, truth values and strings. -/
def scaOp (ev : Opd → AV) : COp → Option AV
  | .bin op x y => binA op (ev x) (ev y)
  | .beq ng x y => match ev x, ev y with
    | .bool a, .bool b => some (.bool (if ng then a != b else a == b))
    | _, _ => none
  | .neg x => match ev x with
    | .int k n => some (.int k (k.wrap (0 - n)))
    | _ => none
  | .not x => match ev x with
    | .bool b => some (.bool !b)
    | _ => none
  | .lens x => match ev x with
    | .str s => some (.i s.length)
    | _ => none
  | .max x y => match ev x, ev y with
    | .int k a, .int _ b => some (.int k (if b > a then b else a))
    | _, _ => none
  | .conv k x => match ev x with
    | .int _ n => some (.int k (k.wrap n))
    | _ => none
  | .sst x lo hi => match ev x with
    | .str s =>
      match osca ev s.length s.length hi with
      | some h => match osca ev h 0 lo with
        | some l => some (.str ((s.take h).drop l))
        | none => none
      | none => none
    | _ => none
  | .ix x i => match ev x, ev i with
    | .str s, .int _ j => if 0 ≤ j then (s[j.toNat]?).map fun b => .int .u8 b.toNat else none
    | _, _ => none
  | _ => none

theorem binA_und1 {op : BinOp} {y : AV} : binA op .und y = none := by cases op <;> cases y <;> rfl
theorem binA_und2 {op : BinOp} {x : AV} : binA op x .und = none := by cases op <;> cases x <;> rfl
theorem osca_mono {ev ev' : Opd → AV} (h : ∀ x, ev x = .und ∨ ev x = ev' x) {y n r : Nat} {x : Option Opd} (hx : osca ev y n x = some r) : osca ev' y n x = some r := by
  cases x with
  | none => exact hx
  | some x =>
    simp only [osca] at hx ⊢
    rcases h x with e | e
    · rw [e] at hx; simp [bnd] at hx
    · rw [← e]; exact hx
theorem scaOp_mono {ev ev' : Opd → AV} (h : ∀ x, ev x = .und ∨ ev x = ev' x) {c : COp} {r : AV} (hc : scaOp ev c = some r) : scaOp ev' c = some r := by
  cases c with
  | bin op x y =>
    simp only [scaOp] at hc ⊢
    rcases h x with e | e
    · rw [e, binA_und1] at hc; simp at hc
    · rcases h y with e' | e'
      · rw [e', binA_und2] at hc; simp at hc
      · rw [← e, ← e']; exact hc
  | beq ng x y =>
    simp only [scaOp] at hc ⊢
    rcases h x with e | e
    · rw [e] at hc; simp at hc
    · rcases h y with e' | e'
      · rw [e'] at hc; simp at hc
      · rw [← e, ← e']; exact hc
  | neg x =>
    simp only [scaOp] at hc ⊢
    rcases h x with e | e
    · rw [e] at hc; simp at hc
    · rw [← e]; exact hc
  | not x =>
    simp only [scaOp] at hc ⊢
    rcases h x with e | e
    · rw [e] at hc; simp at hc
    · rw [← e]; exact hc
  | lens x =>
    simp only [scaOp] at hc ⊢
    rcases h x with e | e
    · rw [e] at hc; simp at hc
    · rw [← e]; exact hc
  | max x y =>
    simp only [scaOp] at hc ⊢
    rcases h x with e | e
    · rw [e] at hc; simp at hc
    · rcases h y with e' | e'
      · rw [e'] at hc; simp at hc
      · rw [← e, ← e']; exact hc
  | conv k x =>
    simp only [scaOp] at hc ⊢
    rcases h x with e | e
    · rw [e] at hc; simp at hc
    · rw [← e]; exact hc
  | ix x y =>
    simp only [scaOp] at hc ⊢
    rcases h x with e | e
    · rw [e] at hc; simp at hc
    · rcases h y with e' | e'
      · rw [e'] at hc; simp at hc
      · rw [← e, ← e']; exact hc
  | sst x lo hi =>
    simp only [scaOp] at hc ⊢
    rcases h x with e | e
    · rw [e] at hc; simp at hc
    · rw [← e]
      split at hc
      · rename_i s hs
        split at hc
        · rename_i h0 hh
          split at hc
          · rename_i l hl
            rw [osca_mono h hh]
            simp only
            rw [osca_mono h hl]
            exact hc
          · simp at hc
        · simp at hc
      · simp at hc
  | _ => simp [scaOp] at hc
theorem osca_ev {y n : Nat} {x : Option Opd} : osca (Opd.ev env) y n x = obnd env y n x := by cases x <;> rfl
theorem scaOp_pure {c : COp} {r : AV} (hc : scaOp (Opd.ev env) c = some r) : pureOp env c = some r := by
  cases c with
  | sst x lo hi =>
    simp only [scaOp] at hc
    simp only [pureOp]
    split at hc
    · rename_i s hs
      rw [hs]
      simp only
      split at hc
      · rename_i h0 hh
        rw [osca_ev] at hh
        rw [hh]
        simp only
        split at hc
        · rename_i l hl
          rw [osca_ev] at hl
          rw [hl]
          exact hc
        · simp at hc
      · simp at hc
    · simp at hc
  | _ => first | exact hc | simp [scaOp] at hc
theorem scaOp_heap {c : COp} {r : AV} (hc : scaOp (Opd.ev env) c = some r) : heapOp env H c = some (r, H) := by
  have h1 := scaOp_pure hc
  cases c <;> first | (simp only [heapOp]; rw [h1]; rfl) | simp [scaOp] at hc

/-! ### Looking at a value -/
/-- A value's tree, as it is; only its head should be used. -/
def see (V : VEnv) : Opd → Option T
  | .c a => T.ofAV a
  | .t s => match V.get s with
    | .v t => some t
    | .al r => match V.get r with
      | .v t => some t
      | _ => none
    | .ref r p k n ag => match V.get r with
      | .v t => match t.node p with
        | some cs => rng cs k n ag
        | none => none
      | _ => none
    | _ => none

theorem rng_den (h : Sta H F env V Lf) {r : Nat} {p : List Nat} {l k n : Nat} {ag : Bool} {cs : List T} {u : T} {v : AV} (hl : Loc H env V r p l cs) (hkn : k + n ≤ cs.length)
    (hv : if ag then v = .agg (((H.get l).cells.drop k).take n) else n = 1 ∧ v = (H.get l).cells.getD k .und) (hu : rng cs k n ag = some u) : ∃ ls, Den H F v u ls ∧ ∀ l ∈ ls, l ∈ Lf r := by
  obtain ⟨avs0, rest, lc, g2, g3, g4, g5, g6, g7, g8⟩ := h.node hl
  have hcs : cs = cs.take k ++ ((cs.drop k).take n ++ cs.drop (k + n)) := by
    rw [← List.drop_drop, List.take_append_drop, List.take_append_drop]
  rw [hcs] at g7
  obtain ⟨a1, a23, m1, m23, rfl, rfl, d1, d23⟩ := g7.split
  obtain ⟨a2, a3, m2, m3, rfl, rfl, d2, d3⟩ := d23.split
  have hl1 : a1.length = k := by rw [d1.length]; simp; omega
  have hl2 : a2.length = n := by rw [d2.length]; simp; omega
  have hcell : ((H.get l).cells.drop k).take n = a2 := by
    rw [g5, List.append_assoc, ← hl1, List.drop_left, List.append_assoc, ← hl2, List.take_left]
  refine ⟨m2, ?_, fun l hl => g8 l (by simp [hl])⟩
  unfold rng at hu
  rw [if_pos hkn] at hu
  cases ag with
  | true =>
    simp only [if_true, Option.some.injEq] at hu hv
    subst hu
    rw [hv, hcell, Den]
    exact ⟨a2, rfl, d2⟩
  | false =>
    simp only [Bool.false_eq_true, if_false] at hu hv
    obtain ⟨rfl, hv⟩ := hv
    rw [if_pos rfl] at hu
    have hlt := (List.getElem?_eq_some_iff.1 hu)
    have h1 : (cs.drop k).take 1 = [u] := by
      rw [List.drop_eq_getElem_cons hlt.1, hlt.2]; rfl
    rw [h1] at d2
    match a2, hl2, hcell, d2 with
    | [c], _, hcell, d2 =>
      have : (H.get l).cells.getD k .und = c := by
        have h2 : ((H.get l).cells.drop k)[0]? = some c := by
          have : ((H.get l).cells.drop k).take 1 = [c] := hcell
          have h3 := congrArg (·[0]?) this
          simpa [List.getElem?_take] using h3
        rw [List.getElem?_drop, Nat.add_zero] at h2
        rw [List.getD_eq_getElem?_getD, h2]; rfl
      rw [hv, this]
      exact dens_one.1 d2

theorem see_ok (h : Sta H F env V Lf) {x : Opd} {t : T} (hx : see V x = some t) : ∃ ls, Den H F (x.ev env) t ls := by
  cases x with
  | c a => exact ⟨[], (ofAV_den hx).1⟩
  | t s =>
    simp only [see] at hx
    have hsr := h.sr s
    split at hx
    · rename_i u hs
      simp only [Option.some.injEq] at hx; subst hx
      exact ⟨_, h.den hs⟩
    · rename_i r hs
      rw [hs] at hsr
      split at hx
      · rename_i u hr
        simp only [Option.some.injEq] at hx; subst hx
        refine ⟨Lf r, ?_⟩
        have := h.den hr
        rw [← hsr.2.1] at this
        exact this
      · simp at hx
    · rename_i r p k n ag hs
      rw [hs] at hsr
      obtain ⟨_, l, cs, hl, hkn, hv⟩ := hsr
      have hl' := hl
      obtain ⟨t0, e1, e2, e3⟩ := hl
      simp only [e1, e2] at hx
      obtain ⟨ls, h1, _⟩ := rng_den h hl' hkn hv hx
      exact ⟨ls, h1⟩
    · simp at hx

/-! ### Addresses -/
def T.bare : T → T
  | .at _ t => t.bare
  | t => t
theorem Den.bare {H : Heap} {F : Nat → Prop} {v : AV} : ∀ {t : T} {ls : List Nat}, Den H F v t ls → Den H F v t.bare ls
  | .at a t, ls, h => by rw [Den] at h; rw [T.bare]; exact Den.bare h.2
  | .sl _ _ _ _ _, ls, h => h
  | .ptr _ _, ls, h => h
  | .und, ls, h => h
  | .int _ _, ls, h => h
  | .bool _, ls, h => h
  | .str _, ls, h => h
  | .nilp, ls, h => h
  | .nils, ls, h => h
  | .nilf, ls, h => h
  | .fn _ _, ls, h => h
  | .agg _, ls, h => h
  | .tup _, ls, h => h
  | .slo _ _, ls, h => h
theorem kids_bare : ∀ (t : T), t.bare.kids = t.kids
  | .at a t => by rw [T.bare, T.kids]; exact kids_bare t
  | .sl _ _ _ _ _ => rfl
  | .ptr _ _ => rfl
  | .und => rfl
  | .int _ _ => rfl
  | .bool _ => rfl
  | .str _ => rfl
  | .nilp => rfl
  | .nils => rfl
  | .nilf => rfl
  | .fn _ _ => rfl
  | .agg _ => rfl
  | .tup _ => rfl
  | .slo _ _ => rfl
/-- An address: into what a slot owns, or into what is shared (the cells from there on). -/
inductive Ad where
  | own (r : Nat) (p : List Nat) (k : Nat) (cs : List T)
  | sh (cs : List T)
def adrOf (V : VEnv) : Opd → Option Ad
  | .c _ => none
  | .t s => match V.get s with
    | .v t => match t.bare with
      | .ptr true cs => some (.own s [] 0 cs)
      | .ptr false cs => some (.sh cs)
      | _ => none
    | .al r => match V.get r with
      | .v t => match t.bare with
        | .ptr true cs => some (.own r [] 0 cs)
        | _ => none
      | _ => none
    | .ref r p k 1 false => match V.get r with
      | .v t => match t.node p with
        | some cs => match cs[k]? with
          | some u => match u.bare with
            | .ptr true cs' => some (.own r (p ++ [k]) 0 cs')
            | _ => none
          | _ => none
        | none => none
      | _ => none
    | .adr r p k => match V.get r with
      | .v t => match t.node p with
        | some cs => some (.own r p k cs)
        | none => none
      | _ => none
    | _ => none
/-- A slice: of what a slot owns, or shared: its elements' cells and its cells. -/
inductive Sl where
  | own (r : Nat) (p : List Nat) (e : Nat) (cs : List T)
  | sh (x : Bool) (e : Nat) (cs : List T)
def slOf (V : VEnv) : Opd → Option Sl
  | .c _ => none
  | .t s => match V.get s with
    | .v (.sl true x e _ cs) => if x && cs.isEmpty then none else some (.own s [] e cs)
    | .v (.sl false x e sk cs) => if sk == 1 && cs.isEmpty then none else some (.sh x e cs)
    | .al r => match V.get r with
      | .v (.sl true x e _ cs) => if x && cs.isEmpty then none else some (.own r [] e cs)
      | _ => none
    | .ref r p k 1 false => match V.get r with
      | .v t => match t.node p with
        | some cs => match cs[k]? with
          | some (.sl true x e _ cs') => if x && cs'.isEmpty then none else some (.own r (p ++ [k]) e cs')
          | _ => none
        | none => none
      | _ => none
    | _ => none

theorem node_snoc : ∀ (p : List Nat) {t : T} {cs : List T} {k : Nat} {u : T} {cs' : List T}, t.node p = some cs → cs[k]? = some u → u.kids = some cs' → t.node (p ++ [k]) = some cs'
  | [], t, cs, k, u, cs', h, hk, hu => by
    simp only [T.node] at h
    simp only [List.nil_append, T.node, h, hk]
    simpa [T.node] using hu
  | a :: p, t, cs, k, u, cs', h, hk, hu => by
    simp only [T.node] at h
    split at h
    · rename_i kc hkc
      split at h
      · rename_i w hw
        simp only [List.cons_append, T.node, hkc, hw]
        exact node_snoc p h hk hu
      · simp at h
    · simp at h
theorem plc_snoc : ∀ (p : List Nat) {v : AV} {l k : Nat}, plc H v p = some l → plc H v (p ++ [k]) = ((H.get l).cells.getD k .und).place
  | [], v, l, k, h => by simp only [plc] at h; simp [plc, h]
  | a :: p, v, l, k, h => by
    simp only [plc] at h
    split at h
    · rename_i l0 hl0
      simp only [List.cons_append, plc, hl0]
      exact plc_snoc p h
    · simp at h

theorem adr_ok (h : Sta H F env V Lf) {x : Opd} {a : Ad} (hx : adrOf V x = some a) :
    match a with
    | .own r p k cs => ∃ l, Loc H env V r p l cs ∧ x.ev env = .ptr l k
    | .sh cs => ∃ l o avs, x.ev env = .ptr l o ∧ l < H.sz ∧ (H.get l).st ≠ .dead ∧ F l ∧ (∃ pre rest, (H.get l).cells = pre ++ avs ++ rest ∧ pre.length = o) ∧ Dens H F avs cs [] := by
  cases x with
  | c a => simp [adrOf] at hx
  | t s =>
    simp only [adrOf] at hx
    have hsr := h.sr s
    split at hx
    · rename_i t0 hs
      split at hx
      · rename_i cs ht
        simp only [Option.some.injEq] at hx; subst hx
        have hd := (h.den hs).bare
        rw [ht, Den] at hd
        obtain ⟨l, o, avs, hv, hl, hd⟩ := hd
        rcases hd with ⟨_, h3, h4, h5, h6, l1, h7, h8⟩ | ⟨h1, _⟩
        · subst h3
          exact ⟨l, ⟨_, hs, by simp only [T.node]; rw [← kids_bare, ht]; rfl, by simp only [plc, hv]; rfl⟩, hv⟩
        · cases h1
      · rename_i cs ht
        simp only [Option.some.injEq] at hx; subst hx
        have hd := (h.den hs).bare
        have hp : Lf s = [] := by
          have := Den.plain (t := .ptr false cs) rfl (by rw [← ht]; exact hd)
          exact this
        rw [ht, Den] at hd
        obtain ⟨l, o, avs, hv, hl, hd⟩ := hd
        rcases hd with ⟨h1, _⟩ | ⟨_, h2, h3, h4, _, h6⟩
        · cases h1
        · exact ⟨l, o, avs, hv, hl, h2, h3, h4, h6⟩
      · simp at hx
    · rename_i r hs
      rw [hs] at hsr
      split at hx
      · rename_i t0 hr
        split at hx
        · rename_i cs ht
          simp only [Option.some.injEq] at hx; subst hx
          have hd := (h.den hr).bare
          rw [ht, Den] at hd
          obtain ⟨l, o, avs, hv, hl, hd⟩ := hd
          rcases hd with ⟨_, h3, h4, h5, h6, l1, h7, h8⟩ | ⟨h1, _⟩
          · subst h3
            refine ⟨l, ⟨_, hr, by simp only [T.node]; rw [← kids_bare, ht]; rfl, by simp only [plc, hv]; rfl⟩, ?_⟩
            rw [← hv]; exact hsr.2.1
          · cases h1
        · simp at hx
      · simp at hx
    · rename_i r p k hs
      rw [hs] at hsr
      obtain ⟨_, l, cs, hl, hkn, hv⟩ := hsr
      have hl' := hl
      obtain ⟨t0, e1, e2, e3⟩ := hl
      simp only [e1, e2] at hx
      split at hx
      · rename_i u hk
        split at hx
        · rename_i cs' ht
          simp only [Option.some.injEq] at hx; subst hx
          obtain ⟨ls, hd, _⟩ := rng_den h hl' hkn hv (u := u) (by unfold rng; rw [if_pos hkn]; simpa using hk)
          simp only [Bool.false_eq_true, if_false] at hv
          replace hd := hd.bare
          rw [ht, Den] at hd
          obtain ⟨l2, o, avs, hv2, hlt, hd⟩ := hd
          rcases hd with ⟨_, h3, h4, h5, h6, l1, h7, h8⟩ | ⟨h1, _⟩
          · subst h3
            refine ⟨l2, ⟨t0, e1, node_snoc p e2 hk (by rw [← kids_bare, ht]; rfl), ?_⟩, hv2⟩
            rw [plc_snoc p e3, ← hv.2, hv2]; rfl
          · cases h1
        · simp at hx
      · simp at hx
    · rename_i r p k hs
      rw [hs] at hsr
      obtain ⟨_, l, cs, hl, hv⟩ := hsr
      have hl' := hl
      obtain ⟨t0, e1, e2, e3⟩ := hl
      simp only [e1, e2, Option.some.injEq] at hx
      subst hx
      exact ⟨l, hl', hv⟩
    · simp at hx

theorem nn_own {x : Bool} {sk : Nat} {cs : List T} (h : ¬ (x && cs.isEmpty) = true) : ¬ (nilOk true x sk = true ∧ cs = []) := by
  intro hc
  simp only [nilOk, if_true, Bool.and_eq_true] at hc
  exact h (by rw [hc.1.1, hc.2]; rfl)
theorem nn_sh {x : Bool} {sk : Nat} {cs : List T} (h : ¬ (sk == 1 && cs.isEmpty) = true) : ¬ (nilOk false x sk = true ∧ cs = []) := by
  intro hc
  simp only [nilOk, Bool.false_eq_true, if_false] at hc
  exact h (by rw [hc.1, hc.2]; rfl)
theorem Den.nn {own x : Bool} {e sk : Nat} {ts : List T} {v : AV} {ls : List Nat} (h : Den H F v (.sl own x e sk ts) ls) (hn : ¬ (nilOk own x sk = true ∧ ts = [])) :
    ∃ l o n cs, v = .sl l o n e (!own && x) ∧ 0 < e ∧ cs.length = n * e ∧ l < H.sz ∧
      ((own = true ∧ o = 0 ∧ (H.get l).st = .own ∧ ¬ F l ∧ (∃ rest, (H.get l).cells = cs ++ rest ∧ rest.length = sk * e) ∧ ∃ l1, ls = l :: l1 ∧ Dens H F cs ts l1) ∨
       (own = false ∧ (H.get l).st ≠ .dead ∧ F l ∧ (∃ pre rest, (H.get l).cells = pre ++ cs ++ rest ∧ pre.length = o) ∧ ls = [] ∧ Dens H F cs ts [])) := by
  rw [Den] at h
  rcases h with ⟨h1, h2, _⟩ | h
  · exact absurd ⟨h1, h2⟩ hn
  · exact h

theorem sl_ok (h : Sta H F env V Lf) {x : Opd} {a : Sl} (hx : slOf V x = some a) :
    match a with
    | .own r p e cs => ∃ l n, Loc H env V r p l cs ∧ x.ev env = .sl l 0 n e false ∧ cs.length = n * e ∧ 0 < e
    | .sh y e cs => ∃ l o n avs, x.ev env = .sl l o n e y ∧ l < H.sz ∧ (H.get l).st ≠ .dead ∧ F l ∧ (∃ pre rest, (H.get l).cells = pre ++ avs ++ rest ∧ pre.length = o) ∧ Dens H F avs cs [] ∧ cs.length = n * e ∧ 0 < e := by
  cases x with
  | c a => simp [slOf] at hx
  | t s =>
    simp only [slOf] at hx
    have hsr := h.sr s
    split at hx
    · rename_i y e sk cs hs
      split at hx
      · simp at hx
      rename_i hne
      simp only [Option.some.injEq] at hx; subst hx
      obtain ⟨l, o, n, avs, hv, he, hn, hl, hd⟩ := (h.den hs).nn (nn_own hne)
      rcases hd with ⟨_, h3, h4, h5, h6, l1, h7, h8⟩ | ⟨h1, _⟩
      · subst h3
        exact ⟨l, n, ⟨_, hs, by simp only [T.node, T.kids]; rw [if_neg hne], by simp only [plc, hv, AV.place]; simp⟩, hv, by rw [← h8.length]; exact hn, he⟩
      · cases h1
    · rename_i y e sk cs hs
      split at hx
      · simp at hx
      rename_i hne
      simp only [Option.some.injEq] at hx; subst hx
      obtain ⟨l, o, n, avs, hv, he, hn, hl, hd⟩ := (h.den hs).nn (nn_sh hne)
      rcases hd with ⟨h1, _⟩ | ⟨_, h2, h3, h4, _, h6⟩
      · cases h1
      · exact ⟨l, o, n, avs, hv, hl, h2, h3, h4, h6, by rw [← h6.length]; exact hn, he⟩
    · rename_i r hs
      rw [hs] at hsr
      split at hx
      · rename_i y e sk cs hr
        split at hx
        · simp at hx
        rename_i hne
        simp only [Option.some.injEq] at hx; subst hx
        obtain ⟨l, o, n, avs, hv, he, hn, hl, hd⟩ := (h.den hr).nn (nn_own hne)
        rcases hd with ⟨_, h3, h4, h5, h6, l1, h7, h8⟩ | ⟨h1, _⟩
        · subst h3
          refine ⟨l, n, ⟨_, hr, by simp only [T.node, T.kids]; rw [if_neg hne], by simp only [plc, hv, AV.place]; simp⟩, hsr.2.1.trans hv, by rw [← h8.length]; exact hn, he⟩
        · cases h1
      · simp at hx
    · rename_i r p k hs
      rw [hs] at hsr
      obtain ⟨_, l, cs, hl, hkn, hv⟩ := hsr
      have hl' := hl
      obtain ⟨t0, e1, e2, e3⟩ := hl
      simp only [e1, e2] at hx
      split at hx
      · rename_i y e sk cs' hk
        split at hx
        · simp at hx
        rename_i hne
        simp only [Option.some.injEq] at hx; subst hx
        obtain ⟨ls, hd, _⟩ := rng_den h hl' hkn hv (u := .sl true y e sk cs') (by unfold rng; rw [if_pos hkn]; simpa using hk)
        simp only [Bool.false_eq_true, if_false] at hv
        obtain ⟨l2, o, n, avs, hv2, he, hn, hlt, hd⟩ := hd.nn (nn_own hne)
        rcases hd with ⟨_, h3, h4, h5, h6, l1, h7, h8⟩ | ⟨h1, _⟩
        · subst h3
          refine ⟨l2, n, ⟨t0, e1, node_snoc p e2 hk (by simp only [T.kids]; rw [if_neg hne]), ?_⟩, hv2, by rw [← h8.length]; exact hn, he⟩
          rw [plc_snoc p e3, ← hv.2, hv2]; simp [AV.place]
        · cases h1
      · simp at hx
    · simp at hx

/-! ### Lending -/
/-- A value as somebody else may look at it, and the slots whose memory this leads to. -/
def lendC (V : VEnv) : List Cap → Option (List T × List Nat)
  | [] => some ([], [])
  | .t t :: cs => (lendC V cs).map fun (ts, rs) => (t :: ts, rs)
  | .a r p k :: cs => match V.get r with
    | .v t => match t.node p with
      | some xs => if k ≤ xs.length then (lendC V cs).map fun (ts, rs) => (.ptr false (frzs (xs.drop k)) :: ts, r :: rs) else none
      | none => none
    | _ => none
def lend (V : VEnv) : Opd → Option (T × List Nat)
  | .c a => (T.ofAV a).map (·, [])
  | .t s => match V.get s with
    | .v t => some (t.frz, if t.plain then [] else [s])
    | .al r => match V.get r with
      | .v t => some (t.frz, if t.plain then [] else [r])
      | _ => none
    | .ref r p k n ag => match V.get r with
      | .v t => match t.node p with
        | some cs => (rng cs k n ag).map fun u => (u.frz, if u.plain then [] else [r])
        | none => none
      | _ => none
    | .adr r p k => (lendC V [.a r p k]).bind fun (ts, rs) => match ts with
      | [t] => some (t, rs)
      | _ => none
    | .clo f cs => (lendC V cs).map fun (ts, rs) => (.fn f ts, rs)

def Lent (F : Nat → Prop) (Lf : Nat → List Nat) (rs : List Nat) : Nat → Prop := fun l => F l ∨ ∃ r ∈ rs, l ∈ Lf r

theorem lendC_ok (h : Sta H F env V Lf) {G : Nat → Prop} : ∀ {cs : List Cap} {vs : List AV} {ts : List T} {rs : List Nat}, CapsR H F env V vs cs → lendC V cs = some (ts, rs) → (∀ l, Lent F Lf rs l → G l) → Dens H G vs ts []
  | [], vs, ts, rs, hv, hl, hG => by
    simp only [lendC, Option.some.injEq, Prod.mk.injEq] at hl
    obtain ⟨rfl, rfl⟩ := hl
    rw [Dens]; exact ⟨hv, rfl⟩
  | .t t :: cs, vs, ts, rs, hv, hl, hG => by
    obtain ⟨v, vs', rfl, h1, h2⟩ := hv
    simp only [lendC] at hl
    obtain ⟨⟨ts', rs'⟩, h3, hl⟩ := Option.map_eq_some_iff.1 hl
    simp only [Prod.mk.injEq] at hl
    obtain ⟨rfl, rfl⟩ := hl
    rw [Dens]
    exact ⟨v, vs', [], [], rfl, rfl, Den.agree ⟨Nat.le_refl _, fun l hl => ⟨rfl, hG l (.inl hl)⟩, by simp⟩ h1, lendC_ok h h2 h3 hG⟩
  | .a r p k :: cs, vs, ts, rs, hv, hl, hG => by
    obtain ⟨v, vs', rfl, ⟨l, xs, hloc, rfl⟩, h2⟩ := hv
    obtain ⟨t0, e1, e2, e3⟩ := id hloc
    simp only [lendC, e1, e2] at hl
    split at hl
    · rename_i hk
      obtain ⟨⟨ts', rs'⟩, h3, hl⟩ := Option.map_eq_some_iff.1 hl
      simp only [Prod.mk.injEq] at hl
      obtain ⟨rfl, rfl⟩ := hl
      rw [Dens]
      refine ⟨.ptr l k, vs', [], [], rfl, rfl, ?_, lendC_ok h h2 h3 fun l hl => hG l ?_⟩
      · obtain ⟨avs, rest, lc, g1, g2, g3, g4, g5, g6, g7⟩ := h.node hloc
        have hx : xs = xs.take k ++ xs.drop k := (List.take_append_drop k xs).symm
        rw [hx] at g6
        obtain ⟨a1, a2, m1, m2, rfl, rfl, d1, d2⟩ := g6.split
        have hl1 : a1.length = k := by rw [d1.length]; simp; omega
        rw [Den]
        exact ⟨l, k, a2, rfl, g1, .inr ⟨rfl, by rw [g2]; simp, hG l (.inr ⟨r, by simp, g5⟩), ⟨a1, rest, g4, hl1⟩, rfl, Dens.frz (fun l hl => hG l (.inl hl)) (fun l hl => hG l (.inr ⟨r, by simp, g7 l (by simp [hl])⟩)) d2⟩⟩
      · rcases hl with hl | ⟨q, hq, hl⟩
        · exact .inl hl
        · exact .inr ⟨q, by simp [hq], hl⟩
    · simp at hl

theorem lend_ok (h : Sta H F env V Lf) {G : Nat → Prop} {x : Opd} {t : T} {rs : List Nat} (hx : lend V x = some (t, rs)) (hG : ∀ l, Lent F Lf rs l → G l) : Den H G (x.ev env) t [] := by
  have fz : ∀ {v : AV} {u : T} {ls : List Nat} {r : Nat}, Den H F v u ls → (∀ l ∈ ls, l ∈ Lf r) → (∀ l, Lent F Lf (if u.plain then [] else [r]) l → G l) → Den H G v u.frz [] := by
    intro v u ls r hd hr hg
    refine Den.frz (fun l hl => hg l (.inl hl)) (fun l hl => ?_) hd
    by_cases hp : u.plain = true
    · rw [Den.plain hp hd] at hl; simp at hl
    · exact hg l (.inr ⟨r, by rw [if_neg hp]; simp, hr l hl⟩)
  cases x with
  | c a =>
    simp only [lend] at hx
    obtain ⟨u, hu, hx⟩ := Option.map_eq_some_iff.1 hx
    simp only [Prod.mk.injEq] at hx
    obtain ⟨rfl, rfl⟩ := hx
    exact Den.agree ⟨Nat.le_refl _, fun l hl => ⟨rfl, hG l (.inl hl)⟩, by simp⟩ (ofAV_den hu).1
  | t s =>
    simp only [lend] at hx
    have hsr := h.sr s
    split at hx
    · rename_i u hs
      simp only [Option.some.injEq, Prod.mk.injEq] at hx
      obtain ⟨rfl, rfl⟩ := hx
      exact fz (h.den hs) (fun l hl => hl) hG
    · rename_i r hs
      rw [hs] at hsr
      split at hx
      · rename_i u hr
        simp only [Option.some.injEq, Prod.mk.injEq] at hx
        obtain ⟨rfl, rfl⟩ := hx
        have := h.den hr
        rw [← hsr.2.1] at this
        exact fz this (fun l hl => hl) hG
      · simp at hx
    · rename_i r p k n ag hs
      rw [hs] at hsr
      obtain ⟨_, l, cs, hl, hkn, hv⟩ := hsr
      have hl' := hl
      obtain ⟨t0, e1, e2, e3⟩ := hl
      simp only [e1, e2] at hx
      obtain ⟨u, hu, hx⟩ := Option.map_eq_some_iff.1 hx
      simp only [Prod.mk.injEq] at hx
      obtain ⟨rfl, rfl⟩ := hx
      obtain ⟨ls, h1, h2⟩ := rng_den h hl' hkn hv hu
      exact fz h1 h2 hG
    · rename_i r p k hs
      rw [hs] at hsr
      obtain ⟨_, l, cs, hl, hv⟩ := hsr
      obtain ⟨⟨ts, rs'⟩, h1, hx⟩ := Option.bind_eq_some_iff.1 hx
      simp only at hx
      split at hx
      · simp only [Option.some.injEq, Prod.mk.injEq] at hx
        obtain ⟨rfl, rfl⟩ := hx
        have := lendC_ok h (cs := [.a r p k]) (vs := [.ptr l k]) ⟨_, [], rfl, ⟨l, cs, hl, rfl⟩, rfl⟩ h1 hG
        have h3 := dens_one.1 this
        rw [Opd.ev, hv]; exact h3
      · simp at hx
    · rename_i f cs hs
      rw [hs] at hsr
      obtain ⟨_, vs, hv, hc⟩ := hsr
      obtain ⟨⟨ts, rs'⟩, h1, hx⟩ := Option.map_eq_some_iff.1 hx
      simp only [Prod.mk.injEq] at hx
      obtain ⟨rfl, rfl⟩ := hx
      rw [Opd.ev, hv, Den]
      exact ⟨vs, rfl, rfl, lendC_ok h hc h1 hG⟩

end Go.Proofs.YtabmomjfdondnaaH
