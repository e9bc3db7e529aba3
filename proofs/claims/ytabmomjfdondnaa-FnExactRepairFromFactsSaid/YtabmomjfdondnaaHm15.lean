/- Values as trees: what a value of the abstract machine stands for, with the memory that it owns alone and the memory that it shares. -/
import Derived.Test.YtabmomjfdondnaaHm1
set_option linter.unusedVariables false
set_option linter.unusedSimpArgs false
namespace Go.Proofs.YtabmomjfdondnaaH
open Go

/-- A value with all that it reaches. 'own': this value alone leads to the memory, and it may be written; else nobody writes it any more. A slice: 'x', an element's cells, the further elements that fit, its cells. If shared, 'x' says that its capacity is its length. An empty slice may be nil if it is owned and 'x', or shared and the third number is 1. A pointer: the cells from its address on. -/
inductive T where
  | und
  | int (k : IntKind) (n : Int)
  | bool (b : Bool)
  | str (s : List UInt8)
  | nilp
  | nils
  | nilf
  | sl (own x : Bool) (e sk : Nat) (cs : List T)
  | ptr (own : Bool) (cs : List T)
  | fn (f : Nat) (cs : List T)
  | agg (cs : List T)
  | tup (cs : List T)
  /-- A slice that owns its memory; cells that nothing leads to any more may lie ahead of it. It may be nil if it is empty. -/
  | slo (e : Nat) (cs : List T)
  /-- Just this value. -/
  | at (a : AV) (t : T)
  deriving Inhabited

def T.cells : T → List T
  | .agg cs => cs
  | t => [t]
def T.one : T → Bool
  | .agg _ | .tup _ | .und => false
  | .at a _ => a.one
  | _ => true

/- Owns nothing. -/
mutual
def T.plain : T → Bool
  | .sl own _ _ _ _ => !own
  | .ptr own _ => !own
  | .agg cs => plains cs
  | .tup cs => plains cs
  | .slo _ _ => false
  | .at _ t => t.plain
  | _ => true
def plains : List T → Bool
  | [] => true
  | t :: ts => t.plain && plains ts
end
/- Shares nothing. -/
mutual
def T.alone : T → Bool
  | .sl own _ _ _ cs => own && alones cs
  | .ptr own cs => own && alones cs
  | .agg cs => alones cs
  | .tup cs => alones cs
  | .fn _ cs => alones cs
  | .slo _ cs => alones cs
  | .at _ t => t.alone
  | _ => true
def alones : List T → Bool
  | [] => true
  | t :: ts => t.alone && alones ts
end
/- Nobody writes it any more. -/
mutual
def T.frz : T → T
  | .sl true x e _ cs => .sl false false e (if x then 1 else 0) (frzs cs)
  | .ptr true cs => .ptr false (frzs cs)
  | .agg cs => .agg (frzs cs)
  | .tup cs => .tup (frzs cs)
  | .slo e cs => .sl false false e 1 (frzs cs)
  | .at a t => .at a t.frz
  | t => t
def frzs : List T → List T
  | [] => []
  | t :: ts => t.frz :: frzs ts
end

def nilOk (own x : Bool) (sk : Nat) : Bool := if own then x && sk == 0 else sk == 1
/-- An empty slice that leads to nothing. -/
def EmptyS (v : AV) (e : Nat) : Prop := v = .nils ∨ ∃ l o, v = .sl l o 0 e true
/-! ### What a tree stands for -/
mutual
def Den (H : Heap) (F : Nat → Prop) : AV → T → List Nat → Prop
  | v, .und, ls => ls = []
  | v, .int k n, ls => v = .int k n ∧ ls = []
  | v, .bool b, ls => v = .bool b ∧ ls = []
  | v, .str s, ls => v = .str s ∧ ls = []
  | v, .nilp, ls => v = .nilp ∧ ls = []
  | v, .nils, ls => v = .nils ∧ ls = []
  | v, .nilf, ls => v = .nilf ∧ ls = []
  | v, .sl own x e sk ts, ls => (nilOk own x sk = true ∧ ts = [] ∧ EmptyS v e ∧ ls = [] ∧ 0 < e) ∨ ∃ l o n cs, v = .sl l o n e (!own && x) ∧ 0 < e ∧ cs.length = n * e ∧ l < H.sz ∧
      ((own = true ∧ o = 0 ∧ (H.get l).st = .own ∧ ¬ F l ∧ (∃ rest, (H.get l).cells = cs ++ rest ∧ rest.length = sk * e) ∧ ∃ l1, ls = l :: l1 ∧ Dens H F cs ts l1) ∨
       (own = false ∧ (H.get l).st ≠ .dead ∧ F l ∧ (∃ pre rest, (H.get l).cells = pre ++ cs ++ rest ∧ pre.length = o) ∧ ls = [] ∧ Dens H F cs ts []))
  | v, .ptr own ts, ls => ∃ l o cs, v = .ptr l o ∧ l < H.sz ∧
      ((own = true ∧ o = 0 ∧ (H.get l).st = .own ∧ ¬ F l ∧ (H.get l).cells = cs ∧ ∃ l1, ls = l :: l1 ∧ Dens H F cs ts l1) ∨
       (own = false ∧ (H.get l).st ≠ .dead ∧ F l ∧ (∃ pre rest, (H.get l).cells = pre ++ cs ++ rest ∧ pre.length = o) ∧ ls = [] ∧ Dens H F cs ts []))
  | v, .fn f ts, ls => ∃ cs, v = .fn f cs ∧ ls = [] ∧ Dens H F cs ts []
  | v, .agg ts, ls => ∃ cs, v = .agg cs ∧ Dens H F cs ts ls
  | v, .tup ts, ls => ∃ cs, v = .tup cs ∧ Dens H F cs ts ls
  | v, .slo e ts, ls => (ts = [] ∧ EmptyS v e ∧ ls = [] ∧ 0 < e) ∨ ∃ l o n cs pre l1, v = .sl l o n e false ∧ 0 < e ∧ cs.length = n * e ∧ l < H.sz ∧
      (H.get l).st = .own ∧ ¬ F l ∧ (H.get l).cells = pre ++ cs ∧ pre.length = o ∧ ls = l :: l1 ∧ Dens H F cs ts l1
  | v, .at a t, ls => v = a ∧ Den H F v t ls
def Dens (H : Heap) (F : Nat → Prop) : List AV → List T → List Nat → Prop
  | cs, [], ls => cs = [] ∧ ls = []
  | cs, t :: ts, ls => ∃ c cs' l1 l2, cs = c :: cs' ∧ ls = l1 ++ l2 ∧ Den H F c t l1 ∧ Dens H F cs' ts l2
end

theorem Dens.length {H : Heap} {F : Nat → Prop} : ∀ {ts : List T} {cs : List AV} {ls : List Nat}, Dens H F cs ts ls → cs.length = ts.length
  | [], _, _, h => by rw [Dens] at h; simp [h.1]
  | t :: ts, _, _, h => by
    rw [Dens] at h
    obtain ⟨c, cs', l1, l2, rfl, rfl, _, h2⟩ := h
    simp [Dens.length h2]
theorem Dens.append {H : Heap} {F : Nat → Prop} : ∀ {ts us : List T} {cs ds : List AV} {l1 l2 : List Nat}, Dens H F cs ts l1 → Dens H F ds us l2 → Dens H F (cs ++ ds) (ts ++ us) (l1 ++ l2)
  | [], us, cs, ds, l1, l2, h, h' => by
    rw [Dens] at h
    obtain ⟨rfl, rfl⟩ := h
    simpa using h'
  | t :: ts, us, cs, ds, l1, l2, h, h' => by
    rw [Dens] at h
    obtain ⟨c, cs', a, b, rfl, rfl, h1, h2⟩ := h
    rw [List.cons_append, List.cons_append, Dens]
    exact ⟨c, cs' ++ ds, a, b ++ l2, rfl, by simp, h1, Dens.append h2 h'⟩
theorem Dens.split {H : Heap} {F : Nat → Prop} : ∀ {ts us : List T} {cs : List AV} {ls : List Nat}, Dens H F cs (ts ++ us) ls → ∃ c1 c2 l1 l2, cs = c1 ++ c2 ∧ ls = l1 ++ l2 ∧ Dens H F c1 ts l1 ∧ Dens H F c2 us l2
  | [], us, cs, ls, h => ⟨[], cs, [], ls, rfl, rfl, by simp [Dens], by simpa using h⟩
  | t :: ts, us, cs, ls, h => by
    rw [List.cons_append, Dens] at h
    obtain ⟨c, cs', a, b, rfl, rfl, h1, h2⟩ := h
    obtain ⟨c1, c2, l1, l2, rfl, rfl, h3, h4⟩ := Dens.split h2
    refine ⟨c :: c1, c2, a ++ l1, l2, rfl, by simp, ?_, h4⟩
    rw [Dens]
    exact ⟨c, c1, a, l1, rfl, rfl, h1, h3⟩
theorem dens_one {H : Heap} {F : Nat → Prop} {c : AV} {t : T} {ls : List Nat} : Dens H F [c] [t] ls ↔ Den H F c t ls := by
  constructor
  · intro h
    rw [Dens] at h
    obtain ⟨c', cs', l1, l2, h0, rfl, h1, h2⟩ := h
    rw [Dens] at h2
    obtain ⟨rfl, rfl⟩ := h2
    simp only [List.cons.injEq, and_true] at h0
    subst h0
    simpa using h1
  · intro h
    rw [Dens]
    exact ⟨c, [], ls, [], rfl, by simp, h, by simp [Dens]⟩

/-! ### What does not change a tree's meaning -/
/-- Two heaps agree on the places of a list and on those that are shared. -/
structure Agree (H H' : Heap) (F F' : Nat → Prop) (ls : List Nat) : Prop where
  sz : H.sz ≤ H'.sz
  sh : ∀ l, F l → H'.get l = H.get l ∧ F' l
  ow : ∀ l ∈ ls, H'.get l = H.get l ∧ ¬ F' l
theorem Agree.sub {H H' : Heap} {F F' : Nat → Prop} {ls ls' : List Nat} (h : Agree H H' F F' ls) (hs : ∀ l ∈ ls', l ∈ ls) : Agree H H' F F' ls' := ⟨h.sz, h.sh, fun l hl => h.ow l (hs l hl)⟩

mutual
theorem Den.agree {H H' : Heap} {F F' : Nat → Prop} : ∀ {t : T} {v : AV} {ls : List Nat}, Agree H H' F F' ls → Den H F v t ls → Den H' F' v t ls
  | .und, v, ls, _, h => by rw [Den] at h ⊢; exact h
  | .int k n, v, ls, _, h => by rw [Den] at h ⊢; exact h
  | .bool b, v, ls, _, h => by rw [Den] at h ⊢; exact h
  | .str s, v, ls, _, h => by rw [Den] at h ⊢; exact h
  | .nilp, v, ls, _, h => by rw [Den] at h ⊢; exact h
  | .nils, v, ls, _, h => by rw [Den] at h ⊢; exact h
  | .nilf, v, ls, _, h => by rw [Den] at h ⊢; exact h
  | .sl own x e sk ts, v, ls, ha, h => by
    rw [Den] at h ⊢
    rcases h with h | ⟨l, o, n, cs, rfl, he, hcs, hl, h⟩
    · exact .inl h
    refine .inr ⟨l, o, n, cs, rfl, he, hcs, Nat.lt_of_lt_of_le hl ha.sz, ?_⟩
    rcases h with ⟨h1, h3, h4, h5, h6, l1, rfl, h8⟩ | ⟨h1, h2, h3, h4, rfl, h6⟩
    · obtain ⟨e1, e2⟩ := ha.ow l (by simp)
      rw [e1]
      exact .inl ⟨h1, h3, h4, e2, h6, l1, rfl, Dens.agree (ha.sub (by simp +contextual)) h8⟩
    · obtain ⟨e1, e2⟩ := ha.sh l h3
      rw [e1]
      exact .inr ⟨h1, h2, e2, h4, rfl, Dens.agree ha h6⟩
  | .ptr own ts, v, ls, ha, h => by
    rw [Den] at h ⊢
    obtain ⟨l, o, cs, rfl, hl, h⟩ := h
    refine ⟨l, o, cs, rfl, Nat.lt_of_lt_of_le hl ha.sz, ?_⟩
    rcases h with ⟨h1, h3, h4, h5, h6, l1, rfl, h8⟩ | ⟨h1, h2, h3, h4, rfl, h6⟩
    · obtain ⟨e1, e2⟩ := ha.ow l (by simp)
      rw [e1]
      exact .inl ⟨h1, h3, h4, e2, h6, l1, rfl, Dens.agree (ha.sub (by simp +contextual)) h8⟩
    · obtain ⟨e1, e2⟩ := ha.sh l h3
      rw [e1]
      exact .inr ⟨h1, h2, e2, h4, rfl, Dens.agree ha h6⟩
  | .fn f ts, v, ls, ha, h => by
    rw [Den] at h ⊢
    obtain ⟨cs, rfl, rfl, h1⟩ := h
    exact ⟨cs, rfl, rfl, Dens.agree ha h1⟩
  | .agg ts, v, ls, ha, h => by
    rw [Den] at h ⊢
    obtain ⟨cs, rfl, h1⟩ := h
    exact ⟨cs, rfl, Dens.agree ha h1⟩
  | .tup ts, v, ls, ha, h => by
    rw [Den] at h ⊢
    obtain ⟨cs, rfl, h1⟩ := h
    exact ⟨cs, rfl, Dens.agree ha h1⟩
  | .slo e ts, v, ls, ha, h => by
    rw [Den] at h ⊢
    rcases h with h | ⟨l, o, n, cs, pre, l1, rfl, he, hcs, hl, h1, h2, h3, h4, rfl, h5⟩
    · exact .inl h
    obtain ⟨e1, e2⟩ := ha.ow l (by simp)
    refine .inr ⟨l, o, n, cs, pre, l1, rfl, he, hcs, Nat.lt_of_lt_of_le hl ha.sz, ?_⟩
    rw [e1]
    exact ⟨h1, e2, h3, h4, rfl, Dens.agree (ha.sub (by simp +contextual)) h5⟩
  | .at a t, v, ls, ha, h => by
    rw [Den] at h ⊢
    exact ⟨h.1, Den.agree ha h.2⟩
theorem Dens.agree {H H' : Heap} {F F' : Nat → Prop} : ∀ {ts : List T} {cs : List AV} {ls : List Nat}, Agree H H' F F' ls → Dens H F cs ts ls → Dens H' F' cs ts ls
  | [], cs, ls, _, h => by rw [Dens] at h ⊢; exact h
  | t :: ts, cs, ls, ha, h => by
    rw [Dens] at h ⊢
    obtain ⟨c, cs', l1, l2, rfl, rfl, h1, h2⟩ := h
    exact ⟨c, cs', l1, l2, rfl, rfl, Den.agree (ha.sub (by simp +contextual)) h1, Dens.agree (ha.sub (by simp +contextual)) h2⟩
end

/-! ### Trees that own nothing, trees that share nothing -/
mutual
theorem Den.plain {H : Heap} {F : Nat → Prop} : ∀ {t : T} {v : AV} {ls : List Nat}, t.plain = true → Den H F v t ls → ls = []
  | .und, v, ls, _, h => by rw [Den] at h; exact h
  | .int k n, v, ls, _, h => by rw [Den] at h; exact h.2
  | .bool b, v, ls, _, h => by rw [Den] at h; exact h.2
  | .str s, v, ls, _, h => by rw [Den] at h; exact h.2
  | .nilp, v, ls, _, h => by rw [Den] at h; exact h.2
  | .nils, v, ls, _, h => by rw [Den] at h; exact h.2
  | .nilf, v, ls, _, h => by rw [Den] at h; exact h.2
  | .sl own x e sk ts, v, ls, hp, h => by
    simp only [T.plain, Bool.not_eq_true'] at hp
    rw [Den] at h
    rcases h with ⟨_, _, _, h5, _⟩ | ⟨l, o, n, cs, rfl, he, hcs, hl, h⟩
    · exact h5
    rcases h with ⟨h1, _⟩ | ⟨_, _, _, _, h5, _⟩
    · rw [hp] at h1; cases h1
    · exact h5
  | .ptr own ts, v, ls, hp, h => by
    simp only [T.plain, Bool.not_eq_true'] at hp
    rw [Den] at h
    obtain ⟨l, o, cs, rfl, hl, h⟩ := h
    rcases h with ⟨h1, _⟩ | ⟨_, _, _, _, h5, _⟩
    · rw [hp] at h1; cases h1
    · exact h5
  | .fn f ts, v, ls, _, h => by
    rw [Den] at h
    obtain ⟨cs, _, h, _⟩ := h
    exact h
  | .agg ts, v, ls, hp, h => by
    simp only [T.plain] at hp
    rw [Den] at h
    obtain ⟨cs, _, h⟩ := h
    exact Dens.plain hp h
  | .tup ts, v, ls, hp, h => by
    simp only [T.plain] at hp
    rw [Den] at h
    obtain ⟨cs, _, h⟩ := h
    exact Dens.plain hp h
  | .slo e ts, v, ls, hp, h => by simp [T.plain] at hp
  | .at a t, v, ls, hp, h => by
    simp only [T.plain] at hp
    rw [Den] at h
    exact Den.plain hp h.2
theorem Dens.plain {H : Heap} {F : Nat → Prop} : ∀ {ts : List T} {cs : List AV} {ls : List Nat}, plains ts = true → Dens H F cs ts ls → ls = []
  | [], cs, ls, _, h => by rw [Dens] at h; exact h.2
  | t :: ts, cs, ls, hp, h => by
    simp only [plains, Bool.and_eq_true] at hp
    rw [Dens] at h
    obtain ⟨c, cs', l1, l2, rfl, rfl, h1, h2⟩ := h
    rw [Den.plain hp.1 h1, Dens.plain hp.2 h2]; rfl
end

/-- Agreement for what shares nothing. -/
structure AgreeO (H H' : Heap) (F' : Nat → Prop) (ls : List Nat) : Prop where
  sz : H.sz ≤ H'.sz
  ow : ∀ l ∈ ls, H'.get l = H.get l ∧ ¬ F' l
theorem AgreeO.sub {H H' : Heap} {F' : Nat → Prop} {ls ls' : List Nat} (h : AgreeO H H' F' ls) (hs : ∀ l ∈ ls', l ∈ ls) : AgreeO H H' F' ls' := ⟨h.sz, fun l hl => h.ow l (hs l hl)⟩
mutual
theorem Den.alone {H H' : Heap} {F F' : Nat → Prop} : ∀ {t : T} {v : AV} {ls : List Nat}, t.alone = true → AgreeO H H' F' ls → Den H F v t ls → Den H' F' v t ls
  | .und, v, ls, _, _, h => by rw [Den] at h ⊢; exact h
  | .int k n, v, ls, _, _, h => by rw [Den] at h ⊢; exact h
  | .bool b, v, ls, _, _, h => by rw [Den] at h ⊢; exact h
  | .str s, v, ls, _, _, h => by rw [Den] at h ⊢; exact h
  | .nilp, v, ls, _, _, h => by rw [Den] at h ⊢; exact h
  | .nils, v, ls, _, _, h => by rw [Den] at h ⊢; exact h
  | .nilf, v, ls, _, _, h => by rw [Den] at h ⊢; exact h
  | .sl own x e sk ts, v, ls, hp, ha, h => by
    simp only [T.alone, Bool.and_eq_true] at hp
    rw [Den] at h ⊢
    rcases h with h | ⟨l, o, n, cs, rfl, he, hcs, hl, h⟩
    · exact .inl h
    refine .inr ⟨l, o, n, cs, rfl, he, hcs, Nat.lt_of_lt_of_le hl ha.sz, ?_⟩
    rcases h with ⟨h1, h3, h4, h5, h6, l1, rfl, h8⟩ | ⟨h1, _⟩
    · obtain ⟨e1, e2⟩ := ha.ow l (by simp)
      rw [e1]
      exact .inl ⟨h1, h3, h4, e2, h6, l1, rfl, Dens.alone hp.2 (ha.sub (by simp +contextual)) h8⟩
    · rw [hp.1] at h1; cases h1
  | .ptr own ts, v, ls, hp, ha, h => by
    simp only [T.alone, Bool.and_eq_true] at hp
    rw [Den] at h ⊢
    obtain ⟨l, o, cs, rfl, hl, h⟩ := h
    refine ⟨l, o, cs, rfl, Nat.lt_of_lt_of_le hl ha.sz, ?_⟩
    rcases h with ⟨h1, h3, h4, h5, h6, l1, rfl, h8⟩ | ⟨h1, _⟩
    · obtain ⟨e1, e2⟩ := ha.ow l (by simp)
      rw [e1]
      exact .inl ⟨h1, h3, h4, e2, h6, l1, rfl, Dens.alone hp.2 (ha.sub (by simp +contextual)) h8⟩
    · rw [hp.1] at h1; cases h1
  | .fn f ts, v, ls, hp, ha, h => by
    simp only [T.alone] at hp
    rw [Den] at h ⊢
    obtain ⟨cs, rfl, rfl, h1⟩ := h
    exact ⟨cs, rfl, rfl, Dens.alone hp ha h1⟩
  | .agg ts, v, ls, hp, ha, h => by
    simp only [T.alone] at hp
    rw [Den] at h ⊢
    obtain ⟨cs, rfl, h1⟩ := h
    exact ⟨cs, rfl, Dens.alone hp ha h1⟩
  | .tup ts, v, ls, hp, ha, h => by
    simp only [T.alone] at hp
    rw [Den] at h ⊢
    obtain ⟨cs, rfl, h1⟩ := h
    exact ⟨cs, rfl, Dens.alone hp ha h1⟩
  | .slo e ts, v, ls, hp, ha, h => by
    simp only [T.alone] at hp
    rw [Den] at h ⊢
    rcases h with h | ⟨l, o, n, cs, pre, l1, rfl, he, hcs, hl, h1, h2, h3, h4, rfl, h5⟩
    · exact .inl h
    obtain ⟨e1, e2⟩ := ha.ow l (by simp)
    refine .inr ⟨l, o, n, cs, pre, l1, rfl, he, hcs, Nat.lt_of_lt_of_le hl ha.sz, ?_⟩
    rw [e1]
    exact ⟨h1, e2, h3, h4, rfl, Dens.alone hp (ha.sub (by simp +contextual)) h5⟩
  | .at a t, v, ls, hp, ha, h => by
    simp only [T.alone] at hp
    rw [Den] at h ⊢
    exact ⟨h.1, Den.alone hp ha h.2⟩
theorem Dens.alone {H H' : Heap} {F F' : Nat → Prop} : ∀ {ts : List T} {cs : List AV} {ls : List Nat}, alones ts = true → AgreeO H H' F' ls → Dens H F cs ts ls → Dens H' F' cs ts ls
  | [], cs, ls, _, _, h => by rw [Dens] at h ⊢; exact h
  | t :: ts, cs, ls, hp, ha, h => by
    simp only [alones, Bool.and_eq_true] at hp
    rw [Dens] at h ⊢
    obtain ⟨c, cs', l1, l2, rfl, rfl, h1, h2⟩ := h
    exact ⟨c, cs', l1, l2, rfl, rfl, Den.alone hp.1 (ha.sub (by simp +contextual)) h1, Dens.alone hp.2 (ha.sub (by simp +contextual)) h2⟩
end

/- What a tree owns is there. -/
mutual
theorem Den.owned {H : Heap} {F : Nat → Prop} : ∀ {t : T} {v : AV} {ls : List Nat}, Den H F v t ls → ∀ l ∈ ls, l < H.sz ∧ (H.get l).st = .own ∧ ¬ F l
  | .und, v, ls, h => by rw [Den] at h; simp [h]
  | .int k n, v, ls, h => by rw [Den] at h; simp [h.2]
  | .bool b, v, ls, h => by rw [Den] at h; simp [h.2]
  | .str s, v, ls, h => by rw [Den] at h; simp [h.2]
  | .nilp, v, ls, h => by rw [Den] at h; simp [h.2]
  | .nils, v, ls, h => by rw [Den] at h; simp [h.2]
  | .nilf, v, ls, h => by rw [Den] at h; simp [h.2]
  | .sl own x e sk ts, v, ls, h => by
    rw [Den] at h
    rcases h with ⟨_, _, _, rfl, _⟩ | ⟨l, o, n, cs, rfl, he, hcs, hl, h⟩
    · simp
    rcases h with ⟨h1, h3, h4, h5, h6, l1, rfl, h8⟩ | ⟨_, _, _, _, rfl, _⟩
    · intro k hk
      rcases List.mem_cons.1 hk with rfl | hk
      · exact ⟨hl, h4, h5⟩
      · exact Dens.owned h8 k hk
    · simp
  | .ptr own ts, v, ls, h => by
    rw [Den] at h
    obtain ⟨l, o, cs, rfl, hl, h⟩ := h
    rcases h with ⟨h1, h3, h4, h5, h6, l1, rfl, h8⟩ | ⟨_, _, _, _, rfl, _⟩
    · intro k hk
      rcases List.mem_cons.1 hk with rfl | hk
      · exact ⟨hl, h4, h5⟩
      · exact Dens.owned h8 k hk
    · simp
  | .fn f ts, v, ls, h => by
    rw [Den] at h
    obtain ⟨cs, _, rfl, _⟩ := h
    simp
  | .agg ts, v, ls, h => by
    rw [Den] at h
    obtain ⟨cs, _, h⟩ := h
    exact Dens.owned h
  | .tup ts, v, ls, h => by
    rw [Den] at h
    obtain ⟨cs, _, h⟩ := h
    exact Dens.owned h
  | .slo e ts, v, ls, h => by
    rw [Den] at h
    rcases h with ⟨_, _, rfl, _⟩ | ⟨l, o, n, cs, pre, l1, rfl, he, hcs, hl, h1, h2, h3, h4, rfl, h5⟩
    · simp
    · intro k hk
      rcases List.mem_cons.1 hk with rfl | hk
      · exact ⟨hl, h1, h2⟩
      · exact Dens.owned h5 k hk
  | .at a t, v, ls, h => by
    rw [Den] at h
    exact Den.owned h.2
theorem Dens.owned {H : Heap} {F : Nat → Prop} : ∀ {ts : List T} {cs : List AV} {ls : List Nat}, Dens H F cs ts ls → ∀ l ∈ ls, l < H.sz ∧ (H.get l).st = .own ∧ ¬ F l
  | [], cs, ls, h => by rw [Dens] at h; simp [h.2]
  | t :: ts, cs, ls, h => by
    rw [Dens] at h
    obtain ⟨c, cs', l1, l2, rfl, rfl, h1, h2⟩ := h
    intro l hl
    rcases List.mem_append.1 hl with hl | hl
    · exact Den.owned h1 l hl
    · exact Dens.owned h2 l hl
end

/-! ### Freezing -/
def FU (F : Nat → Prop) (ls : List Nat) : Nat → Prop := fun l => F l ∨ l ∈ ls
mutual
theorem Den.frz {H : Heap} {F G : Nat → Prop} (hFG : ∀ l, F l → G l) : ∀ {t : T} {v : AV} {ls : List Nat}, (∀ l ∈ ls, G l) → Den H F v t ls → Den H G v t.frz []
  | .und, v, ls, _, h => by rw [T.frz, Den]; all_goals simp
  | .int k n, v, ls, _, h => by rw [Den] at h; rw [T.frz, Den]; exact ⟨h.1, rfl⟩; all_goals simp
  | .bool b, v, ls, _, h => by rw [Den] at h; rw [T.frz, Den]; exact ⟨h.1, rfl⟩; all_goals simp
  | .str s, v, ls, _, h => by rw [Den] at h; rw [T.frz, Den]; exact ⟨h.1, rfl⟩; all_goals simp
  | .nilp, v, ls, _, h => by rw [Den] at h; rw [T.frz, Den]; exact ⟨h.1, rfl⟩; all_goals simp
  | .nils, v, ls, _, h => by rw [Den] at h; rw [T.frz, Den]; exact ⟨h.1, rfl⟩; all_goals simp
  | .nilf, v, ls, _, h => by rw [Den] at h; rw [T.frz, Den]; exact ⟨h.1, rfl⟩; all_goals simp
  | .sl true x e sk ts, v, ls, hG, h => by
    rw [Den] at h
    rw [T.frz, Den]
    rcases h with ⟨h1, rfl, hv, rfl, he⟩ | ⟨l, o, n, cs, rfl, he, hcs, hl, h⟩
    · simp only [nilOk, if_true, Bool.and_eq_true] at h1
      rw [h1.1]
      exact .inl ⟨rfl, rfl, hv, rfl, he⟩
    rcases h with ⟨h1, h3, h4, h5, ⟨rest, h6, _⟩, l1, rfl, h8⟩ | ⟨h1, _⟩
    · subst h3
      exact .inr ⟨l, 0, n, cs, rfl, he, hcs, hl, .inr ⟨rfl, by rw [h4]; simp, hG l (by simp), ⟨[], rest, by simpa using h6, rfl⟩, rfl, Dens.frz hFG (fun k hk => hG k (by simp [hk])) h8⟩⟩
    · cases h1
  | .sl false x e sk ts, v, ls, hG, h => by
    rw [T.frz]
    · have hp := Den.plain (t := .sl false x e sk ts) rfl h
      subst hp
      rw [Den] at h ⊢
      rcases h with h | ⟨l, o, n, cs, rfl, he, hcs, hl, h⟩
      · exact .inl h
      rcases h with ⟨h1, _⟩ | ⟨h1, h2, h3, h4, _, h6⟩
      · cases h1
      · exact .inr ⟨l, o, n, cs, rfl, he, hcs, hl, .inr ⟨rfl, h2, hFG l h3, h4, rfl, Dens.agree ⟨Nat.le_refl _, fun l hl => ⟨rfl, hFG l hl⟩, by simp⟩ h6⟩⟩
    all_goals simp
  | .ptr true ts, v, ls, hG, h => by
    rw [Den] at h
    rw [T.frz, Den]
    obtain ⟨l, o, cs, rfl, hl, h⟩ := h
    rcases h with ⟨h1, h3, h4, h5, h6, l1, rfl, h8⟩ | ⟨h1, _⟩
    · subst h3
      refine ⟨l, 0, cs, rfl, hl, .inr ⟨rfl, by rw [h4]; simp, hG l (by simp), ⟨[], [], by simpa using h6, rfl⟩, rfl, Dens.frz hFG (fun k hk => hG k (by simp [hk])) h8⟩⟩
    · cases h1
  | .ptr false ts, v, ls, hG, h => by
    rw [T.frz]
    · have hp := Den.plain (t := .ptr false ts) rfl h
      subst hp
      rw [Den] at h ⊢
      obtain ⟨l, o, cs, rfl, hl, h⟩ := h
      rcases h with ⟨h1, _⟩ | ⟨h1, h2, h3, h4, _, h6⟩
      · cases h1
      · exact ⟨l, o, cs, rfl, hl, .inr ⟨rfl, h2, hFG l h3, h4, rfl, Dens.agree ⟨Nat.le_refl _, fun l hl => ⟨rfl, hFG l hl⟩, by simp⟩ h6⟩⟩
    all_goals simp
  | .fn f ts, v, ls, _, h => by
    rw [Den] at h
    rw [T.frz, Den]
    · obtain ⟨cs, rfl, rfl, h1⟩ := h
      exact ⟨cs, rfl, rfl, Dens.agree ⟨Nat.le_refl _, fun l hl => ⟨rfl, hFG l hl⟩, by simp⟩ h1⟩
    all_goals simp
  | .agg ts, v, ls, hG, h => by
    rw [Den] at h
    rw [T.frz, Den]
    obtain ⟨cs, rfl, h1⟩ := h
    exact ⟨cs, rfl, Dens.frz hFG hG h1⟩
  | .tup ts, v, ls, hG, h => by
    rw [Den] at h
    rw [T.frz, Den]
    obtain ⟨cs, rfl, h1⟩ := h
    exact ⟨cs, rfl, Dens.frz hFG hG h1⟩
  | .slo e ts, v, ls, hG, h => by
    rw [Den] at h
    rw [T.frz, Den]
    rcases h with ⟨rfl, hv, rfl, he⟩ | ⟨l, o, n, cs, pre, l1, rfl, he, hcs, hl, h1, h2, h3, h4, rfl, h5⟩
    · exact .inl ⟨rfl, rfl, hv, rfl, he⟩
    · exact .inr ⟨l, o, n, cs, rfl, he, hcs, hl, .inr ⟨rfl, by rw [h1]; simp, hG l (by simp), ⟨pre, [], by simpa using h3, h4⟩, rfl, Dens.frz hFG (fun k hk => hG k (by simp [hk])) h5⟩⟩
  | .at a t, v, ls, hG, h => by
    rw [Den] at h
    rw [T.frz, Den]
    exact ⟨h.1, Den.frz hFG hG h.2⟩
theorem Dens.frz {H : Heap} {F G : Nat → Prop} (hFG : ∀ l, F l → G l) : ∀ {ts : List T} {cs : List AV} {ls : List Nat}, (∀ l ∈ ls, G l) → Dens H F cs ts ls → Dens H G cs (frzs ts) []
  | [], cs, ls, _, h => by rw [Dens] at h; rw [frzs, Dens]; exact ⟨h.1, rfl⟩
  | t :: ts, cs, ls, hG, h => by
    rw [Dens] at h
    rw [frzs, Dens]
    obtain ⟨c, cs', l1, l2, rfl, rfl, h1, h2⟩ := h
    exact ⟨c, cs', [], [], rfl, rfl, Den.frz hFG (fun l hl => hG l (by simp [hl])) h1, Dens.frz hFG (fun l hl => hG l (by simp [hl])) h2⟩
end

end Go.Proofs.YtabmomjfdondnaaH
