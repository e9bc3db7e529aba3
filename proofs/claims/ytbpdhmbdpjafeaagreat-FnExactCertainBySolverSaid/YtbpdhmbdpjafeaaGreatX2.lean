import Derived.Test.YtbpdhmbdpjafeaaGreatX1
set_option linter.unusedVariables false
set_option linter.unusedSimpArgs false
set_option linter.defProp false
namespace Go.Proofs.YtbpdhmbdpjafeaaGreatH
open Go
section
inductive T where
 | und
 | int (k : IntKind) (n : Int)
 | bool (b : Bool)
 | str (s : List UInt8)
 | nilp
 | nils
 | nilf
 | sl (own x : Bool) (e sk : Nat) (cs : List T)
 | ptr (own : Bool) (cs : List T)
 | fn (f : Nat) (cs : List T)
 | agg (cs : List T)
 | tup (cs : List T)
 | slo (e : Nat) (cs : List T)
 | at (a : AV) (t : T)
 deriving Inhabited
def T.cells : T -> List T
 | .agg cs => cs
 | t => [t]
def T.one : T -> Bool
 | .agg _ | .tup _ | .und => false
 | .at a _ => a.one
 | _ => true
mutual
def T.plain : T -> Bool
 | .sl own _ _ _ _ => !own
 | .ptr own _ => !own
 | .agg cs => plains cs
 | .tup cs => plains cs
 | .slo _ _ => false
 | .at _ t => t.plain
 | _ => true
def plains : List T -> Bool
 | [] => true
 | t :: ts => t.plain && plains ts
end
mutual
def T.alone : T -> Bool
 | .sl own _ _ _ cs => own && alones cs
 | .ptr own cs => own && alones cs
 | .agg cs => alones cs
 | .tup cs => alones cs
 | .fn _ cs => alones cs
 | .slo _ cs => alones cs
 | .at _ t => t.alone
 | _ => true
def alones : List T -> Bool
 | [] => true
 | t :: ts => t.alone && alones ts
end
mutual
def T.frz : T -> T
 | .sl true x e _ cs => .sl false false e (if x then 1 else 0) (frzs cs)
 | .ptr true cs => .ptr false (frzs cs)
 | .agg cs => .agg (frzs cs)
 | .tup cs => .tup (frzs cs)
 | .slo e cs => .sl false false e 1 (frzs cs)
 | .at a t => .at a t.frz
 | t => t
def frzs : List T -> List T
 | [] => []
 | t :: ts => t.frz :: frzs ts
end
def nilOk (own x : Bool) (sk : Nat) : Bool := if own then x && sk == 0 else sk == 1
def EmptyS (v : AV) (e : Nat) : Prop := v = .nils \/ ∃ l o, v = .sl l o 0 e true
mutual
def Den (H : Heap) (F : Nat -> Prop) : AV -> T -> List Nat -> Prop
  | v, .und, ls => ls = []
  | v, .int k n, ls => v = .int k n /\ ls = []
  | v, .bool b, ls => v = .bool b /\ ls = []
  | v, .str s, ls => v = .str s /\ ls = []
  | v, .nilp, ls => v = .nilp /\ ls = []
  | v, .nils, ls => v = .nils /\ ls = []
  | v, .nilf, ls => v = .nilf /\ ls = []
  | v, .sl own x e sk ts, ls => (nilOk own x sk = true /\ ts = [] /\ EmptyS v e /\ ls = [] /\ 0 < e) \/ ∃ l o n cs, v = .sl l o n e (!own && x) /\ 0 < e /\ cs.length = n * e /\ l < H.sz /\
      ((own = true /\ o = 0 /\ (H.get l).st = .own /\ ¬ F l /\ (∃ rest, (H.get l).cells = cs ++ rest /\ rest.length = sk * e) /\ ∃ l1, ls = l :: l1 /\ Dens H F cs ts l1) \/
       (own = false /\ (H.get l).st ≠ .dead /\ F l /\ (∃ pre rest, (H.get l).cells = pre ++ cs ++ rest /\ pre.length = o) /\ ls = [] /\ Dens H F cs ts []))
  | v, .ptr own ts, ls => ∃ l o cs, v = .ptr l o /\ l < H.sz /\
      ((own = true /\ o = 0 /\ (H.get l).st = .own /\ ¬ F l /\ (H.get l).cells = cs /\ ∃ l1, ls = l :: l1 /\ Dens H F cs ts l1) \/
       (own = false /\ (H.get l).st ≠ .dead /\ F l /\ (∃ pre rest, (H.get l).cells = pre ++ cs ++ rest /\ pre.length = o) /\ ls = [] /\ Dens H F cs ts []))
  | v, .fn f ts, ls => ∃ cs, v = .fn f cs /\ ls = [] /\ Dens H F cs ts []
  | v, .agg ts, ls => ∃ cs, v = .agg cs /\ Dens H F cs ts ls
  | v, .tup ts, ls => ∃ cs, v = .tup cs /\ Dens H F cs ts ls
  | v, .slo e ts, ls => (ts = [] /\ EmptyS v e /\ ls = [] /\ 0 < e) \/ ∃ l o n cs pre l1, v = .sl l o n e false /\ 0 < e /\ cs.length = n * e /\ l < H.sz /\
      (H.get l).st = .own /\ ¬ F l /\ (H.get l).cells = pre ++ cs /\ pre.length = o /\ ls = l :: l1 /\ Dens H F cs ts l1
  | v, .at a t, ls => v = a /\ Den H F v t ls
def Dens (H : Heap) (F : Nat -> Prop) : List AV -> List T -> List Nat -> Prop
 | cs, [], ls => cs = [] /\ ls = []
 | cs, t :: ts, ls => ∃ c cs' l1 l2, cs = c :: cs' /\ ls = l1 ++ l2 /\ Den H F c t l1 /\ Dens H F cs' ts l2
end
theorem Dens.length {H : Heap} {F : Nat -> Prop} : ∀ {ts : List T} {cs : List AV} {ls : List Nat}, Dens H F cs ts ls -> cs.length = ts.length
 | [], _, _, h => by rw [Dens] at h; simp [h.1]
 | t :: ts, _, _, h => by
  rw [Dens] at h
  obtain ⟨c, cs', l1, l2, rfl, rfl, _, h2⟩ := h
  simp [Dens.length h2]
theorem Dens.append {H : Heap} {F : Nat -> Prop} : ∀ {ts us : List T} {cs ds : List AV} {l1 l2 : List Nat}, Dens H F cs ts l1 -> Dens H F ds us l2 -> Dens H F (cs ++ ds) (ts ++ us) (l1 ++ l2)
 | [], us, cs, ds, l1, l2, h, h' => by
  rw [Dens] at h
  obtain ⟨rfl, rfl⟩ := h
  simpa using h'
 | t :: ts, us, cs, ds, l1, l2, h, h' => by
  rw [Dens] at h
  obtain ⟨c, cs', a, b, rfl, rfl, h1, h2⟩ := h
  rw [List.cons_append, List.cons_append, Dens]
  exact ⟨c, cs' ++ ds, a, b ++ l2, rfl, by simp, h1, Dens.append h2 h'⟩
theorem Dens.split {H : Heap} {F : Nat -> Prop} : ∀ {ts us : List T} {cs : List AV} {ls : List Nat}, Dens H F cs (ts ++ us) ls -> ∃ c1 c2 l1 l2, cs = c1 ++ c2 /\ ls = l1 ++ l2 /\ Dens H F c1 ts l1 /\ Dens H F c2 us l2
 | [], us, cs, ls, h => ⟨[], cs, [], ls, rfl, rfl, by simp [Dens], by simpa using h⟩
 | t :: ts, us, cs, ls, h => by
  rw [List.cons_append, Dens] at h
  obtain ⟨c, cs', a, b, rfl, rfl, h1, h2⟩ := h
  obtain ⟨c1, c2, l1, l2, rfl, rfl, h3, h4⟩ := Dens.split h2
  refine ⟨c :: c1, c2, a ++ l1, l2, rfl, by simp, ?_, h4⟩
  rw [Dens]
  exact ⟨c, c1, a, l1, rfl, rfl, h1, h3⟩
theorem dens_one {H : Heap} {F : Nat -> Prop} {c : AV} {t : T} {ls : List Nat} : Dens H F [c] [t] ls ↔ Den H F c t ls := by
 constructor
 ·intro h
  rw [Dens] at h
  obtain ⟨c', cs', l1, l2, h0, rfl, h1, h2⟩ := h
  rw [Dens] at h2
  obtain ⟨rfl, rfl⟩ := h2
  simp only [List.cons.injEq, and_true] at h0
  subst h0
  simpa using h1
 ·intro h
  rw [Dens]
  exact ⟨c, [], ls, [], rfl, by simp, h, by simp [Dens]⟩
structure Agree (H H' : Heap) (F F' : Nat -> Prop) (ls : List Nat) : Prop where
 sz : H.sz <= H'.sz
 sh : ∀ l, F l -> H'.get l = H.get l /\ F' l
 ow : ∀ l ∈ ls, H'.get l = H.get l /\ ¬ F' l
theorem Agree.sub {H H' : Heap} {F F' : Nat -> Prop} {ls ls' : List Nat} (h : Agree H H' F F' ls) (hs : ∀ l ∈ ls', l ∈ ls) : Agree H H' F F' ls' := ⟨h.sz, h.sh, fun l hl => h.ow l (hs l hl)⟩
mutual
theorem Den.agree {H H' : Heap} {F F' : Nat -> Prop} : ∀ {t : T} {v : AV} {ls : List Nat}, Agree H H' F F' ls -> Den H F v t ls -> Den H' F' v t ls
 | .und, v, ls, _, h => by rw [Den] at h ⊢; exact h
 | .int k n, v, ls, _, h => by rw [Den] at h ⊢; exact h
 | .bool b, v, ls, _, h => by rw [Den] at h ⊢; exact h
 | .str s, v, ls, _, h => by rw [Den] at h ⊢; exact h
 | .nilp, v, ls, _, h => by rw [Den] at h ⊢; exact h
 | .nils, v, ls, _, h => by rw [Den] at h ⊢; exact h
 | .nilf, v, ls, _, h => by rw [Den] at h ⊢; exact h
 | .sl own x e sk ts, v, ls, ha, h => by
  rw [Den] at h ⊢
  rcases h with h | ⟨l, o, n, cs, rfl, he, hcs, hl, h⟩
  ·exact .inl h
  refine .inr ⟨l, o, n, cs, rfl, he, hcs, Nat.lt_of_lt_of_le hl ha.sz, ?_⟩
  rcases h with ⟨h1, h3, h4, h5, h6, l1, rfl, h8⟩ | ⟨h1, h2, h3, h4, rfl, h6⟩
  ·obtain ⟨e1, e2⟩ := ha.ow l (by simp)
   rw [e1]
   exact .inl ⟨h1, h3, h4, e2, h6, l1, rfl, Dens.agree (ha.sub (by simp +contextual)) h8⟩
  ·obtain ⟨e1, e2⟩ := ha.sh l h3
   rw [e1]
   exact .inr ⟨h1, h2, e2, h4, rfl, Dens.agree ha h6⟩
 | .ptr own ts, v, ls, ha, h => by
  rw [Den] at h ⊢
  obtain ⟨l, o, cs, rfl, hl, h⟩ := h
  refine ⟨l, o, cs, rfl, Nat.lt_of_lt_of_le hl ha.sz, ?_⟩
  rcases h with ⟨h1, h3, h4, h5, h6, l1, rfl, h8⟩ | ⟨h1, h2, h3, h4, rfl, h6⟩
  ·obtain ⟨e1, e2⟩ := ha.ow l (by simp)
   rw [e1]
   exact .inl ⟨h1, h3, h4, e2, h6, l1, rfl, Dens.agree (ha.sub (by simp +contextual)) h8⟩
  ·obtain ⟨e1, e2⟩ := ha.sh l h3
   rw [e1]
   exact .inr ⟨h1, h2, e2, h4, rfl, Dens.agree ha h6⟩
 | .fn f ts, v, ls, ha, h => by
  rw [Den] at h ⊢
  obtain ⟨cs, rfl, rfl, h1⟩ := h
  exact ⟨cs, rfl, rfl, Dens.agree ha h1⟩
 | .agg ts, v, ls, ha, h => by
  rw [Den] at h ⊢
  obtain ⟨cs, rfl, h1⟩ := h
  exact ⟨cs, rfl, Dens.agree ha h1⟩
 | .tup ts, v, ls, ha, h => by
  rw [Den] at h ⊢
  obtain ⟨cs, rfl, h1⟩ := h
  exact ⟨cs, rfl, Dens.agree ha h1⟩
 | .slo e ts, v, ls, ha, h => by
  rw [Den] at h ⊢
  rcases h with h | ⟨l, o, n, cs, pre, l1, rfl, he, hcs, hl, h1, h2, h3, h4, rfl, h5⟩
  ·exact .inl h
  obtain ⟨e1, e2⟩ := ha.ow l (by simp)
  refine .inr ⟨l, o, n, cs, pre, l1, rfl, he, hcs, Nat.lt_of_lt_of_le hl ha.sz, ?_⟩
  rw [e1]
  exact ⟨h1, e2, h3, h4, rfl, Dens.agree (ha.sub (by simp +contextual)) h5⟩
 | .at a t, v, ls, ha, h => by
  rw [Den] at h ⊢
  exact ⟨h.1, Den.agree ha h.2⟩
theorem Dens.agree {H H' : Heap} {F F' : Nat -> Prop} : ∀ {ts : List T} {cs : List AV} {ls : List Nat}, Agree H H' F F' ls -> Dens H F cs ts ls -> Dens H' F' cs ts ls
 | [], cs, ls, _, h => by rw [Dens] at h ⊢; exact h
 | t :: ts, cs, ls, ha, h => by
  rw [Dens] at h ⊢
  obtain ⟨c, cs', l1, l2, rfl, rfl, h1, h2⟩ := h
  exact ⟨c, cs', l1, l2, rfl, rfl, Den.agree (ha.sub (by simp +contextual)) h1, Dens.agree (ha.sub (by simp +contextual)) h2⟩
end
mutual
theorem Den.plain {H : Heap} {F : Nat -> Prop} : ∀ {t : T} {v : AV} {ls : List Nat}, t.plain = true -> Den H F v t ls -> ls = []
 | .und, v, ls, _, h => by rw [Den] at h; exact h
 | .int k n, v, ls, _, h => by rw [Den] at h; exact h.2
 | .bool b, v, ls, _, h => by rw [Den] at h; exact h.2
 | .str s, v, ls, _, h => by rw [Den] at h; exact h.2
 | .nilp, v, ls, _, h => by rw [Den] at h; exact h.2
 | .nils, v, ls, _, h => by rw [Den] at h; exact h.2
 | .nilf, v, ls, _, h => by rw [Den] at h; exact h.2
 | .sl own x e sk ts, v, ls, hp, h => by
  simp only [T.plain, Bool.not_eq_true'] at hp
  rw [Den] at h
  rcases h with ⟨_, _, _, h5, _⟩ | ⟨l, o, n, cs, rfl, he, hcs, hl, h⟩
  ·exact h5
  rcases h with ⟨h1, _⟩ | ⟨_, _, _, _, h5, _⟩
  ·rw [hp] at h1; cases h1
  ·exact h5
 | .ptr own ts, v, ls, hp, h => by
  simp only [T.plain, Bool.not_eq_true'] at hp
  rw [Den] at h
  obtain ⟨l, o, cs, rfl, hl, h⟩ := h
  rcases h with ⟨h1, _⟩ | ⟨_, _, _, _, h5, _⟩
  ·rw [hp] at h1; cases h1
  ·exact h5
 | .fn f ts, v, ls, _, h => by
  rw [Den] at h
  obtain ⟨cs, _, h, _⟩ := h
  exact h
 | .agg ts, v, ls, hp, h => by
  simp only [T.plain] at hp
  rw [Den] at h
  obtain ⟨cs, _, h⟩ := h
  exact Dens.plain hp h
 | .tup ts, v, ls, hp, h => by
  simp only [T.plain] at hp
  rw [Den] at h
  obtain ⟨cs, _, h⟩ := h
  exact Dens.plain hp h
 | .slo e ts, v, ls, hp, h => by simp [T.plain] at hp
 | .at a t, v, ls, hp, h => by
  simp only [T.plain] at hp
  rw [Den] at h
  exact Den.plain hp h.2
theorem Dens.plain {H : Heap} {F : Nat -> Prop} : ∀ {ts : List T} {cs : List AV} {ls : List Nat}, plains ts = true -> Dens H F cs ts ls -> ls = []
 | [], cs, ls, _, h => by rw [Dens] at h; exact h.2
 | t :: ts, cs, ls, hp, h => by
  simp only [plains, Bool.and_eq_true] at hp
  rw [Dens] at h
  obtain ⟨c, cs', l1, l2, rfl, rfl, h1, h2⟩ := h
  rw [Den.plain hp.1 h1, Dens.plain hp.2 h2]; rfl
end
structure AgreeO (H H' : Heap) (F' : Nat -> Prop) (ls : List Nat) : Prop where
 sz : H.sz <= H'.sz
 ow : ∀ l ∈ ls, H'.get l = H.get l /\ ¬ F' l
theorem AgreeO.sub {H H' : Heap} {F' : Nat -> Prop} {ls ls' : List Nat} (h : AgreeO H H' F' ls) (hs : ∀ l ∈ ls', l ∈ ls) : AgreeO H H' F' ls' := ⟨h.sz, fun l hl => h.ow l (hs l hl)⟩
mutual
theorem Den.alone {H H' : Heap} {F F' : Nat -> Prop} : ∀ {t : T} {v : AV} {ls : List Nat}, t.alone = true -> AgreeO H H' F' ls -> Den H F v t ls -> Den H' F' v t ls
 | .und, v, ls, _, _, h => by rw [Den] at h ⊢; exact h
 | .int k n, v, ls, _, _, h => by rw [Den] at h ⊢; exact h
 | .bool b, v, ls, _, _, h => by rw [Den] at h ⊢; exact h
 | .str s, v, ls, _, _, h => by rw [Den] at h ⊢; exact h
 | .nilp, v, ls, _, _, h => by rw [Den] at h ⊢; exact h
 | .nils, v, ls, _, _, h => by rw [Den] at h ⊢; exact h
 | .nilf, v, ls, _, _, h => by rw [Den] at h ⊢; exact h
 | .sl own x e sk ts, v, ls, hp, ha, h => by
  simp only [T.alone, Bool.and_eq_true] at hp
  rw [Den] at h ⊢
  rcases h with h | ⟨l, o, n, cs, rfl, he, hcs, hl, h⟩
  ·exact .inl h
  refine .inr ⟨l, o, n, cs, rfl, he, hcs, Nat.lt_of_lt_of_le hl ha.sz, ?_⟩
  rcases h with ⟨h1, h3, h4, h5, h6, l1, rfl, h8⟩ | ⟨h1, _⟩
  ·obtain ⟨e1, e2⟩ := ha.ow l (by simp)
   rw [e1]
   exact .inl ⟨h1, h3, h4, e2, h6, l1, rfl, Dens.alone hp.2 (ha.sub (by simp +contextual)) h8⟩
  ·rw [hp.1] at h1; cases h1
 | .ptr own ts, v, ls, hp, ha, h => by
  simp only [T.alone, Bool.and_eq_true] at hp
  rw [Den] at h ⊢
  obtain ⟨l, o, cs, rfl, hl, h⟩ := h
  refine ⟨l, o, cs, rfl, Nat.lt_of_lt_of_le hl ha.sz, ?_⟩
  rcases h with ⟨h1, h3, h4, h5, h6, l1, rfl, h8⟩ | ⟨h1, _⟩
  ·obtain ⟨e1, e2⟩ := ha.ow l (by simp)
   rw [e1]
   exact .inl ⟨h1, h3, h4, e2, h6, l1, rfl, Dens.alone hp.2 (ha.sub (by simp +contextual)) h8⟩
  ·rw [hp.1] at h1; cases h1
 | .fn f ts, v, ls, hp, ha, h => by
  simp only [T.alone] at hp
  rw [Den] at h ⊢
  obtain ⟨cs, rfl, rfl, h1⟩ := h
  exact ⟨cs, rfl, rfl, Dens.alone hp ha h1⟩
 | .agg ts, v, ls, hp, ha, h => by
  simp only [T.alone] at hp
  rw [Den] at h ⊢
  obtain ⟨cs, rfl, h1⟩ := h
  exact ⟨cs, rfl, Dens.alone hp ha h1⟩
 | .tup ts, v, ls, hp, ha, h => by
  simp only [T.alone] at hp
  rw [Den] at h ⊢
  obtain ⟨cs, rfl, h1⟩ := h
  exact ⟨cs, rfl, Dens.alone hp ha h1⟩
 | .slo e ts, v, ls, hp, ha, h => by
  simp only [T.alone] at hp
  rw [Den] at h ⊢
  rcases h with h | ⟨l, o, n, cs, pre, l1, rfl, he, hcs, hl, h1, h2, h3, h4, rfl, h5⟩
  ·exact .inl h
  obtain ⟨e1, e2⟩ := ha.ow l (by simp)
  refine .inr ⟨l, o, n, cs, pre, l1, rfl, he, hcs, Nat.lt_of_lt_of_le hl ha.sz, ?_⟩
  rw [e1]
  exact ⟨h1, e2, h3, h4, rfl, Dens.alone hp (ha.sub (by simp +contextual)) h5⟩
 | .at a t, v, ls, hp, ha, h => by
  simp only [T.alone] at hp
  rw [Den] at h ⊢
  exact ⟨h.1, Den.alone hp ha h.2⟩
theorem Dens.alone {H H' : Heap} {F F' : Nat -> Prop} : ∀ {ts : List T} {cs : List AV} {ls : List Nat}, alones ts = true -> AgreeO H H' F' ls -> Dens H F cs ts ls -> Dens H' F' cs ts ls
 | [], cs, ls, _, _, h => by rw [Dens] at h ⊢; exact h
 | t :: ts, cs, ls, hp, ha, h => by
  simp only [alones, Bool.and_eq_true] at hp
  rw [Dens] at h ⊢
  obtain ⟨c, cs', l1, l2, rfl, rfl, h1, h2⟩ := h
  exact ⟨c, cs', l1, l2, rfl, rfl, Den.alone hp.1 (ha.sub (by simp +contextual)) h1, Dens.alone hp.2 (ha.sub (by simp +contextual)) h2⟩
end
mutual
theorem Den.owned {H : Heap} {F : Nat -> Prop} : ∀ {t : T} {v : AV} {ls : List Nat}, Den H F v t ls -> ∀ l ∈ ls, l < H.sz /\ (H.get l).st = .own /\ ¬ F l
 | .und, v, ls, h => by rw [Den] at h; simp [h]
 | .int k n, v, ls, h => by rw [Den] at h; simp [h.2]
 | .bool b, v, ls, h => by rw [Den] at h; simp [h.2]
 | .str s, v, ls, h => by rw [Den] at h; simp [h.2]
 | .nilp, v, ls, h => by rw [Den] at h; simp [h.2]
 | .nils, v, ls, h => by rw [Den] at h; simp [h.2]
 | .nilf, v, ls, h => by rw [Den] at h; simp [h.2]
 | .sl own x e sk ts, v, ls, h => by
  rw [Den] at h
  rcases h with ⟨_, _, _, rfl, _⟩ | ⟨l, o, n, cs, rfl, he, hcs, hl, h⟩
  ·simp
  rcases h with ⟨h1, h3, h4, h5, h6, l1, rfl, h8⟩ | ⟨_, _, _, _, rfl, _⟩
  ·intro k hk
   rcases List.mem_cons.1 hk with rfl | hk
   ·exact ⟨hl, h4, h5⟩
   ·exact Dens.owned h8 k hk
  ·simp
 | .ptr own ts, v, ls, h => by
  rw [Den] at h
  obtain ⟨l, o, cs, rfl, hl, h⟩ := h
  rcases h with ⟨h1, h3, h4, h5, h6, l1, rfl, h8⟩ | ⟨_, _, _, _, rfl, _⟩
  ·intro k hk
   rcases List.mem_cons.1 hk with rfl | hk
   ·exact ⟨hl, h4, h5⟩
   ·exact Dens.owned h8 k hk
  ·simp
 | .fn f ts, v, ls, h => by
  rw [Den] at h
  obtain ⟨cs, _, rfl, _⟩ := h
  simp
 | .agg ts, v, ls, h => by
  rw [Den] at h
  obtain ⟨cs, _, h⟩ := h
  exact Dens.owned h
 | .tup ts, v, ls, h => by
  rw [Den] at h
  obtain ⟨cs, _, h⟩ := h
  exact Dens.owned h
 | .slo e ts, v, ls, h => by
  rw [Den] at h
  rcases h with ⟨_, _, rfl, _⟩ | ⟨l, o, n, cs, pre, l1, rfl, he, hcs, hl, h1, h2, h3, h4, rfl, h5⟩
  ·simp
  ·intro k hk
   rcases List.mem_cons.1 hk with rfl | hk
   ·exact ⟨hl, h1, h2⟩
   ·exact Dens.owned h5 k hk
 | .at a t, v, ls, h => by
  rw [Den] at h
  exact Den.owned h.2
theorem Dens.owned {H : Heap} {F : Nat -> Prop} : ∀ {ts : List T} {cs : List AV} {ls : List Nat}, Dens H F cs ts ls -> ∀ l ∈ ls, l < H.sz /\ (H.get l).st = .own /\ ¬ F l
 | [], cs, ls, h => by rw [Dens] at h; simp [h.2]
 | t :: ts, cs, ls, h => by
  rw [Dens] at h
  obtain ⟨c, cs', l1, l2, rfl, rfl, h1, h2⟩ := h
  intro l hl
  rcases List.mem_append.1 hl with hl | hl
  ·exact Den.owned h1 l hl
  ·exact Dens.owned h2 l hl
end
mutual
theorem Den.frz {H : Heap} {F G : Nat -> Prop} (hFG : ∀ l, F l -> G l) : ∀ {t : T} {v : AV} {ls : List Nat}, (∀ l ∈ ls, G l) -> Den H F v t ls -> Den H G v t.frz []
 | .und, v, ls, _, h => by rw [T.frz, Den]; all_goals simp
 | .int k n, v, ls, _, h => by rw [Den] at h; rw [T.frz, Den]; exact ⟨h.1, rfl⟩; all_goals simp
 | .bool b, v, ls, _, h => by rw [Den] at h; rw [T.frz, Den]; exact ⟨h.1, rfl⟩; all_goals simp
 | .str s, v, ls, _, h => by rw [Den] at h; rw [T.frz, Den]; exact ⟨h.1, rfl⟩; all_goals simp
 | .nilp, v, ls, _, h => by rw [Den] at h; rw [T.frz, Den]; exact ⟨h.1, rfl⟩; all_goals simp
 | .nils, v, ls, _, h => by rw [Den] at h; rw [T.frz, Den]; exact ⟨h.1, rfl⟩; all_goals simp
 | .nilf, v, ls, _, h => by rw [Den] at h; rw [T.frz, Den]; exact ⟨h.1, rfl⟩; all_goals simp
 | .sl true x e sk ts, v, ls, hG, h => by
  rw [Den] at h
  rw [T.frz, Den]
  rcases h with ⟨h1, rfl, hv, rfl, he⟩ | ⟨l, o, n, cs, rfl, he, hcs, hl, h⟩
  ·simp only [nilOk, if_true, Bool.and_eq_true] at h1
   rw [h1.1]
   exact .inl ⟨rfl, rfl, hv, rfl, he⟩
  rcases h with ⟨h1, h3, h4, h5, ⟨rest, h6, _⟩, l1, rfl, h8⟩ | ⟨h1, _⟩
  ·subst h3
   exact .inr ⟨l, 0, n, cs, rfl, he, hcs, hl, .inr ⟨rfl, by rw [h4]; simp, hG l (by simp), ⟨[], rest, by simpa using h6, rfl⟩, rfl, Dens.frz hFG (fun k hk => hG k (by simp [hk])) h8⟩⟩
  ·cases h1
 | .sl false x e sk ts, v, ls, hG, h => by
  rw [T.frz]
  ·have hp := Den.plain (t := .sl false x e sk ts) rfl h
   subst hp
   rw [Den] at h ⊢
   rcases h with h | ⟨l, o, n, cs, rfl, he, hcs, hl, h⟩
   ·exact .inl h
   rcases h with ⟨h1, _⟩ | ⟨h1, h2, h3, h4, _, h6⟩
   ·cases h1
   ·exact .inr ⟨l, o, n, cs, rfl, he, hcs, hl, .inr ⟨rfl, h2, hFG l h3, h4, rfl, Dens.agree ⟨Nat.le_refl _, fun l hl => ⟨rfl, hFG l hl⟩, by simp⟩ h6⟩⟩
  all_goals simp
 | .ptr true ts, v, ls, hG, h => by
  rw [Den] at h
  rw [T.frz, Den]
  obtain ⟨l, o, cs, rfl, hl, h⟩ := h
  rcases h with ⟨h1, h3, h4, h5, h6, l1, rfl, h8⟩ | ⟨h1, _⟩
  ·subst h3
   refine ⟨l, 0, cs, rfl, hl, .inr ⟨rfl, by rw [h4]; simp, hG l (by simp), ⟨[], [], by simpa using h6, rfl⟩, rfl, Dens.frz hFG (fun k hk => hG k (by simp [hk])) h8⟩⟩
  ·cases h1
 | .ptr false ts, v, ls, hG, h => by
  rw [T.frz]
  ·have hp := Den.plain (t := .ptr false ts) rfl h
   subst hp
   rw [Den] at h ⊢
   obtain ⟨l, o, cs, rfl, hl, h⟩ := h
   rcases h with ⟨h1, _⟩ | ⟨h1, h2, h3, h4, _, h6⟩
   ·cases h1
   ·exact ⟨l, o, cs, rfl, hl, .inr ⟨rfl, h2, hFG l h3, h4, rfl, Dens.agree ⟨Nat.le_refl _, fun l hl => ⟨rfl, hFG l hl⟩, by simp⟩ h6⟩⟩
  all_goals simp
 | .fn f ts, v, ls, _, h => by
  rw [Den] at h
  rw [T.frz, Den]
  ·obtain ⟨cs, rfl, rfl, h1⟩ := h
   exact ⟨cs, rfl, rfl, Dens.agree ⟨Nat.le_refl _, fun l hl => ⟨rfl, hFG l hl⟩, by simp⟩ h1⟩
  all_goals simp
 | .agg ts, v, ls, hG, h => by
  rw [Den] at h
  rw [T.frz, Den]
  obtain ⟨cs, rfl, h1⟩ := h
  exact ⟨cs, rfl, Dens.frz hFG hG h1⟩
 | .tup ts, v, ls, hG, h => by
  rw [Den] at h
  rw [T.frz, Den]
  obtain ⟨cs, rfl, h1⟩ := h
  exact ⟨cs, rfl, Dens.frz hFG hG h1⟩
 | .slo e ts, v, ls, hG, h => by
  rw [Den] at h
  rw [T.frz, Den]
  rcases h with ⟨rfl, hv, rfl, he⟩ | ⟨l, o, n, cs, pre, l1, rfl, he, hcs, hl, h1, h2, h3, h4, rfl, h5⟩
  ·exact .inl ⟨rfl, rfl, hv, rfl, he⟩
  ·exact .inr ⟨l, o, n, cs, rfl, he, hcs, hl, .inr ⟨rfl, by rw [h1]; simp, hG l (by simp), ⟨pre, [], by simpa using h3, h4⟩, rfl, Dens.frz hFG (fun k hk => hG k (by simp [hk])) h5⟩⟩
 | .at a t, v, ls, hG, h => by
  rw [Den] at h
  rw [T.frz, Den]
  exact ⟨h.1, Den.frz hFG hG h.2⟩
theorem Dens.frz {H : Heap} {F G : Nat -> Prop} (hFG : ∀ l, F l -> G l) : ∀ {ts : List T} {cs : List AV} {ls : List Nat}, (∀ l ∈ ls, G l) -> Dens H F cs ts ls -> Dens H G cs (frzs ts) []
 | [], cs, ls, _, h => by rw [Dens] at h; rw [frzs, Dens]; exact ⟨h.1, rfl⟩
 | t :: ts, cs, ls, hG, h => by
  rw [Dens] at h
  rw [frzs, Dens]
  obtain ⟨c, cs', l1, l2, rfl, rfl, h1, h2⟩ := h
  exact ⟨c, cs', [], [], rfl, rfl, Den.frz hFG (fun l hl => hG l (by simp [hl])) h1, Dens.frz hFG (fun l hl => hG l (by simp [hl])) h2⟩
end
end
section
inductive Cap where
 | t (t : T)
 | a (s : Nat) (p : List Nat) (k : Nat)
 deriving Inhabited
inductive S where
 | v (t : T)
 | al (s : Nat)
 | ref (s : Nat) (p : List Nat) (k n : Nat) (ag : Bool)
 | adr (s : Nat) (p : List Nat) (k : Nat)
 | clo (f : Nat) (cs : List Cap)
 deriving Inhabited
def Cap.rooted (r : Nat) : Cap -> Bool
 | .t _ => false
 | .a s _ _ => s == r
def S.rooted (r : Nat) : S -> Bool
 | .v _ => false
 | .al s => s == r
 | .ref s _ _ _ _ => s == r
 | .adr s _ _ => s == r
 | .clo _ cs => cs.any (Cap.rooted r)
abbrev VEnv := List (Nat × S)
def VEnv.get : VEnv -> Nat -> S
 | [], _ => .v .und
 | (k, x) :: r, s => if k = s then x else VEnv.get r s
def VEnv.set : VEnv -> Nat -> S -> VEnv
 | [], s, y => [(s, y)]
 | (k, x) :: r, s, y => if s = k then (s, y) :: r else if s < k then (s, y) :: (k, x) :: r else (k, x) :: VEnv.set r s y
def VEnv.del : VEnv -> Nat -> VEnv
 | [], _ => []
 | (k, x) :: r, s => if k = s then VEnv.del r s else (k, x) :: VEnv.del r s
def VEnv.upd (f : S -> S) : VEnv -> VEnv
 | [] => []
 | (k, x) :: r => (k, f x) :: VEnv.upd f r
theorem VEnv.get_set : ∀ (V : VEnv) (d : Nat) (y : S) (s : Nat), (V.set d y).get s = if d = s then y else V.get s
 | [], d, y, s => by simp [VEnv.set, VEnv.get]
 | (k, x) :: r, d, y, s => by
  simp only [VEnv.set]
  split
  ·rename_i h; subst h
   simp only [VEnv.get]
   split <;> simp_all
  ·split
   ·simp only [VEnv.get]
   ·simp only [VEnv.get, VEnv.get_set r d y s]
    split
    ·rename_i h1 h2 h3; subst h3; rw [if_neg h1]
    ·rfl
theorem VEnv.get_del : ∀ (V : VEnv) (d s : Nat), (V.del d).get s = if d = s then .v .und else V.get s
 | [], d, s => by simp [VEnv.del, VEnv.get]
 | (k, x) :: r, d, s => by
  simp only [VEnv.del]
  split
  ·rename_i h; subst h
   rw [VEnv.get_del r k s]
   simp only [VEnv.get]
   split <;> rfl
  ·simp only [VEnv.get, VEnv.get_del r d s]
   rename_i h
   split
   ·rename_i h3; subst h3; rw [if_neg (Ne.symm h)]
   ·rfl
theorem VEnv.get_upd (f : S -> S) (hf : f (.v .und) = .v .und) : ∀ (V : VEnv) (s : Nat), (V.upd f).get s = f (V.get s)
 | [], s => by simp [VEnv.upd, VEnv.get, hf]
 | (k, x) :: r, s => by
  simp only [VEnv.upd, VEnv.get, VEnv.get_upd f hf r s]
  split <;> rfl
def unroot (d : Nat) (V : VEnv) : VEnv := V.upd fun x => if x.rooted d then .v .und else x
theorem unroot_get (d : Nat) (V : VEnv) (s : Nat) : (unroot d V).get s = if (V.get s).rooted d then .v .und else V.get s := by
 unfold unroot
 rw [VEnv.get_upd _ (by simp)]
def T.kids : T -> Option (List T)
 | .sl true x _ _ cs => if x && cs.isEmpty then none else some cs
 | .ptr true cs => some cs
 | .at _ t => t.kids
 | _ => none
def T.setKids (cs : List T) : T -> T
 | .sl o x e sk _ => .sl o x e sk cs
 | .ptr o _ => .ptr o cs
 | .at a t => .at a (t.setKids cs)
 | t => t
def T.node : T -> List Nat -> Option (List T)
 | t, [] => t.kids
 | t, k :: p => match t.kids with
  | some cs => match cs[k]? with
   | some u => u.node p
   | none => none
  | none => none
def T.setNode (cs' : List T) : T -> List Nat -> T
 | t, [] => t.setKids cs'
 | t, k :: p => match t.kids with
  | some cs => match cs[k]? with
   | some u => t.setKids (cs.set k (T.setNode cs' u p))
   | none => t
  | none => t
def AV.place : AV -> Option Nat
 | .ptr l _ => some l
 | .sl l _ n _ x => if n = 0 /\ x = true then none else some l
 | _ => none
def plc (H : Heap) : AV -> List Nat -> Option Nat
 | v, [] => v.place
 | v, k :: p => match v.place with
  | some l => plc H ((H.get l).cells.getD k .und) p
  | none => none
theorem kids_den0 {H : Heap} {F : Nat -> Prop} {v : AV} {t : T} {ls : List Nat} {cs : List T} (h : Den H F v t ls) (hk : t.kids = some cs) (hat : ∀ a u, t ≠ .at a u) :
  ∃ l avs rest lc, v.place = some l /\ l < H.sz /\ (H.get l).st = .own /\ ¬ F l /\ (H.get l).cells = avs ++ rest /\ ls = l :: lc /\ Dens H F avs cs lc /\
   ∀ (H' : Heap) (F' : Nat -> Prop) (avs' : List AV) (cs' : List T) (lc' : List Nat), H.sz <= H'.sz -> (H'.get l).st = .own -> ¬ F' l -> (H'.get l).cells = avs' ++ rest -> cs'.length = cs.length -> Dens H' F' avs' cs' lc' -> Den H' F' v (t.setKids cs') (l :: lc') := by
 unfold T.kids at hk
 split at hk
 ·rename_i x e sk cs0
  split at hk
  ·simp at hk
  rename_i hne
  simp only [zJ] at hk; subst hk
  rw [Den] at h
  rcases h with ⟨g1, g2, _⟩ | ⟨l, o, n, avs, rfl, he, hcs, hl, h⟩
  ·simp only [nilOk, if_true, Bool.and_eq_true] at g1
   rw [g1.1, g2] at hne
   simp at hne
  rcases h with ⟨h1, h3, h4, h5, ⟨rest, h6, h7⟩, l1, rfl, h8⟩ | ⟨h1, _⟩
  ·refine ⟨l, avs, rest, l1, by simp [AV.place], hl, h4, h5, h6, rfl, h8, ?_⟩
   intro H' F' avs' cs' lc' hsz hst hF hc hlen hd
   simp only [T.setKids]
   rw [Den]
   refine .inr ⟨l, o, n, avs', rfl, he, ?_, Nat.lt_of_lt_of_le hl hsz, .inl ⟨h1, h3, hst, hF, ⟨rest, hc, h7⟩, lc', rfl, hd⟩⟩
   rw [hd.length, hlen, <- h8.length, hcs]
  ·cases h1
 ·simp only [zJ] at hk; subst hk
  rw [Den] at h
  obtain ⟨l, o, avs, rfl, hl, h⟩ := h
  rcases h with ⟨h1, h3, h4, h5, h6, l1, rfl, h8⟩ | ⟨h1, _⟩
  ·refine ⟨l, avs, [], l1, rfl, hl, h4, h5, by simpa using h6, rfl, h8, ?_⟩
   intro H' F' avs' cs' lc' hsz hst hF hc hlen hd
   simp only [T.setKids]
   rw [Den]
   exact ⟨l, o, avs', rfl, Nat.lt_of_lt_of_le hl hsz, .inl ⟨h1, h3, hst, hF, by simpa using hc, lc', rfl, hd⟩⟩
  ·cases h1
 ·exact absurd rfl (hat _ _)
 ·simp at hk
theorem kids_den {H : Heap} {F : Nat -> Prop} {v : AV} : ∀ {t : T} {ls : List Nat} {cs : List T}, Den H F v t ls -> t.kids = some cs ->
  ∃ l avs rest lc, v.place = some l /\ l < H.sz /\ (H.get l).st = .own /\ ¬ F l /\ (H.get l).cells = avs ++ rest /\ ls = l :: lc /\ Dens H F avs cs lc /\
   ∀ (H' : Heap) (F' : Nat -> Prop) (avs' : List AV) (cs' : List T) (lc' : List Nat), H.sz <= H'.sz -> (H'.get l).st = .own -> ¬ F' l -> (H'.get l).cells = avs' ++ rest -> cs'.length = cs.length -> Dens H' F' avs' cs' lc' -> Den H' F' v (t.setKids cs') (l :: lc')
 | .at a t, ls, cs, h, hk => by
  rw [Den] at h
  simp only [T.kids] at hk
  obtain ⟨l, avs, rest, lc, h1, h2, h3, h4, h5, h6, h7, h8⟩ := kids_den h.2 hk
  refine ⟨l, avs, rest, lc, h1, h2, h3, h4, h5, h6, h7, fun H' F' avs' cs' lc' a1 a2 a3 a4 a5 a6 => ?_⟩
  rw [T.setKids, Den]
  exact ⟨h.1, h8 H' F' avs' cs' lc' a1 a2 a3 a4 a5 a6⟩
 | .sl _ _ _ _ _, ls, cs, h, hk => kids_den0 h hk (by simp)
 | .ptr _ _, ls, cs, h, hk => kids_den0 h hk (by simp)
 | .und, ls, cs, h, hk => by simp [T.kids] at hk
 | .int _ _, ls, cs, h, hk => by simp [T.kids] at hk
 | .bool _, ls, cs, h, hk => by simp [T.kids] at hk
 | .str _, ls, cs, h, hk => by simp [T.kids] at hk
 | .nilp, ls, cs, h, hk => by simp [T.kids] at hk
 | .nils, ls, cs, h, hk => by simp [T.kids] at hk
 | .nilf, ls, cs, h, hk => by simp [T.kids] at hk
 | .fn _ _, ls, cs, h, hk => by simp [T.kids] at hk
 | .agg _, ls, cs, h, hk => by simp [T.kids] at hk
 | .tup _, ls, cs, h, hk => by simp [T.kids] at hk
 | .slo _ _, ls, cs, h, hk => by simp [T.kids] at hk
theorem Dens.at {H : Heap} {F : Nat -> Prop} {ts : List T} {cs : List AV} {ls : List Nat} {k : Nat} {u : T} (h : Dens H F cs ts ls) (hk : ts[k]? = some u) :
  ∃ c l1 lu l2, cs[k]? = some c /\ ls = l1 ++ lu ++ l2 /\ Den H F c u lu /\
   ∀ (H' : Heap) (F' : Nat -> Prop) (u' : T) (lu' : List Nat), Agree H H' F F' (l1 ++ l2) -> Den H' F' c u' lu' -> Dens H' F' cs (ts.set k u') (l1 ++ lu' ++ l2) := by
 have hlt : k < ts.length := (zS hk).1
 have hts : ts = ts.take k ++ ([u] ++ ts.drop (k + 1)) := by
  rw [<- List.take_append_drop k ts]
  congr 1
  ·simp
  ·rw [List.take_append_drop, List.drop_eq_getElem_cons hlt, (zS hk).2]; rfl
 rw [hts] at h
 obtain ⟨c1, c2, l1, l23, rfl, rfl, h1, h2⟩ := h.split
 obtain ⟨cu, c3, lu, l2, rfl, rfl, h3, h4⟩ := h2.split
 have hcu := h3.length
 match cu, hcu with
 | [c], _ =>
  have hk1 : c1.length = k := by rw [h1.length]; simp; omega
  refine ⟨c, l1, lu, l2, by rw [List.getElem?_append_right (by omega)]; simp [hk1], by simp, dens_one.1 h3, ?_⟩
  intro H' F' u' lu' ha hd
  have : ts.set k u' = ts.take k ++ ([u'] ++ ts.drop (k + 1)) := by
   rw [List.set_eq_take_append_cons_drop, if_pos hlt]; rfl
  rw [this, List.append_assoc]
  exact (h1.agree (ha.sub (by simp +contextual))).append ((dens_one.2 hd).append (h4.agree (ha.sub (by simp +contextual))))
theorem node_den {H : Heap} {F : Nat -> Prop} : ∀ (p : List Nat) {v : AV} {t : T} {ls : List Nat} {cs : List T}, Den H F v t ls -> ls.Nodup -> t.node p = some cs ->
  ∃ l avs rest A lc B, plc H v p = some l /\ l < H.sz /\ (H.get l).st = .own /\ ¬ F l /\ (H.get l).cells = avs ++ rest /\ ls = A ++ (l :: lc) ++ B /\ Dens H F avs cs lc /\
   ∀ (H' : Heap) (F' : Nat -> Prop) (avs' : List AV) (cs' : List T) (lc' : List Nat), Agree H H' F F' (A ++ B) -> (H'.get l).st = .own -> ¬ F' l -> (H'.get l).cells = avs' ++ rest -> cs'.length = cs.length -> Dens H' F' avs' cs' lc' ->
    Den H' F' v (T.setNode cs' t p) (A ++ (l :: lc') ++ B)
 | [], v, t, ls, cs, h, hnd, hn => by
  simp only [T.node] at hn
  obtain ⟨l, avs, rest, lc, h1, h2, h3, h4, h5, rfl, h7, h8⟩ := kids_den h hn
  refine ⟨l, avs, rest, [], lc, [], h1, h2, h3, h4, h5, by simp, h7, ?_⟩
  intro H' F' avs' cs' lc' ha hst hF hc hlen hd
  simpa [T.setNode] using h8 H' F' avs' cs' lc' ha.sz hst hF hc hlen hd
 | k :: p, v, t, ls, cs, h, hnd, hn => by
  simp only [T.node] at hn
  split at hn
  ·rename_i kc hkc
   split at hn
   ·rename_i u hu
    obtain ⟨l0, avs0, rest0, lc0, h1, h2, h3, h4, h5, rfl, h7, h8⟩ := kids_den h hkc
    obtain ⟨c, l1, lu, l2, hc, rfl, hdu, hset⟩ := h7.at hu
    have hcell : (H.get l0).cells.getD k .und = c := by
     rw [h5, zD, List.getElem?_append_left (zS hc).1, hc]; rfl
    have hnu : lu.Nodup := by
     have := (List.nodup_cons.1 hnd).2
     exact (List.nodup_append.1 (List.nodup_append.1 this).1).2.1
    obtain ⟨l, avs, rest, A, lc, B, g1, g2, g3, g4, g5, rfl, g7, g8⟩ := node_den p hdu hnu hn
    refine ⟨l, avs, rest, l0 :: (l1 ++ A), lc, B ++ l2, by simp only [plc, h1, hcell]; exact g1, g2, g3, g4, g5, by simp, g7, ?_⟩
    intro H' F' avs' cs' lc' ha hst hF hcl hlen hd
    have e0 := ha.ow l0 (by simp)
    have hdu' := g8 H' F' avs' cs' lc' (ha.sub (by grind)) hst hF hcl hlen hd
    have hds := hset H' F' _ _ (ha.sub (by grind)) hdu'
    have := h8 H' F' avs0 _ _ ha.sz (by rw [e0.1]; exact h3) e0.2 (by rw [e0.1]; exact h5) (by simp) hds
    simp only [T.setNode, hkc, hu]
    simpa using this
   ·simp at hn
  ·simp at hn
end
section
def Loc (H : Heap) (env : Env) (V : VEnv) (s : Nat) (p : List Nat) (l : Nat) (cs : List T) : Prop :=
 ∃ t, V.get s = .v t /\ t.node p = some cs /\ plc H (env.getD s .und) p = some l
def CapR (H : Heap) (F : Nat -> Prop) (env : Env) (V : VEnv) (v : AV) : Cap -> Prop
 | .t t => Den H F v t []
 | .a s p k => ∃ l cs, Loc H env V s p l cs /\ v = .ptr l k
def CapsR (H : Heap) (F : Nat -> Prop) (env : Env) (V : VEnv) : List AV -> List Cap -> Prop
 | vs, [] => vs = []
 | vs, c :: cs => ∃ v vs', vs = v :: vs' /\ CapR H F env V v c /\ CapsR H F env V vs' cs
def SR (H : Heap) (F : Nat -> Prop) (env : Env) (V : VEnv) (v : AV) (ls : List Nat) : S -> Prop
  | .v t => Den H F v t ls
  | .al s => ls = [] /\ v = env.getD s .und /\ ∃ t, V.get s = .v t
  | .ref s p k n ag => ls = [] /\ ∃ l cs, Loc H env V s p l cs /\ k + n <= cs.length /\
      (if ag then v = .agg (((H.get l).cells.drop k).take n) else n = 1 /\ v = (H.get l).cells.getD k .und)
  | .adr s p k => ls = [] /\ ∃ l cs, Loc H env V s p l cs /\ v = .ptr l k
  | .clo f cs => ls = [] /\ ∃ vs, v = .fn f vs /\ CapsR H F env V vs cs
structure Sta (H : Heap) (F : Nat -> Prop) (env : Env) (V : VEnv) (Lf : Nat -> List Nat) : Prop where
 fz : ∀ l, F l -> l < H.sz /\ (H.get l).st ≠ .dead
 sr : ∀ s, SR H F env V (env.getD s .und) (Lf s) (V.get s)
 nd : ∀ s, (Lf s).Nodup
 dj : ∀ s s' l, l ∈ Lf s -> l ∈ Lf s' -> s = s'
 ln : ∀ s, env.length <= s -> V.get s = .v .und
variable {H H' : Heap} {F F' : Nat -> Prop} {env env' : Env} {V V' : VEnv} {Lf : Nat -> List Nat} {v : AV} {ls : List Nat}
theorem SR.alias {x : S} (h : SR H F env V v ls x) (hx : ∀ t, x ≠ .v t) : ls = [] := by
 cases x with
 | v t => exact absurd rfl (hx t)
 | al | ref | adr | clo => exact h.1
theorem SR.rooted {x : S} {r : Nat} (h : SR H F env V v ls x) (hx : x.rooted r = true) : ls = [] := h.alias fun t e => by subst e; simp [S.rooted] at hx
theorem Loc.congr {s : Nat} {p : List Nat} {l : Nat} {cs : List T} (h : Loc H env V s p l cs) (h1 : V'.get s = V.get s) (h2 : env'.getD s .und = env.getD s .und) : Loc H env' V' s p l cs := by
 obtain ⟨t, h3, h4, h5⟩ := h
 exact ⟨t, by rw [h1]; exact h3, h4, by rw [h2]; exact h5⟩
theorem CapsR.congr : ∀ {cs : List Cap} {vs : List AV}, (∀ r, cs.any (Cap.rooted r) = true -> V'.get r = V.get r /\ env'.getD r .und = env.getD r .und) -> CapsR H F env V vs cs -> CapsR H F env' V' vs cs
 | [], vs, _, h => h
 | c :: cs, vs, hr, h => by
  obtain ⟨v, vs', rfl, h1, h2⟩ := h
  refine ⟨v, vs', rfl, ?_, CapsR.congr (fun r hx => hr r (by simp [hx])) h2⟩
  cases c with
  | t t => exact h1
  | a s p k =>
   obtain ⟨l, cs', h3, h4⟩ := h1
   obtain ⟨e1, e2⟩ := hr s (by simp [Cap.rooted])
   exact ⟨l, cs', h3.congr e1 e2, h4⟩
theorem SR.congr {x : S} (hr : ∀ r, x.rooted r = true -> V'.get r = V.get r /\ env'.getD r .und = env.getD r .und) (h : SR H F env V v ls x) : SR H F env' V' v ls x := by
 cases x with
 | v t => exact h
 | al s =>
  obtain ⟨h1, h2, t, h3⟩ := h
  obtain ⟨e1, e2⟩ := hr s (by simp [S.rooted])
  exact ⟨h1, by rw [e2]; exact h2, t, by rw [e1]; exact h3⟩
 | ref s p k n ag =>
  obtain ⟨h1, l, cs, h2, h3⟩ := h
  obtain ⟨e1, e2⟩ := hr s (by simp [S.rooted])
  exact ⟨h1, l, cs, h2.congr e1 e2, h3⟩
 | adr s p k =>
  obtain ⟨h1, l, cs, h2, h3⟩ := h
  obtain ⟨e1, e2⟩ := hr s (by simp [S.rooted])
  exact ⟨h1, l, cs, h2.congr e1 e2, h3⟩
 | clo f cs =>
  obtain ⟨h1, vs, h2, h3⟩ := h
  exact ⟨h1, vs, h2, h3.congr fun r hx => hr r hx⟩
theorem CapsR.root : ∀ {cs : List Cap} {vs : List AV} {r : Nat}, CapsR H F env V vs cs -> cs.any (Cap.rooted r) = true -> ∃ t, V.get r = .v t
 | [], vs, r, _, hx => by simp at hx
 | c :: cs, vs, r, h, hx => by
  obtain ⟨v, vs', _, h4, h5⟩ := h
  simp only [List.any_cons, Bool.or_eq_true] at hx
  rcases hx with hx | hx
  ·cases c with
   | t t => simp [Cap.rooted] at hx
   | a q p k =>
    simp only [Cap.rooted, beq_iff_eq] at hx; subst hx
    obtain ⟨_, _, ⟨t, h6, _⟩, _⟩ := h4
    exact ⟨t, h6⟩
  ·exact CapsR.root h5 hx
theorem SR.root {x : S} {r : Nat} (h : SR H F env V v ls x) (hx : x.rooted r = true) : ∃ t, V.get r = .v t := by
 cases x with
 | v t => simp [S.rooted] at hx
 | al q => simp only [S.rooted, beq_iff_eq] at hx; subst hx; exact h.2.2
 | ref q p k n ag =>
  simp only [S.rooted, beq_iff_eq] at hx; subst hx
  obtain ⟨_, _, _, ⟨t, h3, _⟩, _⟩ := h
  exact ⟨t, h3⟩
 | adr q p k =>
  simp only [S.rooted, beq_iff_eq] at hx; subst hx
  obtain ⟨_, _, _, ⟨t, h3, _⟩, _⟩ := h
  exact ⟨t, h3⟩
 | clo f cs =>
  obtain ⟨_, vs, _, h3⟩ := h
  exact h3.root hx
theorem plc_agree : ∀ (p : List Nat) {v : AV} {t : T} {ls : List Nat} {cs : List T}, Den H F v t ls -> t.node p = some cs -> (∀ l ∈ ls, H'.get l = H.get l) -> plc H' v p = plc H v p
 | [], _, _, _, _, _, _, _ => rfl
 | k :: p, v, t, ls, cs, h, hn, ha => by
  simp only [T.node] at hn
  split at hn
  ·rename_i kc hkc
   split at hn
   ·rename_i u hu
    obtain ⟨l0, avs0, rest0, lc0, h1, h2, h3, h4, h5, rfl, h7, _⟩ := kids_den h hkc
    obtain ⟨c, l1, lu, l2, hc, rfl, hdu, _⟩ := h7.at hu
    have hcell : (H.get l0).cells.getD k .und = c := by
     rw [h5, zD, List.getElem?_append_left (zS hc).1, hc]; rfl
    simp only [plc, h1, ha l0 (by simp), hcell]
    exact plc_agree p hdu hn fun l hl => ha l (by simp [hl])
   ·simp at hn
  ·simp at hn
theorem Sta.den (h : Sta H F env V Lf) {s : Nat} {t : T} (hs : V.get s = .v t) : Den H F (env.getD s .und) t (Lf s) := by
 have := h.sr s
 rw [hs] at this
 exact this
theorem Sta.node (h : Sta H F env V Lf) {s : Nat} {p : List Nat} {l : Nat} {cs : List T} (hl : Loc H env V s p l cs) :
  ∃ avs rest lc, l < H.sz /\ (H.get l).st = .own /\ ¬ F l /\ (H.get l).cells = avs ++ rest /\ l ∈ Lf s /\ Dens H F avs cs lc /\ ∀ k ∈ lc, k ∈ Lf s := by
 obtain ⟨t, h1, h2, h3⟩ := hl
 obtain ⟨l', avs, rest, A, lc, B, g1, g2, g3, g4, g5, g6, g7, _⟩ := node_den p (h.den h1) (h.nd s) h2
 rw [g1] at h3
 simp only [zJ] at h3
 subst h3
 refine ⟨avs, rest, lc, g2, g3, g4, g5, by rw [g6]; simp, g7, fun k hk => by rw [g6]; simp [hk]⟩
theorem Sta.loc_agree (h : Sta H F env V Lf) {s : Nat} {p : List Nat} {l : Nat} {cs : List T} (ha : ∀ l ∈ Lf s, H'.get l = H.get l) (hl : Loc H env V s p l cs) : Loc H' env V s p l cs /\ H'.get l = H.get l := by
 obtain ⟨_, _, _, _, _, _, _, hm, _⟩ := h.node hl
 obtain ⟨t, h1, h2, h3⟩ := hl
 exact ⟨⟨t, h1, h2, by rw [plc_agree p (h.den h1) h2 ha]; exact h3⟩, ha l hm⟩
theorem Sta.capsR (h : Sta H F env V Lf) (hsz : H.sz <= H'.sz) (hF : ∀ l, F l -> H'.get l = H.get l /\ F' l) (ha : ∀ s, ∀ l ∈ Lf s, H'.get l = H.get l) : ∀ {cs : List Cap} {vs : List AV}, CapsR H F env V vs cs -> CapsR H' F' env V vs cs
 | [], vs, h => h
 | c :: cs, vs, hc => by
  obtain ⟨v, vs', rfl, h1, h2⟩ := hc
  refine ⟨v, vs', rfl, ?_, h.capsR hsz hF ha h2⟩
  cases c with
  | t t => exact Den.agree ⟨hsz, hF, by simp⟩ h1
  | a s p k =>
   obtain ⟨l, cs', h3, h4⟩ := h1
   exact ⟨l, cs', (h.loc_agree (ha s) h3).1, h4⟩
theorem Sta.heap (h : Sta H F env V Lf) (ha : ∀ s, Agree H H' F F' (Lf s)) (hF : ∀ l, F' l -> l < H'.sz /\ (H'.get l).st ≠ .dead) : Sta H' F' env V Lf := by
 refine ⟨hF, fun s => ?_, h.nd, h.dj, h.ln⟩
 have := h.sr s
 have ha' : ∀ s, ∀ l ∈ Lf s, H'.get l = H.get l := fun s l hl => ((ha s).ow l hl).1
 cases hx : V.get s with
 | v t => rw [hx] at this; exact Den.agree (ha s) this
 | al r => rw [hx] at this; exact this
 | ref r p k n ag =>
  rw [hx] at this
  obtain ⟨h1, l, cs, h2, h3, h4⟩ := this
  obtain ⟨g1, g2⟩ := h.loc_agree (ha' r) h2
  exact ⟨h1, l, cs, g1, h3, by rw [g2]; exact h4⟩
 | adr r p k =>
  rw [hx] at this
  obtain ⟨h1, l, cs, h2, h3⟩ := this
  exact ⟨h1, l, cs, (h.loc_agree (ha' r) h2).1, h3⟩
 | clo f cs =>
  rw [hx] at this
  obtain ⟨h1, vs, h2, h3⟩ := this
  exact ⟨h1, vs, h2, h.capsR (ha s).sz (ha s).sh ha' h3⟩
structure Lo (H : Heap) (F : Nat -> Prop) (Lf : Nat -> List Nat) (avs : List AV) (ts : List T) (ls : List Nat) : Prop where
 den : Dens H F avs ts ls
 nd : ls.Nodup
 dj : ∀ s l, l ∈ ls -> l ∉ Lf s
def upL (Lf : Nat -> List Nat) (d : Nat) (ls : List Nat) : Nat -> List Nat := fun s => if d = s then ls else Lf s
def VEnv.drop (V : VEnv) (s : Nat) : VEnv := (unroot s V).del s
theorem VEnv.get_drop (V : VEnv) (d s : Nat) : (V.drop d).get s = if d = s then .v .und else if (V.get s).rooted d then .v .und else V.get s := by
 unfold VEnv.drop
 rw [VEnv.get_del, unroot_get]
theorem Sta.drop (h : Sta H F env V Lf) (d : Nat) (env' : Env) (hlen : env'.length = env.length) (he : ∀ s, s ≠ d -> env'.getD s .und = env.getD s .und) : Sta H F env' (V.drop d) (upL Lf d []) := by
 have hsub : ∀ s l, l ∈ upL Lf d [] s -> l ∈ Lf s := by
  intro s l hl
  unfold upL at hl
  split at hl
  ·simp at hl
  ·exact hl
 refine ⟨h.fz, fun s => ?_, fun s => ?_, fun s s' l h1 h2 => h.dj s s' l (hsub _ _ h1) (hsub _ _ h2), fun s hs => ?_⟩
 ·rw [VEnv.get_drop]
  unfold upL
  by_cases hd : d = s
  ·rw [if_pos hd, if_pos hd]
   simp only [SR]; rw [Den]
  ·rw [if_neg hd, if_neg hd, he s (Ne.symm hd)]
   have hsr := h.sr s
   by_cases hr : (V.get s).rooted d = true
   ·rw [if_pos hr]
    simp only [SR]; rw [Den]
    exact hsr.rooted hr
   ·rw [if_neg hr]
    refine hsr.congr fun r hx => ?_
    have hrd : r ≠ d := fun e => by subst e; exact hr hx
    refine ⟨?_, he r hrd⟩
    rw [VEnv.get_drop, if_neg (Ne.symm hrd)]
    split
    ·rename_i hrr
     -- the root itself leads into what is given away: it holds no value
     exfalso
     obtain ⟨t, ht⟩ := hsr.root hx
     rw [ht] at hrr; simp [S.rooted] at hrr
    ·rfl
 ·unfold upL
  split
  ·exact List.nodup_nil
  ·exact h.nd s
 ·rw [VEnv.get_drop]
  split
  ·rfl
  ·rw [h.ln s (by omega)]; simp [S.rooted]
theorem Sta.put (h : Sta H F env V Lf) {d : Nat} {v : AV} {t : T} {ls : List Nat} (hd : d < env.length) (hl : Lo H F Lf [v] [t] ls) : Sta H F (env.set d v) ((unroot d V).set d (.v t)) (upL Lf d ls) := by
 have h1 := h.drop d (env.set d v) (by simp) (fun s hs => by simp [zD, List.getElem?_set_ne (Ne.symm hs)])
 have hg : ∀ s, ((unroot d V).set d (.v t)).get s = if d = s then .v t else (V.drop d).get s := by
  intro s
  rw [VEnv.get_set, VEnv.get_drop, unroot_get]
  split <;> rfl
 refine ⟨h.fz, fun s => ?_, fun s => ?_, fun s s' l hs hs' => ?_, fun s hs => ?_⟩
 ·rw [hg]
  unfold upL
  by_cases hds : d = s
  ·subst hds
   rw [if_pos rfl, if_pos rfl]
   have : (env.set d v).getD d .und = v := by simp [zD, hd]
   rw [this]
   exact dens_one.1 hl.den
  ·rw [if_neg hds, if_neg hds]
   have := h1.sr s
   unfold upL at this
   rw [if_neg hds] at this
   refine this.congr fun r hx => ⟨?_, rfl⟩
   rw [hg]
   split
   ·rename_i hdr; subst hdr
    rw [VEnv.get_drop, if_neg hds] at hx
    split at hx
    ·simp [S.rooted] at hx
    ·rename_i hn; exact absurd hx hn
   ·rfl
 ·unfold upL
  split
  ·exact hl.nd
  ·exact h.nd s
 ·unfold upL at hs hs'
  split at hs <;> split at hs'
  ·rename_i a b; rw [<- a, <- b]
  ·exact absurd hs' (hl.dj _ _ hs)
  ·exact absurd hs (hl.dj _ _ hs')
  ·exact h.dj s s' l hs hs'
 ·rw [hg]
  split
  ·rename_i hds; subst hds; rw [List.length_set] at hs; omega
  ·exact h1.ln s hs
theorem Sta.putA (h : Sta H F env V Lf) {d : Nat} {v : AV} {x : S} (hd : d < env.length) (hx : SR H F env V v [] x) (hr : x.rooted d = false) : Sta H F (env.set d v) ((unroot d V).set d x) (upL Lf d []) := by
 have h1 := h.drop d (env.set d v) (by simp) (fun s hs => by simp [zD, List.getElem?_set_ne (Ne.symm hs)])
 have hg : ∀ s, ((unroot d V).set d x).get s = if d = s then x else (V.drop d).get s := by
  intro s
  rw [VEnv.get_set, VEnv.get_drop, unroot_get]
  split <;> rfl
 refine ⟨h.fz, fun s => ?_, h1.nd, h1.dj, fun s hs => ?_⟩
 ·rw [hg]
  by_cases hds : d = s
  ·subst hds
   unfold upL
   rw [if_pos rfl, if_pos rfl]
   have : (env.set d v).getD d .und = v := by simp [zD, hd]
   rw [this]
   refine hx.congr fun r hxr => ?_
   have hrd : r ≠ d := fun e => by subst e; rw [hr] at hxr; cases hxr
   refine ⟨?_, by simp [zD, List.getElem?_set_ne (Ne.symm hrd)]⟩
   rw [hg, if_neg (Ne.symm hrd), VEnv.get_drop, if_neg (Ne.symm hrd)]
   split
   ·rename_i hrr
    exfalso
    obtain ⟨t, ht⟩ := hx.root hxr
    rw [ht] at hrr; simp [S.rooted] at hrr
   ·rfl
  ·rw [if_neg hds]
   have := h1.sr s
   refine this.congr fun r hxr => ⟨?_, rfl⟩
   rw [hg]
   split
   ·rename_i hdr; subst hdr
    rw [VEnv.get_drop, if_neg hds] at hxr
    split at hxr
    ·simp [S.rooted] at hxr
    ·rename_i hn; exact absurd hxr hn
   ·rfl
 ·rw [hg]
  split
  ·rename_i hds; subst hds; rw [List.length_set] at hs; omega
  ·exact h1.ln s hs
end
section
def pre : List Nat -> List Nat -> Bool
 | [], _ => true
 | a :: q, b :: p => a == b && pre q p
 | _ :: _, [] => false
def keepC (r : Nat) (p : List Nat) : Cap -> Bool
 | .t _ => true
 | .a s q _ => s != r || pre q p
def keepS (r : Nat) (p : List Nat) : S -> Bool
 | .ref s q _ _ _ => s != r || (pre q p && decide (q.length < p.length))
 | .adr s q _ => s != r || pre q p
 | .clo _ cs => cs.all (keepC r p)
 | _ => true
def cut (r : Nat) (p : List Nat) (V : VEnv) : VEnv := V.upd fun x => if keepS r p x then x else .v .und
theorem cut_get (r : Nat) (p : List Nat) (V : VEnv) (s : Nat) : (cut r p V).get s = if keepS r p (V.get s) then V.get s else .v .und := by
 unfold cut
 rw [VEnv.get_upd _ (by simp [keepS])]
theorem kids_setKids : ∀ {t : T} {cs cs' : List T}, t.kids = some cs -> cs'.length = cs.length -> (t.setKids cs').kids = some cs'
 | .at a t, cs, cs', h, hl => by
  simp only [T.kids] at h
  simp only [T.setKids, T.kids]
  exact kids_setKids h hl
 | .sl o x e sk c, cs, cs', h, hl => by
  cases o with
  | false => simp [T.kids] at h
  | true =>
   simp only [T.kids] at h
   split at h
   ·simp at h
   ·rename_i hne
    simp only [zJ] at h; subst h
    simp only [T.setKids, T.kids]
    rw [if_neg]
    intro hc
    simp only [Bool.and_eq_true, List.isEmpty_iff] at hc hne
    refine hne ⟨hc.1, ?_⟩
    rw [hc.2] at hl
    exact List.eq_nil_of_length_eq_zero (by simpa using hl.symm)
 | .ptr o c, cs, cs', h, hl => by
  cases o with
  | false => simp [T.kids] at h
  | true => rfl
 | .und, cs, cs', h, hl => by simp [T.kids] at h
 | .int _ _, cs, cs', h, hl => by simp [T.kids] at h
 | .bool _, cs, cs', h, hl => by simp [T.kids] at h
 | .str _, cs, cs', h, hl => by simp [T.kids] at h
 | .nilp, cs, cs', h, hl => by simp [T.kids] at h
 | .nils, cs, cs', h, hl => by simp [T.kids] at h
 | .nilf, cs, cs', h, hl => by simp [T.kids] at h
 | .fn _ _, cs, cs', h, hl => by simp [T.kids] at h
 | .agg _, cs, cs', h, hl => by simp [T.kids] at h
 | .tup _, cs, cs', h, hl => by simp [T.kids] at h
 | .slo _ _, cs, cs', h, hl => by simp [T.kids] at h
variable {H H' : Heap} {F F' : Nat -> Prop} {env env' : Env} {V V' : VEnv} {Lf : Nat -> List Nat} {v : AV} {ls : List Nat}
theorem pre_node {l : Nat} (hH : ∀ k, k ≠ l -> H'.get k = H.get k) : ∀ (p q : List Nat) {v : AV} {t : T} {ls : List Nat} {cs cs' : List T}, Den H F v t ls -> ls.Nodup -> t.node p = some cs -> plc H v p = some l -> cs'.length = cs.length -> pre q p = true ->
  ∃ c0 c0', t.node q = some c0 /\ (T.setNode cs' t p).node q = some c0' /\ c0'.length = c0.length /\ plc H' v q = plc H v q /\ (q.length < p.length -> plc H v q ≠ some l)
 | [], [], v, t, ls, cs, cs', h, hnd, hn, hp, hl, _ => by
  simp only [T.node] at hn
  exact ⟨cs, cs', by simpa [T.node] using hn, by simp only [T.setNode, T.node]; exact kids_setKids hn hl, hl, rfl, by simp⟩
 | [], _ :: _, v, t, ls, cs, cs', h, hnd, hn, hp, hl, hq => by simp [pre] at hq
 | k :: p, q, v, t, ls, cs, cs', h, hnd, hn, hp, hl, hq => by
  simp only [T.node] at hn
  split at hn
  ·rename_i kc hkc
   split at hn
   ·rename_i u hu
    obtain ⟨l0, avs0, rest0, lc0, h1, h2, h3, h4, h5, rfl, h7, _⟩ := kids_den h hkc
    obtain ⟨c, l1, lu, l2, hc, rfl, hdu, _⟩ := h7.at hu
    have hcell : (H.get l0).cells.getD k .und = c := by
     rw [h5, zD, List.getElem?_append_left (zS hc).1, hc]; rfl
    have hnu : lu.Nodup := by
     have := (List.nodup_cons.1 hnd).2
     exact (List.nodup_append.1 (List.nodup_append.1 this).1).2.1
    simp only [plc, h1, hcell] at hp
    have hl0 : l0 ≠ l := by
     obtain ⟨l', _, _, A, lc, B, g1, _, _, _, _, g6, _, _⟩ := node_den p hdu hnu hn
     rw [g1] at hp
     simp only [zJ] at hp
     subst hp
     intro e
     subst e
     refine (List.nodup_cons.1 hnd).1 ?_
     rw [g6]
     simp
    have hset : T.setNode cs' t (k :: p) = t.setKids (kc.set k (T.setNode cs' u p)) := by simp [T.setNode, hkc, hu]
    rw [hset]
    cases q with
    | nil =>
     refine ⟨kc, _, by simpa [T.node] using hkc, by simp only [T.node]; exact kids_setKids hkc (by simp), by simp, rfl, fun _ => ?_⟩
     simp only [plc, h1]
     intro e
     simp only [zJ] at e
     exact hl0 e
    | cons a q =>
     simp only [pre, Bool.and_eq_true, beq_iff_eq] at hq
     obtain ⟨rfl, hq⟩ := hq
     obtain ⟨c0, c0', g1, g2, g3, g4, g5⟩ := pre_node hH p q hdu hnu hn hp hl hq
     have hlt : a < kc.length := (zS hu).1
     refine ⟨c0, c0', by simp only [T.node, hkc, hu]; exact g1, ?_, g3, ?_, ?_⟩
     ·simp only [T.node, kids_setKids hkc (cs' := kc.set a (T.setNode cs' u p)) (by simp), List.getElem?_set_self hlt]; exact g2
     ·simp only [plc, h1, hH l0 hl0, hcell]; exact g4
     ·intro hlen
      simp only [plc, h1, hcell]
      exact g5 (by simpa using hlen)
   ·simp at hn
  ·simp at hn
theorem CapsR.imp : ∀ {cs : List Cap} {vs : List AV}, CapsR H F env V vs cs -> (∀ c v, c ∈ cs -> CapR H F env V v c -> CapR H' F' env' V' v c) -> CapsR H' F' env' V' vs cs
 | [], vs, h, _ => h
 | c :: cs, vs, h, hi => by
  obtain ⟨v, vs', rfl, h1, h2⟩ := h
  exact ⟨v, vs', rfl, hi c v (by simp) h1, h2.imp fun c v hc => hi c v (by simp [hc])⟩
theorem Sta.chg (h : Sta H F env V Lf) {r : Nat} {p : List Nat} {l : Nat} {cs : List T} {t : T} (ht : V.get r = .v t) (hn : t.node p = some cs) (hp : plc H (env.getD r .und) p = some l) :
  ∃ avs rest A lc B, l < H.sz /\ (H.get l).st = .own /\ ¬ F l /\ (H.get l).cells = avs ++ rest /\ Lf r = A ++ (l :: lc) ++ B /\ Dens H F avs cs lc /\
   ∀ (H' : Heap) (avs' : List AV) (cs' : List T) (lc' : List Nat), H.sz <= H'.sz -> (∀ k, k ≠ l -> H'.get k = H.get k) -> (H'.get l).st = .own -> (H'.get l).cells = avs' ++ rest -> cs'.length = cs.length -> Dens H' F avs' cs' lc' ->
    (A ++ (l :: lc') ++ B).Nodup -> (∀ s, s ≠ r -> ∀ k ∈ lc', k ∉ Lf s) -> Sta H' F env ((cut r p V).set r (.v (T.setNode cs' t p))) (upL Lf r (A ++ (l :: lc') ++ B)) := by
 have hden := h.den ht
 obtain ⟨l', avs, rest, A, lc, B, g1, g2, g3, g4, g5, g6, g7, g8⟩ := node_den p hden (h.nd r) hn
 rw [hp] at g1
 simp only [zJ] at g1
 subst g1
 refine ⟨avs, rest, A, lc, B, g2, g3, g4, g5, g6, g7, ?_⟩
 intro H' avs' cs' lc' hsz hH hst hc hlen hd hnd hdj
 have hlr : l ∈ Lf r := by rw [g6]; simp
 have hne : ∀ s, s ≠ r -> ∀ k ∈ Lf s, k ≠ l := fun s hs k hk e => by subst e; exact hs (h.dj _ _ _ hk hlr)
 have hFl : ∀ k, F k -> k ≠ l := fun k hk e => by subst e; exact g4 hk
 have hnl : ∀ k, k ∈ A ++ B -> k ≠ l := by
  intro k hk e
  subst e
  have := h.nd r
  rw [g6] at this
  simp only [List.append_assoc, List.cons_append] at this
  have h1 := List.nodup_append.1 this
  rcases List.mem_append.1 hk with hk | hk
  ·exact h1.2.2 k hk k (by simp) rfl
  ·exact (List.nodup_cons.1 h1.2.1).1 (by simp [hk])
 have hget : ∀ s, ((cut r p V).set r (.v (T.setNode cs' t p))).get s = if r = s then .v (T.setNode cs' t p) else if keepS r p (V.get s) then V.get s else .v .und := by
  intro s; rw [VEnv.get_set, cut_get]
 have hroot : ∀ s t', V.get s = .v t' -> ∃ t'', ((cut r p V).set r (.v (T.setNode cs' t p))).get s = .v t'' := by
  intro s t' hs
  rw [hget]
  split
  ·exact ⟨_, rfl⟩
  ·rw [hs]; exact ⟨t', by simp [keepS]⟩
 have hloc : ∀ s q k0 c0, Loc H env V s q k0 c0 -> (s = r -> pre q p = true) -> ∃ c0', Loc H' env ((cut r p V).set r (.v (T.setNode cs' t p))) s q k0 c0' /\ c0'.length = c0.length /\ ((s = r -> q.length < p.length) -> H'.get k0 = H.get k0) := by
  intro s q k0 c0 hl hq
  by_cases hs : s = r
  ·subst hs
   obtain ⟨t0, e1, e2, e3⟩ := hl
   rw [ht] at e1
   simp only [S.v.injEq] at e1
   subst e1
   obtain ⟨d0, d0', f1, f2, f3, f4, f5⟩ := pre_node hH p q hden (h.nd _) hn hp hlen (hq rfl)
   rw [f1] at e2
   simp only [zJ] at e2
   subst e2
   refine ⟨d0', ⟨_, by rw [hget, if_pos rfl], f2, by rw [f4]; exact e3⟩, f3, fun hlt => ?_⟩
   have := f5 (hlt rfl)
   rw [e3] at this
   exact hH k0 fun e => this (by rw [e])
  ·obtain ⟨t0, e1, e2, e3⟩ := hl
   have ha : ∀ k ∈ Lf s, H'.get k = H.get k := fun k hk => hH k (hne s hs k hk)
   obtain ⟨_, _, _, _, _, _, _, hm, _⟩ := h.node ⟨t0, e1, e2, e3⟩
   refine ⟨c0, ⟨t0, ?_, e2, by rw [plc_agree q (h.den e1) e2 ha]; exact e3⟩, rfl, fun _ => ha k0 hm⟩
   rw [hget, if_neg (Ne.symm hs), e1]; simp [keepS]
 refine ⟨fun k hk => ?_, fun s => ?_, fun s => ?_, fun s s' k h1 h2 => ?_, fun s hs => ?_⟩
 ·rw [hH k (hFl k hk)]
  exact ⟨Nat.lt_of_lt_of_le (h.fz k hk).1 hsz, (h.fz k hk).2⟩
 ·rw [hget]
  unfold upL
  by_cases hs : r = s
  ·subst hs
   rw [if_pos rfl, if_pos rfl]
   exact g8 H' F avs' cs' lc' ⟨hsz, fun k hk => ⟨hH k (hFl k hk), hk⟩, fun k hk => ⟨hH k (hnl k hk), (hden.owned k (by rw [g6]; rcases List.mem_append.1 hk with hk | hk <;> simp [hk])).2.2⟩⟩ hst g4 hc hlen hd
  ·rw [if_neg hs, if_neg hs]
   have hsr := h.sr s
   by_cases hk : keepS r p (V.get s) = true
   ·rw [if_pos hk]
    cases hx : V.get s with
    | v t' =>
     rw [hx] at hsr
     refine Den.agree ⟨hsz, fun k hk => ⟨hH k (hFl k hk), hk⟩, fun k hk => ⟨hH k (hne s (Ne.symm hs) k hk), ?_⟩⟩ hsr
     exact (Den.owned hsr k hk).2.2
    | al q =>
     rw [hx] at hsr
     obtain ⟨a1, a2, t', a3⟩ := hsr
     obtain ⟨t'', a4⟩ := hroot q t' a3
     exact ⟨a1, a2, t'', a4⟩
    | ref q0 q k n ag =>
     rw [hx] at hsr hk
     obtain ⟨a1, l0, c0, a2, a3, a4⟩ := hsr
     simp only [keepS, Bool.or_eq_true, bne_iff_ne, ne_eq, Bool.and_eq_true, decide_eq_true_eq] at hk
     obtain ⟨c0', b1, b2, b3⟩ := hloc q0 q l0 c0 a2 (fun e => (hk.resolve_left (by simp [e])).1)
     refine ⟨a1, l0, c0', b1, by omega, ?_⟩
     rw [b3 fun e => (hk.resolve_left (by simp [e])).2]
     exact a4
    | adr q0 q k =>
     rw [hx] at hsr hk
     obtain ⟨a1, l0, c0, a2, a3⟩ := hsr
     simp only [keepS, Bool.or_eq_true, bne_iff_ne, ne_eq] at hk
     obtain ⟨c0', b1, b2, b3⟩ := hloc q0 q l0 c0 a2 (fun e => hk.resolve_left (by simp [e]))
     exact ⟨a1, l0, c0', b1, a3⟩
    | clo f caps =>
     rw [hx] at hsr hk
     obtain ⟨a1, vs, a2, a3⟩ := hsr
     refine ⟨a1, vs, a2, ?_⟩
     simp only [keepS, List.all_eq_true] at hk
     refine a3.imp fun c v hc b1 => ?_
     cases c with
     | t t' => exact Den.agree ⟨hsz, fun k hk => ⟨hH k (hFl k hk), hk⟩, by simp⟩ b1
     | a q0 q k =>
      obtain ⟨l0, c0, d1, d2⟩ := b1
      have := hk (.a q0 q k) hc
      simp only [keepC, Bool.or_eq_true, bne_iff_ne, ne_eq] at this
      obtain ⟨c0', d3, _, _⟩ := hloc q0 q l0 c0 d1 (fun e => this.resolve_left (by simp [e]))
      exact ⟨l0, c0', d3, d2⟩
   ·rw [if_neg hk]
    have : ∀ t', V.get s ≠ .v t' := fun t' e => hk (by rw [e]; simp [keepS])
    simp only [SR]; rw [Den]
    exact hsr.alias this
 ·unfold upL
  split
  ·exact hnd
  ·exact h.nd s
 ·unfold upL at h1 h2
  have aux : ∀ s, s ≠ r -> k ∈ A ++ (l :: lc') ++ B -> k ∉ Lf s := by
   intro s hs hk hks
   rcases List.mem_append.1 hk with hk | hk
   ·rcases List.mem_append.1 hk with hk | hk
    ·exact hs (h.dj _ _ _ hks (by rw [g6]; simp [hk]))
    ·rcases List.mem_cons.1 hk with rfl | hk
     ·exact hne s hs k hks rfl
     ·exact hdj s hs k hk hks
   ·exact hs (h.dj _ _ _ hks (by rw [g6]; simp [hk]))
  split at h1 <;> split at h2
  ·rename_i a b; rw [<- a, <- b]
  ·rename_i a b; exact absurd h2 (aux s' (Ne.symm b) h1)
  ·rename_i a b; exact absurd h1 (aux s (Ne.symm a) h2)
  ·exact h.dj s s' k h1 h2
 ·rw [hget]
  split
  ·rename_i hrs; subst hrs
   rw [h.ln _ hs] at ht
   simp only [S.v.injEq] at ht
   subst ht
   cases p <;> simp [T.node, T.kids] at hn
  ·rw [h.ln s hs]; simp
def rng (cs : List T) (k n : Nat) (ag : Bool) : Option T :=
 if k + n <= cs.length then if ag then some (.agg ((cs.drop k).take n)) else if n = 1 then cs[k]? else none else none
def holes (cs : List T) (k n : Nat) : List T := cs.take k ++ (List.replicate n .und ++ cs.drop (k + n))
def T.ofAV : AV -> Option T
 | .int k n => some (.int k n)
 | .bool b => some (.bool b)
 | .str s => some (.str s)
 | .nilp => some .nilp
 | .nils => some .nils
 | .nilf => some .nilf
 | .fn f [] => some (.fn f [])
 | .tup [] => some (.tup [])
 | _ => none
def takeV (V : VEnv) : Opd -> Option (T × VEnv)
 | .c a => (T.ofAV a).map (·, V)
 | .t s => match V.get s with
  | .v t => if t.plain then some (t, V) else some (t, V.drop s)
  | .al r => match V.get r with
   | .v t => if t.plain then some (t, V) else some (t, V.drop r)
   | _ => none
  | .ref r p k n ag => match V.get r with
   | .v t => match t.node p with
    | some cs => match rng cs k n ag with
     | some u => if u.plain then some (u, V) else some (u, (cut r p V).set r (.v (T.setNode (holes cs k n) t p)))
     | none => none
    | none => none
   | _ => none
  | _ => none
theorem ofAV_den {a : AV} {t : T} (h : T.ofAV a = some t) : Den H F a t [] /\ t.plain = true := by
 unfold T.ofAV at h
 split at h <;> simp only [zJ, reduceCtorEq] at h <;> subst h <;> (refine ⟨?_, by simp [T.plain, plains]⟩; rw [Den]) <;> try exact ⟨rfl, rfl⟩
 ·exact ⟨[], rfl, rfl, by rw [Dens]; exact ⟨rfl, rfl⟩⟩
 ·exact ⟨[], rfl, by rw [Dens]; exact ⟨rfl, rfl⟩⟩
theorem dens_und : ∀ (cs : List AV), Dens H F cs (List.replicate cs.length .und) []
 | [] => by rw [List.length_nil, List.replicate_zero, Dens]; exact ⟨rfl, rfl⟩
 | c :: cs => by
  rw [List.length_cons, List.replicate_succ, Dens]
  exact ⟨c, cs, [], [], rfl, rfl, by rw [Den], dens_und cs⟩
theorem Lo.sub {Lf' : Nat -> List Nat} {avs : List AV} {ts : List T} (h : Lo H F Lf avs ts ls) (hs : ∀ s l, l ∈ Lf' s -> l ∈ Lf s) : Lo H F Lf' avs ts ls := ⟨h.den, h.nd, fun s l hl hs' => h.dj s l hl (hs s l hs')⟩
theorem Lo.snoc {avs : List AV} {ts : List T} {v : AV} {t : T} {l1 : List Nat} (h : Lo H F Lf avs ts ls) (hd : Den H F v t l1) (hnd : l1.Nodup) (hdj : ∀ s l, l ∈ l1 -> l ∉ Lf s) (hx : ∀ l ∈ l1, l ∉ ls) : Lo H F Lf (avs ++ [v]) (ts ++ [t]) (ls ++ l1) := by
 refine ⟨h.den.append (dens_one.2 hd), List.nodup_append.2 ⟨h.nd, hnd, fun a ha b hb e => hx b hb (by rw [<- e]; exact ha)⟩, fun s l hl => ?_⟩
 rcases List.mem_append.1 hl with hl | hl
 ·exact h.dj s l hl
 ·exact hdj s l hl
structure Took (H : Heap) (F : Nat -> Prop) (env : Env) (V' : VEnv) (Lf Lf' : Nat -> List Nat) (avs : List AV) (ts : List T) (ls : List Nat) : Prop where
 st : Sta H F env V' Lf'
 lo : Lo H F Lf' avs ts ls
 sub : ∀ s l, l ∈ Lf' s -> l ∈ Lf s
theorem rng_take {r : Nat} {p : List Nat} {l k n : Nat} {ag : Bool} {cs : List T} {t0 u : T} {w : AV} {avs : List AV} {ts : List T} (h : Sta H F env V Lf) (hl : Lo H F Lf avs ts ls) (e1 : V.get r = .v t0) (e2 : t0.node p = some cs) (e3 : plc H (env.getD r .und) p = some l) (hkn : k + n <= cs.length)
  (hv : if ag then w = .agg (((H.get l).cells.drop k).take n) else n = 1 /\ w = (H.get l).cells.getD k .und) (hu : rng cs k n ag = some u) :
  ∃ l1 Lf', Took H F env ((cut r p V).set r (.v (T.setNode (holes cs k n) t0 p))) Lf Lf' (avs ++ [w]) (ts ++ [u]) (ls ++ l1) /\ ∀ l ∈ l1, ∃ s, l ∈ Lf s := by
 obtain ⟨avs0, rest, A, lc, B, g2, g3, g4, g5, g6, g7, g8⟩ := h.chg e1 e2 e3
 -- the cells' three parts
 have hcs : cs = cs.take k ++ ((cs.drop k).take n ++ cs.drop (k + n)) := by
  rw [<- List.drop_drop, List.take_append_drop, List.take_append_drop]
 have g7' := g7
 rw [hcs] at g7'
 obtain ⟨a1, a23, m1, m23, rfl, rfl, d1, d23⟩ := g7'.split
 obtain ⟨a2, a3, m2, m3, rfl, rfl, d2, d3⟩ := d23.split
 have hl1 : a1.length = k := by rw [d1.length]; simp; omega
 have hl2 : a2.length = n := by rw [d2.length]; simp; omega
 have hcell : ((H.get l).cells.drop k).take n = a2 := by
  rw [g5, List.append_assoc, <- hl1, List.drop_left, List.append_assoc, <- hl2, List.take_left]
 have hval : ∀ {u : T}, rng cs k n ag = some u -> Den H F w u m2 := by
  intro u hu
  unfold rng at hu
  rw [if_pos hkn] at hu
  cases ag with
  | true =>
   simp only [if_true, zJ] at hu hv
   subst hu
   rw [hv, hcell, Den]
   exact ⟨a2, rfl, d2⟩
  | false =>
   simp only [Bool.false_eq_true, if_false] at hu hv
   obtain ⟨rfl, hv⟩ := hv
   rw [if_pos rfl] at hu
   have hlt := (zS hu)
   have h1 : (cs.drop k).take 1 = [u] := by
    rw [List.drop_eq_getElem_cons hlt.1, hlt.2]; rfl
   rw [h1] at d2
   match a2, hl2, hcell, d2 with
   | [c], _, hcell, d2 =>
    have : (H.get l).cells.getD k .und = c := by
     have h2 : ((H.get l).cells.drop k)[0]? = some c := by
      have : ((H.get l).cells.drop k).take 1 = [c] := hcell
      have h3 := congrArg (·[0]?) this
      simpa [List.getElem?_take] using h3
     rw [List.getElem?_drop, Nat.add_zero] at h2
     rw [zD, h2]; rfl
    rw [hv, this]
    exact dens_one.1 d2
 have hholes : Dens H F (a1 ++ (a2 ++ a3)) (holes cs k n) (m1 ++ ([] ++ m3)) := by
  unfold holes
  refine d1.append (Dens.append ?_ d3)
  have := dens_und (H := H) (F := F) a2
  rw [hl2] at this
  exact this
 have hnd := h.nd r
 rw [g6] at hnd
 have hnd' : (A ++ (l :: (m1 ++ ([] ++ m3))) ++ B).Nodup := by
  refine List.Sublist.nodup ?_ hnd
  refine List.Sublist.append (List.Sublist.append (List.Sublist.refl _) ?_) (List.Sublist.refl _)
  refine List.Sublist.cons_cons _ (List.Sublist.append (List.Sublist.refl _) ?_)
  simp
 have hsta := g8 H (a1 ++ (a2 ++ a3)) (holes cs k n) (m1 ++ ([] ++ m3)) (Nat.le_refl _) (fun _ _ => rfl) g3 (by rw [g5]) (by simp [holes]; omega) hholes hnd' (by
  intro s' hs' k' hk' hk''
  exact hs' (h.dj _ _ _ hk'' (by rw [g6]; simp at hk' ⊢; grind)))
 have hsub : ∀ s' l', l' ∈ upL Lf r (A ++ (l :: (m1 ++ ([] ++ m3))) ++ B) s' -> l' ∈ Lf s' := by
  intro s' l' hm
  unfold upL at hm
  split at hm
  ·rename_i hrs; subst hrs
   rw [g6]
   simp at hm ⊢; grind
  ·exact hm
 have hm2 : ∀ l' ∈ m2, l' ∈ Lf r := by intro l' hm; rw [g6]; simp [hm]
 refine ⟨m2, _, ⟨hsta, ?_, hsub⟩, fun l' hm => ⟨r, hm2 l' hm⟩⟩
 refine (hl.sub hsub).snoc (hval hu) ?_ (fun s' l' hm hm' => ?_) (fun l' hm hm' => hl.dj r l' hm' (hm2 l' hm))
 ·refine List.Sublist.nodup ?_ hnd
  refine List.Sublist.trans ?_ (List.sublist_append_left _ _)
  refine List.Sublist.trans ?_ (List.sublist_append_right _ _)
  refine List.Sublist.cons _ ?_
  refine List.Sublist.trans ?_ (List.sublist_append_right _ _)
  exact List.sublist_append_left _ _
 ·have hrs := h.dj _ _ _ (hm2 l' hm) (hsub s' l' hm')
  subst hrs
  unfold upL at hm'
  rw [if_pos rfl] at hm'
  -- l' is in m2 and in the rest
  have : (A ++ l :: (m1 ++ (m2 ++ m3)) ++ B).Nodup := hnd
  simp only [List.append_assoc, List.cons_append, List.nil_append, List.nodup_append, List.nodup_cons, List.mem_append, List.mem_cons] at this hm'
  grind
theorem take_ok {x : Opd} {t : T} {avs : List AV} {ts : List T} (h : Sta H F env V Lf) (hl : Lo H F Lf avs ts ls) (hx : takeV V x = some (t, V')) :
  ∃ l1 Lf', Took H F env V' Lf Lf' (avs ++ [x.ev env]) (ts ++ [t]) (ls ++ l1) /\ ∀ l ∈ l1, ∃ s, l ∈ Lf s := by
 have plainCase : ∀ {u : T}, Den H F (x.ev env) u [] -> ∃ l1 Lf', Took H F env V Lf Lf' (avs ++ [x.ev env]) (ts ++ [u]) (ls ++ l1) /\ ∀ l ∈ l1, ∃ s, l ∈ Lf s := fun {u} hd =>
  ⟨[], Lf, ⟨h, hl.snoc hd (by simp) (by simp) (by simp), fun _ _ h => h⟩, by simp⟩
 have dropCase : ∀ {u : T} {s : Nat}, V.get s = .v u -> x.ev env = env.getD s .und -> ∃ l1 Lf', Took H F env (V.drop s) Lf Lf' (avs ++ [x.ev env]) (ts ++ [u]) (ls ++ l1) /\ ∀ l ∈ l1, ∃ s, l ∈ Lf s := by
  intro u s hs hev
  have hsub : ∀ s' l, l ∈ upL Lf s [] s' -> l ∈ Lf s' := by
   intro s' l hm
   unfold upL at hm
   split at hm
   ·simp at hm
   ·exact hm
  refine ⟨Lf s, upL Lf s [], ⟨h.drop s env rfl (fun _ _ => rfl), ?_, hsub⟩, fun l hm => ⟨s, hm⟩⟩
  refine (hl.sub hsub).snoc (by rw [hev]; exact h.den hs) (h.nd s) (fun s' l hm hm' => ?_) (fun l hm hm' => hl.dj s l hm' hm)
  unfold upL at hm'
  split at hm'
  ·simp at hm'
  ·rename_i hne; exact hne (h.dj _ _ _ hm hm')
 cases x with
 | c a =>
  simp only [takeV] at hx
  obtain ⟨u, hu, hx⟩ := zM hx
  simp only [zP] at hx
  obtain ⟨rfl, rfl⟩ := hx
  exact plainCase (ofAV_den hu).1
 | t s =>
  simp only [takeV] at hx
  split at hx
  ·rename_i u hs
   split at hx
   ·rename_i hp
    simp only [zJ, zP] at hx
    obtain ⟨rfl, rfl⟩ := hx
    have hd := h.den hs
    rw [Den.plain hp hd] at hd
    exact plainCase hd
   ·simp only [zJ, zP] at hx
    obtain ⟨rfl, rfl⟩ := hx
    exact dropCase hs rfl
  ·rename_i r hs
   have hsr := h.sr s
   rw [hs] at hsr
   split at hx
   ·rename_i u hr
    split at hx
    ·rename_i hp
     simp only [zJ, zP] at hx
     obtain ⟨rfl, rfl⟩ := hx
     have hd := h.den hr
     rw [Den.plain hp hd, <- hsr.2.1] at hd
     exact plainCase hd
    ·simp only [zJ, zP] at hx
     obtain ⟨rfl, rfl⟩ := hx
     exact dropCase hr hsr.2.1
   ·simp at hx
  ·rename_i r p k n ag hs
   have hsr := h.sr s
   rw [hs] at hsr
   obtain ⟨_, l, cs, ⟨t0, e1, e2, e3⟩, hkn, hv⟩ := hsr
   simp only [e1, e2] at hx
   obtain ⟨avs0, rest, A, lc, B, g2, g3, g4, g5, g6, g7, g8⟩ := h.chg e1 e2 e3
   -- the cells' three parts
   have hcs : cs = cs.take k ++ ((cs.drop k).take n ++ cs.drop (k + n)) := by
    rw [<- List.drop_drop, List.take_append_drop, List.take_append_drop]
   have g7' := g7
   rw [hcs] at g7'
   obtain ⟨a1, a23, m1, m23, rfl, rfl, d1, d23⟩ := g7'.split
   obtain ⟨a2, a3, m2, m3, rfl, rfl, d2, d3⟩ := d23.split
   have hl1 : a1.length = k := by rw [d1.length]; simp; omega
   have hl2 : a2.length = n := by rw [d2.length]; simp; omega
   have hcell : ((H.get l).cells.drop k).take n = a2 := by
    rw [g5, List.append_assoc, <- hl1, List.drop_left, List.append_assoc, <- hl2, List.take_left]
   have hval : ∀ {u : T}, rng cs k n ag = some u -> Den H F (env.getD s .und) u m2 := by
    intro u hu
    unfold rng at hu
    rw [if_pos hkn] at hu
    cases ag with
    | true =>
     simp only [if_true, zJ] at hu hv
     subst hu
     rw [hv, hcell, Den]
     exact ⟨a2, rfl, d2⟩
    | false =>
     simp only [Bool.false_eq_true, if_false] at hu hv
     obtain ⟨rfl, hv⟩ := hv
     rw [if_pos rfl] at hu
     have hlt := (zS hu)
     have h1 : (cs.drop k).take 1 = [u] := by
      rw [List.drop_eq_getElem_cons hlt.1, hlt.2]; rfl
     rw [h1] at d2
     match a2, hl2, hcell, d2 with
     | [c], _, hcell, d2 =>
      have : (H.get l).cells.getD k .und = c := by
       have h2 : ((H.get l).cells.drop k)[0]? = some c := by
        have : ((H.get l).cells.drop k).take 1 = [c] := hcell
        have h3 := congrArg (·[0]?) this
        simpa [List.getElem?_take] using h3
       rw [List.getElem?_drop, Nat.add_zero] at h2
       rw [zD, h2]; rfl
      rw [hv, this]
      exact dens_one.1 d2
   split at hx
   ·rename_i u hu
    split at hx
    ·rename_i hp
     simp only [zJ, zP] at hx
     obtain ⟨rfl, rfl⟩ := hx
     have hd := hval hu
     rw [Den.plain hp hd] at hd
     exact plainCase hd
    ·simp only [zJ, zP] at hx
     obtain ⟨rfl, rfl⟩ := hx
     have hholes : Dens H F (a1 ++ (a2 ++ a3)) (holes cs k n) (m1 ++ ([] ++ m3)) := by
      unfold holes
      refine d1.append (Dens.append ?_ d3)
      have := dens_und (H := H) (F := F) a2
      rw [hl2] at this
      exact this
     have hnd := h.nd r
     rw [g6] at hnd
     have hnd' : (A ++ (l :: (m1 ++ ([] ++ m3))) ++ B).Nodup := by
      refine List.Sublist.nodup ?_ hnd
      refine List.Sublist.append (List.Sublist.append (List.Sublist.refl _) ?_) (List.Sublist.refl _)
      refine List.Sublist.cons_cons _ (List.Sublist.append (List.Sublist.refl _) ?_)
      simp
     have hsta := g8 H (a1 ++ (a2 ++ a3)) (holes cs k n) (m1 ++ ([] ++ m3)) (Nat.le_refl _) (fun _ _ => rfl) g3 (by rw [g5]) (by simp [holes]; omega) hholes hnd' (by
      intro s' hs' k' hk' hk''
      exact hs' (h.dj _ _ _ hk'' (by rw [g6]; simp at hk' ⊢; grind)))
     have hsub : ∀ s' l', l' ∈ upL Lf r (A ++ (l :: (m1 ++ ([] ++ m3))) ++ B) s' -> l' ∈ Lf s' := by
      intro s' l' hm
      unfold upL at hm
      split at hm
      ·rename_i hrs; subst hrs
       rw [g6]
       simp at hm ⊢; grind
      ·exact hm
     have hm2 : ∀ l' ∈ m2, l' ∈ Lf r := by intro l' hm; rw [g6]; simp [hm]
     refine ⟨m2, _, ⟨hsta, ?_, hsub⟩, fun l' hm => ⟨r, hm2 l' hm⟩⟩
     refine (hl.sub hsub).snoc (hval hu) ?_ (fun s' l' hm hm' => ?_) (fun l' hm hm' => hl.dj r l' hm' (hm2 l' hm))
     ·refine List.Sublist.nodup ?_ hnd
      refine List.Sublist.trans ?_ (List.sublist_append_left _ _)
      refine List.Sublist.trans ?_ (List.sublist_append_right _ _)
      refine List.Sublist.cons _ ?_
      refine List.Sublist.trans ?_ (List.sublist_append_right _ _)
      exact List.sublist_append_left _ _
     ·have hrs := h.dj _ _ _ (hm2 l' hm) (hsub s' l' hm')
      subst hrs
      unfold upL at hm'
      rw [if_pos rfl] at hm'
      -- l' is in m2 and in the rest
      have : (A ++ l :: (m1 ++ (m2 ++ m3)) ++ B).Nodup := hnd
      simp only [List.append_assoc, List.cons_append, List.nil_append, List.nodup_append, List.nodup_cons, List.mem_append, List.mem_cons] at this hm'
      grind
   ·simp at hx
  ·simp at hx
end
section
variable {H H' : Heap} {F F' : Nat -> Prop} {env env' : Env} {V V' : VEnv} {Lf : Nat -> List Nat} {v : AV} {ls : List Nat}
def T.av : T -> AV
 | .int k n => .int k n
 | .bool b => .bool b
 | .str s => .str s
 | .tup [] => .tup []
 | _ => .und
def sca (V : VEnv) : Opd -> AV
 | .c a => a
 | .t s => match V.get s with
  | .v t => t.av
  | _ => .und
theorem sca_ok (h : Sta H F env V Lf) (x : Opd) : sca V x = .und \/ sca V x = x.ev env := by
 cases x with
 | c a => exact .inr rfl
 | t s =>
  simp only [sca]
  split
  ·rename_i t hs
   have hd := h.den hs
   cases t with
   | int k n => rw [Den] at hd; exact .inr hd.1.symm
   | bool b => rw [Den] at hd; exact .inr hd.1.symm
   | str s => rw [Den] at hd; exact .inr hd.1.symm
   | tup cs => cases cs with
    | nil =>
     rw [Den] at hd
     obtain ⟨cs, hv, h2⟩ := hd
     rw [Dens] at h2
     rw [h2.1] at hv
     exact .inr hv.symm
    | cons => exact .inl rfl
   | _ => exact .inl rfl
  ·exact .inl rfl
def osca (ev : Opd -> AV) (y n : Nat) : Option Opd -> Option Nat
 | some l => bnd y (ev l)
 | none => some n
def scaOp (ev : Opd -> AV) : COp -> Option AV
 | .bin op x y => binA op (ev x) (ev y)
 | .beq ng x y => match ev x, ev y with
  | .bool a, .bool b => some (.bool (if ng then a != b else a == b))
  | _, _ => none
 | .neg x => match ev x with
  | .int k n => some (.int k (k.wrap (0 - n)))
  | _ => none
 | .not x => match ev x with
  | .bool b => some (.bool !b)
  | _ => none
 | .lens x => match ev x with
  | .str s => some (.i s.length)
  | _ => none
 | .max x y => match ev x, ev y with
  | .int k a, .int _ b => some (.int k (if b > a then b else a))
  | _, _ => none
 | .conv k x => match ev x with
  | .int _ n => some (.int k (k.wrap n))
  | _ => none
 | .sst x lo hi => match ev x with
  | .str s =>
   match osca ev s.length s.length hi with
   | some h => match osca ev h 0 lo with
    | some l => some (.str ((s.take h).drop l))
    | none => none
   | none => none
  | _ => none
 | .ix x i => match ev x, ev i with
  | .str s, .int _ j => if 0 <= j then (s[j.toNat]?).map fun b => .int .u8 b.toNat else none
  | _, _ => none
 | _ => none
theorem binA_und1 {op : BinOp} {y : AV} : binA op .und y = none := by cases op <;> cases y <;> rfl
theorem binA_und2 {op : BinOp} {x : AV} : binA op x .und = none := by cases op <;> cases x <;> rfl
theorem osca_mono {ev ev' : Opd -> AV} (h : ∀ x, ev x = .und \/ ev x = ev' x) {y n r : Nat} {x : Option Opd} (hx : osca ev y n x = some r) : osca ev' y n x = some r := by
 cases x with
 | none => exact hx
 | some x =>
  simp only [osca] at hx ⊢
  rcases h x with e | e
  ·rw [e] at hx; simp [bnd] at hx
  ·rw [<- e]; exact hx
theorem scaOp_mono {ev ev' : Opd -> AV} (h : ∀ x, ev x = .und \/ ev x = ev' x) {c : COp} {r : AV} (hc : scaOp ev c = some r) : scaOp ev' c = some r := by
 cases c with
 | bin op x y =>
  simp only [scaOp] at hc ⊢
  rcases h x with e | e
  ·rw [e, binA_und1] at hc; simp at hc
  ·rcases h y with e' | e'
   ·rw [e', binA_und2] at hc; simp at hc
   ·rw [<- e, <- e']; exact hc
 | beq ng x y =>
  simp only [scaOp] at hc ⊢
  rcases h x with e | e
  ·rw [e] at hc; simp at hc
  ·rcases h y with e' | e'
   ·rw [e'] at hc; simp at hc
   ·rw [<- e, <- e']; exact hc
 | neg x =>
  simp only [scaOp] at hc ⊢
  rcases h x with e | e
  ·rw [e] at hc; simp at hc
  ·rw [<- e]; exact hc
 | not x =>
  simp only [scaOp] at hc ⊢
  rcases h x with e | e
  ·rw [e] at hc; simp at hc
  ·rw [<- e]; exact hc
 | lens x =>
  simp only [scaOp] at hc ⊢
  rcases h x with e | e
  ·rw [e] at hc; simp at hc
  ·rw [<- e]; exact hc
 | max x y =>
  simp only [scaOp] at hc ⊢
  rcases h x with e | e
  ·rw [e] at hc; simp at hc
  ·rcases h y with e' | e'
   ·rw [e'] at hc; simp at hc
   ·rw [<- e, <- e']; exact hc
 | conv k x =>
  simp only [scaOp] at hc ⊢
  rcases h x with e | e
  ·rw [e] at hc; simp at hc
  ·rw [<- e]; exact hc
 | ix x y =>
  simp only [scaOp] at hc ⊢
  rcases h x with e | e
  ·rw [e] at hc; simp at hc
  ·rcases h y with e' | e'
   ·rw [e'] at hc; simp at hc
   ·rw [<- e, <- e']; exact hc
 | sst x lo hi =>
  simp only [scaOp] at hc ⊢
  rcases h x with e | e
  ·rw [e] at hc; simp at hc
  ·rw [<- e]
   split at hc
   ·rename_i s hs
    split at hc
    ·rename_i h0 hh
     split at hc
     ·rename_i l hl
      rw [osca_mono h hh]
      simp only
      rw [osca_mono h hl]
      exact hc
     ·simp at hc
    ·simp at hc
   ·simp at hc
 | _ => simp [scaOp] at hc
theorem osca_ev {y n : Nat} {x : Option Opd} : osca (Opd.ev env) y n x = obnd env y n x := by cases x <;> rfl
theorem scaOp_pure {c : COp} {r : AV} (hc : scaOp (Opd.ev env) c = some r) : pureOp env c = some r := by
 cases c with
 | sst x lo hi =>
  simp only [scaOp] at hc
  simp only [pureOp]
  split at hc
  ·rename_i s hs
   rw [hs]
   simp only
   split at hc
   ·rename_i h0 hh
    rw [osca_ev] at hh
    rw [hh]
    simp only
    split at hc
    ·rename_i l hl
     rw [osca_ev] at hl
     rw [hl]
     exact hc
    ·simp at hc
   ·simp at hc
  ·simp at hc
 | _ => first | exact hc | simp [scaOp] at hc
theorem scaOp_heap {c : COp} {r : AV} (hc : scaOp (Opd.ev env) c = some r) : heapOp env H c = some (r, H) := by
 have h1 := scaOp_pure hc
 cases c <;> first | (simp only [heapOp]; rw [h1]; rfl) | simp [scaOp] at hc
def see (V : VEnv) : Opd -> Option T
 | .c a => T.ofAV a
 | .t s => match V.get s with
  | .v t => some t
  | .al r => match V.get r with
   | .v t => some t
   | _ => none
  | .ref r p k n ag => match V.get r with
   | .v t => match t.node p with
    | some cs => rng cs k n ag
    | none => none
   | _ => none
  | _ => none
theorem rng_den (h : Sta H F env V Lf) {r : Nat} {p : List Nat} {l k n : Nat} {ag : Bool} {cs : List T} {u : T} {v : AV} (hl : Loc H env V r p l cs) (hkn : k + n <= cs.length)
  (hv : if ag then v = .agg (((H.get l).cells.drop k).take n) else n = 1 /\ v = (H.get l).cells.getD k .und) (hu : rng cs k n ag = some u) : ∃ ls, Den H F v u ls /\ ∀ l ∈ ls, l ∈ Lf r := by
 obtain ⟨avs0, rest, lc, g2, g3, g4, g5, g6, g7, g8⟩ := h.node hl
 have hcs : cs = cs.take k ++ ((cs.drop k).take n ++ cs.drop (k + n)) := by
  rw [<- List.drop_drop, List.take_append_drop, List.take_append_drop]
 rw [hcs] at g7
 obtain ⟨a1, a23, m1, m23, rfl, rfl, d1, d23⟩ := g7.split
 obtain ⟨a2, a3, m2, m3, rfl, rfl, d2, d3⟩ := d23.split
 have hl1 : a1.length = k := by rw [d1.length]; simp; omega
 have hl2 : a2.length = n := by rw [d2.length]; simp; omega
 have hcell : ((H.get l).cells.drop k).take n = a2 := by
  rw [g5, List.append_assoc, <- hl1, List.drop_left, List.append_assoc, <- hl2, List.take_left]
 refine ⟨m2, ?_, fun l hl => g8 l (by simp [hl])⟩
 unfold rng at hu
 rw [if_pos hkn] at hu
 cases ag with
 | true =>
  simp only [if_true, zJ] at hu hv
  subst hu
  rw [hv, hcell, Den]
  exact ⟨a2, rfl, d2⟩
 | false =>
  simp only [Bool.false_eq_true, if_false] at hu hv
  obtain ⟨rfl, hv⟩ := hv
  rw [if_pos rfl] at hu
  have hlt := (zS hu)
  have h1 : (cs.drop k).take 1 = [u] := by
   rw [List.drop_eq_getElem_cons hlt.1, hlt.2]; rfl
  rw [h1] at d2
  match a2, hl2, hcell, d2 with
  | [c], _, hcell, d2 =>
   have : (H.get l).cells.getD k .und = c := by
    have h2 : ((H.get l).cells.drop k)[0]? = some c := by
     have : ((H.get l).cells.drop k).take 1 = [c] := hcell
     have h3 := congrArg (·[0]?) this
     simpa [List.getElem?_take] using h3
    rw [List.getElem?_drop, Nat.add_zero] at h2
    rw [zD, h2]; rfl
   rw [hv, this]
   exact dens_one.1 d2
theorem see_ok (h : Sta H F env V Lf) {x : Opd} {t : T} (hx : see V x = some t) : ∃ ls, Den H F (x.ev env) t ls := by
 cases x with
 | c a => exact ⟨[], (ofAV_den hx).1⟩
 | t s =>
  simp only [see] at hx
  have hsr := h.sr s
  split at hx
  ·rename_i u hs
   simp only [zJ] at hx; subst hx
   exact ⟨_, h.den hs⟩
  ·rename_i r hs
   rw [hs] at hsr
   split at hx
   ·rename_i u hr
    simp only [zJ] at hx; subst hx
    refine ⟨Lf r, ?_⟩
    have := h.den hr
    rw [<- hsr.2.1] at this
    exact this
   ·simp at hx
  ·rename_i r p k n ag hs
   rw [hs] at hsr
   obtain ⟨_, l, cs, hl, hkn, hv⟩ := hsr
   have hl' := hl
   obtain ⟨t0, e1, e2, e3⟩ := hl
   simp only [e1, e2] at hx
   obtain ⟨ls, h1, _⟩ := rng_den h hl' hkn hv hx
   exact ⟨ls, h1⟩
  ·simp at hx
def T.bare : T -> T
 | .at _ t => t.bare
 | t => t
theorem Den.bare {H : Heap} {F : Nat -> Prop} {v : AV} : ∀ {t : T} {ls : List Nat}, Den H F v t ls -> Den H F v t.bare ls
 | .at a t, ls, h => by rw [Den] at h; rw [T.bare]; exact Den.bare h.2
 | .sl _ _ _ _ _, ls, h => h
 | .ptr _ _, ls, h => h
 | .und, ls, h => h
 | .int _ _, ls, h => h
 | .bool _, ls, h => h
 | .str _, ls, h => h
 | .nilp, ls, h => h
 | .nils, ls, h => h
 | .nilf, ls, h => h
 | .fn _ _, ls, h => h
 | .agg _, ls, h => h
 | .tup _, ls, h => h
 | .slo _ _, ls, h => h
theorem kids_bare : ∀ (t : T), t.bare.kids = t.kids
 | .at a t => by rw [T.bare, T.kids]; exact kids_bare t
 | .sl _ _ _ _ _ => rfl
 | .ptr _ _ => rfl
 | .und => rfl
 | .int _ _ => rfl
 | .bool _ => rfl
 | .str _ => rfl
 | .nilp => rfl
 | .nils => rfl
 | .nilf => rfl
 | .fn _ _ => rfl
 | .agg _ => rfl
 | .tup _ => rfl
 | .slo _ _ => rfl
inductive Ad where
 | own (r : Nat) (p : List Nat) (k : Nat) (cs : List T)
 | sh (cs : List T)
def adrOf (V : VEnv) : Opd -> Option Ad
 | .c _ => none
 | .t s => match V.get s with
  | .v t => match t.bare with
   | .ptr true cs => some (.own s [] 0 cs)
   | .ptr false cs => some (.sh cs)
   | _ => none
  | .al r => match V.get r with
   | .v t => match t.bare with
    | .ptr true cs => some (.own r [] 0 cs)
    | _ => none
   | _ => none
  | .ref r p k 1 false => match V.get r with
   | .v t => match t.node p with
    | some cs => match cs[k]? with
     | some u => match u.bare with
      | .ptr true cs' => some (.own r (p ++ [k]) 0 cs')
      | _ => none
     | _ => none
    | none => none
   | _ => none
  | .adr r p k => match V.get r with
   | .v t => match t.node p with
    | some cs => some (.own r p k cs)
    | none => none
   | _ => none
  | _ => none
inductive Sl where
 | own (r : Nat) (p : List Nat) (e : Nat) (cs : List T)
 | sh (x : Bool) (e : Nat) (cs : List T)
def slOf (V : VEnv) : Opd -> Option Sl
 | .c _ => none
 | .t s => match V.get s with
  | .v (.sl true x e _ cs) => if x && cs.isEmpty then none else some (.own s [] e cs)
  | .v (.sl false x e sk cs) => if sk == 1 && cs.isEmpty then none else some (.sh x e cs)
  | .al r => match V.get r with
   | .v (.sl true x e _ cs) => if x && cs.isEmpty then none else some (.own r [] e cs)
   | _ => none
  | .ref r p k 1 false => match V.get r with
   | .v t => match t.node p with
    | some cs => match cs[k]? with
     | some (.sl true x e _ cs') => if x && cs'.isEmpty then none else some (.own r (p ++ [k]) e cs')
     | _ => none
    | none => none
   | _ => none
  | _ => none
theorem node_snoc : ∀ (p : List Nat) {t : T} {cs : List T} {k : Nat} {u : T} {cs' : List T}, t.node p = some cs -> cs[k]? = some u -> u.kids = some cs' -> t.node (p ++ [k]) = some cs'
 | [], t, cs, k, u, cs', h, hk, hu => by
  simp only [T.node] at h
  simp only [List.nil_append, T.node, h, hk]
  simpa [T.node] using hu
 | a :: p, t, cs, k, u, cs', h, hk, hu => by
  simp only [T.node] at h
  split at h
  ·rename_i kc hkc
   split at h
   ·rename_i w hw
    simp only [List.cons_append, T.node, hkc, hw]
    exact node_snoc p h hk hu
   ·simp at h
  ·simp at h
theorem plc_snoc : ∀ (p : List Nat) {v : AV} {l k : Nat}, plc H v p = some l -> plc H v (p ++ [k]) = ((H.get l).cells.getD k .und).place
 | [], v, l, k, h => by simp only [plc] at h; simp [plc, h]
 | a :: p, v, l, k, h => by
  simp only [plc] at h
  split at h
  ·rename_i l0 hl0
   simp only [List.cons_append, plc, hl0]
   exact plc_snoc p h
  ·simp at h
theorem adr_ok (h : Sta H F env V Lf) {x : Opd} {a : Ad} (hx : adrOf V x = some a) :
  match a with
  | .own r p k cs => ∃ l, Loc H env V r p l cs /\ x.ev env = .ptr l k
  | .sh cs => ∃ l o avs, x.ev env = .ptr l o /\ l < H.sz /\ (H.get l).st ≠ .dead /\ F l /\ (∃ pre rest, (H.get l).cells = pre ++ avs ++ rest /\ pre.length = o) /\ Dens H F avs cs [] := by
 cases x with
 | c a => simp [adrOf] at hx
 | t s =>
  simp only [adrOf] at hx
  have hsr := h.sr s
  split at hx
  ·rename_i t0 hs
   split at hx
   ·rename_i cs ht
    simp only [zJ] at hx; subst hx
    have hd := (h.den hs).bare
    rw [ht, Den] at hd
    obtain ⟨l, o, avs, hv, hl, hd⟩ := hd
    rcases hd with ⟨_, h3, h4, h5, h6, l1, h7, h8⟩ | ⟨h1, _⟩
    ·subst h3
     exact ⟨l, ⟨_, hs, by simp only [T.node]; rw [<- kids_bare, ht]; rfl, by simp only [plc, hv]; rfl⟩, hv⟩
    ·cases h1
   ·rename_i cs ht
    simp only [zJ] at hx; subst hx
    have hd := (h.den hs).bare
    have hp : Lf s = [] := by
     have := Den.plain (t := .ptr false cs) rfl (by rw [<- ht]; exact hd)
     exact this
    rw [ht, Den] at hd
    obtain ⟨l, o, avs, hv, hl, hd⟩ := hd
    rcases hd with ⟨h1, _⟩ | ⟨_, h2, h3, h4, _, h6⟩
    ·cases h1
    ·exact ⟨l, o, avs, hv, hl, h2, h3, h4, h6⟩
   ·simp at hx
  ·rename_i r hs
   rw [hs] at hsr
   split at hx
   ·rename_i t0 hr
    split at hx
    ·rename_i cs ht
     simp only [zJ] at hx; subst hx
     have hd := (h.den hr).bare
     rw [ht, Den] at hd
     obtain ⟨l, o, avs, hv, hl, hd⟩ := hd
     rcases hd with ⟨_, h3, h4, h5, h6, l1, h7, h8⟩ | ⟨h1, _⟩
     ·subst h3
      refine ⟨l, ⟨_, hr, by simp only [T.node]; rw [<- kids_bare, ht]; rfl, by simp only [plc, hv]; rfl⟩, ?_⟩
      rw [<- hv]; exact hsr.2.1
     ·cases h1
    ·simp at hx
   ·simp at hx
  ·rename_i r p k hs
   rw [hs] at hsr
   obtain ⟨_, l, cs, hl, hkn, hv⟩ := hsr
   have hl' := hl
   obtain ⟨t0, e1, e2, e3⟩ := hl
   simp only [e1, e2] at hx
   split at hx
   ·rename_i u hk
    split at hx
    ·rename_i cs' ht
     simp only [zJ] at hx; subst hx
     obtain ⟨ls, hd, _⟩ := rng_den h hl' hkn hv (u := u) (by unfold rng; rw [if_pos hkn]; simpa using hk)
     simp only [Bool.false_eq_true, if_false] at hv
     replace hd := hd.bare
     rw [ht, Den] at hd
     obtain ⟨l2, o, avs, hv2, hlt, hd⟩ := hd
     rcases hd with ⟨_, h3, h4, h5, h6, l1, h7, h8⟩ | ⟨h1, _⟩
     ·subst h3
      refine ⟨l2, ⟨t0, e1, node_snoc p e2 hk (by rw [<- kids_bare, ht]; rfl), ?_⟩, hv2⟩
      rw [plc_snoc p e3, <- hv.2, hv2]; rfl
     ·cases h1
    ·simp at hx
   ·simp at hx
  ·rename_i r p k hs
   rw [hs] at hsr
   obtain ⟨_, l, cs, hl, hv⟩ := hsr
   have hl' := hl
   obtain ⟨t0, e1, e2, e3⟩ := hl
   simp only [e1, e2, zJ] at hx
   subst hx
   exact ⟨l, hl', hv⟩
  ·simp at hx
theorem nn_own {x : Bool} {sk : Nat} {cs : List T} (h : ¬ (x && cs.isEmpty) = true) : ¬ (nilOk true x sk = true /\ cs = []) := by
 intro hc
 simp only [nilOk, if_true, Bool.and_eq_true] at hc
 exact h (by rw [hc.1.1, hc.2]; rfl)
theorem nn_sh {x : Bool} {sk : Nat} {cs : List T} (h : ¬ (sk == 1 && cs.isEmpty) = true) : ¬ (nilOk false x sk = true /\ cs = []) := by
 intro hc
 simp only [nilOk, Bool.false_eq_true, if_false] at hc
 exact h (by rw [hc.1, hc.2]; rfl)
theorem Den.nn {own x : Bool} {e sk : Nat} {ts : List T} {v : AV} {ls : List Nat} (h : Den H F v (.sl own x e sk ts) ls) (hn : ¬ (nilOk own x sk = true /\ ts = [])) :
    ∃ l o n cs, v = .sl l o n e (!own && x) /\ 0 < e /\ cs.length = n * e /\ l < H.sz /\
      ((own = true /\ o = 0 /\ (H.get l).st = .own /\ ¬ F l /\ (∃ rest, (H.get l).cells = cs ++ rest /\ rest.length = sk * e) /\ ∃ l1, ls = l :: l1 /\ Dens H F cs ts l1) \/
       (own = false /\ (H.get l).st ≠ .dead /\ F l /\ (∃ pre rest, (H.get l).cells = pre ++ cs ++ rest /\ pre.length = o) /\ ls = [] /\ Dens H F cs ts [])) := by
  rw [Den] at h
  rcases h with ⟨h1, h2, _⟩ | h
  · exact absurd ⟨h1, h2⟩ hn
  · exact h
theorem sl_ok (h : Sta H F env V Lf) {x : Opd} {a : Sl} (hx : slOf V x = some a) :
  match a with
  | .own r p e cs => ∃ l n, Loc H env V r p l cs /\ x.ev env = .sl l 0 n e false /\ cs.length = n * e /\ 0 < e
  | .sh y e cs => ∃ l o n avs, x.ev env = .sl l o n e y /\ l < H.sz /\ (H.get l).st ≠ .dead /\ F l /\ (∃ pre rest, (H.get l).cells = pre ++ avs ++ rest /\ pre.length = o) /\ Dens H F avs cs [] /\ cs.length = n * e /\ 0 < e := by
 cases x with
 | c a => simp [slOf] at hx
 | t s =>
  simp only [slOf] at hx
  have hsr := h.sr s
  split at hx
  ·rename_i y e sk cs hs
   split at hx
   ·simp at hx
   rename_i hne
   simp only [zJ] at hx; subst hx
   obtain ⟨l, o, n, avs, hv, he, hn, hl, hd⟩ := (h.den hs).nn (nn_own hne)
   rcases hd with ⟨_, h3, h4, h5, h6, l1, h7, h8⟩ | ⟨h1, _⟩
   ·subst h3
    exact ⟨l, n, ⟨_, hs, by simp only [T.node, T.kids]; rw [if_neg hne], by simp only [plc, hv, AV.place]; simp⟩, hv, by rw [<- h8.length]; exact hn, he⟩
   ·cases h1
  ·rename_i y e sk cs hs
   split at hx
   ·simp at hx
   rename_i hne
   simp only [zJ] at hx; subst hx
   obtain ⟨l, o, n, avs, hv, he, hn, hl, hd⟩ := (h.den hs).nn (nn_sh hne)
   rcases hd with ⟨h1, _⟩ | ⟨_, h2, h3, h4, _, h6⟩
   ·cases h1
   ·exact ⟨l, o, n, avs, hv, hl, h2, h3, h4, h6, by rw [<- h6.length]; exact hn, he⟩
  ·rename_i r hs
   rw [hs] at hsr
   split at hx
   ·rename_i y e sk cs hr
    split at hx
    ·simp at hx
    rename_i hne
    simp only [zJ] at hx; subst hx
    obtain ⟨l, o, n, avs, hv, he, hn, hl, hd⟩ := (h.den hr).nn (nn_own hne)
    rcases hd with ⟨_, h3, h4, h5, h6, l1, h7, h8⟩ | ⟨h1, _⟩
    ·subst h3
     refine ⟨l, n, ⟨_, hr, by simp only [T.node, T.kids]; rw [if_neg hne], by simp only [plc, hv, AV.place]; simp⟩, hsr.2.1.trans hv, by rw [<- h8.length]; exact hn, he⟩
    ·cases h1
   ·simp at hx
  ·rename_i r p k hs
   rw [hs] at hsr
   obtain ⟨_, l, cs, hl, hkn, hv⟩ := hsr
   have hl' := hl
   obtain ⟨t0, e1, e2, e3⟩ := hl
   simp only [e1, e2] at hx
   split at hx
   ·rename_i y e sk cs' hk
    split at hx
    ·simp at hx
    rename_i hne
    simp only [zJ] at hx; subst hx
    obtain ⟨ls, hd, _⟩ := rng_den h hl' hkn hv (u := .sl true y e sk cs') (by unfold rng; rw [if_pos hkn]; simpa using hk)
    simp only [Bool.false_eq_true, if_false] at hv
    obtain ⟨l2, o, n, avs, hv2, he, hn, hlt, hd⟩ := hd.nn (nn_own hne)
    rcases hd with ⟨_, h3, h4, h5, h6, l1, h7, h8⟩ | ⟨h1, _⟩
    ·subst h3
     refine ⟨l2, n, ⟨t0, e1, node_snoc p e2 hk (by simp only [T.kids]; rw [if_neg hne]), ?_⟩, hv2, by rw [<- h8.length]; exact hn, he⟩
     rw [plc_snoc p e3, <- hv.2, hv2]; simp [AV.place]
    ·cases h1
   ·simp at hx
  ·simp at hx
def lendC (V : VEnv) : List Cap -> Option (List T × List Nat)
 | [] => some ([], [])
 | .t t :: cs => (lendC V cs).map fun (ts, rs) => (t :: ts, rs)
 | .a r p k :: cs => match V.get r with
  | .v t => match t.node p with
   | some xs => if k <= xs.length then (lendC V cs).map fun (ts, rs) => (.ptr false (frzs (xs.drop k)) :: ts, r :: rs) else none
   | none => none
  | _ => none
def lend (V : VEnv) : Opd -> Option (T × List Nat)
 | .c a => (T.ofAV a).map (·, [])
 | .t s => match V.get s with
  | .v t => some (t.frz, if t.plain then [] else [s])
  | .al r => match V.get r with
   | .v t => some (t.frz, if t.plain then [] else [r])
   | _ => none
  | .ref r p k n ag => match V.get r with
   | .v t => match t.node p with
    | some cs => (rng cs k n ag).map fun u => (u.frz, if u.plain then [] else [r])
    | none => none
   | _ => none
  | .adr r p k => (lendC V [.a r p k]).bind fun (ts, rs) => match ts with
   | [t] => some (t, rs)
   | _ => none
  | .clo f cs => (lendC V cs).map fun (ts, rs) => (.fn f ts, rs)
def Lent (F : Nat -> Prop) (Lf : Nat -> List Nat) (rs : List Nat) : Nat -> Prop := fun l => F l \/ ∃ r ∈ rs, l ∈ Lf r
theorem lendC_ok (h : Sta H F env V Lf) {G : Nat -> Prop} : ∀ {cs : List Cap} {vs : List AV} {ts : List T} {rs : List Nat}, CapsR H F env V vs cs -> lendC V cs = some (ts, rs) -> (∀ l, Lent F Lf rs l -> G l) -> Dens H G vs ts []
 | [], vs, ts, rs, hv, hl, hG => by
  simp only [lendC, zJ, zP] at hl
  obtain ⟨rfl, rfl⟩ := hl
  rw [Dens]; exact ⟨hv, rfl⟩
 | .t t :: cs, vs, ts, rs, hv, hl, hG => by
  obtain ⟨v, vs', rfl, h1, h2⟩ := hv
  simp only [lendC] at hl
  obtain ⟨⟨ts', rs'⟩, h3, hl⟩ := zM hl
  simp only [zP] at hl
  obtain ⟨rfl, rfl⟩ := hl
  rw [Dens]
  exact ⟨v, vs', [], [], rfl, rfl, Den.agree ⟨Nat.le_refl _, fun l hl => ⟨rfl, hG l (.inl hl)⟩, by simp⟩ h1, lendC_ok h h2 h3 hG⟩
 | .a r p k :: cs, vs, ts, rs, hv, hl, hG => by
  obtain ⟨v, vs', rfl, ⟨l, xs, hloc, rfl⟩, h2⟩ := hv
  obtain ⟨t0, e1, e2, e3⟩ := id hloc
  simp only [lendC, e1, e2] at hl
  split at hl
  ·rename_i hk
   obtain ⟨⟨ts', rs'⟩, h3, hl⟩ := zM hl
   simp only [zP] at hl
   obtain ⟨rfl, rfl⟩ := hl
   rw [Dens]
   refine ⟨.ptr l k, vs', [], [], rfl, rfl, ?_, lendC_ok h h2 h3 fun l hl => hG l ?_⟩
   ·obtain ⟨avs, rest, lc, g1, g2, g3, g4, g5, g6, g7⟩ := h.node hloc
    have hx : xs = xs.take k ++ xs.drop k := (List.take_append_drop k xs).symm
    rw [hx] at g6
    obtain ⟨a1, a2, m1, m2, rfl, rfl, d1, d2⟩ := g6.split
    have hl1 : a1.length = k := by rw [d1.length]; simp; omega
    rw [Den]
    exact ⟨l, k, a2, rfl, g1, .inr ⟨rfl, by rw [g2]; simp, hG l (.inr ⟨r, by simp, g5⟩), ⟨a1, rest, g4, hl1⟩, rfl, Dens.frz (fun l hl => hG l (.inl hl)) (fun l hl => hG l (.inr ⟨r, by simp, g7 l (by simp [hl])⟩)) d2⟩⟩
   ·rcases hl with hl | ⟨q, hq, hl⟩
    ·exact .inl hl
    ·exact .inr ⟨q, by simp [hq], hl⟩
  ·simp at hl
theorem lend_ok (h : Sta H F env V Lf) {G : Nat -> Prop} {x : Opd} {t : T} {rs : List Nat} (hx : lend V x = some (t, rs)) (hG : ∀ l, Lent F Lf rs l -> G l) : Den H G (x.ev env) t [] := by
 have fz : ∀ {v : AV} {u : T} {ls : List Nat} {r : Nat}, Den H F v u ls -> (∀ l ∈ ls, l ∈ Lf r) -> (∀ l, Lent F Lf (if u.plain then [] else [r]) l -> G l) -> Den H G v u.frz [] := by
  intro v u ls r hd hr hg
  refine Den.frz (fun l hl => hg l (.inl hl)) (fun l hl => ?_) hd
  by_cases hp : u.plain = true
  ·rw [Den.plain hp hd] at hl; simp at hl
  ·exact hg l (.inr ⟨r, by rw [if_neg hp]; simp, hr l hl⟩)
 cases x with
 | c a =>
  simp only [lend] at hx
  obtain ⟨u, hu, hx⟩ := zM hx
  simp only [zP] at hx
  obtain ⟨rfl, rfl⟩ := hx
  exact Den.agree ⟨Nat.le_refl _, fun l hl => ⟨rfl, hG l (.inl hl)⟩, by simp⟩ (ofAV_den hu).1
 | t s =>
  simp only [lend] at hx
  have hsr := h.sr s
  split at hx
  ·rename_i u hs
   simp only [zJ, zP] at hx
   obtain ⟨rfl, rfl⟩ := hx
   exact fz (h.den hs) (fun l hl => hl) hG
  ·rename_i r hs
   rw [hs] at hsr
   split at hx
   ·rename_i u hr
    simp only [zJ, zP] at hx
    obtain ⟨rfl, rfl⟩ := hx
    have := h.den hr
    rw [<- hsr.2.1] at this
    exact fz this (fun l hl => hl) hG
   ·simp at hx
  ·rename_i r p k n ag hs
   rw [hs] at hsr
   obtain ⟨_, l, cs, hl, hkn, hv⟩ := hsr
   have hl' := hl
   obtain ⟨t0, e1, e2, e3⟩ := hl
   simp only [e1, e2] at hx
   obtain ⟨u, hu, hx⟩ := zM hx
   simp only [zP] at hx
   obtain ⟨rfl, rfl⟩ := hx
   obtain ⟨ls, h1, h2⟩ := rng_den h hl' hkn hv hu
   exact fz h1 h2 hG
  ·rename_i r p k hs
   rw [hs] at hsr
   obtain ⟨_, l, cs, hl, hv⟩ := hsr
   obtain ⟨⟨ts, rs'⟩, h1, hx⟩ := Option.bind_eq_some_iff.1 hx
   simp only at hx
   split at hx
   ·simp only [zJ, zP] at hx
    obtain ⟨rfl, rfl⟩ := hx
    have := lendC_ok h (cs := [.a r p k]) (vs := [.ptr l k]) ⟨_, [], rfl, ⟨l, cs, hl, rfl⟩, rfl⟩ h1 hG
    have h3 := dens_one.1 this
    rw [Opd.ev, hv]; exact h3
   ·simp at hx
  ·rename_i f cs hs
   rw [hs] at hsr
   obtain ⟨_, vs, hv, hc⟩ := hsr
   obtain ⟨⟨ts, rs'⟩, h1, hx⟩ := zM hx
   simp only [zP] at hx
   obtain ⟨rfl, rfl⟩ := hx
   rw [Opd.ev, hv, Den]
   exact ⟨vs, rfl, rfl, lendC_ok h hc h1 hG⟩
end
section
inductive RV where
 | v (t : T)
 | s (x : S)
def ofAVs : List AV -> Option (List T)
 | [] => some []
 | a :: az => match T.ofAV a, ofAVs az with
  | some t, some ts => some (t :: ts)
  | _, _ => none
def mvV (ks : List Nat) (V : VEnv) : Opd -> Option (RV × VEnv)
 | .c a => (T.ofAV a).map fun t => (.v t, V)
 | .t s => match V.get s with
  | .v t => if t.plain then some (.v t, V) else if ks.contains s then some (.v t, V.drop s) else some (.s (.al s), V)
  | .al r => match V.get r with
   | .v t => if t.plain then some (.v t, V) else some (.s (.al r), V)
   | _ => none
  | x => some (.s x, V)
def takesV (V : VEnv) : List Opd -> Option (List T × VEnv)
 | [] => some ([], V)
 | x :: xs => match takeV V x with
  | some (t, V1) => match takesV V1 xs with
   | some (ts, V2) => some (t :: ts, V2)
   | none => none
  | none => none
def spliceT (cs : List T) (o : Nat) (vs : List T) : List T := cs.take o ++ (vs ++ cs.drop (o + vs.length))
def layV (V : VEnv) : List T -> List (Nat × Nat × Opd) -> Option (List T × VEnv)
 | cs, [] => some (cs, V)
 | cs, (o, n, x) :: ps => match takeV V x with
  | some (t, V1) => if t.cells.length = n /\ o + n <= cs.length /\ t.cells.all T.one = true then layV V1 (spliceT cs o t.cells) ps else none
  | none => none
def capsV (V : VEnv) : List Opd -> Option (List Cap)
 | [] => some []
 | x :: xs => match adrOf V x, capsV V xs with
  | some (.own r p k _), some cs => some (.a r p k :: cs)
  | some (.sh ts), some cs => some (.t (.ptr false ts) :: cs)
  | _, _ => none
def capTs : List Cap -> Option (List T)
 | [] => some []
 | .t t :: cs => (capTs cs).map (t :: ·)
 | .a .. :: _ => none
def layT (cs : List T) (k n : Nat) (c : List T) : List T := cs.take k ++ (c ++ cs.drop (k + n))
def opV (ks : List Nat) (V : VEnv) : COp -> Option (RV × VEnv)
  | .mv x => mvV ks V x
  | .pick c a b => match sca V c with
    | .bool true => mvV ks V a
    | .bool false => mvV ks V b
    | _ => none
  | .len x => match see V x with
    | some .nils => some (.v (.int .i64 0), V)
    | some (.sl _ _ e _ cs) => some (.v (.int .i64 (cs.length / e : Nat)), V)
    | _ => none
  | .cap x => match see V x with
    | some .nils => some (.v (.int .i64 0), V)
    | some (.sl false true e _ cs) => some (.v (.int .i64 (cs.length / e : Nat)), V)
    | _ => none
  | .isnil ng x => match see V x with
    | some .nils => some (.v (.bool !ng), V)
    | some (.sl o y _ sk cs) => if nilOk o y sk && cs.isEmpty then none else some (.v (.bool ng), V)
    | _ => none
  | .eqs ng ks x y => match see V x, see V y with
    | some (.agg a), some (.agg b) => (eqCells ks (a.map T.av) (b.map T.av)).map fun r => (.v (.bool (if ng then !r else r)), V)
    | _, _ => none
  | .ld n ag p => match adrOf V p with
    | some (.own r q k cs) => match rng cs k n ag with
      | some u => if u.plain then some (.v u, V) else some (.s (.ref r q k n ag), V)
      | none => none
    | some (.sh cs) => match rng cs 0 n ag with
      | some u => some (.v u, V)
      | none => none
    | none => none
  | .st n p x => match takeV V x with
    | some (t, V1) => if t.cells.length = n /\ t.cells.all T.one = true then match adrOf V1 p with
      | some (.own r q k cs) => if k + n <= cs.length then match V1.get r with
        | .v t0 => some (.v .und, (cut r q V1).set r (.v (T.setNode (layT cs k n t.cells) t0 q)))
        | _ => none
        else none
      | _ => none
      else none
    | none => none
  | .al zs => (ofAVs zs).map fun ts => (.v (.ptr true ts), V)
  | .box n x => match takeV V x with
    | some (t, V1) => if t.cells.length = n /\ t.cells.all T.one = true then some (.v (.ptr true t.cells), V1) else none
    | none => none
  | .fa o x => match adrOf V x with
    | some (.own r q k cs) => some (.s (.adr r q (k + o)), V)
    | some (.sh cs) => if o <= cs.length then some (.v (.ptr false (cs.drop o)), V) else none
    | none => none
  | .nc x => match adrOf V x with
    | some (.own r q k cs) => some (.s (.adr r q k), V)
    | some (.sh cs) => some (.v (.ptr false cs), V)
    | none => none
  | .ia e x i => match sca V i with
    | .int _ j => match slOf V x with
      | some (.own r q e' cs) => if e = e' /\ 0 <= j /\ j < (cs.length / e : Nat) then some (.s (.adr r q (j.toNat * e)), V) else none
      | some (.sh _ e' cs) => if e = e' /\ 0 <= j /\ j < (cs.length / e : Nat) then some (.v (.ptr false (cs.drop (j.toNat * e))), V) else none
      | none => none
    | _ => none
  | .fn f xs => match capsV V xs with
    | some cs => match capTs cs with
      | some ts => some (.v (.fn f ts), V)
      | none => some (.s (.clo f cs), V)
    | none => none
  | .bld zs ps => match ofAVs zs with
    | some ts => (layV V ts ps).map fun (cs, V1) => (.v (.agg cs), V1)
    | none => none
  | .bsl e n zs ps => match ofAVs zs with
    | some ts => if n * e <= 16777216 /\ zs.length = e /\ 0 < e then (layV V (List.replicate n ts).flatten ps).map fun (cs, V1) => (.v (.sl true false e 0 cs), V1) else none
    | none => none
  | .mk e bs zs l c => match sca V l, sca V c, ofAVs zs with
    | .int .i64 a, .int .i64 b, some ts => if 0 <= a /\ a <= b /\ bs * b <= 281474976710656 /\ b <= 9223372036854775807 /\ zs.length = e /\ 0 < e then
        some (.v (.sl true false e (b.toNat - a.toNat) (List.replicate a.toNat ts).flatten), V) else none
    | _, _, _ => none
  | c => match scaOp (sca V) c with
    | some r => (T.ofAV r).map fun t => (.v t, V)
    | none => none
variable {H H' : Heap} {F F' : Nat -> Prop} {env env' : Env} {V V' : VEnv} {Lf : Nat -> List Nat} {v : AV} {ls : List Nat}
def Pl (Lf : Nat -> List Nat) : Nat -> Prop := fun l => ∃ s, l ∈ Lf s
structure Tr (H : Heap) (F P : Nat -> Prop) (H' : Heap) (F' P' : Nat -> Prop) : Prop where
 sz : H.sz <= H'.sz
 fr : ∀ l, l < H.sz -> ¬ P l -> H'.get l = H.get l
 pl : ∀ l, P' l -> P l \/ H.sz <= l
 fm : ∀ l, F l -> F' l
 fp : ∀ l, F' l -> F l \/ P l \/ H.sz <= l
theorem Tr.refl (H : Heap) (F P : Nat -> Prop) : Tr H F P H F P := ⟨Nat.le_refl _, fun _ _ _ => rfl, fun _ h => .inl h, fun _ h => h, fun _ h => .inl h⟩
theorem Tr.trans {H1 H2 H3 : Heap} {F1 F2 F3 P1 P2 P3 : Nat -> Prop} (h : Tr H1 F1 P1 H2 F2 P2) (h' : Tr H2 F2 P2 H3 F3 P3) : Tr H1 F1 P1 H3 F3 P3 := by
 refine ⟨Nat.le_trans h.sz h'.sz, fun l hl hp => ?_, fun l hl => ?_, fun l hl => h'.fm l (h.fm l hl), fun l hl => ?_⟩
 ·rw [h'.fr l (Nat.lt_of_lt_of_le hl h.sz) (fun hp2 => (h.pl l hp2).elim hp (by omega)), h.fr l hl hp]
 ·rcases h'.pl l hl with h1 | h1
  ·exact h.pl l h1
  ·exact .inr (Nat.le_trans h.sz h1)
 ·rcases h'.fp l hl with h1 | h1 | h1
  ·exact h.fp l h1
  ·rcases h.pl l h1 with h2 | h2
   ·exact .inr (.inl h2)
   ·exact .inr (.inr h2)
  ·exact .inr (.inr (Nat.le_trans h.sz h1))
theorem Tr.less {P P' : Nat -> Prop} (h : ∀ l, P' l -> P l) : Tr H F P H F P' := ⟨Nat.le_refl _, fun _ _ _ => rfl, fun l hl => .inl (h l hl), fun _ h => h, fun _ h => .inl h⟩
def Out (H : Heap) (F : Nat -> Prop) (env : Env) (Lf : Nat -> List Nat) (V' : VEnv) (c : COp) (r : RV) : Prop :=
 ∃ v H1 Lf1 ls, heapOp env H c = some (v, H1) /\ Sta H1 F env V' Lf1 /\ Tr H F (Pl Lf) H1 F (fun l => Pl Lf1 l \/ l ∈ ls) /\
  match r with
  | .v t => Lo H1 F Lf1 [v] [t] ls
  | .s x => SR H1 F env V' v [] x
theorem Lo.nil : Lo H F Lf [] [] [] := ⟨by rw [Dens]; exact ⟨rfl, rfl⟩, List.nodup_nil, by simp⟩
theorem Lo.plain {t : T} (h : Den H F v t []) : Lo H F Lf [v] [t] [] := ⟨dens_one.2 h, List.nodup_nil, by simp⟩
theorem Out.plain {c : COp} {t : T} (h : Sta H F env V Lf) (h1 : heapOp env H c = some (v, H)) (h2 : Den H F v t []) : Out H F env Lf V c (.v t) :=
 ⟨v, H, Lf, [], h1, h, ⟨Nat.le_refl _, fun _ _ _ => rfl, fun l hl => hl.elim .inl (by simp), fun _ h => h, fun _ h => .inl h⟩, Lo.plain h2⟩
theorem Out.alias {c : COp} {x : S} (h : Sta H F env V Lf) (h1 : heapOp env H c = some (v, H)) (h2 : SR H F env V v [] x) : Out H F env Lf V c (.s x) :=
 ⟨v, H, Lf, [], h1, h, ⟨Nat.le_refl _, fun _ _ _ => rfl, fun l hl => hl.elim .inl (by simp), fun _ h => h, fun _ h => .inl h⟩, h2⟩
theorem takes_ok : ∀ {xs : List Opd} {V : VEnv} {Lf : Nat -> List Nat} {ts : List T} {avs0 : List AV} {ts0 : List T} {ls : List Nat} {V' : VEnv}, Sta H F env V Lf -> Lo H F Lf avs0 ts0 ls -> takesV V xs = some (ts, V') ->
  ∃ l1 Lf', Took H F env V' Lf Lf' (avs0 ++ xs.map (Opd.ev env)) (ts0 ++ ts) (ls ++ l1) /\ ∀ l ∈ l1, ∃ s, l ∈ Lf s
 | [], V, Lf, ts, avs0, ts0, ls, V', h, hl, hx => by
  simp only [takesV, zJ, zP] at hx
  obtain ⟨rfl, rfl⟩ := hx
  exact ⟨[], Lf, ⟨h, by simpa using hl, fun _ _ h => h⟩, by simp⟩
 | x :: xs, V, Lf, ts, avs0, ts0, ls, V', h, hl, hx => by
  simp only [takesV] at hx
  split at hx
  ·rename_i t V1 h1
   split at hx
   ·rename_i ts' V2 h2
    simp only [zJ, zP] at hx
    obtain ⟨rfl, rfl⟩ := hx
    obtain ⟨l1, Lf1, k1, p1⟩ := take_ok h hl h1
    obtain ⟨l2, Lf2, k2, p2⟩ := takes_ok k1.st k1.lo h2
    refine ⟨l1 ++ l2, Lf2, ⟨k2.st, by simpa using k2.lo, fun s l hl => k1.sub s l (k2.sub s l hl)⟩, fun l hl => ?_⟩
    rcases List.mem_append.1 hl with hl | hl
    ·exact p1 l hl
    ·obtain ⟨s, hs⟩ := p2 l hl; exact ⟨s, k1.sub s l hs⟩
   ·simp at hx
  ·simp at hx
theorem mv_ok {ks : List Nat} {x : Opd} {r : RV} {c : COp} (h : Sta H F env V Lf) (hc : heapOp env H c = some (x.ev env, H)) (hx : mvV ks V x = some (r, V')) : Out H F env Lf V' c r := by
 cases x with
 | c a =>
  simp only [mvV] at hx
  obtain ⟨u, hu, hx⟩ := zM hx
  simp only [zP] at hx
  obtain ⟨rfl, rfl⟩ := hx
  exact Out.plain h hc (ofAV_den hu).1
 | t s =>
  simp only [mvV] at hx
  have hsr := h.sr s
  split at hx
  ·rename_i u hs
   split at hx
   ·rename_i hp
    simp only [zJ, zP] at hx
    obtain ⟨rfl, rfl⟩ := hx
    have hd := h.den hs
    rw [Den.plain hp hd] at hd
    exact Out.plain h hc hd
   ·rename_i hp
    split at hx
    ·simp only [zJ, zP] at hx
     obtain ⟨rfl, rfl⟩ := hx
     obtain ⟨l1, Lf', k1, p1⟩ := take_ok (x := .t s) (t := u) (V' := V.drop s) h Lo.nil (by simp only [takeV, hs]; rw [if_neg hp])
     refine ⟨_, H, Lf', l1, hc, k1.st, ⟨Nat.le_refl _, fun _ _ _ => rfl, fun l hl => .inl ?_, fun _ h => h, fun _ h => .inl h⟩, by simpa using k1.lo⟩
     rcases hl with ⟨s, hl⟩ | hl
     ·exact ⟨s, k1.sub s l hl⟩
     ·exact p1 l hl
    ·simp only [zJ, zP] at hx
     obtain ⟨rfl, rfl⟩ := hx
     exact Out.alias h hc ⟨rfl, rfl, u, hs⟩
  ·rename_i r' hs
   rw [hs] at hsr
   split at hx
   ·rename_i u hr
    split at hx
    ·rename_i hp
     simp only [zJ, zP] at hx
     obtain ⟨rfl, rfl⟩ := hx
     have hd := h.den hr
     rw [Den.plain hp hd, <- hsr.2.1] at hd
     exact Out.plain h hc hd
    ·simp only [zJ, zP] at hx
     obtain ⟨rfl, rfl⟩ := hx
     exact Out.alias h hc ⟨rfl, hsr.2.1, u, hr⟩
   ·simp at hx
  ·rename_i x h1 h2
   simp only [zJ, zP] at hx
   obtain ⟨rfl, rfl⟩ := hx
   have := hsr.alias (fun t e => h1 t e)
   rw [this] at hsr
   exact Out.alias h hc hsr
theorem ofAVs_ok : ∀ {zs : List AV} {ts : List T}, ofAVs zs = some ts -> Dens H F zs ts [] /\ plains ts = true
 | [], ts, h => by
  simp only [ofAVs, zJ] at h; subst h
  exact ⟨by rw [Dens]; exact ⟨rfl, rfl⟩, rfl⟩
 | z :: zs, ts, h => by
  simp only [ofAVs] at h
  split at h
  ·rename_i t ts' h1 h2
   simp only [zJ] at h; subst h
   obtain ⟨a1, a2⟩ := ofAV_den (H := H) (F := F) h1
   obtain ⟨b1, b2⟩ := ofAVs_ok h2
   exact ⟨by rw [Dens]; exact ⟨z, zs, [], [], rfl, rfl, a1, b1⟩, by simp [plains, a2, b2]⟩
  ·simp at h
theorem Den.cells {t : T} (h : Den H F v t ls) (ho : t.cells.all T.one = true) : Dens H F v.cells t.cells ls /\ v.cells.all AV.one = true := by
 have one : ∀ {u : T} {w : AV} {l : List Nat}, Den H F w u l -> u.one = true -> w.one = true := by
  intro u w l hd hu
  cases u with
  | und => simp [T.one] at hu
  | agg => simp [T.one] at hu
  | tup => simp [T.one] at hu
  | int => rw [Den] at hd; rw [hd.1]; rfl
  | bool => rw [Den] at hd; rw [hd.1]; rfl
  | str => rw [Den] at hd; rw [hd.1]; rfl
  | nilp => rw [Den] at hd; rw [hd.1]; rfl
  | nils => rw [Den] at hd; rw [hd.1]; rfl
  | nilf => rw [Den] at hd; rw [hd.1]; rfl
  | sl => rw [Den] at hd; rcases hd with ⟨_, _, rfl | ⟨_, _, rfl⟩, _⟩ | ⟨_, _, _, _, rfl, _⟩ <;> rfl
  | ptr => rw [Den] at hd; obtain ⟨_, _, _, rfl, _⟩ := hd; rfl
  | fn => rw [Den] at hd; obtain ⟨_, rfl, _⟩ := hd; rfl
  | slo => rw [Den] at hd; rcases hd with ⟨_, rfl | ⟨_, _, rfl⟩, _⟩ | ⟨_, _, _, _, _, _, rfl, _⟩ <;> rfl
  | «at» a t => rw [Den] at hd; rw [hd.1]; exact hu
 have ones : ∀ {us : List T} {ws : List AV} {l : List Nat}, Dens H F ws us l -> us.all T.one = true -> ws.all AV.one = true := by
  intro us
  induction us with
  | nil => intro ws l hd _; rw [Dens] at hd; simp [hd.1]
  | cons u us ih =>
   intro ws l hd hu
   rw [Dens] at hd
   obtain ⟨c, cs', l1, l2, rfl, rfl, h1, h2⟩ := hd
   simp only [List.all_cons, Bool.and_eq_true] at hu ⊢
   exact ⟨one h1 hu.1, ih h2 hu.2⟩
 have nonagg : ∀ {u : T} {w : AV} {l : List Nat}, Den H F w u l -> u.one = true -> w.cells = [w] := by
  intro u w l hd hu
  have := one hd hu
  cases w <;> first | rfl | simp [AV.one] at this
 cases t with
 | agg cs =>
  rw [Den] at h
  obtain ⟨avs, rfl, h⟩ := h
  exact ⟨h, ones h ho⟩
 | tup cs => simp [T.cells, T.one] at ho
 | und => simp [T.cells, T.one] at ho
 | _ =>
  simp only [T.cells, List.all_cons, List.all_nil, Bool.and_true] at ho
  rw [nonagg h ho]
  exact ⟨dens_one.2 h, by simpa using one h ho⟩
theorem alloc_ok {Lf' : Nat -> List Nat} {cs : List AV} {ts : List T} {l1 : List Nat} (h : Took H F env V' Lf Lf' cs ts l1) (hp : ∀ l ∈ l1, ∃ s, l ∈ Lf s) :
  Sta (H.new cs) F env V' Lf' /\ Dens (H.new cs) F cs ts l1 /\ H.sz < (H.new cs).sz /\ (H.new cs).get H.sz = ⟨cs, .own⟩ /\ ¬ F H.sz /\ (H.sz :: l1).Nodup /\ (∀ s l, l ∈ H.sz :: l1 -> l ∉ Lf' s) /\
   Tr H F (Pl Lf) (H.new cs) F (fun l => Pl Lf' l \/ l ∈ H.sz :: l1) := by
 have hget : ∀ l, l < H.sz -> (H.new cs).get l = H.get l := fun l hl => by simp [Heap.new, Nat.ne_of_lt hl]
 have hFs : ¬ F H.sz := fun hf => Nat.lt_irrefl _ (h.st.fz _ hf).1
 have hown : ∀ s l, l ∈ Lf' s -> l < H.sz /\ ¬ F l := by
  intro s l hl
  have hsr := h.st.sr s
  cases hx : V'.get s with
  | v t => rw [hx] at hsr; have := Den.owned hsr l hl; exact ⟨this.1, this.2.2⟩
  | al | ref | adr | clo => rw [hx] at hsr; have := hsr.1; rw [this] at hl; simp at hl
 have hlo := h.lo.den.owned
 refine ⟨h.st.heap (fun s => ⟨by simp [Heap.new], fun l hl => ⟨hget l (h.st.fz l hl).1, hl⟩, fun l hl => ⟨hget l (hown s l hl).1, (hown s l hl).2⟩⟩) (fun l hl => ?_), ?_, by simp [Heap.new], by simp [Heap.new], hFs, ?_, ?_, ?_⟩
 ·rw [hget l (h.st.fz l hl).1]
  exact ⟨by simp [Heap.new]; exact Nat.lt_succ_of_lt (h.st.fz l hl).1, (h.st.fz l hl).2⟩
 ·exact h.lo.den.agree ⟨by simp [Heap.new], fun l hl => ⟨hget l (h.st.fz l hl).1, hl⟩, fun l hl => ⟨hget l (hlo l hl).1, (hlo l hl).2.2⟩⟩
 ·exact List.nodup_cons.2 ⟨fun hm => Nat.lt_irrefl _ (hlo _ hm).1, h.lo.nd⟩
 ·intro s l hl hl'
  rcases List.mem_cons.1 hl with rfl | hl
  ·exact Nat.lt_irrefl _ (hown s _ hl').1
  ·exact h.lo.dj s l hl hl'
 ·refine ⟨by simp [Heap.new], fun l hl _ => hget l hl, fun l hl => ?_, fun _ h => h, fun _ h => .inl h⟩
  rcases hl with ⟨s, hl⟩ | hl
  ·exact .inl ⟨s, h.sub s l hl⟩
  ·rcases List.mem_cons.1 hl with rfl | hl
   ·exact .inr (Nat.le_refl _)
   ·exact .inl (hp l hl)
theorem Took.nil (h : Sta H F env V Lf) {zs : List AV} {ts : List T} (hz : Dens H F zs ts []) : Took H F env V Lf Lf zs ts [] := ⟨h, ⟨hz, List.nodup_nil, by simp⟩, fun _ _ h => h⟩
end
section
variable {H H' : Heap} {F F' : Nat -> Prop} {env env' : Env} {V V' : VEnv} {Lf : Nat -> List Nat} {v : AV} {ls : List Nat} {ks : List Nat} {r : RV}
theorem sca_ev (h : Sta H F env V Lf) {x : Opd} {a : AV} (hx : sca V x = a) (ha : a ≠ .und) : x.ev env = a := by
 rcases sca_ok h x with e | e
 ·rw [hx] at e; exact absurd e ha
 ·rw [<- e, hx]
theorem pick_ok {c a b : Opd} (h : Sta H F env V Lf) (hx : opV ks V (.pick c a b) = some (r, V')) : Out H F env Lf V' (.pick c a b) r := by
 simp only [opV] at hx
 split at hx
 ·rename_i hc
  have := sca_ev h hc (by simp)
  exact mv_ok h (by simp only [heapOp, pureOp, this]; rfl) hx |>.elim fun v ho => ⟨v, ho⟩
 ·rename_i hc
  have := sca_ev h hc (by simp)
  exact mv_ok h (by simp only [heapOp, pureOp, this]; rfl) hx |>.elim fun v ho => ⟨v, ho⟩
 ·simp at hx
theorem sl_count {e : Nat} {o' y : Bool} {sk : Nat} {cs : List T} {w : AV} (hd : Den H F w (.sl o' y e sk cs) ls) : (nilOk o' y sk = true /\ cs = [] /\ EmptyS w e) \/ ∃ l o, w = .sl l o (cs.length / e) e (!o' && y) /\ 0 < e := by
 rw [Den] at hd
 rcases hd with ⟨h1, h2, h3, _⟩ | ⟨l, o, n, avs, rfl, he, hn, hl, hd⟩
 ·exact .inl ⟨h1, h2, h3⟩
 have hlen : cs.length = n * e := by
  rcases hd with ⟨_, _, _, _, _, l1, _, h8⟩ | ⟨_, _, _, _, _, h6⟩
  ·rw [<- h8.length]; exact hn
  ·rw [<- h6.length]; exact hn
 exact .inr ⟨l, o, by rw [hlen, Nat.mul_div_cancel _ he], he⟩
theorem len_ok {x : Opd} (h : Sta H F env V Lf) (hx : opV ks V (.len x) = some (r, V')) : Out H F env Lf V' (.len x) r := by
 simp only [opV] at hx
 split at hx
 ·rename_i hs
  simp only [zJ, zP] at hx
  obtain ⟨rfl, rfl⟩ := hx
  obtain ⟨ls, hd⟩ := see_ok h hs
  rw [Den] at hd
  refine Out.plain h (v := .i 0) (by simp only [heapOp, pureOp, hd.1]; rfl) ?_
  rw [Den]; exact ⟨rfl, rfl⟩
 ·rename_i o y e sk cs hs
  simp only [zJ, zP] at hx
  obtain ⟨rfl, rfl⟩ := hx
  obtain ⟨ls, hd⟩ := see_ok h hs
  rcases sl_count hd with ⟨_, rfl, hw | ⟨l, o, hw⟩⟩ | ⟨l, o, hw, _⟩
  ·refine Out.plain h (v := .i 0) (by simp only [heapOp, pureOp, hw]; rfl) ?_
   rw [Den]; exact ⟨by simp, rfl⟩
  ·refine Out.plain h (v := .i 0) (by simp only [heapOp, pureOp, hw]; rfl) ?_
   rw [Den]; exact ⟨by simp, rfl⟩
  refine Out.plain h (v := .i (cs.length / e : Nat)) (by simp only [heapOp, pureOp, hw]; rfl) ?_
  rw [Den]; exact ⟨rfl, rfl⟩
 ·simp at hx
theorem cap_ok {x : Opd} (h : Sta H F env V Lf) (hx : opV ks V (.cap x) = some (r, V')) : Out H F env Lf V' (.cap x) r := by
 simp only [opV] at hx
 split at hx
 ·rename_i hs
  simp only [zJ, zP] at hx
  obtain ⟨rfl, rfl⟩ := hx
  obtain ⟨ls, hd⟩ := see_ok h hs
  rw [Den] at hd
  refine Out.plain h (v := .i 0) (by simp only [heapOp, pureOp, hd.1]; rfl) ?_
  rw [Den]; exact ⟨rfl, rfl⟩
 ·rename_i e sk cs hs
  simp only [zJ, zP] at hx
  obtain ⟨rfl, rfl⟩ := hx
  obtain ⟨ls, hd⟩ := see_ok h hs
  rcases sl_count hd with ⟨_, rfl, hw | ⟨l, o, hw⟩⟩ | ⟨l, o, hw, _⟩
  ·refine Out.plain h (v := .i 0) (by simp only [heapOp, pureOp, hw]; rfl) ?_
   rw [Den]; exact ⟨by simp, rfl⟩
  ·refine Out.plain h (v := .i 0) (by simp only [heapOp, pureOp, hw]; rfl) ?_
   rw [Den]; exact ⟨by simp, rfl⟩
  refine Out.plain h (v := .i (cs.length / e : Nat)) (by simp only [heapOp, pureOp, hw]; rfl) ?_
  rw [Den]; exact ⟨rfl, rfl⟩
 ·simp at hx
theorem av_den {c : AV} {t : T} {ls : List Nat} (h : Den H F c t ls) : t.av = .und \/ c = t.av := by
 cases t with
 | int k n => rw [Den] at h; exact .inr h.1
 | bool b => rw [Den] at h; exact .inr h.1
 | str s => rw [Den] at h; exact .inr h.1
 | tup cs => cases cs with
  | nil =>
   rw [Den] at h
   obtain ⟨cs, hv, h2⟩ := h
   rw [Dens] at h2
   rw [h2.1] at hv
   exact .inr hv
  | cons => exact .inl rfl
 | _ => exact .inl rfl
theorem eqCells_den : ∀ {ks : List Nat} {a b : List T} {cs ds : List AV} {l1 l2 : List Nat} {r : Bool}, eqCells ks (a.map T.av) (b.map T.av) = some r -> Dens H F cs a l1 -> Dens H F ds b l2 -> eqCells ks cs ds = some r
 | ks, [], [], cs, ds, l1, l2, r, he, h1, h2 => by
  rw [Dens] at h1 h2
  rw [h1.1, h2.1]; exact he
 | ks, [], u :: b, cs, ds, l1, l2, r, he, h1, h2 => by
  cases ks <;> simp [eqCells] at he
 | ks, t :: a, [], cs, ds, l1, l2, r, he, h1, h2 => by
  rw [List.map_cons, List.map_nil] at he
  unfold eqCells at he
  split at he <;> simp_all
 | ks, t :: a, u :: b, cs, ds, l1, l2, r, he, h1, h2 => by
  rw [Dens] at h1 h2
  obtain ⟨c, cs', m1, m2, rfl, rfl, g1, g2⟩ := h1
  obtain ⟨e, ds', n1, n2, rfl, rfl, k1, k2⟩ := h2
  rw [List.map_cons, List.map_cons] at he
  have hc := av_den g1
  have hd := av_den k1
  revert he hc hd
  generalize t.av = x
  generalize u.av = y
  intro he hc hd
  have ih := fun ks r (h : eqCells ks (a.map T.av) (b.map T.av) = some r) => eqCells_den h g2 k2
  unfold eqCells at he
  split at he
  ·rename_i q1 q2 q3
   cases q2
  ·rename_i k' n xs k'' n' ys q1 q2
   obtain ⟨rfl, rfl⟩ := List.cons.inj q1
   obtain ⟨rfl, rfl⟩ := List.cons.inj q2
   rcases hc with hc | rfl
   ·cases hc
   rcases hd with hd | rfl
   ·cases hd
   split at he
   ·rename_i hk
    obtain ⟨r', g, rfl⟩ := zM he
    rw [eqCells, if_pos hk, ih _ _ g]; rfl
   ·cases he
  ·rename_i n xs n' ys q1 q2
   obtain ⟨rfl, rfl⟩ := List.cons.inj q1
   obtain ⟨rfl, rfl⟩ := List.cons.inj q2
   rcases hc with hc | rfl
   ·cases hc
   rcases hd with hd | rfl
   ·cases hd
   obtain ⟨r', g, rfl⟩ := zM he
   rw [eqCells, ih _ _ g]; rfl
  ·rename_i n xs n' ys q1 q2
   obtain ⟨rfl, rfl⟩ := List.cons.inj q1
   obtain ⟨rfl, rfl⟩ := List.cons.inj q2
   rcases hc with hc | rfl
   ·cases hc
   rcases hd with hd | rfl
   ·cases hd
   obtain ⟨r', g, rfl⟩ := zM he
   rw [eqCells, ih _ _ g]; rfl
  ·cases he
theorem eqs_ok {ng : Bool} {ks' : List Nat} {x y : Opd} (h : Sta H F env V Lf) (hx : opV ks V (.eqs ng ks' x y) = some (r, V')) : Out H F env Lf V' (.eqs ng ks' x y) r := by
 simp only [opV] at hx
 split at hx
 ·rename_i a b h1 h2
  obtain ⟨r', g1, g2⟩ := zM hx
  simp only [zP] at g2
  obtain ⟨rfl, rfl⟩ := g2
  obtain ⟨l1, d1⟩ := see_ok h h1
  obtain ⟨l2, d2⟩ := see_ok h h2
  rw [Den] at d1 d2
  obtain ⟨cs, e1, d1⟩ := d1
  obtain ⟨ds, e2, d2⟩ := d2
  refine Out.plain h (v := .bool (if ng then !r' else r')) (by simp only [heapOp, pureOp, e1, e2, eqCells_den g1 d1 d2]; rfl) ?_
  rw [Den]; exact ⟨rfl, rfl⟩
 ·cases hx
theorem isnil_ok {ng : Bool} {x : Opd} (h : Sta H F env V Lf) (hx : opV ks V (.isnil ng x) = some (r, V')) : Out H F env Lf V' (.isnil ng x) r := by
 simp only [opV] at hx
 split at hx
 ·rename_i hs
  simp only [zJ, zP] at hx
  obtain ⟨rfl, rfl⟩ := hx
  obtain ⟨ls, hd⟩ := see_ok h hs
  rw [Den] at hd
  refine Out.plain h (v := .bool !ng) (by simp only [heapOp, pureOp, hd.1]; rfl) ?_
  rw [Den]; exact ⟨rfl, rfl⟩
 ·rename_i o y e sk cs hs
  split at hx
  ·simp at hx
  rename_i hne
  simp only [zJ, zP] at hx
  obtain ⟨rfl, rfl⟩ := hx
  obtain ⟨ls, hd⟩ := see_ok h hs
  rcases sl_count hd with ⟨g1, rfl, _⟩ | ⟨l, o, hw, _⟩
  ·rw [g1] at hne; simp at hne
  refine Out.plain h (v := .bool ng) (by simp only [heapOp, pureOp, hw]; rfl) ?_
  rw [Den]; exact ⟨rfl, rfl⟩
 ·simp at hx
theorem ld_val {l k n : Nat} {ag : Bool} {p : Opd} {avs pre rest : List AV} (he : p.ev env = .ptr l k) (hl : l < H.sz) (hst : (H.get l).st ≠ .dead) (hc : (H.get l).cells = pre ++ avs ++ rest) (hpre : pre.length = k) (hn : n = avs.length) (hag : ag = true \/ n = 1) :
  ∃ v, heapOp env H (.ld n ag p) = some (v, H) /\ if ag then v = .agg avs else v = avs.getD 0 .und := by
 have hrd : H.rd l k n = some avs := by
  unfold Heap.rd
  rw [if_pos ⟨hst, hl, by rw [hc]; simp; omega⟩, hc, List.append_assoc, <- hpre, List.drop_left, hn, List.take_left]
 simp only [heapOp, he, hrd, Option.bind_some]
 cases ag with
 | true => exact ⟨_, rfl, rfl⟩
 | false =>
  rcases hag with h | h
  ·cases h
  ·match avs, hn, h with
   | [v], _, _ => exact ⟨v, rfl, rfl⟩
   | [], hn, h => simp at hn; omega
   | _ :: _ :: _, hn, h => simp at hn; omega
theorem rng_split {cs : List T} {k n : Nat} {ag : Bool} {u : T} (hu : rng cs k n ag = some u) : k + n <= cs.length /\ (ag = true \/ n = 1) /\ if ag then u = .agg ((cs.drop k).take n) else (cs.drop k).take n = [u] := by
 unfold rng at hu
 split at hu
 ·rename_i hkn
  split at hu
  ·rename_i hag
   simp only [zJ] at hu
   exact ⟨hkn, .inl hag, by rw [if_pos hag]; exact hu.symm⟩
  ·rename_i hag
   split at hu
   ·rename_i h1
    subst h1
    obtain ⟨hlt, he⟩ := zS hu
    refine ⟨hkn, .inr rfl, ?_⟩
    rw [if_neg hag, List.drop_eq_getElem_cons hlt, he]; rfl
   ·simp at hu
 ·simp at hu
theorem dens_mid {cs : List T} {avs : List AV} {k n : Nat} (h : Dens H F avs cs ls) (hkn : k + n <= cs.length) :
  ∃ a1 a2 a3 m1 m2 m3, avs = a1 ++ (a2 ++ a3) /\ ls = m1 ++ (m2 ++ m3) /\ a1.length = k /\ a2.length = n /\ Dens H F a1 (cs.take k) m1 /\ Dens H F a2 ((cs.drop k).take n) m2 /\ Dens H F a3 (cs.drop (k + n)) m3 := by
 have hcs : cs = cs.take k ++ ((cs.drop k).take n ++ cs.drop (k + n)) := by
  rw [<- List.drop_drop, List.take_append_drop, List.take_append_drop]
 rw [hcs] at h
 obtain ⟨a1, a23, m1, m23, rfl, rfl, d1, d23⟩ := h.split
 obtain ⟨a2, a3, m2, m3, rfl, rfl, d2, d3⟩ := d23.split
 exact ⟨a1, a2, a3, m1, m2, m3, rfl, rfl, by rw [d1.length]; simp; omega, by rw [d2.length]; simp; omega, d1, d2, d3⟩
theorem ld_ok {n : Nat} {ag : Bool} {p : Opd} (h : Sta H F env V Lf) (hx : opV ks V (.ld n ag p) = some (r, V')) : Out H F env Lf V' (.ld n ag p) r := by
 simp only [opV] at hx
 split at hx
 ·rename_i q p' k cs ha
  obtain ⟨l, hl, he⟩ := adr_ok h ha
  split at hx
  ·rename_i u hu
   obtain ⟨hkn, hag, hu'⟩ := rng_split hu
   obtain ⟨avs, rest, lc, g1, g2, g3, g4, g5, g6, g7⟩ := h.node hl
   obtain ⟨a1, a2, a3, m1, m2, m3, rfl, rfl, l1, l2, d1, d2, d3⟩ := dens_mid g6 hkn
   obtain ⟨v, hv, hv'⟩ := ld_val (ag := ag) he g1 (by rw [g2]; simp) (by rw [g4]; simp only [List.append_assoc]) l1 l2.symm hag (avs := a2) (rest := a3 ++ rest) (pre := a1)
   have hcond : if ag then v = .agg (((H.get l).cells.drop k).take n) else n = 1 /\ v = (H.get l).cells.getD k .und := by
    have hcell : (H.get l).cells.drop k = a2 ++ (a3 ++ rest) := by
     rw [g4]; simp only [List.append_assoc]; rw [<- l1, List.drop_left]
    cases ag with
    | true =>
     simp only [if_true] at hv' ⊢
     rw [hv', hcell, <- l2, List.take_left]
    | false =>
     simp only [Bool.false_eq_true, if_false] at hv' ⊢
     refine ⟨hag.resolve_left (by simp), ?_⟩
     rw [hv', zD, zD, <- Nat.add_zero k, <- List.getElem?_drop, hcell, List.getElem?_append_left (by rw [l2, hag.resolve_left (by simp)]; exact Nat.zero_lt_one)]
   split at hx
   ·rename_i hp
    simp only [zJ, zP] at hx
    obtain ⟨rfl, rfl⟩ := hx
    obtain ⟨ls, hd, _⟩ := rng_den h hl hkn hcond hu
    rw [Den.plain hp hd] at hd
    exact Out.plain h hv hd
   ·simp only [zJ, zP] at hx
    obtain ⟨rfl, rfl⟩ := hx
    exact Out.alias h hv ⟨rfl, l, cs, hl, hkn, hcond⟩
  ·simp at hx
 ·rename_i cs ha
  obtain ⟨l, o, avs, he, g1, g2, g3, ⟨pre, rest, g4, g5⟩, g6⟩ := adr_ok h ha
  split at hx
  ·rename_i u hu
   simp only [zJ, zP] at hx
   obtain ⟨rfl, rfl⟩ := hx
   obtain ⟨hkn, hag, hu'⟩ := rng_split hu
   obtain ⟨a1, a2, a3, m1, m2, m3, rfl, hm, l1, l2, d1, d2, d3⟩ := dens_mid g6 hkn
   have ha1 : a1 = [] := List.eq_nil_of_length_eq_zero l1
   subst ha1
   have hm2 : m2 = [] := by
    have := congrArg List.length hm; simp at this
    exact List.eq_nil_of_length_eq_zero (by omega)
   subst hm2
   obtain ⟨v, hv, hv'⟩ := ld_val (ag := ag) he g1 g2 (by rw [g4]; simp only [List.append_assoc, List.nil_append]) g5 l2.symm hag (avs := a2) (rest := a3 ++ rest) (pre := pre)
   refine Out.plain h hv ?_
   rw [List.drop_zero] at hu' d2
   cases ag with
   | true =>
    simp only [if_true] at hu' hv'
    rw [hu', hv', Den]
    exact ⟨a2, rfl, d2⟩
   | false =>
    simp only [Bool.false_eq_true, if_false] at hu' hv'
    rw [hu'] at d2
    match a2, hv', d2 with
    | [c], hv', d2 => rw [hv']; exact dens_one.1 d2
    | [], _, d2 => have := d2.length; simp at this
    | _ :: _ :: _, _, d2 => have := d2.length; simp at this
  ·simp at hx
 ·simp at hx
theorem splice_mid {pre a1 a2 a3 us rest : List AV} {k : Nat} (hk : a1.length = k) (hu : us.length = a2.length) : splice (a1 ++ (a2 ++ a3) ++ rest) k us = a1 ++ (us ++ a3) ++ rest := by
 unfold splice
 subst hk
 simp only [List.append_assoc]
 rw [List.take_left, <- List.drop_drop, List.drop_left, hu, List.drop_left]
theorem st_ok {n : Nat} {p x : Opd} (h : Sta H F env V Lf) (hx : opV ks V (.st n p x) = some (r, V')) : Out H F env Lf V' (.st n p x) r := by
 simp only [opV] at hx
 split at hx
 ·rename_i t V1 ht
  split at hx
  ·rename_i hc
   split at hx
   ·rename_i q p' k cs ha
    split at hx
    ·rename_i hkn
     split at hx
     ·rename_i t0 ht0
      simp only [zJ, zP, layT] at hx
      obtain ⟨rfl, rfl⟩ := hx
      obtain ⟨l1, Lf1, k1, p1⟩ := take_ok h Lo.nil ht
      obtain ⟨l, hl, he⟩ := adr_ok k1.st ha
      have hl' := hl
      obtain ⟨t0', e1, e2, e3⟩ := hl
      rw [ht0] at e1
      simp only [S.v.injEq] at e1
      subst e1
      obtain ⟨avs, rest, A, lc, B, g2, g3, g4, g5, g6, g7, g8⟩ := k1.st.chg ht0 e2 e3
      obtain ⟨a1, a2, a3, m1, m2, m3, rfl, rfl, c1, c2, d1, d2, d3⟩ := dens_mid g7 hkn
      have hlo := k1.lo
      simp only [List.nil_append] at hlo
      obtain ⟨hvc, hvo⟩ := Den.cells (dens_one.1 hlo.den) hc.2
      have hvl : (x.ev env).cells.length = n := by rw [hvc.length]; exact hc.1
      -- the heap
      have hwr : H.wr l k (x.ev env).cells = some (H.put l (a1 ++ ((x.ev env).cells ++ a3) ++ rest)) := by
       unfold Heap.wr
       rw [if_pos ⟨g3, g2, by rw [g5, hvl]; simp; omega, hvo⟩, g5, splice_mid (pre := []) c1 (by omega)]
      have hop : heapOp env H (.st n p x) = some (.und, H.put l (a1 ++ ((x.ev env).cells ++ a3) ++ rest)) := by
       simp only [heapOp, he, hvl, if_true, hwr, Option.map_some]
      have hoth : ∀ k', k' ≠ l -> (H.put l (a1 ++ ((x.ev env).cells ++ a3) ++ rest)).get k' = H.get k' := fun k' hk' => by simp [Heap.put, hk']
      have hl1 : ∀ k' ∈ l1, k' ≠ l := fun k' hk' e => by
       subst e
       exact hlo.dj q k' hk' (by rw [g6]; simp)
      have hmem : ∀ k' ∈ m1 ++ (m2 ++ m3), k' ∈ Lf1 q := fun k' hk' => by rw [g6]; simp at hk' ⊢; grind
      have hne : ∀ k' ∈ m1 ++ (m2 ++ m3), k' ≠ l := by
       intro k' hk' e
       subst e
       have := k1.st.nd q
       rw [g6] at this
       simp only [List.append_assoc, List.cons_append, List.nodup_append, List.nodup_cons, List.mem_append, List.mem_cons] at this hk'
       grind
      have hag : ∀ ls', (∀ k' ∈ ls', k' ≠ l /\ ¬ F k') -> Agree H (H.put l (a1 ++ ((x.ev env).cells ++ a3) ++ rest)) F F ls' := fun ls' hls' =>
       ⟨Nat.le_refl _, fun k' hk' => ⟨hoth k' (fun e => by subst e; exact g4 hk'), hk'⟩, fun k' hk' => ⟨hoth k' (hls' k' hk').1, (hls' k' hk').2⟩⟩
      have own1 : ∀ {us : List T} {ws : List AV} {m : List Nat}, Dens H F ws us m -> (∀ k' ∈ m, k' ≠ l) -> Agree H (H.put l (a1 ++ ((x.ev env).cells ++ a3) ++ rest)) F F m := fun hd hm => hag _ fun k' hk' => ⟨hm k' hk', (hd.owned k' hk').2.2⟩
      have hnew : Dens (H.put l (a1 ++ ((x.ev env).cells ++ a3) ++ rest)) F (a1 ++ ((x.ev env).cells ++ a3)) (cs.take k ++ (t.cells ++ cs.drop (k + n))) (m1 ++ (l1 ++ m3)) :=
       (d1.agree (own1 d1 fun k' hk' => hne k' (by simp [hk']))).append ((hvc.agree (own1 hvc hl1)).append (d3.agree (own1 d3 fun k' hk' => hne k' (by simp [hk']))))
      have hnd := k1.st.nd q
      rw [g6] at hnd
      have hdj := hlo.dj q
      rw [g6] at hdj
      have hnd' : (A ++ (l :: (m1 ++ (l1 ++ m3))) ++ B).Nodup := by
       have h3 := hlo.nd
       simp only [List.append_assoc, List.cons_append, List.nodup_append, List.nodup_cons, List.mem_append, List.mem_cons] at hnd hdj ⊢
       grind
      have hsta := g8 (H.put l (a1 ++ ((x.ev env).cells ++ a3) ++ rest)) (a1 ++ ((x.ev env).cells ++ a3)) (cs.take k ++ (t.cells ++ cs.drop (k + n))) (m1 ++ (l1 ++ m3)) (Nat.le_refl _) hoth (by simp [Heap.put]) (by simp [Heap.put]) (by simp; omega) hnew hnd' (by
       intro s hs k' hk' hk''
       rcases List.mem_append.1 hk' with hk' | hk'
       ·exact hs (k1.st.dj _ _ _ hk'' (hmem k' (by simp [hk'])))
       ·rcases List.mem_append.1 hk' with hk' | hk'
        ·exact hlo.dj s k' hk' hk''
        ·exact hs (k1.st.dj _ _ _ hk'' (hmem k' (by simp [hk']))))
      refine ⟨.und, _, _, [], hop, hsta, ⟨Nat.le_refl _, fun k' hk' hp' => hoth k' fun e => hp' ?_, fun k' hk' => .inl ?_, fun _ h => h, fun _ h => .inl h⟩, Lo.plain (by rw [Den])⟩
      ·subst e; exact ⟨q, k1.sub q k' (by rw [g6]; simp)⟩
      ·rcases hk' with ⟨s, hk'⟩ | hk'
       ·unfold upL at hk'
        split at hk'
        ·rename_i hqs; subst hqs
         have : k' ∈ l1 \/ k' ∈ Lf1 q := by
          rw [g6]; simp only [List.mem_append, List.mem_cons] at hk' ⊢; grind
         rcases this with h4 | h4
         ·exact p1 k' h4
         ·exact ⟨q, k1.sub q k' h4⟩
        ·exact ⟨s, k1.sub s k' hk'⟩
       ·simp at hk'
     ·simp at hx
    ·simp at hx
   ·simp at hx
  ·simp at hx
 ·simp at hx
theorem al_ok {zs : List AV} (h : Sta H F env V Lf) (hx : opV ks V (.al zs) = some (r, V')) : Out H F env Lf V' (.al zs) r := by
 simp only [opV] at hx
 obtain ⟨ts, hts, hx⟩ := zM hx
 simp only [zP] at hx
 obtain ⟨rfl, rfl⟩ := hx
 obtain ⟨hd, hp⟩ := ofAVs_ok (H := H) (F := F) hts
 obtain ⟨a1, a2, a3, a4, a5, a6, a7, a8⟩ := alloc_ok (Took.nil h hd) (by simp)
 refine ⟨.ptr H.sz 0, H.new zs, Lf, [H.sz], rfl, a1, a8, dens_one.2 ?_, a6, a7⟩
 rw [Den]
 exact ⟨H.sz, 0, zs, rfl, a3, .inl ⟨rfl, rfl, by rw [a4], a5, by rw [a4], [], rfl, a2⟩⟩
theorem box_ok {n : Nat} {x : Opd} (h : Sta H F env V Lf) (hx : opV ks V (.box n x) = some (r, V')) : Out H F env Lf V' (.box n x) r := by
 simp only [opV] at hx
 split at hx
 ·rename_i t V1 ht
  split at hx
  ·rename_i hc
   simp only [zJ, zP] at hx
   obtain ⟨rfl, rfl⟩ := hx
   obtain ⟨l1, Lf1, k1, p1⟩ := take_ok h Lo.nil ht
   have hlo := k1.lo
   simp only [List.nil_append] at hlo
   obtain ⟨hvc, hvo⟩ := Den.cells (dens_one.1 hlo.den) hc.2
   have hvl : (x.ev env).cells.length = n := by rw [hvc.length]; exact hc.1
   obtain ⟨a1, a2, a3, a4, a5, a6, a7, a8⟩ := alloc_ok (Took.mk k1.st ⟨hvc, hlo.nd, hlo.dj⟩ k1.sub) p1
   refine ⟨.ptr H.sz 0, H.new (x.ev env).cells, Lf1, H.sz :: l1, ?_, a1, a8, dens_one.2 ?_, a6, a7⟩
   ·simp only [heapOp, allocOp, if_pos (And.intro hvl hvo), Option.map_some]
   ·rw [Den]
    exact ⟨H.sz, 0, _, rfl, a3, .inl ⟨rfl, rfl, by rw [a4], a5, by rw [a4], l1, rfl, a2⟩⟩
  ·simp at hx
 ·simp at hx
theorem fa_ok {o : Nat} {x : Opd} (h : Sta H F env V Lf) (hx : opV ks V (.fa o x) = some (r, V')) : Out H F env Lf V' (.fa o x) r := by
 simp only [opV] at hx
 split at hx
 ·rename_i q p k cs ha
  simp only [zJ, zP] at hx
  obtain ⟨rfl, rfl⟩ := hx
  obtain ⟨l, hl, he⟩ := adr_ok h ha
  exact Out.alias h (v := .ptr l (k + o)) (by simp only [heapOp, pureOp, he]; rfl) ⟨rfl, l, cs, hl, rfl⟩
 ·rename_i cs ha
  split at hx
  ·rename_i ho
   simp only [zJ, zP] at hx
   obtain ⟨rfl, rfl⟩ := hx
   obtain ⟨l, k, avs, he, g1, g2, g3, ⟨pre, rest, g4, g5⟩, g6⟩ := adr_ok h ha
   refine Out.plain h (v := .ptr l (k + o)) (by simp only [heapOp, pureOp, he]; rfl) ?_
   obtain ⟨a1, a2, a3, m1, m2, m3, rfl, hm, l1, l2, d1, d2, d3⟩ := dens_mid g6 (k := o) (n := 0) (by omega)
   have ha2 : a2 = [] := List.eq_nil_of_length_eq_zero l2
   subst ha2
   have hm3 : m3 = [] := by
    have := congrArg List.length hm; simp at this
    exact List.eq_nil_of_length_eq_zero (by omega)
   subst hm3
   rw [Den]
   exact ⟨l, k + o, a3, rfl, g1, .inr ⟨rfl, g2, g3, ⟨pre ++ a1, rest, by rw [g4]; simp, by simp; omega⟩, rfl, d3⟩⟩
  ·simp at hx
 ·simp at hx
theorem nc_ok {x : Opd} (h : Sta H F env V Lf) (hx : opV ks V (.nc x) = some (r, V')) : Out H F env Lf V' (.nc x) r := by
 simp only [opV] at hx
 split at hx
 ·rename_i q p k cs ha
  simp only [zJ, zP] at hx
  obtain ⟨rfl, rfl⟩ := hx
  obtain ⟨l, hl, he⟩ := adr_ok h ha
  exact Out.alias h (v := .ptr l k) (by simp only [heapOp, pureOp, he]; rfl) ⟨rfl, l, cs, hl, rfl⟩
 ·rename_i cs ha
  simp only [zJ, zP] at hx
  obtain ⟨rfl, rfl⟩ := hx
  obtain ⟨l, k, avs, he, g1, g2, g3, g4, g6⟩ := adr_ok h ha
  refine Out.plain h (v := .ptr l k) (by simp only [heapOp, pureOp, he]; rfl) ?_
  rw [Den]
  exact ⟨l, k, avs, rfl, g1, .inr ⟨rfl, g2, g3, g4, rfl, g6⟩⟩
 ·simp at hx
theorem ia_ok {e : Nat} {x i : Opd} (h : Sta H F env V Lf) (hx : opV ks V (.ia e x i) = some (r, V')) : Out H F env Lf V' (.ia e x i) r := by
 simp only [opV] at hx
 split at hx
 ·rename_i kk j hj
  have hi := sca_ev h hj (by simp)
  split at hx
  ·rename_i q p e' cs ha
   split at hx
   ·rename_i hb
    simp only [zJ, zP] at hx
    obtain ⟨rfl, rfl⟩ := hx
    obtain ⟨rfl, h0, hlt⟩ := hb
    obtain ⟨l, n, hl, he, hn, hpos⟩ := sl_ok h ha
    rw [hn, Nat.mul_div_cancel _ hpos] at hlt
    refine Out.alias h (v := .ptr l (0 + j.toNat * e)) (by simp only [heapOp, pureOp, he, hi]; rw [if_pos ⟨trivial, h0, hlt⟩]; rfl) ⟨rfl, l, cs, hl, by simp⟩
   ·simp at hx
  ·rename_i y e' cs ha
   split at hx
   ·rename_i hb
    simp only [zJ, zP] at hx
    obtain ⟨rfl, rfl⟩ := hx
    obtain ⟨rfl, h0, hlt⟩ := hb
    obtain ⟨l, o, n, avs, he, g1, g2, g3, ⟨pre, rest, g4, g5⟩, g6, hn, hpos⟩ := sl_ok h ha
    rw [hn, Nat.mul_div_cancel _ hpos] at hlt
    refine Out.plain h (v := .ptr l (o + j.toNat * e)) (by simp only [heapOp, pureOp, he, hi]; rw [if_pos ⟨trivial, h0, hlt⟩]; rfl) ?_
    have hle : j.toNat * e + 0 <= cs.length := by
     rw [hn, Nat.add_zero]; exact Nat.mul_le_mul_right e (by omega)
    obtain ⟨a1, a2, a3, m1, m2, m3, rfl, hm, l1, l2, d1, d2, d3⟩ := dens_mid g6 hle
    have ha2 : a2 = [] := List.eq_nil_of_length_eq_zero l2
    subst ha2
    have hm3 : m3 = [] := by
     have := congrArg List.length hm; simp at this
     exact List.eq_nil_of_length_eq_zero (by omega)
    subst hm3
    rw [Den]
    exact ⟨l, o + j.toNat * e, a3, rfl, g1, .inr ⟨rfl, g2, g3, ⟨pre ++ a1, rest, by rw [g4]; simp, by simp; omega⟩, rfl, d3⟩⟩
   ·simp at hx
  ·simp at hx
 ·simp at hx
end
section
variable {H H' : Heap} {F F' : Nat -> Prop} {env env' : Env} {V V' : VEnv} {Lf : Nat -> List Nat} {v : AV} {ls : List Nat} {ks : List Nat} {r : RV}
theorem capsV_ok (h : Sta H F env V Lf) : ∀ {xs : List Opd} {cs : List Cap}, capsV V xs = some cs -> CapsR H F env V (xs.map (Opd.ev env)) cs
 | [], cs, hx => by
  simp only [capsV, zJ] at hx; subst hx; rfl
 | x :: xs, cs, hx => by
  simp only [capsV] at hx
  split at hx
  ·rename_i q p k cs0 cs' ha hc
   simp only [zJ] at hx; subst hx
   obtain ⟨l, hl, he⟩ := adr_ok h ha
   exact ⟨_, _, rfl, ⟨l, cs0, hl, he⟩, capsV_ok h hc⟩
  ·rename_i ts cs' ha hc
   simp only [zJ] at hx; subst hx
   obtain ⟨l, k, avs, he, g1, g2, g3, g4, g6⟩ := adr_ok h ha
   refine ⟨_, _, rfl, ?_, capsV_ok h hc⟩
   show Den H F _ (.ptr false ts) []
   rw [Den]
   exact ⟨l, k, avs, he, g1, .inr ⟨rfl, g2, g3, g4, rfl, g6⟩⟩
  ·simp at hx
theorem capTs_ok : ∀ {cs : List Cap} {ts : List T} {vs : List AV}, capTs cs = some ts -> CapsR H F env V vs cs -> Dens H F vs ts []
 | [], ts, vs, hx, hv => by
  simp only [capTs, zJ] at hx; subst hx
  rw [Dens]; exact ⟨hv, rfl⟩
 | .t t :: cs, ts, vs, hx, hv => by
  simp only [capTs] at hx
  obtain ⟨ts', h1, rfl⟩ := zM hx
  obtain ⟨v, vs', rfl, h2, h3⟩ := hv
  rw [Dens]
  exact ⟨v, vs', [], [], rfl, rfl, h2, capTs_ok h1 h3⟩
 | .a .. :: cs, ts, vs, hx, hv => by simp [capTs] at hx
theorem fn_ok {f : Nat} {xs : List Opd} (h : Sta H F env V Lf) (hx : opV ks V (.fn f xs) = some (r, V')) : Out H F env Lf V' (.fn f xs) r := by
 simp only [opV] at hx
 split at hx
 ·rename_i cs hc
  have hcs := capsV_ok h hc
  split at hx
  ·rename_i ts ht
   simp only [zJ, zP] at hx
   obtain ⟨rfl, rfl⟩ := hx
   refine Out.plain h (v := .fn f (xs.map (Opd.ev env))) rfl ?_
   rw [Den]
   exact ⟨_, rfl, rfl, capTs_ok ht hcs⟩
  ·simp only [zJ, zP] at hx
   obtain ⟨rfl, rfl⟩ := hx
   exact Out.alias h (v := .fn f (xs.map (Opd.ev env))) rfl ⟨rfl, _, rfl, hcs⟩
 ·simp at hx
theorem lay_ok' : ∀ {ps : List (Nat × Nat × Opd)} {V : VEnv} {Lf : Nat -> List Nat} {cs cs' : List T} {avs : List AV} {ls : List Nat} {V' : VEnv}, Sta H F env V Lf -> Lo H F Lf avs cs ls -> layV V cs ps = some (cs', V') ->
  ∃ avs' l1 Lf', layAll env avs ps = some avs' /\ Took H F env V' Lf Lf' avs' cs' l1 /\ ∀ l ∈ l1, l ∈ ls \/ ∃ s, l ∈ Lf s
 | [], V, Lf, cs, cs', avs, ls, V', h, hl, hx => by
  simp only [layV, zJ, zP] at hx
  obtain ⟨rfl, rfl⟩ := hx
  exact ⟨avs, ls, Lf, rfl, ⟨h, hl, fun _ _ h => h⟩, fun l hl => .inl hl⟩
 | (o, n, x) :: ps, V, Lf, cs, cs', avs, ls, V', h, hl, hx => by
  simp only [layV] at hx
  split at hx
  ·rename_i t V1 ht
   split at hx
   ·rename_i hc
    obtain ⟨hc1, hc2, hc3⟩ := hc
    obtain ⟨l1, Lf1, k1, p1⟩ := take_ok h hl ht
    -- the loose cells' parts, and the taken value
    have hlo := k1.lo
    have hden := hlo.den
    obtain ⟨b1, b2, n1, n2, hb, hn, e1, e2⟩ := hden.split
    have hbl : b1.length = avs.length := by rw [e1.length, hl.den.length]
    obtain ⟨rfl, rfl⟩ := List.append_inj hb hbl.symm
    have e2' := dens_one.1 e2
    obtain ⟨hvc, hvo⟩ := Den.cells e2' hc3
    obtain ⟨a1, a2, a3, m1, m2, m3, rfl, rfl, c1, c2, d1, d2, d3⟩ := dens_mid e1 hc2
    have hvl : (x.ev env).cells.length = n := by rw [hvc.length]; exact hc1
    have hsp : splice (a1 ++ (a2 ++ a3)) o (x.ev env).cells = a1 ++ ((x.ev env).cells ++ a3) := by
     have := splice_mid (pre := []) (rest := []) (a3 := a3) c1 (show (x.ev env).cells.length = a2.length by omega)
     simpa using this
    have hspT : spliceT cs o t.cells = cs.take o ++ (t.cells ++ cs.drop (o + n)) := by unfold spliceT; rw [hc1]
    have hlo' : Lo H F Lf1 (splice (a1 ++ (a2 ++ a3)) o (x.ev env).cells) (spliceT cs o t.cells) (m1 ++ (n2 ++ m3)) := by
     rw [hsp, hspT]
     have hnd := hlo.nd
     rw [hn] at hnd
     refine ⟨d1.append (hvc.append d3), ?_, fun s l hm => hlo.dj s l ?_⟩
     ·simp only [List.append_assoc, List.nodup_append, List.mem_append] at hnd ⊢
      grind
     ·rw [hn]; simp only [List.mem_append] at hm ⊢; grind
    obtain ⟨avs', l2, Lf2, h1, h2, h3⟩ := lay_ok' k1.st hlo' hx
    refine ⟨avs', l2, Lf2, ?_, ⟨h2.st, h2.lo, fun s l hm => k1.sub s l (h2.sub s l hm)⟩, fun l hm => ?_⟩
    ·simp only [layAll]
     rw [if_pos ⟨hvl, by rw [e1.length]; exact hc2, hvo⟩]
     exact h1
    ·rcases h3 l hm with h4 | ⟨s, h4⟩
     ·have : l ∈ ls ++ l1 := by rw [hn]; simp only [List.mem_append] at h4 ⊢; grind
      rcases List.mem_append.1 this with h5 | h5
      ·exact .inl h5
      ·exact .inr (p1 l h5)
     ·exact .inr ⟨s, k1.sub s l h4⟩
   ·simp at hx
  ·simp at hx
theorem bld_ok {zs : List AV} {ps : List (Nat × Nat × Opd)} (h : Sta H F env V Lf) (hx : opV ks V (.bld zs ps) = some (r, V')) : Out H F env Lf V' (.bld zs ps) r := by
 simp only [opV] at hx
 split at hx
 ·rename_i ts hts
  obtain ⟨⟨cs, V1⟩, hl, hx⟩ := zM hx
  simp only [zP] at hx
  obtain ⟨rfl, rfl⟩ := hx
  obtain ⟨hd, hp⟩ := ofAVs_ok (H := H) (F := F) hts
  obtain ⟨avs', l1, Lf', h1, h2, h3⟩ := lay_ok' h ⟨hd, List.nodup_nil, by simp⟩ hl
  refine ⟨.agg avs', H, Lf', l1, by simp only [heapOp, pureOp, h1]; rfl, h2.st, ⟨Nat.le_refl _, fun _ _ _ => rfl, fun l hm => .inl ?_, fun _ h => h, fun _ h => .inl h⟩, dens_one.2 ?_, h2.lo.nd, h2.lo.dj⟩
  ·rcases hm with ⟨s, hm⟩ | hm
   ·exact ⟨s, h2.sub s l hm⟩
   ·exact (h3 l hm).resolve_left (by simp)
  ·rw [Den]; exact ⟨avs', rfl, h2.lo.den⟩
 ·simp at hx
theorem dens_flat {zs : List AV} {ts : List T} (h : Dens H F zs ts []) : ∀ n, Dens H F (List.replicate n zs).flatten (List.replicate n ts).flatten []
 | 0 => by simp only [List.replicate_zero, List.flatten_nil]; rw [Dens]; exact ⟨rfl, rfl⟩
 | n + 1 => by
  simp only [List.replicate_succ, List.flatten_cons]
  exact h.append (dens_flat h n)
theorem flat_len {α : Type} (zs : List α) : ∀ n, (List.replicate n zs).flatten.length = n * zs.length
 | 0 => by simp
 | n + 1 => by simp only [List.replicate_succ, List.flatten_cons, List.length_append, flat_len zs n]; rw [Nat.succ_mul, Nat.add_comm]
theorem layAll_len : ∀ {ps : List (Nat × Nat × Opd)} {cs cs' : List AV}, layAll env cs ps = some cs' -> cs'.length = cs.length
 | [], cs, cs', h => by simp only [layAll, zJ] at h; rw [h]
 | (o, n, x) :: ps, cs, cs', h => by
  simp only [layAll] at h
  split at h
  ·rename_i hc
   rw [layAll_len h]
   simp only [splice, List.length_append, List.length_take, List.length_drop]
   omega
  ·simp at h
theorem bsl_ok {e n : Nat} {zs : List AV} {ps : List (Nat × Nat × Opd)} (h : Sta H F env V Lf) (hx : opV ks V (.bsl e n zs ps) = some (r, V')) : Out H F env Lf V' (.bsl e n zs ps) r := by
 simp only [opV] at hx
 split at hx
 ·rename_i ts hts
  split at hx
  ·rename_i hc
   obtain ⟨⟨cs, V1⟩, hl, hx⟩ := zM hx
   simp only [zP] at hx
   obtain ⟨rfl, rfl⟩ := hx
   obtain ⟨hd, hp⟩ := ofAVs_ok (H := H) (F := F) hts
   obtain ⟨avs', l1, Lf', h1, h2, h3⟩ := lay_ok' h ⟨dens_flat hd n, List.nodup_nil, by simp⟩ hl
   obtain ⟨a1, a2, a3, a4, a5, a6, a7, a8⟩ := alloc_ok h2 fun l hm => (h3 l hm).resolve_left (by simp)
   refine ⟨.sl H.sz 0 n e false, H.new avs', Lf', H.sz :: l1, ?_, a1, a8, dens_one.2 ?_, a6, a7⟩
   ·simp only [heapOp, allocOp, if_pos hc, h1]; rfl
   ·rw [Den]
    refine .inr ⟨H.sz, 0, n, avs', rfl, hc.2.2, ?_, a3, .inl ⟨rfl, rfl, by rw [a4], a5, ⟨[], by rw [a4]; simp, by simp⟩, l1, rfl, a2⟩⟩
    rw [layAll_len h1, flat_len, hc.2.1]
  ·simp at hx
 ·simp at hx
theorem mk_ok {e bs : Nat} {zs : List AV} {l c : Opd} (h : Sta H F env V Lf) (hx : opV ks V (.mk e bs zs l c) = some (r, V')) : Out H F env Lf V' (.mk e bs zs l c) r := by
 simp only [opV] at hx
 split at hx
 ·rename_i a b ts ha hb hts
  have ha' := sca_ev h ha (by simp)
  have hb' := sca_ev h hb (by simp)
  split at hx
  ·rename_i hc
   simp only [zJ, zP] at hx
   obtain ⟨rfl, rfl⟩ := hx
   obtain ⟨hd, hp⟩ := ofAVs_ok (H := H) (F := F) hts
   obtain ⟨a1, a2, a3, a4, a5, a6, a7, a8⟩ := alloc_ok (Took.nil h (dens_flat hd b.toNat)) (by simp)
   refine ⟨.sl H.sz 0 a.toNat e false, H.new (List.replicate b.toNat zs).flatten, Lf, [H.sz], ?_, a1, a8, dens_one.2 ?_, a6, a7⟩
   ·simp only [heapOp, allocOp, ha', hb', if_pos hc, Option.map_some]
   ·have hab : a.toNat <= b.toNat := by omega
    have hsplit : (List.replicate b.toNat zs).flatten = (List.replicate a.toNat zs).flatten ++ (List.replicate (b.toNat - a.toNat) zs).flatten := by
     rw [<- List.flatten_append, List.replicate_append_replicate, Nat.add_sub_cancel' hab]
    have hsplitT : (List.replicate b.toNat ts).flatten = (List.replicate a.toNat ts).flatten ++ (List.replicate (b.toNat - a.toNat) ts).flatten := by
     rw [<- List.flatten_append, List.replicate_append_replicate, Nat.add_sub_cancel' hab]
    rw [hsplit] at a4
    rw [Den]
    refine .inr ⟨H.sz, 0, a.toNat, (List.replicate a.toNat zs).flatten, rfl, hc.2.2.2.2.2, ?_, a3, .inl ⟨rfl, rfl, by rw [hsplit, a4], a5, ⟨(List.replicate (b.toNat - a.toNat) zs).flatten, by rw [hsplit, a4], ?_⟩, [], rfl, ?_⟩⟩
    ·rw [flat_len, hc.2.2.2.2.1]
    ·rw [flat_len, hc.2.2.2.2.1]
    ·have hd1 := dens_flat hd a.toNat
     have hlt : ∀ k, F k -> (H.new (List.replicate b.toNat zs).flatten).get k = H.get k := fun k hk => by simp [Heap.new, Nat.ne_of_lt (h.fz k hk).1]
     exact hd1.agree ⟨by simp [Heap.new], fun k hk => ⟨hlt k hk, hk⟩, by simp⟩
  ·simp at hx
 ·simp at hx
theorem scaV_ok {c : COp} {a : AV} {t : T} (h : Sta H F env V Lf) (h1 : scaOp (sca V) c = some a) (h2 : T.ofAV a = some t) : Out H F env Lf V c (.v t) :=
 Out.plain h (scaOp_heap (scaOp_mono (sca_ok h) h1)) (ofAV_den h2).1
end
section
def moreV (V : VEnv) (e : Nat) (x : Opd) : Option (List T × VEnv) :=
  match see V x with
  | some .nils => some ([], V)
  | some (.sl _ _ e' _ cs) => if e = e' then if plains cs then some (cs, V) else match takeV V x with
      | some (.sl _ _ e' _ cs', V1) => if e = e' then some (cs', V1) else none
      | _ => none
    else none
  | _ => none
def appV0 (V : VEnv) (e bs : Nat) (s x : Opd) : Option (T × VEnv) :=
  match moreV V e x with
  | some (ys, V1) => match takeV V1 s with
    | some (t, V2) =>
      if ys.length = 0 then (match t with
        | .nils => some (.nils, V2)
        | .sl o y e' sk cs => if e = e' then some (.sl o y e' sk cs, V2) else none
        | _ => none)
      else if e = 0 \/ bs = 0 \/ ys.all T.one = false then none
      else match t with
        | .nils => if (ys.length / e) * bs <= room then some (.sl true false e 0 ys, V2) else none
        | .sl true y e' sk cs => if e = e' /\ (cs.length / e + ys.length / e) * bs <= room then
            if ys.length / e <= sk then some (.sl true y e (sk - ys.length / e) (cs ++ ys), V2) else if sk = 0 then some (.sl true y e 0 (cs ++ ys), V2) else none
          else none
        | .sl false true e' _ cs => if e = e' /\ (cs.length / e + ys.length / e) * bs <= room /\ cs.all T.one = true then some (.sl true false e 0 (cs ++ ys), V2) else none
        | _ => none
    | none => none
  | none => none
def appT (e bs : Nat) (t : T) (ys : List T) : Option T :=
  if ys.length = 0 then (match t with
    | .nils => some .nils
    | .sl o y e' sk cs => if e = e' then some (.sl o y e' sk cs) else none
    | _ => none)
  else if e = 0 \/ bs = 0 \/ ys.all T.one = false then none
  else match t with
    | .nils => if (ys.length / e) * bs <= room then some (.sl true false e 0 ys) else none
    | .sl true y e' sk cs => if e = e' /\ (cs.length / e + ys.length / e) * bs <= room then
        if ys.length / e <= sk then some (.sl true y e (sk - ys.length / e) (cs ++ ys)) else if sk = 0 then some (.sl true y e 0 (cs ++ ys)) else none
      else none
    | .sl false true e' _ cs => if e = e' /\ (cs.length / e + ys.length / e) * bs <= room /\ cs.all T.one = true then some (.sl true false e 0 (cs ++ ys)) else none
    | _ => none
def appV (V : VEnv) (e bs : Nat) (s x : Opd) : Option (T × VEnv) :=
 match moreV V e x with
 | some (ys, V1) => match takeV V1 s with
  | some (t, V2) => (appT e bs t ys).map fun u => (u, V2)
  | none => none
 | none => none
theorem appV_eq (V : VEnv) (e bs : Nat) (s x : Opd) : appV V e bs s x = appV0 V e bs s x := by
 unfold appV appV0
 split
 ·split
  ·unfold appT
   split
   ·split
    ·rfl
    ·split <;> rfl
    ·rfl
   ·split
    ·rfl
    ·split
     ·split <;> rfl
     ·split
      ·split
       ·rfl
       ·split <;> rfl
      ·rfl
     ·split <;> rfl
     ·rfl
  ·rfl
 ·rfl
def tupOf (V : VEnv) : Opd -> Option (Nat × List T)
 | .t s => match V.get s with
  | .v (.tup cs) => some (s, cs)
  | .al r => match V.get r with
   | .v (.tup cs) => some (r, cs)
   | _ => none
  | _ => none
 | _ => none
def exV (V : VEnv) (x : Opd) (i : Nat) : Option (T × VEnv) :=
 match tupOf V x with
 | some (s, cs) => match cs[i]? with
  | some u => if u.plain then some (u, V) else some (u, V.set s (.v (.tup (cs.set i .und))))
  | none => none
 | none => none
def cutT (y : Bool) (e : Nat) (cs : List T) (V : VEnv) (lo hi mx : Option Opd) : Option T :=
 match mx with
 | none => match osca (sca V) (cs.length / e) (cs.length / e) hi with
  | some h => match osca (sca V) h 0 lo with
   | some a => if y = true /\ h ≠ cs.length / e then none else some (.sl false y e 0 ((cs.take (h * e)).drop (a * e)))
   | none => none
  | none => none
 | some m => match bnd (cs.length / e) (sca V m), hi with
  | some m', some h => match bnd m' (sca V h) with
   | some h' => match osca (sca V) h' 0 lo with
    | some a => if m' = h' then some (.sl false true e 0 ((cs.take (h' * e)).drop (a * e))) else none
    | none => none
   | none => none
  | _, _ => none
def T.mayNil : T -> T
 | .sl false y e _ cs => .sl false y e 1 cs
 | t => t
def sliceV (V : VEnv) (e : Nat) (x : Opd) (lo hi mx : Option Opd) : Option T :=
 match see V x with
 | some (.sl false y e' 1 cs) => if e = e' then match mx with
  | none => (cutT y e cs V lo hi none).map T.mayNil
  | some _ => none
  else none
 | some .nils => match osca (sca V) 0 0 hi, osca (sca V) 0 0 lo, mx with
  | some _, some _, none => some .nils
  | _, _, _ => none
 | _ => match slOf V x with
  | some (.sh y e' cs) => if e = e' then cutT y e cs V lo hi mx else none
  | _ => none
variable {H H' : Heap} {F F' : Nat -> Prop} {env env' : Env} {V V' : VEnv} {Lf : Nat -> List Nat} {v : AV} {ls : List Nat} {ks : List Nat} {r : RV}
theorem osca_obnd (h : Sta H F env V Lf) {y n a : Nat} {x : Option Opd} (hx : osca (sca V) y n x = some a) : obnd env y n x = some a := by
 rw [<- osca_ev]; exact osca_mono (sca_ok h) hx
theorem bnd_le2 {y a : Nat} {x : AV} (h : bnd y x = some a) : a <= y := by
 unfold bnd at h
 split at h
 ·split at h
  ·simp only [zJ] at h; omega
  ·simp at h
 ·simp at h
theorem osca_le {ev : Opd -> AV} {y n a : Nat} {x : Option Opd} (h : osca ev y n x = some a) (hn : n <= y) : a <= y := by
 cases x with
 | none => simp only [osca, zJ] at h; omega
 | some x => exact bnd_le2 h
theorem bnd_sca (h : Sta H F env V Lf) {y a : Nat} {x : Opd} (hx : bnd y (sca V x) = some a) : bnd y (x.ev env) = some a := by
 rcases sca_ok h x with e | e
 ·rw [e] at hx; simp [bnd] at hx
 ·rw [<- e]; exact hx
theorem cut_den {l o e n hh a : Nat} {z : Bool} {avs pre rest : List AV} {cs : List T} (hl : l < H.sz) (hst : (H.get l).st ≠ .dead) (hF : F l) (hc : (H.get l).cells = pre ++ avs ++ rest) (hpre : pre.length = o) (hd : Dens H F avs cs [])
  (hn : cs.length = n * e) (he : 0 < e) (hle : hh <= n) (hale : a <= hh) : Den H F (.sl l (o + a * e) (hh - a) e z) (.sl false z e 0 ((cs.take (hh * e)).drop (a * e))) [] := by
 have h1 : a * e <= hh * e := Nat.mul_le_mul_right e hale
 have h2 : hh * e <= n * e := Nat.mul_le_mul_right e hle
 have hmid : (cs.drop (a * e)).take (hh * e - a * e) = (cs.take (hh * e)).drop (a * e) := by rw [List.drop_take]
 obtain ⟨a1, a2, a3, m1, m2, m3, rfl, hm, l1, l2, d1, d2, d3⟩ := dens_mid hd (k := a * e) (n := hh * e - a * e) (by omega)
 have hm2 : m2 = [] := by
  have := congrArg List.length hm; simp at this
  exact List.eq_nil_of_length_eq_zero (by omega)
 subst hm2
 rw [hmid] at d2
 rw [Den]
 refine .inr ⟨l, o + a * e, hh - a, a2, rfl, he, by rw [l2, Nat.sub_mul], hl, .inr ⟨rfl, hst, hF, ⟨pre ++ a1, a3 ++ rest, by rw [hc]; simp, by simp; omega⟩, rfl, d2⟩⟩
theorem cut_ok {e l o n : Nat} {y : Bool} {x : Opd} {lo hi mx : Option Opd} {t : T} {avs pre rest : List AV} {cs : List T} (h : Sta H F env V Lf) (he : x.ev env = .sl l o n e y) (g1 : l < H.sz) (g2 : (H.get l).st ≠ .dead) (g3 : F l)
  (g4 : (H.get l).cells = pre ++ avs ++ rest) (g5 : pre.length = o) (g6 : Dens H F avs cs []) (hn : cs.length = n * e) (hpos : 0 < e) (hx : cutT y e cs V lo hi mx = some t) :
  ∃ v, heapOp env H (.sls e x lo hi mx) = some (v, H) /\ heapOp env H (.slx e x lo hi mx) = some (v, H) /\ Den H F v t [] /\ ∃ z ds, t = .sl false z e 0 ds := by
 have hdiv : cs.length / e = n := by rw [hn, Nat.mul_div_cancel _ hpos]
 have hguard : ¬ (e ≠ e \/ e = 0) := by omega
 unfold cutT at hx
 rw [hdiv] at hx
 split at hx
 ·split at hx
  ·rename_i hh h1
   split at hx
   ·rename_i a h2
    split at hx
    ·simp at hx
    ·rename_i hy
     simp only [zJ] at hx; subst hx
     have e1 := osca_obnd h h1
     have e2 := osca_obnd h h2
     have hle := osca_le h1 (Nat.le_refl _)
     have hale := osca_le h2 (Nat.zero_le _)
     have hb : hbnd env H l o n e y hi = some hh := by
      cases hi with
      | none => simpa [hbnd, obnd] using e1
      | some q =>
       simp only [obnd, bnd] at e1
       simp only [hbnd]
       split at e1
       ·rename_i w hw
        split at e1
        ·rename_i hb; rw [if_pos ⟨hb.1, .inl hb.2⟩]; exact e1
        ·simp at e1
       ·simp at e1
     refine ⟨.sl l (o + a * e) (hh - a) e y, ?_, ?_, cut_den g1 g2 g3 g4 g5 g6 hn hpos hle hale, _, _, rfl⟩
     ·simp only [heapOp, pureOp, he, e1, e2, if_neg hguard, if_neg hy, Option.map_some]
     ·simp only [heapOp, he, hb, e2, if_neg hguard, if_neg hy]
   ·simp at hx
  ·simp at hx
 ·rename_i m
  split at hx
  ·rename_i m' q h0
   split at hx
   ·rename_i hh h1
    split at hx
    ·rename_i a h2
     split at hx
     ·rename_i hmh
      simp only [zJ] at hx; subst hx
      have e0 := bnd_sca h h0
      have e1 := bnd_sca h h1
      have e2 := osca_obnd h h2
      have hle0 := bnd_le2 h0
      have hle := bnd_le2 h1
      have hale := osca_le h2 (Nat.zero_le _)
      refine ⟨.sl l (o + a * e) (hh - a) e true, ?_, ?_, cut_den g1 g2 g3 g4 g5 g6 hn hpos (by omega) hale, _, _, rfl⟩
      ·simp only [heapOp, pureOp, he, e0, e1, e2, if_neg hguard, if_pos hmh, Option.map_some]
      ·simp only [heapOp, he, e0, e1, e2, if_neg hguard, if_pos hmh]
     ·simp at hx
    ·simp at hx
   ·simp at hx
  ·simp at hx
theorem slice_ok {e : Nat} {x : Opd} {lo hi mx : Option Opd} {t : T} (h : Sta H F env V Lf) (hx : sliceV V e x lo hi mx = some t) :
  ∃ v, heapOp env H (.sls e x lo hi mx) = some (v, H) /\ heapOp env H (.slx e x lo hi mx) = some (v, H) /\ Den H F v t [] := by
 unfold sliceV at hx
 split at hx
 ·rename_i y e' cs hs
  split at hx
  ·rename_i hee
   subst hee
   split at hx
   ·obtain ⟨u, hu, rfl⟩ := zM hx
    obtain ⟨ls, hd⟩ := see_ok h hs
    have hls : ls = [] := Den.plain (t := .sl false y e 1 cs) rfl hd
    subst hls
    rw [Den] at hd
    rcases hd with ⟨_, rfl, hv0, _, hpos⟩ | ⟨l, o, n, avs, hv, hpos, hn, hl, hd⟩
    ·unfold cutT at hu
     simp only [List.length_nil, Nat.zero_div] at hu
     split at hu
     ·rename_i hh h1
      split at hu
      ·rename_i a h2
       split at hu
       ·simp at hu
       ·simp only [zJ] at hu; subst hu
        have hh0 : hh = 0 := Nat.le_zero.1 (osca_le h1 (Nat.le_refl _))
        subst hh0
        have e1 := osca_obnd h h1
        have e2 := osca_obnd h h2
        rcases hv0 with hv | ⟨l, o, hv⟩
        ·refine ⟨.nils, by simp only [heapOp, pureOp, hv, e1, e2]; rfl, by simp only [heapOp, hv, e1, e2], ?_⟩
         simp only [T.mayNil]
         rw [Den]
         exact .inl ⟨rfl, by simp, .inl rfl, rfl, hpos⟩
        ·have ha : a = 0 := Nat.le_zero.1 (osca_le h2 (Nat.le_refl _))
         subst ha
         have hguard : ¬ (e ≠ e \/ e = 0) := by omega
         have hb : hbnd env H l o 0 e true hi = some 0 := by
          cases hi with
          | none => rfl
          | some q =>
           simp only [obnd, bnd] at e1
           simp only [hbnd]
           split at e1
           ·rename_i w hw
            split at e1
            ·rename_i hb; rw [if_pos ⟨hb.1, .inl hb.2⟩]; exact e1
            ·simp at e1
           ·simp at e1
         refine ⟨.sl l (o + 0 * e) 0 e true, ?_, ?_, ?_⟩
         ·simp only [heapOp, pureOp, hv, e1, e2, if_neg hguard]; simp
         ·simp only [heapOp, hv, hb, e2, if_neg hguard]; simp
         ·simp only [T.mayNil]
          rw [Den]
          exact .inl ⟨rfl, by simp, .inr ⟨_, _, rfl⟩, rfl, hpos⟩
      ·simp at hu
     ·simp at hu
    ·rcases hd with ⟨h1, _⟩ | ⟨_, h2, h3, ⟨pre, rest, h4, h5⟩, _, h6⟩
     ·cases h1
     ·obtain ⟨v, k1, k2, k3, z, ds, rfl⟩ := cut_ok h hv hl h2 h3 h4 h5 h6 (by rw [<- h6.length]; exact hn) hpos hu
      refine ⟨v, k1, k2, ?_⟩
      simp only [T.mayNil]
      rw [Den] at k3 ⊢
      rcases k3 with ⟨k4, _⟩ | k3
      ·cases k4
      ·obtain ⟨l', o', n', c', q1, q2, q3, q4, q5⟩ := k3
       rcases q5 with ⟨q, _⟩ | q5
       ·cases q
       ·exact .inr ⟨l', o', n', c', q1, q2, q3, q4, .inr q5⟩
   ·simp at hx
  ·simp at hx
 ·rename_i hs
  obtain ⟨ls, hd⟩ := see_ok h hs
  rw [Den] at hd
  split at hx
  ·rename_i a b h1 h2
   simp only [zJ] at hx; subst hx
   have e1 := osca_obnd h h1
   have e2 := osca_obnd h h2
   refine ⟨.nils, by simp only [heapOp, pureOp, hd.1, e1, e2]; rfl, by simp only [heapOp, hd.1, e1, e2], ?_⟩
   rw [Den]; exact ⟨rfl, rfl⟩
  ·simp at hx
 ·split at hx
  ·rename_i y e' cs ha
   split at hx
   ·rename_i hee
    subst hee
    obtain ⟨l, o, n, avs, he, g1, g2, g3, ⟨pre, rest, g4, g5⟩, g6, hn, hpos⟩ := sl_ok h ha
    obtain ⟨v, k1, k2, k3, _⟩ := cut_ok h he g1 g2 g3 g4 g5 g6 hn hpos hx
    exact ⟨v, k1, k2, k3⟩
   ·simp at hx
  ·simp at hx
theorem Sta.reden (h : Sta H F env V Lf) {s : Nat} {t t' : T} {l1 : List Nat} (hs : V.get s = .v t) (hu : t ≠ .und) (hk : t.kids = none) (hd : Den H F (env.getD s .und) t' l1) (hnd : l1.Nodup) (hsub : ∀ l ∈ l1, l ∈ Lf s) :
  Sta H F env (V.set s (.v t')) (upL Lf s l1) := by
 have hno : ∀ p, t.node p = none := by intro p; cases p <;> simp [T.node, hk]
 have hup : ∀ s' l, l ∈ upL Lf s l1 s' -> l ∈ Lf s' := by
  intro s' l hl
  unfold upL at hl
  split at hl
  ·rename_i e; subst e; exact hsub l hl
  ·exact hl
 have hloc : ∀ q p l cs, Loc H env V q p l cs -> Loc H env (V.set s (.v t')) q p l cs := by
  intro q p l cs hl
  refine hl.congr ?_ rfl
  rw [VEnv.get_set, if_neg]
  intro e
  subst e
  obtain ⟨t0, h1, h2, _⟩ := hl
  rw [hs] at h1
  simp only [S.v.injEq] at h1
  subst h1
  rw [hno] at h2; simp at h2
 refine ⟨h.fz, fun s' => ?_, fun s' => ?_, fun a b l h1 h2 => h.dj a b l (hup _ _ h1) (hup _ _ h2), fun s' hl => ?_⟩
 ·rw [VEnv.get_set]
  unfold upL
  by_cases e : s = s'
  ·subst e
   rw [if_pos rfl, if_pos rfl]; exact hd
  ·rw [if_neg e, if_neg e]
   have hsr := h.sr s'
   cases hx : V.get s' with
   | v u => rw [hx] at hsr; exact hsr
   | al q =>
    rw [hx] at hsr
    obtain ⟨a1, a2, u, a3⟩ := hsr
    refine ⟨a1, a2, ?_⟩
    rw [VEnv.get_set]
    split
    ·exact ⟨_, rfl⟩
    ·exact ⟨u, a3⟩
   | ref q p k n ag =>
    rw [hx] at hsr
    obtain ⟨a1, l, cs, a2, a3⟩ := hsr
    exact ⟨a1, l, cs, hloc _ _ _ _ a2, a3⟩
   | adr q p k =>
    rw [hx] at hsr
    obtain ⟨a1, l, cs, a2, a3⟩ := hsr
    exact ⟨a1, l, cs, hloc _ _ _ _ a2, a3⟩
   | clo f cs =>
    rw [hx] at hsr
    obtain ⟨a1, vs, a2, a3⟩ := hsr
    refine ⟨a1, vs, a2, a3.imp fun c v _ hc => ?_⟩
    cases c with
    | t u => exact hc
    | a q p k =>
     obtain ⟨l, cs', b1, b2⟩ := hc
     exact ⟨l, cs', hloc _ _ _ _ b1, b2⟩
 ·unfold upL
  split
  ·exact hnd
  ·exact h.nd s'
 ·rw [VEnv.get_set]
  split
  ·rename_i e; subst e
   rw [h.ln s hl] at hs
   simp only [S.v.injEq] at hs
   exact absurd hs.symm hu
  ·exact h.ln s' hl
theorem tup_ok {x : Opd} {s : Nat} {cs : List T} (h : Sta H F env V Lf) (hx : tupOf V x = some (s, cs)) : V.get s = .v (.tup cs) /\ x.ev env = env.getD s .und := by
 cases x with
 | c a => simp [tupOf] at hx
 | t q =>
  simp only [tupOf] at hx
  split at hx
  ·rename_i cs' hq
   simp only [zJ, zP] at hx
   obtain ⟨rfl, rfl⟩ := hx
   exact ⟨hq, rfl⟩
  ·rename_i q' hq
   have hsr := h.sr q
   rw [hq] at hsr
   split at hx
   ·rename_i cs' hq'
    simp only [zJ, zP] at hx
    obtain ⟨rfl, rfl⟩ := hx
    exact ⟨hq', hsr.2.1⟩
   ·simp at hx
  ·simp at hx
theorem ex_ok {x : Opd} {i : Nat} {t : T} (h : Sta H F env V Lf) (hx : exV V x i = some (t, V')) : Out H F env Lf V' (.ex x i) (.v t) := by
 unfold exV at hx
 split at hx
 ·rename_i s cs hs
  obtain ⟨h1, h2⟩ := tup_ok h hs
  have hd := h.den h1
  rw [Den] at hd
  obtain ⟨avs, hv, hd⟩ := hd
  split at hx
  ·rename_i u hu
   obtain ⟨c, l1, lu, l2, hc, hl, hdu, hset⟩ := hd.at hu
   have hop : heapOp env H (.ex x i) = some (c, H) := by
    simp only [heapOp, pureOp, h2, hv, hc]; rfl
   split at hx
   ·rename_i hp
    simp only [zJ, zP] at hx
    obtain ⟨rfl, rfl⟩ := hx
    rw [Den.plain hp hdu] at hdu
    exact Out.plain h hop hdu
   ·simp only [zJ, zP] at hx
    obtain ⟨rfl, rfl⟩ := hx
    have hnd := h.nd s
    rw [hl] at hnd
    have hd' := hset H F .und [] ⟨Nat.le_refl _, fun _ h => ⟨rfl, h⟩, fun l hm => ⟨rfl, (hd.owned l (by rw [hl]; simp at hm ⊢; grind)).2.2⟩⟩ (by rw [Den])
    have hst := h.reden (t' := .tup (cs.set i .und)) (l1 := l1 ++ [] ++ l2) h1 (by simp) rfl (by rw [Den]; exact ⟨avs, hv, hd'⟩) (by
     refine List.Sublist.nodup ?_ hnd
     simp) (fun l hm => by rw [hl]; simp at hm ⊢; grind)
    have hlu : ∀ l ∈ lu, l ∈ Lf s := fun l hm => by rw [hl]; simp [hm]
    have hsub : ∀ s' l, l ∈ upL Lf s (l1 ++ [] ++ l2) s' -> l ∈ Lf s' := by
     intro s' l hm
     unfold upL at hm
     split at hm
     ·rename_i e; subst e; rw [hl]; simp at hm ⊢; grind
     ·exact hm
    refine ⟨c, H, _, lu, hop, hst, ⟨Nat.le_refl _, fun _ _ _ => rfl, fun l hm => .inl ?_, fun _ h => h, fun _ h => .inl h⟩, dens_one.2 hdu, ?_, fun s' l hm hm' => ?_⟩
    ·rcases hm with ⟨s', hm⟩ | hm
     ·exact ⟨s', hsub s' l hm⟩
     ·exact ⟨s, hlu l hm⟩
    ·exact (List.nodup_append.1 (List.nodup_append.1 hnd).1).2.1
    ·have e := h.dj _ _ _ (hlu l hm) (hsub s' l hm')
     subst e
     unfold upL at hm'
     rw [if_pos rfl] at hm'
     simp only [List.append_assoc, List.nodup_append, List.mem_append, List.nil_append] at hnd hm'
     grind
  ·simp at hx
 ·simp at hx
end
section
variable {H H' : Heap} {F F' : Nat -> Prop} {env env' : Env} {V V' : VEnv} {Lf : Nat -> List Nat} {v : AV} {ls : List Nat} {ks : List Nat} {r : RV}
theorem Dens.ones {ts : List T} {avs : List AV} (h : Dens H F avs ts ls) (ho : ts.all T.one = true) : avs.all AV.one = true := by
 have : Den H F (.agg avs) (.agg ts) ls := by rw [Den]; exact ⟨avs, rfl, h⟩
 exact (Den.cells this ho).2
theorem rd0_of {l o n : Nat} {vs : List AV} (h : H.rd l o n = some vs) : H.rd0 l o n = some vs := by
 unfold Heap.rd0
 split
 ·rename_i h0
  subst h0
  unfold Heap.rd at h
  split at h
  ·simpa using h
  ·simp at h
 ·exact h
theorem sl_cells {o y : Bool} {e sk : Nat} {cs : List T} (hd : Den H F v (.sl o y e sk cs) ls) : ∃ n avs l1, cellsOf H e v = some (n, avs) /\ avs.length = n * e /\ 0 < e /\ Dens H F avs cs l1 /\ (∀ l ∈ l1, l ∈ ls) /\ (ls.Nodup -> l1.Nodup) := by
 rw [Den] at hd
 rcases hd with ⟨_, rfl, hv, rfl, he⟩ | ⟨l, p, n, avs, rfl, he, hn, hl, hd⟩
 ·refine ⟨0, [], [], ?_, by simp, he, by rw [Dens]; exact ⟨rfl, rfl⟩, by simp, fun h => h⟩
  rcases hv with rfl | ⟨l, o, rfl⟩
  ·rfl
  ·simp [cellsOf, Heap.rd0]
 rcases hd with ⟨h1, h3, h4, h5, ⟨rest, h6, h7⟩, l1, rfl, h8⟩ | ⟨h1, h2, h3, ⟨pre, rest, h4, h5⟩, rfl, h6⟩
 ·refine ⟨n, avs, l1, ?_, hn, he, h8, fun l hm => by simp [hm], fun h => (List.nodup_cons.1 h).2⟩
  subst h3
  have : H.rd l 0 (n * e) = some avs := by
   unfold Heap.rd
   rw [if_pos ⟨by rw [h4]; simp, hl, by rw [h6]; simp; omega⟩, h6, List.drop_zero, <- hn, List.take_left]
  simp only [cellsOf, if_true, rd0_of this, Option.map_some]
 ·refine ⟨n, avs, [], ?_, hn, he, h6, by simp, fun _ => List.nodup_nil⟩
  have : H.rd l p (n * e) = some avs := by
   unfold Heap.rd
   rw [if_pos ⟨h2, hl, by rw [h4]; simp; omega⟩, h4, List.append_assoc, <- h5, List.drop_left, <- hn, List.take_left]
  simp only [cellsOf, if_true, rd0_of this, Option.map_some]
theorem more_ok {e : Nat} {x : Opd} {ys : List T} (h : Sta H F env V Lf) (hx : moreV V e x = some (ys, V')) :
  ∃ n avs l1 Lf', cellsOf H e (x.ev env) = some (n, avs) /\ ((n = 0 /\ avs = []) \/ (avs.length = n * e /\ 0 < e)) /\ Took H F env V' Lf Lf' avs ys l1 /\ ∀ l ∈ l1, ∃ s, l ∈ Lf s := by
 unfold moreV at hx
 split at hx
 ·rename_i hs
  simp only [zJ, zP] at hx
  obtain ⟨rfl, rfl⟩ := hx
  obtain ⟨ls, hd⟩ := see_ok h hs
  rw [Den] at hd
  exact ⟨0, [], [], Lf, by rw [hd.1]; rfl, .inl ⟨rfl, rfl⟩, Took.nil h (by rw [Dens]; exact ⟨rfl, rfl⟩), by simp⟩
 ·rename_i o y e' sk cs hs
  split at hx
  ·rename_i hee
   subst hee
   obtain ⟨ls, hd⟩ := see_ok h hs
   split at hx
   ·rename_i hp
    simp only [zJ, zP] at hx
    obtain ⟨rfl, rfl⟩ := hx
    obtain ⟨n, avs, l1, h1, h2, h3, h4, _, _⟩ := sl_cells hd
    rw [Dens.plain hp h4] at h4
    exact ⟨n, avs, [], Lf, h1, .inr ⟨h2, h3⟩, Took.nil h h4, by simp⟩
   ·split at hx
    ·rename_i o' y' e' sk' cs' V1 ht
     split at hx
     ·rename_i hee
      subst hee
      simp only [zJ, zP] at hx
      obtain ⟨rfl, rfl⟩ := hx
      obtain ⟨l1, Lf1, k1, p1⟩ := take_ok h Lo.nil ht
      have hlo := k1.lo
      simp only [List.nil_append] at hlo
      obtain ⟨n, avs, l2, h1, h2, h3, h4, h5, h6⟩ := sl_cells (dens_one.1 hlo.den)
      exact ⟨n, avs, l2, Lf1, h1, .inr ⟨h2, h3⟩, ⟨k1.st, ⟨h4, h6 hlo.nd, fun s l hm => hlo.dj s l (h5 l hm)⟩, k1.sub⟩, fun l hm => p1 l (h5 l hm)⟩
     ·simp at hx
    ·simp at hx
  ·simp at hx
 ·simp at hx
theorem app_ok {e bs : Nat} {s x : Opd} {t : T} (h : Sta H F env V Lf) (hx : appV V e bs s x = some (t, V')) : Out H F env Lf V' (.app e bs s x) (.v t) := by
  rw [appV_eq] at hx
  unfold appV0 at hx
  split at hx
  · rename_i ys V1 hmore
    obtain ⟨n, avs, l1, Lf1, hcell, hlen, k1, p1⟩ := more_ok h hmore
    have hyl : ys.length = avs.length := k1.lo.den.length.symm
    split at hx
    · rename_i ts V2 ht
      obtain ⟨l2, Lf2, k2, p2⟩ := take_ok k1.st k1.lo ht
      obtain ⟨b1, b2, n1, n2, hb, hn, e1, e2⟩ := k2.lo.den.split
      have hbl : b1.length = avs.length := by rw [e1.length, hyl]
      obtain ⟨rfl, rfl⟩ := List.append_inj hb hbl.symm
      have e2' := dens_one.1 e2
      have hndl : (n1 ++ n2).Nodup := by rw [<- hn]; exact k2.lo.nd
      have hdjl : ∀ s l, l ∈ n1 ++ n2 -> l ∉ Lf2 s := by rw [<- hn]; exact k2.lo.dj
      have hsub : ∀ s l, l ∈ Lf2 s -> l ∈ Lf s := fun s l hm => k1.sub s l (k2.sub s l hm)
      have hpl : ∀ l ∈ n1 ++ n2, ∃ s, l ∈ Lf s := by
        intro l hm
        rw [<- hn] at hm
        rcases List.mem_append.1 hm with hm | hm
        · exact p1 l hm
        · obtain ⟨s, hs⟩ := p2 l hm; exact ⟨s, k1.sub s l hs⟩
      have tr0 : Tr H F (Pl Lf) H F (fun l => Pl Lf2 l \/ l ∈ n2) := ⟨Nat.le_refl _, fun _ _ _ => rfl, fun l hm => .inl (hm.elim (fun ⟨s, hm⟩ => ⟨s, hsub s l hm⟩) fun hm => hpl l (by simp [hm])), fun _ h => h, fun _ h => .inl h⟩
      have hnd2 : n2.Nodup := (List.nodup_append.1 hndl).2.1
      have hdj2 : ∀ s l, l ∈ n2 -> l ∉ Lf2 s := fun s l hm => hdjl s l (by simp [hm])
      split at hx
      · -- nothing is appended
        rename_i hy0
        have hk0 : n = 0 := by
          rcases hlen with ⟨h1, _⟩ | ⟨h1, h2⟩
          · exact h1
          · have : n * e = 0 := by omega
            rcases Nat.mul_eq_zero.1 this with h3 | h3
            · exact h3
            · omega
        subst hk0
        split at hx
        · simp only [zJ, zP] at hx
          obtain ⟨rfl, rfl⟩ := hx
          have hs : s.ev env = .nils := by rw [Den] at e2'; exact e2'.1
          exact ⟨.nils, H, Lf2, n2, by simp only [heapOp, hcell, Option.bind_some, if_true, hs], k2.st, tr0, ⟨dens_one.2 (by rw [hs] at e2'; exact e2'), hnd2, hdj2⟩⟩
        · rename_i o y e' sk cs
          split at hx
          · rename_i hee
            subst hee
            simp only [zJ, zP] at hx
            obtain ⟨rfl, rfl⟩ := hx
            rcases sl_count e2' with ⟨_, _, hs | ⟨l, p, hs⟩⟩ | ⟨l, p, hs, _⟩
            · exact ⟨s.ev env, H, Lf2, n2, by simp only [heapOp, hcell, Option.bind_some, if_true, hs], k2.st, tr0, ⟨e2, hnd2, hdj2⟩⟩
            · exact ⟨s.ev env, H, Lf2, n2, by simp only [heapOp, hcell, Option.bind_some, if_true, hs], k2.st, tr0, ⟨e2, hnd2, hdj2⟩⟩
            exact ⟨s.ev env, H, Lf2, n2, by simp only [heapOp, hcell, Option.bind_some, if_true, hs], k2.st, tr0, ⟨e2, hnd2, hdj2⟩⟩
          · simp at hx
        · simp at hx
      · rename_i hy0
        obtain ⟨hal, hepos⟩ : avs.length = n * e /\ 0 < e := by
          rcases hlen with ⟨_, h2⟩ | h2
          · rw [h2] at hyl; simp at hyl; exact absurd (by simp [hyl]) hy0
          · exact h2
        have hk : ys.length / e = n := by rw [hyl, hal, Nat.mul_div_cancel _ hepos]
        have hn0 : n ≠ 0 := by rintro rfl; rw [hal] at hyl; simp at hyl; exact hy0 (by simp [hyl])
        split at hx
        · simp at hx
        · rename_i hg
          have hbs : bs ≠ 0 := fun e => hg (.inr (.inl e))
          have hones : ys.all T.one = true := by
            cases hh : ys.all T.one with
            | true => rfl
            | false => exact absurd (.inr (.inr hh)) hg
          have hao : avs.all AV.one = true := e1.ones hones
          have hgg : ¬ (e = 0 \/ bs = 0 \/ (!(avs.all AV.one)) = true) := by
            rw [hao]; simp; omega
          rw [hk] at hx
          split at hx
          · -- onto nil
            split at hx
            · rename_i hroom
              simp only [zJ, zP] at hx
              obtain ⟨rfl, rfl⟩ := hx
              have hs : s.ev env = .nils := by rw [Den] at e2'; exact e2'.1
              have hn2 : n2 = [] := by rw [Den] at e2'; exact e2'.2
              subst hn2
              obtain ⟨a1, a2, a3, a4, a5, a6, a7, a8⟩ := alloc_ok (Lf := Lf) (l1 := n1) ⟨k2.st, ⟨e1, (List.nodup_append.1 hndl).1, fun s l hm => hdjl s l (by simp [hm])⟩, hsub⟩ fun l hm => hpl l (by simp [hm])
              refine ⟨.sl H.sz 0 n e false, H.new avs, Lf2, H.sz :: n1, ?_, a1, a8, dens_one.2 ?_, a6, a7⟩
              · simp only [heapOp, hcell, Option.bind_some, if_neg hn0, if_neg hgg, hs, if_pos hroom]
              · rw [Den]
                exact .inr ⟨H.sz, 0, n, avs, rfl, hepos, hal, a3, .inl ⟨rfl, rfl, by rw [a4], a5, ⟨[], by rw [a4]; simp, by simp⟩, n1, rfl, a2⟩⟩
            · simp at hx
          · -- onto what is owned
            rename_i y e' sk cs
            split at hx
            · rename_i hc
              obtain ⟨hee, hroom⟩ := hc
              subst hee
              rw [Den] at e2'
              rcases e2' with ⟨q1, rfl, hs0, rfl, _⟩ | ⟨l, p, n', cavs, hs, _, hn', hl, e3⟩
              · simp only [nilOk, if_true, Bool.and_eq_true, beq_iff_eq] at q1
                obtain ⟨q1, rfl⟩ := q1
                rw [if_neg (by omega), if_pos rfl] at hx
                simp only [List.nil_append, zJ, zP] at hx
                obtain ⟨rfl, rfl⟩ := hx
                simp only [List.length_nil, Nat.zero_div, Nat.zero_add] at hroom
                obtain ⟨a1, a2, a3, a4, a5, a6, a7, a8⟩ := alloc_ok (Lf := Lf) (l1 := n1) ⟨k2.st, ⟨e1, (List.nodup_append.1 hndl).1, fun s l hm => hdjl s l (by simp [hm])⟩, hsub⟩ fun l hm => hpl l (by simp [hm])
                refine ⟨.sl H.sz 0 n e false, H.new avs, Lf2, H.sz :: n1, ?_, a1, a8, dens_one.2 ?_, a6, a7⟩
                · rcases hs0 with hs | ⟨l, p, hs⟩
                  · simp only [heapOp, hcell, Option.bind_some, if_neg hn0, if_neg hgg, hs, if_pos hroom]
                  · simp only [heapOp, hcell, Option.bind_some, if_neg hn0, if_neg hgg, hs]
                    rw [if_neg (by rw [Nat.zero_add]; omega : ¬ (e ≠ e \/ (0 + n) * bs > room))]
                    simp [Heap.rd0]
                · rw [Den]
                  exact .inr ⟨H.sz, 0, n, avs, by simp, hepos, hal, a3, .inl ⟨rfl, rfl, by rw [a4], a5, ⟨[], by rw [a4]; simp, by simp⟩, n1, rfl, a2⟩⟩
              rcases e3 with ⟨_, hp0, hst, hnF, ⟨rest, hc1, hc2⟩, l3, rfl, hdc⟩ | ⟨e4, _⟩
              · subst hp0
                simp only [Bool.not_true, Bool.false_and] at hs
                have hcl : cs.length / e = n' := by rw [<- hdc.length, hn', Nat.mul_div_cancel _ hepos]
                rw [hcl] at hroom
                have hrd : H.rd l 0 (n' * e) = some cavs := by
                  unfold Heap.rd
                  rw [if_pos ⟨by rw [hst]; simp, hl, by rw [hc1]; simp; omega⟩, hc1, List.drop_zero, <- hn', List.take_left]
                have hpre : heapOp env H (.app e bs s x) = (if 0 + (n' + n) * e <= (H.get l).cells.length then (H.wr l (0 + n' * e) avs).map fun H' => (AV.sl l 0 (n' + n) e false, H')
                    else if 0 + n' * e = (H.get l).cells.length /\ (H.get l).st = .own then some (.sl H.sz 0 (n' + n) e false, (H.kill l).new (cavs ++ avs)) else none) := by
                  simp only [heapOp, hcell, Option.bind_some, if_neg hn0, if_neg hgg, hs]
                  rw [if_neg (by omega : ¬ (e ≠ e \/ (n' + n) * bs > room))]
                  simp only [rd0_of hrd, Option.bind_some, Bool.false_eq_true, if_false]
                have hclen : (H.get l).cells.length = n' * e + sk * e := by rw [hc1, List.length_append, hn', hc2]
                have hln1 : l ∉ n1 := by
                  intro hm
                  exact (List.nodup_append.1 hndl).2.2 l hm l (by simp) rfl
                have hll3 : l ∉ l3 := (List.nodup_cons.1 hnd2).1
                have hlL : ∀ s, l ∉ Lf2 s := fun s => hdj2 s l (by simp)
                split at hx
                · rename_i hsk
                  simp only [zJ, zP] at hx
                  obtain ⟨rfl, rfl⟩ := hx
                  have hfit : 0 + (n' + n) * e <= (H.get l).cells.length := by
                    rw [hclen, Nat.zero_add, Nat.add_mul]
                    exact Nat.add_le_add_left (Nat.mul_le_mul_right e hsk) _
                  have hsplit : rest = rest.take (n * e) ++ rest.drop (n * e) := (List.take_append_drop _ _).symm
                  have hrl : (rest.take (n * e)).length = n * e := by
                    rw [List.length_take, hc2, Nat.min_eq_left (Nat.mul_le_mul_right e hsk)]
                  have hwr : H.wr l (0 + n' * e) avs = some (H.put l (cavs ++ (avs ++ rest.drop (n * e)) ++ [])) := by
                    unfold Heap.wr
                    rw [if_pos ⟨hst, hl, by rw [hal, hclen]; rw [hclen, Nat.add_mul] at hfit; omega, hao⟩]
                    congr 2
                    have := splice_mid (pre := []) (a1 := cavs) (a2 := rest.take (n * e)) (a3 := rest.drop (n * e)) (us := avs) (rest := []) (k := n' * e) hn' (by rw [hrl, hal])
                    rw [<- this, hc1, Nat.zero_add, List.append_nil, <- hsplit]
                  have hH : ∀ k, k ≠ l -> (H.put l (cavs ++ (avs ++ rest.drop (n * e)) ++ [])).get k = H.get k := fun k hk => by simp [Heap.put, hk]
                  have hag : ∀ ls', (∀ k ∈ ls', k ≠ l /\ ¬ F k) -> Agree H (H.put l (cavs ++ (avs ++ rest.drop (n * e)) ++ [])) F F ls' := fun ls' hls' =>
                    ⟨Nat.le_refl _, fun k hk => ⟨hH k (fun e => by subst e; exact hnF hk), hk⟩, fun k hk => ⟨hH k (hls' k hk).1, (hls' k hk).2⟩⟩
                  have hown : ∀ s k, k ∈ Lf2 s -> ¬ F k := by
                    intro s k hk
                    have hsr := k2.st.sr s
                    cases hx : V2.get s with
                    | v t => rw [hx] at hsr; exact (Den.owned hsr k hk).2.2
                    | al | ref | adr | clo => rw [hx] at hsr; have := hsr.1; rw [this] at hk; simp at hk
                  refine ⟨.sl l 0 (n' + n) e false, _, Lf2, l :: (l3 ++ n1), by rw [hpre, if_pos hfit, hwr, Option.map_some], k2.st.heap (fun s => hag _ fun k hk => ⟨fun e => by subst e; exact hlL s hk, hown s k hk⟩) (fun k hk => ?_), ⟨Nat.le_refl _, fun k _ hk => hH k fun e => ?_, fun k hk => .inl ?_, fun _ h => h, fun _ h => .inl h⟩, dens_one.2 ?_, ?_, ?_⟩
                  · rw [hH k (fun e => by subst e; exact hnF hk)]; exact k2.st.fz k hk
                  · subst e; exact hk (hpl k (by simp))
                  · rcases hk with ⟨s, hk⟩ | hk
                    · exact ⟨s, hsub s k hk⟩
                    · exact hpl k (by simp at hk ⊢; grind)
                  · rw [Den]
                    refine .inr ⟨l, 0, n' + n, cavs ++ avs, by simp, hepos, by rw [List.length_append, hn', hal, Nat.add_mul], hl, .inl ⟨rfl, rfl, by simp [Heap.put], hnF, ⟨rest.drop (n * e), by simp [Heap.put], ?_⟩, l3 ++ n1, rfl, ?_⟩⟩
                    · rw [List.length_drop, hc2, Nat.sub_mul]
                    · exact (hdc.agree (hag _ fun k hk => ⟨fun e => by subst e; exact hll3 hk, (hdc.owned k hk).2.2⟩)).append (e1.agree (hag _ fun k hk => ⟨fun e => by subst e; exact hln1 hk, (e1.owned k hk).2.2⟩))
                  · simp only [List.nodup_append, List.nodup_cons, List.mem_append, List.mem_cons] at hndl ⊢
                    grind
                  · intro s k hk; exact hdjl s k (by simp at hk ⊢; grind)
                · rename_i hsk
                  split at hx
                  · rename_i hsk0
                    subst hsk0
                    simp only [zJ, zP] at hx
                    obtain ⟨rfl, rfl⟩ := hx
                    have hnofit : ¬ (0 + (n' + n) * e <= (H.get l).cells.length) := by
                      rw [hclen, Nat.zero_add, Nat.add_mul, Nat.zero_mul]
                      have : 0 < n * e := Nat.mul_pos (by omega) hepos
                      omega
                    have hH : ∀ k, k ≠ l -> k < H.sz -> ((H.kill l).new (cavs ++ avs)).get k = H.get k := fun k hk hlt => by simp [Heap.new, Heap.kill, hk, Nat.ne_of_lt hlt]
                    have hFs : ¬ F H.sz := fun hf => Nat.lt_irrefl _ (k2.st.fz _ hf).1
                    have hag : ∀ ls', (∀ k ∈ ls', k ≠ l /\ k < H.sz /\ ¬ F k) -> Agree H ((H.kill l).new (cavs ++ avs)) F F ls' := fun ls' hls' =>
                      ⟨by simp [Heap.new, Heap.kill], fun k hk => ⟨hH k (fun e => by subst e; exact hnF hk) (k2.st.fz k hk).1, hk⟩, fun k hk => ⟨hH k (hls' k hk).1 (hls' k hk).2.1, (hls' k hk).2.2⟩⟩
                    have hown : ∀ s k, k ∈ Lf2 s -> k < H.sz /\ ¬ F k := by
                      intro s k hk
                      have hsr := k2.st.sr s
                      cases hx : V2.get s with
                      | v t => rw [hx] at hsr; have := Den.owned hsr k hk; exact ⟨this.1, this.2.2⟩
                      | al | ref | adr | clo => rw [hx] at hsr; have := hsr.1; rw [this] at hk; simp at hk
                    have hlow : ∀ k ∈ l3 ++ n1, k < H.sz /\ ¬ F k /\ k ≠ l := by
                      intro k hk
                      rcases List.mem_append.1 hk with hk | hk
                      · exact ⟨(hdc.owned k hk).1, (hdc.owned k hk).2.2, fun e => by subst e; exact hll3 hk⟩
                      · exact ⟨(e1.owned k hk).1, (e1.owned k hk).2.2, fun e => by subst e; exact hln1 hk⟩
                    refine ⟨.sl H.sz 0 (n' + n) e false, _, Lf2, H.sz :: (l3 ++ n1), by rw [hpre, if_neg hnofit, if_pos ⟨by rw [hclen]; simp, hst⟩], k2.st.heap (fun s => hag _ fun k hk => ⟨fun e => by subst e; exact hlL s hk, hown s k hk⟩) (fun k hk => ?_), ⟨by simp [Heap.new, Heap.kill], fun k hlt hk => hH k (fun e => ?_) hlt, fun k hk => ?_, fun _ h => h, fun _ h => .inl h⟩, dens_one.2 ?_, ?_, ?_⟩
                    · rw [hH k (fun e => by subst e; exact hnF hk) (k2.st.fz k hk).1]
                      exact ⟨by simp [Heap.new, Heap.kill]; exact Nat.lt_succ_of_lt (k2.st.fz k hk).1, (k2.st.fz k hk).2⟩
                    · subst e; exact hk (hpl k (by simp))
                    · rcases hk with ⟨s, hk⟩ | hk
                      · exact .inl ⟨s, hsub s k hk⟩
                      · rcases List.mem_cons.1 hk with rfl | hk
                        · exact .inr (Nat.le_refl _)
                        · exact .inl (hpl k (by simp at hk ⊢; grind))
                    · rw [Den]
                      refine .inr ⟨H.sz, 0, n' + n, cavs ++ avs, by simp, hepos, by rw [List.length_append, hn', hal, Nat.add_mul], by simp [Heap.new, Heap.kill], .inl ⟨rfl, rfl, by simp [Heap.new, Heap.kill], hFs, ⟨[], by simp [Heap.new, Heap.kill], by simp⟩, l3 ++ n1, rfl, ?_⟩⟩
                      exact (hdc.agree (hag _ fun k hk => by have := hlow k (by simp [hk]); exact ⟨this.2.2, this.1, this.2.1⟩)).append (e1.agree (hag _ fun k hk => by have := hlow k (by simp [hk]); exact ⟨this.2.2, this.1, this.2.1⟩))
                    · refine List.nodup_cons.2 ⟨fun hm => Nat.lt_irrefl _ (hlow _ hm).1, ?_⟩
                      simp only [List.nodup_append, List.nodup_cons, List.mem_append, List.mem_cons] at hndl ⊢
                      grind
                    · intro s k hk hk'
                      rcases List.mem_cons.1 hk with rfl | hk
                      · exact Nat.lt_irrefl _ (hown s _ hk').1
                      · exact hdjl s k (by simp at hk ⊢; grind) hk'
                  · simp at hx
              · cases e4
            · simp at hx
          · -- onto what is shared, and has no room
            rename_i e' sk cs
            split at hx
            · rename_i hc
              obtain ⟨hee, hroom, hco⟩ := hc
              subst hee
              simp only [zJ, zP] at hx
              obtain ⟨rfl, rfl⟩ := hx
              have hn2 := Den.plain (t := .sl false true e sk cs) rfl e2'
              subst hn2
              rw [Den] at e2'
              rcases e2' with ⟨_, rfl, hs0, _, _⟩ | ⟨l, p, n', cavs, hs, _, hn', hl, e3⟩
              · simp only [List.length_nil, Nat.zero_div, Nat.zero_add] at hroom
                obtain ⟨a1, a2, a3, a4, a5, a6, a7, a8⟩ := alloc_ok (Lf := Lf) (l1 := n1) ⟨k2.st, ⟨e1, (List.nodup_append.1 hndl).1, fun s l hm => hdjl s l (by simp [hm])⟩, hsub⟩ fun l hm => hpl l (by simp [hm])
                refine ⟨.sl H.sz 0 n e false, H.new avs, Lf2, H.sz :: n1, ?_, a1, a8, dens_one.2 ?_, a6, a7⟩
                · rcases hs0 with hs | ⟨l, p, hs⟩
                  · simp only [heapOp, hcell, Option.bind_some, if_neg hn0, if_neg hgg, hs, if_pos hroom]
                  · simp only [heapOp, hcell, Option.bind_some, if_neg hn0, if_neg hgg, hs]
                    rw [if_neg (by rw [Nat.zero_add]; omega : ¬ (e ≠ e \/ (0 + n) * bs > room))]
                    simp [Heap.rd0]
                · rw [List.nil_append, Den]
                  exact .inr ⟨H.sz, 0, n, avs, rfl, hepos, hal, a3, .inl ⟨rfl, rfl, by rw [a4], a5, ⟨[], by rw [a4]; simp, by simp⟩, n1, rfl, a2⟩⟩
              simp only [Bool.not_false, Bool.true_and] at hs
              rcases e3 with ⟨e4, _⟩ | ⟨_, hst, hF, ⟨pre, rest, hc1, hc2⟩, _, hdc⟩
              · cases e4
              · have hcl : cs.length / e = n' := by rw [<- hdc.length, hn', Nat.mul_div_cancel _ hepos]
                rw [hcl] at hroom
                have hrd : H.rd l p (n' * e) = some cavs := by
                  unfold Heap.rd
                  rw [if_pos ⟨hst, hl, by rw [hc1]; simp; omega⟩, hc1, List.append_assoc, <- hc2, List.drop_left, <- hn', List.take_left]
                have hcao := hdc.ones hco
                have hlo : Lo H F Lf2 (cavs ++ avs) (cs ++ ys) n1 := ⟨by simpa using hdc.append e1, (List.nodup_append.1 hndl).1, fun s l hm => hdjl s l (by simp [hm])⟩
                obtain ⟨a1, a2, a3, a4, a5, a6, a7, a8⟩ := alloc_ok (Lf := Lf) ⟨k2.st, hlo, hsub⟩ fun l hm => hpl l (by simp [hm])
                refine ⟨.sl H.sz 0 (n' + n) e false, H.new (cavs ++ avs), Lf2, H.sz :: n1, ?_, a1, a8, dens_one.2 ?_, a6, a7⟩
                · simp only [heapOp, hcell, Option.bind_some, if_neg hn0, if_neg hgg, hs]
                  rw [if_neg (by omega : ¬ (e ≠ e \/ (n' + n) * bs > room))]
                  simp only [rd0_of hrd, Option.bind_some, if_true, if_pos hcao]
                · rw [Den]
                  exact .inr ⟨H.sz, 0, n' + n, cavs ++ avs, rfl, hepos, by rw [List.length_append, hn', hal, Nat.add_mul], a3, .inl ⟨rfl, rfl, by rw [a4], a5, ⟨[], by rw [a4]; simp, by simp⟩, n1, rfl, a2⟩⟩
            · simp at hx
          · simp at hx
    · simp at hx
  · simp at hx
def bytesT : List T -> Option (List UInt8)
 | [] => some []
 | .int .u8 b :: ts => if 0 <= b /\ b < 256 then (bytesT ts).map (UInt8.ofNat b.toNat :: ·) else none
 | _ => none
def b2sV (V : VEnv) (x : Opd) : Option (List UInt8) := match see V x with
 | some .nils => some []
 | some (.sl _ _ e _ cs) => if e = 1 then bytesT cs else none
 | _ => none
theorem bytesT_ok : ∀ {ts : List T} {avs : List AV} {l1 : List Nat} {s : List UInt8}, Dens H F avs ts l1 -> bytesT ts = some s -> avs.mapM byteA = some s
 | [], avs, l1, s, hd, h => by
  rw [Dens] at hd
  simp only [bytesT, zJ] at h
  rw [hd.1, <- h]; rfl
 | t :: ts, avs, l1, s, hd, h => by
  rw [Dens] at hd
  obtain ⟨c, cs', m1, m2, rfl, _, h1, h2⟩ := hd
  unfold bytesT at h
  split at h
  ·rename_i h0; cases h0
  ·rename_i b us h0
   simp only [List.cons.injEq] at h0
   obtain ⟨rfl, rfl⟩ := h0
   split at h
   ·rename_i hb
    obtain ⟨s', hs', rfl⟩ := zM h
    rw [Den] at h1
    obtain ⟨rfl, _⟩ := h1
    simp only [List.mapM_cons, byteA, if_pos hb, bytesT_ok h2 hs']; rfl
   ·simp at h
  ·simp at h
theorem b2s_ok {x : Opd} {s : List UInt8} (h : Sta H F env V Lf) (hx : b2sV V x = some s) : Out H F env Lf V (.b2s x) (.v (.str s)) := by
 unfold b2sV at hx
 split at hx
 ·rename_i hs
  obtain ⟨ls, hd⟩ := see_ok h hs
  rw [Den] at hd
  simp only [zJ] at hx
  subst hx
  refine Out.plain h (v := .str []) (by simp only [heapOp, hd.1]) (by rw [Den]; exact ⟨rfl, rfl⟩)
 ·rename_i o y e sk cs hs
  split at hx
  ·rename_i he
   subst he
   obtain ⟨ls, hd⟩ := see_ok h hs
   obtain ⟨n, avs, l1, hc, hn, _, hda, _⟩ := sl_cells hd
   have hb := bytesT_ok hda hx
   refine Out.plain h (v := .str s) ?_ (by rw [Den]; exact ⟨rfl, rfl⟩)
   simp only [heapOp]
   cases hv : x.ev env with
   | nils =>
    rw [hv] at hc
    simp only [cellsOf, zJ, zP] at hc
    rw [<- hc.2] at hb
    simp only [List.mapM_nil] at hb
    obtain rfl := Option.some.inj hb
    rfl
   | sl l p m e' z =>
    rw [hv] at hc
    simp only [cellsOf] at hc
    split at hc
    ·rename_i he
     subst he
     obtain ⟨vs, h1, h2⟩ := zM hc
     simp only [zP] at h2
     obtain ⟨rfl, rfl⟩ := h2
     rw [Nat.mul_one] at h1
     simp only [h1, Option.bind_some, hb, Option.map_some, if_true]
    ·simp at hc
   | _ => rw [hv] at hc; simp [cellsOf] at hc
  ·simp at hx
 ·simp at hx
def stepV (ks : List Nat) (V : VEnv) (c : COp) : Option (RV × VEnv) :=
 match c with
 | .app e bs s x => (appV V e bs s x).map fun (t, V1) => (.v t, V1)
 | .ex x i => (exV V x i).map fun (t, V1) => (.v t, V1)
 | .b2s x => (b2sV V x).map fun s => (.v (.str s), V)
 | .sls e x lo hi mx => (sliceV V e x lo hi mx).map fun t => (.v t, V)
 | .slx e x lo hi mx => (sliceV V e x lo hi mx).map fun t => (.v t, V)
 | c => opV ks V c
theorem stepV_ok {c : COp} (h : Sta H F env V Lf) (hx : stepV ks V c = some (r, V')) : Out H F env Lf V' c r := by
 cases c with
 | app e bs s x =>
  obtain ⟨⟨t, V1⟩, h1, h2⟩ := zM hx
  simp only [zP] at h2
  obtain ⟨rfl, rfl⟩ := h2
  exact app_ok h h1
 | ex x i =>
  obtain ⟨⟨t, V1⟩, h1, h2⟩ := zM hx
  simp only [zP] at h2
  obtain ⟨rfl, rfl⟩ := h2
  exact ex_ok h h1
 | b2s x =>
  obtain ⟨s, h1, h2⟩ := zM hx
  simp only [zP] at h2
  obtain ⟨rfl, rfl⟩ := h2
  exact b2s_ok h h1
 | sls e x lo hi mx =>
  obtain ⟨t, h1, h2⟩ := zM hx
  simp only [zP] at h2
  obtain ⟨rfl, rfl⟩ := h2
  obtain ⟨v, h3, _, h4⟩ := slice_ok h h1
  exact Out.plain h h3 h4
 | slx e x lo hi mx =>
  obtain ⟨t, h1, h2⟩ := zM hx
  simp only [zP] at h2
  obtain ⟨rfl, rfl⟩ := h2
  obtain ⟨v, _, h3, h4⟩ := slice_ok h h1
  exact Out.plain h h3 h4
 | mv x => exact mv_ok h rfl hx
 | pick c a b => exact pick_ok (ks := ks) h hx
 | len x => exact len_ok (ks := ks) h hx
 | cap x => exact cap_ok (ks := ks) h hx
 | isnil ng x => exact isnil_ok (ks := ks) h hx
 | eqs ng ks' x y => exact eqs_ok (ks := ks) h hx
 | ld n ag p => exact ld_ok (ks := ks) h hx
 | st n p x => exact st_ok (ks := ks) h hx
 | al zs => exact al_ok (ks := ks) h hx
 | box n x => exact box_ok (ks := ks) h hx
 | fa o x => exact fa_ok (ks := ks) h hx
 | nc x => exact nc_ok (ks := ks) h hx
 | ia e x i => exact ia_ok (ks := ks) h hx
 | fn f xs => exact fn_ok (ks := ks) h hx
 | bld zs ps => exact bld_ok (ks := ks) h hx
 | bsl e n zs ps => exact bsl_ok (ks := ks) h hx
 | mk e bs zs l c => exact mk_ok (ks := ks) h hx
 | _ =>
  simp only [stepV, opV] at hx
  split at hx
  ·rename_i a ha
   obtain ⟨t, h1, h2⟩ := zM hx
   simp only [zP] at h2
   obtain ⟨rfl, rfl⟩ := h2
   exact scaV_ok h ha h1
  ·simp at hx
end
section
def VEnv.drops (V : VEnv) : List Nat -> VEnv
 | [] => V
 | s :: ss => VEnv.drops (V.drop s) ss
def putR (V : VEnv) : Option Nat -> RV -> Option VEnv
 | none, _ => some V
 | some d, .v t => some ((unroot d V).set d (.v t))
 | some d, .s x => if x.rooted d then none else some ((unroot d V).set d x)
def dstLt (n : Nat) : Option Nat -> Bool
 | none => true
 | some d => decide (d < n)
def baseOf (V : VEnv) : Opd -> Option Nat
 | .c _ => none
 | .t s => match V.get s with
  | .v _ => some s
  | .al r => some r
  | .ref r _ _ _ _ => some r
  | .adr r _ _ => some r
  | .clo _ _ => none
def rootOf (V : VEnv) (x : Opd) : Option Nat :=
 match x with
 | .c _ => none
 | .t s => match V.get s with
  | .adr r _ _ => some r
  | _ => match see V (.t s) with
   | some t => match t.bare with
    | .sl _ _ _ _ _ => baseOf V (.t s)
    | .ptr _ _ => baseOf V (.t s)
    | _ => none
   | _ => none
def target : COp -> Option Opd
 | .st _ p _ => some p
 | .app _ _ s _ => some s
 | _ => none
def usOk (V : VEnv) (us : List (Nat × Nat)) (bad : List (Option Nat)) : Bool :=
 us.all fun p => match V.get p.1 with
  | .v (.ptr false _) => true
  | _ => match rootOf V (.t p.1) with
   | some r => !bad.contains (some r)
   | none => false
def tgt (V : VEnv) : Opd -> Option (List (Option Nat))
 | .c .nils => some []
 | .c _ => none
 | .t s => match V.get s with
  | .adr r _ _ => some [some r]
  | _ => match see V (.t s) with
   | some t => match t.bare with
    | .nils => some []
    | .sl true _ _ _ _ => (baseOf V (.t s)).map fun r => [some r]
    | .ptr true _ => (baseOf V (.t s)).map fun r => [some r]
    | _ => none
   | _ => none
def needUs (V : VEnv) (o : COper) : Bool :=
 match o.us with
 | [] => true
 | us => match o.op with
  | .cpy .. | .clr .. => false
  | c => match target c with
   | some x => match tgt V x with
    | some bad => usOk V us bad
    | none => false
   | none => true
variable {H H' : Heap} {F F' : Nat -> Prop} {env env' : Env} {V V' : VEnv} {Lf : Nat -> List Nat} {v : AV} {ls : List Nat} {ks : List Nat} {r : RV}
theorem Sta.drops (h : Sta H F env V Lf) : ∀ (ss : List Nat), ∃ Lf', Sta H F env (V.drops ss) Lf' /\ ∀ s l, l ∈ Lf' s -> l ∈ Lf s := by
 intro ss
 induction ss generalizing V Lf with
 | nil => exact ⟨Lf, h, fun _ _ h => h⟩
 | cons s ss ih =>
  obtain ⟨Lf', h1, h2⟩ := ih (h.drop s env rfl fun _ _ => rfl)
  refine ⟨Lf', h1, fun s' l hl => ?_⟩
  have := h2 s' l hl
  unfold upL at this
  split at this
  ·simp at this
  ·exact this
theorem Sta.kills (h : Sta H F env V Lf) : ∀ (ss : List Nat), ∃ Lf', Sta H F (killT env ss) (V.drops ss) Lf' /\ ∀ s l, l ∈ Lf' s -> l ∈ Lf s := by
 intro ss
 induction ss generalizing V Lf env with
 | nil => exact ⟨Lf, h, fun _ _ h => h⟩
 | cons s ss ih =>
  obtain ⟨Lf', h1, h2⟩ := ih (h.drop s (env.set s .und) (by simp) fun s' hs' => by simp [zD, List.getElem?_set_ne (Ne.symm hs')])
  refine ⟨Lf', by simpa [killT, VEnv.drops] using h1, fun s' l hl => ?_⟩
  have := h2 s' l hl
  unfold upL at this
  split at this
  ·simp at this
  ·exact this
theorem killT_len : ∀ (ss : List Nat) (env : Env), (killT env ss).length = env.length
 | [], env => rfl
 | s :: ss, env => by
  have := killT_len ss (env.set s .und)
  simpa [killT] using this
theorem put_ok {d : Option Nat} {t1 : List Nat} (h : Sta H F env V Lf) (hd : dstLt env.length d = true) (hr : match r with | .v t => Lo H F Lf [v] [t] t1 | .s x => SR H F env V v [] x) (hp : putR V d r = some V') :
    ∃ Lf', Sta H F (putD env d v) V' Lf' /\ ∀ l, Pl Lf' l -> Pl Lf l \/ l ∈ t1 := by
  cases d with
  | none =>
    simp only [putR, zJ] at hp
    subst hp
    exact ⟨Lf, h, fun l hl => .inl hl⟩
  | some d =>
    simp only [dstLt, decide_eq_true_eq] at hd
    cases r with
    | v t =>
      simp only [putR, zJ] at hp
      subst hp
      refine ⟨_, h.put hd hr, fun l ⟨s, hl⟩ => ?_⟩
      unfold upL at hl
      split at hl
      · exact .inr hl
      · exact .inl ⟨s, hl⟩
    | s x =>
      simp only [putR] at hp
      split at hp
      · simp at hp
      · rename_i hx
        simp only [zJ] at hp
        subst hp
        refine ⟨_, h.putA hd hr (by simpa using hx), fun l ⟨s, hl⟩ => ?_⟩
        unfold upL at hl
        split at hl
        · simp at hl
        · exact .inl ⟨s, hl⟩
theorem bare_not_at : ∀ (t : T) (a : AV) (u : T), t.bare ≠ .at a u
 | .at _ t, a, u => by rw [T.bare]; exact bare_not_at t a u
 | .sl _ _ _ _ _, _, _ => by simp [T.bare]
 | .ptr _ _, _, _ => by simp [T.bare]
 | .und, _, _ => by simp [T.bare]
 | .int _ _, _, _ => by simp [T.bare]
 | .bool _, _, _ => by simp [T.bare]
 | .str _, _, _ => by simp [T.bare]
 | .nilp, _, _ => by simp [T.bare]
 | .nils, _, _ => by simp [T.bare]
 | .nilf, _, _ => by simp [T.bare]
 | .fn _ _, _, _ => by simp [T.bare]
 | .agg _, _, _ => by simp [T.bare]
 | .tup _, _, _ => by simp [T.bare]
 | .slo _ _, _, _ => by simp [T.bare]
theorem root_ok (h : Sta H F env V Lf) {x : Opd} {l : Nat} {r : Nat} (hl : (x.ev env).place = some l) (hr : rootOf V x = some r) : F l \/ l ∈ Lf r := by
 have den : ∀ {w : AV} {t : T} {ls : List Nat}, Den H F w t ls -> t ≠ .und -> (∀ a u, t ≠ .at a u) -> w.place = some l -> F l \/ l ∈ ls := by
  intro w t ls hd ht hat hw
  cases t with
  | «at» a u => exact absurd rfl (hat a u)
  | slo =>
   rw [Den] at hd
   rcases hd with ⟨_, rfl | ⟨_, _, rfl⟩, _⟩ | ⟨l', _, _, _, _, l1, rfl, _, _, _, _, _, _, _, rfl, _⟩
   ·simp [AV.place] at hw
   ·simp [AV.place] at hw
   ·simp only [AV.place] at hw
    split at hw
    ·simp at hw
    simp only [zJ] at hw
    subst hw
    exact .inr (by simp)
  | und => exact absurd rfl ht
  | int => rw [Den] at hd; rw [hd.1] at hw; simp [AV.place] at hw
  | bool => rw [Den] at hd; rw [hd.1] at hw; simp [AV.place] at hw
  | str => rw [Den] at hd; rw [hd.1] at hw; simp [AV.place] at hw
  | nilp => rw [Den] at hd; rw [hd.1] at hw; simp [AV.place] at hw
  | nils => rw [Den] at hd; rw [hd.1] at hw; simp [AV.place] at hw
  | nilf => rw [Den] at hd; rw [hd.1] at hw; simp [AV.place] at hw
  | sl =>
   rw [Den] at hd
   rcases hd with ⟨_, _, rfl | ⟨_, _, rfl⟩, _⟩ | ⟨l', _, _, _, rfl, _, _, _, hd⟩
   ·simp [AV.place] at hw
   ·simp [AV.place] at hw
   simp only [AV.place] at hw
   split at hw
   ·simp at hw
   simp only [zJ] at hw
   subst hw
   rcases hd with ⟨_, _, _, _, _, l1, rfl, _⟩ | ⟨_, _, h3, _⟩
   ·exact .inr (by simp)
   ·exact .inl h3
  | ptr =>
   rw [Den] at hd
   obtain ⟨l', _, _, rfl, _, hd⟩ := hd
   simp only [AV.place, zJ] at hw
   subst hw
   rcases hd with ⟨_, _, _, _, _, l1, rfl, _⟩ | ⟨_, _, h3, _⟩
   ·exact .inr (by simp)
   ·exact .inl h3
  | fn => rw [Den] at hd; obtain ⟨_, rfl, _⟩ := hd; simp [AV.place] at hw
  | agg => rw [Den] at hd; obtain ⟨_, rfl, _⟩ := hd; simp [AV.place] at hw
  | tup => rw [Den] at hd; obtain ⟨_, rfl, _⟩ := hd; simp [AV.place] at hw
 cases x with
 | c a => simp [rootOf] at hr
 | t s =>
  have hsr := h.sr s
  have key : ∀ t, see V (.t s) = some t -> baseOf V (.t s) = some r -> t.bare ≠ .und -> F l \/ l ∈ Lf r := by
   intro t hs hb ht
   have hna := bare_not_at t
   simp only [see] at hs
   simp only [baseOf] at hb
   split at hs
   ·rename_i u hu
    rw [hu] at hb
    simp only [zJ] at hs hb
    subst hs hb
    exact den (h.den hu).bare ht hna hl
   ·rename_i q hq
    rw [hq] at hb hsr
    simp only [zJ] at hb
    subst hb
    split at hs
    ·rename_i u hu
     simp only [zJ] at hs
     subst hs
     have hd := h.den hu
     rw [<- hsr.2.1] at hd
     exact den hd.bare ht hna hl
    ·simp at hs
   ·rename_i q p k n ag hq
    rw [hq] at hb hsr
    simp only [zJ] at hb
    subst hb
    obtain ⟨_, l0, cs, hloc, hkn, hv⟩ := hsr
    have hloc' := hloc
    obtain ⟨t0, e1, e2, e3⟩ := hloc
    simp only [e1, e2] at hs
    obtain ⟨ls, hd, hsub⟩ := rng_den h hloc' hkn hv hs
    rcases den hd.bare ht hna hl with h1 | h1
    ·exact .inl h1
    ·exact .inr (hsub l h1)
   ·simp at hs
  simp only [rootOf] at hr
  split at hr
  ·rename_i q p k hq
   simp only [zJ] at hr
   subst hr
   rw [hq] at hsr
   obtain ⟨_, l0, cs, hloc, hv⟩ := hsr
   rw [Opd.ev, hv] at hl
   simp only [AV.place, zJ] at hl
   subst hl
   obtain ⟨_, _, _, _, _, _, _, hm, _⟩ := h.node hloc
   exact .inr hm
  ·split at hr
   ·rename_i t0 hs
    split at hr
    ·rename_i ht; exact key _ hs hr (by rw [ht]; simp)
    ·rename_i ht; exact key _ hs hr (by rw [ht]; simp)
    ·simp at hr
   ·simp at hr
theorem heap_target {c : COp} {H1 : Heap} (hop : heapOp env H c = some (v, H1)) (hcc : ∀ e d s, c ≠ .cpy e d s) (hcl : ∀ e zs x, c ≠ .clr e zs x) {l : Nat} (hl : l < H.sz) (ht : ∀ x, target c = some x -> (x.ev env).place ≠ some l) : H1.get l = H.get l := by
 cases c with
 | st n p x =>
  have ht := ht p rfl
  simp only [heapOp] at hop
  split at hop
  ·rename_i l0 o he
   split at hop
   ·obtain ⟨H2, hw, hop⟩ := zM hop
    simp only [zP] at hop
    obtain ⟨_, rfl⟩ := hop
    unfold Heap.wr at hw
    split at hw
    ·simp only [zJ] at hw
     subst hw
     have : l ≠ l0 := fun e => ht (by rw [he, e]; rfl)
     simp [Heap.put, this]
    ·simp at hw
   ·simp at hop
  ·simp at hop
 | appm e bs zs s x =>
  simp only [heapOp] at hop
  split at hop
  ·split at hop
   ·simp only [zJ, zP] at hop; rw [<- hop.2]; simp [Heap.new, Nat.ne_of_lt hl]
   ·simp at hop
  ·simp at hop
 | app e bs s x =>
  have ht := ht s rfl
  simp only [heapOp] at hop
  obtain ⟨⟨k, ys⟩, _, hop⟩ := Option.bind_eq_some_iff.1 hop
  simp only at hop
  split at hop
  ·split at hop
   ·simp only [zJ, zP] at hop; rw [<- hop.2]
   ·split at hop
    ·simp only [zJ, zP] at hop; rw [<- hop.2]
    ·simp at hop
   ·simp at hop
  ·split at hop
   ·simp at hop
   ·split at hop
    ·split at hop
     ·simp only [zJ, zP] at hop; rw [<- hop.2]; simp [Heap.new, Nat.ne_of_lt hl]
     ·simp at hop
    ·rename_i l0 o n e' y he
     have hne0 : y = false -> l ≠ l0 := fun hy e => ht (by rw [he, e, hy]; simp [AV.place])
     split at hop
     ·simp at hop
     ·obtain ⟨xs, _, hop⟩ := Option.bind_eq_some_iff.1 hop
      split at hop
      ·split at hop
       ·simp only [zJ, zP] at hop; rw [<- hop.2]; simp [Heap.new, Nat.ne_of_lt hl]
       ·simp at hop
      ·rename_i hy
       have hne := hne0 (by simpa using hy)
       split at hop
       ·obtain ⟨H2, hw, hop⟩ := zM hop
        simp only [zP] at hop
        obtain ⟨_, rfl⟩ := hop
        unfold Heap.wr at hw
        split at hw
        ·simp only [zJ] at hw
         subst hw
         simp [Heap.put, hne]
        ·simp at hw
       ·split at hop
        ·simp only [zJ, zP] at hop; rw [<- hop.2]; simp [Heap.new, Heap.kill, hne, Nat.ne_of_lt hl]
        ·simp at hop
    ·simp at hop
 | cpy e d s => exact absurd rfl (hcc e d s)
 | clr e zs x => exact absurd rfl (hcl e zs x)
 | b2s x =>
  simp only [heapOp] at hop
  split at hop
  ·simp only [zJ, zP] at hop; rw [<- hop.2]
  ·split at hop
   ·obtain ⟨xs, _, hop⟩ := Option.bind_eq_some_iff.1 hop
    obtain ⟨s, _, hop⟩ := zM hop
    simp only [zP] at hop; rw [<- hop.2]
   ·simp at hop
  ·simp at hop
 | slx e x lo hi mx =>
  have key : ∀ {b : Option (AV × Heap)}, b = some (v, H1) -> (∀ p, b = some p -> p.2 = H) -> H1.get l = H.get l := by
   intro b hb hp
   rw [<- hp _ hb]
  refine key hop ?_
  intro p hp
  simp only [heapOp] at hp
  repeat' split at hp
  all_goals first
   | (simp only [zJ] at hp; rw [<- hp])
   | simp at hp
 | call => simp [heapOp, pureOp] at hop
 | callv => simp [heapOp, pureOp] at hop
 | fail => simp [heapOp, pureOp] at hop
 | _ =>
  rcases quiet_heap rfl hop with h1 | ⟨cs, _, h1⟩
  ·rw [h1]
  ·rw [h1]; exact new_get hl
theorem kept_of {us : List (Nat × Nat)} {bad : List (Option Nat)} (h : Sta H F env V Lf) (hu : usOk V us bad = true) (hsz : H.sz <= H'.sz)
  (hc : ∀ l, l < H.sz -> (F l \/ ∃ r, l ∈ Lf r /\ bad.contains (some r) = false) -> H'.get l = H.get l) : Kept env us H H' := by
 intro s n hs l o he vs hrd
 have hl : l < H.sz := by
  unfold Heap.rd at hrd
  split at hrd
  ·rename_i hc; exact hc.2.1
  ·simp at hrd
 have hget : H'.get l = H.get l := by
  refine hc l hl ?_
  have := (List.all_eq_true.1 hu) (s, n) hs
  simp only at this
  split at this
  ·rename_i cs hv
   have hd := h.den hv
   rw [he, Den] at hd
   obtain ⟨l', _, _, e1, _, hd⟩ := hd
   simp only [AV.ptr.injEq] at e1
   obtain ⟨rfl, rfl⟩ := e1
   rcases hd with ⟨h1, _⟩ | ⟨_, _, h3, _⟩
   ·cases h1
   ·exact .inl h3
  ·split at this
   ·rename_i r hr
    rcases root_ok h (x := .t s) (by rw [Opd.ev, he]; rfl) hr with h1 | h1
    ·exact .inl h1
    ·exact .inr ⟨r, h1, by simpa using this⟩
   ·simp at this
 unfold Heap.rd at hrd ⊢
 split at hrd
 ·rename_i hc
  rw [if_pos ⟨by rw [hget]; exact hc.1, Nat.lt_of_lt_of_le hl hsz, by rw [hget]; exact hc.2.2⟩, hget]
  exact hrd
 ·simp at hrd
theorem tgt_ok (h : Sta H F env V Lf) {x : Opd} {bad : List (Option Nat)} {l : Nat} (hx : tgt V x = some bad) (hl : (x.ev env).place = some l) : ∃ r, bad = [some r] /\ l ∈ Lf r /\ ¬ F l := by
 cases x with
 | c a =>
  cases a with
  | nils => simp [Opd.ev, AV.place] at hl
  | _ => simp [tgt] at hx
 | t s =>
  have hsr := h.sr s
  have key : ∀ t r, see V (.t s) = some t -> baseOf V (.t s) = some r -> ((∃ y e sk cs, t.bare = .sl true y e sk cs) \/ ∃ cs, t.bare = .ptr true cs) -> l ∈ Lf r /\ ¬ F l := by
   intro t r hs hb ht
   have den : ∀ {w : AV} {ls : List Nat}, Den H F w t ls -> w.place = some l -> l ∈ ls /\ ¬ F l := by
    intro w ls hd hw
    replace hd := hd.bare
    rcases ht with ⟨y, e, sk, cs, ht⟩ | ⟨cs, ht⟩ <;> rw [ht] at hd
    ·rw [Den] at hd
     rcases hd with ⟨_, _, rfl | ⟨_, _, rfl⟩, _⟩ | ⟨l', _, _, _, rfl, _, _, _, hd⟩
     ·simp [AV.place] at hw
     ·simp [AV.place] at hw
     simp only [AV.place] at hw
     split at hw
     ·simp at hw
     simp only [zJ] at hw
     subst hw
     rcases hd with ⟨_, _, _, h4, _, l1, rfl, _⟩ | ⟨h3, _⟩
     ·exact ⟨by simp, h4⟩
     ·cases h3
    ·obtain ⟨l', avs, rest, lc, h1, _, _, h4, _, rfl, _⟩ := kids_den hd rfl
     rw [hw] at h1
     simp only [zJ] at h1
     subst h1
     exact ⟨by simp, h4⟩
   simp only [see] at hs
   simp only [baseOf] at hb
   split at hs
   ·rename_i u hu
    rw [hu] at hb
    simp only [zJ] at hs hb
    subst hs hb
    exact den (h.den hu) hl
   ·rename_i q hq
    rw [hq] at hb hsr
    simp only [zJ] at hb
    subst hb
    split at hs
    ·rename_i u hu
     simp only [zJ] at hs
     subst hs
     have hd := h.den hu
     rw [<- hsr.2.1] at hd
     exact den hd hl
    ·simp at hs
   ·rename_i q p k n ag hq
    rw [hq] at hb hsr
    simp only [zJ] at hb
    subst hb
    obtain ⟨_, l0, cs, hloc, hkn, hv⟩ := hsr
    have hloc' := hloc
    obtain ⟨t0, e1, e2, e3⟩ := hloc
    simp only [e1, e2] at hs
    obtain ⟨ls, hd, hsub⟩ := rng_den h hloc' hkn hv hs
    obtain ⟨h1, h2⟩ := den hd hl
    exact ⟨hsub l h1, h2⟩
   ·simp at hs
  simp only [tgt] at hx
  split at hx
  ·rename_i q p k hq
   simp only [zJ] at hx
   subst hx
   rw [hq] at hsr
   obtain ⟨_, l0, cs, hloc, hv⟩ := hsr
   rw [Opd.ev, hv] at hl
   simp only [AV.place, zJ] at hl
   subst hl
   obtain ⟨_, _, _, _, _, hF, _, hm, _⟩ := h.node hloc
   exact ⟨q, rfl, hm, hF⟩
  ·split at hx
   ·rename_i t0 hs
    split at hx
    ·rename_i ht
     obtain ⟨ls, hd⟩ := see_ok h hs
     replace hd := hd.bare
     rw [ht, Den] at hd
     rw [hd.1] at hl; simp [AV.place] at hl
    ·rename_i ht
     obtain ⟨r, hr, hx⟩ := zM hx
     exact ⟨r, hx.symm, key _ r hs hr (.inl ⟨_, _, _, _, ht⟩)⟩
    ·rename_i ht
     obtain ⟨r, hr, hx⟩ := zM hx
     exact ⟨r, hx.symm, key _ r hs hr (.inr ⟨_, ht⟩)⟩
    ·simp at hx
   ·simp at hx
theorem needUs_ok {o : COper} {H1 : Heap} (h : Sta H F env V Lf) (hop : heapOp env H o.op = some (v, H1)) (hsz : H.sz <= H1.sz) (hu : needUs V o = true) : Kept env o.us H H1 := by
 unfold needUs at hu
 split at hu
 ·rename_i hus; rw [hus]; intro s n hs; simp at hs
 ·split at hu
  ·simp at hu
  ·simp at hu
  ·rename_i c hc1 hc2
   split at hu
   ·rename_i x hx
    split at hu
    ·rename_i bad hbad
     refine kept_of h hu hsz fun l hl hlr => heap_target hop (fun e d s hh => hc1 _ _ _ hh) (fun e d s hh => hc2 _ _ _ hh) hl fun y hy hpl => ?_
     rw [hx] at hy
     simp only [zJ] at hy
     subst hy
     obtain ⟨r, rfl, h1, h2⟩ := tgt_ok h hbad hpl
     rcases hlr with h3 | ⟨r', h3, h4⟩
     ·exact h2 h3
     ·have := h.dj _ _ _ h1 h3
      subst this
      simp at h4
    ·simp at hu
   ·rename_i hx
    intro s n hs l o' he vs hrd
    have hl : l < H.sz := by
     unfold Heap.rd at hrd
     split at hrd
     ·rename_i hc; exact hc.2.1
     ·simp at hrd
    have hget := heap_target hop (fun e d s hh => hc1 _ _ _ hh) (fun e d s hh => hc2 _ _ _ hh) hl fun y hy => by rw [hx] at hy; simp at hy
    unfold Heap.rd at hrd ⊢
    split at hrd
    ·rename_i hc
     rw [if_pos ⟨by rw [hget]; exact hc.1, Nat.lt_of_lt_of_le hl hsz, by rw [hget]; exact hc.2.2⟩, hget]
     exact hrd
    ·simp at hrd
end
section
def gV (V : VEnv) : Option (Nat × Bool) -> Option Bool
 | none => some true
 | some (j, b) => match sca V (.t j) with
  | .bool c => some (c == b)
  | .tup [] => some false
  | _ => none
def ioTakes (io : List Nat) : VEnv -> Nat -> List Opd -> Option (List T × VEnv)
  | V, _, [] => some ([], V)
  | V, i, x :: xs => if io.contains i then match takeV V x with
      | some (t, V1) => (ioTakes io V1 (i + 1) xs).map fun (ts, V2) => (t :: ts, V2)
      | none => none
    else ioTakes io V (i + 1) xs
def ioLends (V : VEnv) (io : List Nat) : Nat -> List Opd -> List T -> Option (List T × List Nat)
  | _, [], [] => some ([], [])
  | _, [], _ :: _ => none
  | i, x :: xs, tios => if io.contains i then match tios with
      | t :: tios' => (ioLends V io (i + 1) xs tios').map fun (ts, rs) => (t :: ts, rs)
      | [] => none
    else match lend V x with
      | some (t, rs) => (ioLends V io (i + 1) xs tios).map fun (ts, rs') => (t :: ts, rs ++ rs')
      | none => none
def ioSel {α : Type} (io : List Nat) : Nat -> List α -> List α
 | _, [] => []
 | i, x :: xs => if io.contains i then x :: ioSel io (i + 1) xs else ioSel io (i + 1) xs
def isUnd : T -> Bool
 | .und => true
 | _ => false
def back1 (V0 V1 V : VEnv) (n : Nat) (x : Opd) (t : T) : Option VEnv :=
 match x with
 | .c _ => none
 | .t s => match V0.get s with
  | .v .nils => (match t with | .nils => some V | _ => none)
  | .v t0 => if t0.plain then none else if s < n then match V.get s with
   | .v .und => some (V.set s (.v t))
   | _ => none
   else none
  | .al r => match V0.get r with
   | .v t0 => if t0.plain then none else if r < n then match V.get r with
    | .v .und => some (V.set r (.v t))
    | _ => none
    else none
   | _ => none
  | .ref r p k 1 false => match V1.get r with
   | .v t1 => match t1.node p with
    | some _ => match V.get r with
     | .v t0 => match t0.node p with
      | some cs => match cs[k]? with
       | some .und => some ((cut r p V).set r (.v (T.setNode (cs.set k t) t0 p)))
       | _ => none
      | none => none
     | _ => none
    | none => none
   | _ => none
  | .ref r p 0 n true => match V1.get r with
   | .v t1 => match t1.node p with
    | some _ => match V.get r with
     | .v t0 => match t0.node p with
      | some cs => match t with
       | .agg us => if us.length = n /\ cs.length = n /\ cs.all isUnd = true then some ((cut r p V).set r (.v (T.setNode us t0 p))) else none
       | _ => none
      | none => none
     | _ => none
    | none => none
   | _ => none
  | _ => none
def back0 (V0 V1 V : VEnv) (n : Nat) (x : Opd) (t : T) : Option VEnv := if isUnd t then some V else back1 V0 V1 V n x t
def backs (V0 V1 : VEnv) (n : Nat) : VEnv -> List Opd -> List T -> Option VEnv
 | V, [], [] => some V
 | V, x :: xs, t :: ts => match back0 V0 V1 V n x t with
  | some V' => backs V0 V1 n V' xs ts
  | none => none
 | _, _, _ => none
def callV (io : Nat -> List Nat) (V : VEnv) : COp -> Option (Nat × List T × List Nat × VEnv × List Opd)
 | .call f xs => match ioTakes (io f) V 0 xs with
  | some (tios, V1) => (ioLends V1 (io f) 0 xs tios).map fun (ts, rs) => (f, ts, rs, V1, ioSel (io f) 0 xs)
  | none => none
 | .callv (.t s) xs => match V.get s with
  | .v (.fn f cs) => if (io f).isEmpty then (ioLends V [] 0 xs []).map fun (ts, rs) => (f, ts ++ cs, rs, V, []) else none
  | .clo f cs => if (io f).isEmpty then match ioLends V [] 0 xs [], lendC V cs with
   | some (ts, rs), some (us, rs') => some (f, ts ++ us, rs ++ rs', V, [])
   | _, _ => none
   else none
  | _ => none
 | _ => none
variable {H H' : Heap} {F F' : Nat -> Prop} {env env' : Env} {V V' : VEnv} {Lf : Nat -> List Nat} {v : AV} {ls : List Nat} {ks : List Nat} {r : RV} {io : List Nat}
theorem ioTakes_ok : ∀ {xs : List Opd} {V : VEnv} {Lf : Nat -> List Nat} {i : Nat} {ts : List T} {avs0 : List AV} {ts0 : List T} {ls : List Nat} {V' : VEnv}, Sta H F env V Lf -> Lo H F Lf avs0 ts0 ls -> ioTakes io V i xs = some (ts, V') ->
  ∃ l1 Lf', Took H F env V' Lf Lf' (avs0 ++ (ioSel io i xs).map (Opd.ev env)) (ts0 ++ ts) (ls ++ l1) /\ ∀ l ∈ l1, ∃ s, l ∈ Lf s
 | [], V, Lf, i, ts, avs0, ts0, ls, V', h, hl, hx => by
  simp only [ioTakes, zJ, zP] at hx
  obtain ⟨rfl, rfl⟩ := hx
  exact ⟨[], Lf, ⟨h, by simpa [ioSel] using hl, fun _ _ h => h⟩, by simp⟩
 | x :: xs, V, Lf, i, ts, avs0, ts0, ls, V', h, hl, hx => by
  simp only [ioTakes] at hx
  split at hx
  ·rename_i hi
   split at hx
   ·rename_i t V1 h1
    obtain ⟨⟨ts', V2⟩, h2, hx⟩ := zM hx
    simp only [zP] at hx
    obtain ⟨rfl, rfl⟩ := hx
    obtain ⟨l1, Lf1, k1, p1⟩ := take_ok h hl h1
    obtain ⟨l2, Lf2, k2, p2⟩ := ioTakes_ok k1.st k1.lo h2
    have hsel : ioSel io i (x :: xs) = x :: ioSel io (i + 1) xs := by simp only [ioSel]; rw [if_pos hi]
    refine ⟨l1 ++ l2, Lf2, ⟨k2.st, by rw [hsel]; simpa using k2.lo, fun s l hl => k1.sub s l (k2.sub s l hl)⟩, fun l hl => ?_⟩
    rcases List.mem_append.1 hl with hl | hl
    ·exact p1 l hl
    ·obtain ⟨s, hs⟩ := p2 l hl; exact ⟨s, k1.sub s l hs⟩
   ·simp at hx
  ·rename_i hi
   have := ioTakes_ok h hl hx
   have hsel : ioSel io i (x :: xs) = ioSel io (i + 1) xs := by simp only [ioSel]; rw [if_neg hi]
   rw [hsel]; exact this
theorem ioLends_ok (h : Sta H F env V Lf) {G : Nat -> Prop} (hFG : ∀ l, F l -> G l) : ∀ {xs : List Opd} {i : Nat} {tios ts : List T} {avs : List AV} {ls rs : List Nat}, avs = (ioSel io i xs).map (Opd.ev env) -> Dens H F avs tios ls -> (∀ l ∈ ls, ¬ G l) ->
  ioLends V io i xs tios = some (ts, rs) -> (∀ l, Lent F Lf rs l -> G l) -> Dens H G (xs.map (Opd.ev env)) ts ls
 | [], i, tios, ts, avs, ls, rs, ha, hd, hn, hx, hG => by
  cases tios with
  | nil =>
   simp only [ioLends, zJ, zP] at hx
   obtain ⟨rfl, rfl⟩ := hx
   rw [Dens] at hd
   rw [List.map_nil, Dens]; exact ⟨rfl, hd.2⟩
  | cons => simp [ioLends] at hx
 | x :: xs, i, tios, ts, avs, ls, rs, ha, hd, hn, hx, hG => by
  simp only [ioLends] at hx
  split at hx
  ·rename_i hi
   cases tios with
   | nil => simp at hx
   | cons t tios =>
    simp only at hx
    obtain ⟨⟨ts', rs'⟩, h2, hx⟩ := zM hx
    simp only [zP] at hx
    obtain ⟨rfl, rfl⟩ := hx
    simp only [ioSel, hi, if_true, List.map_cons] at ha
    subst ha
    rw [Dens] at hd
    obtain ⟨c, cs', l1, l2, e, rfl, h3, h4⟩ := hd
    simp only [List.cons.injEq] at e
    obtain ⟨rfl, rfl⟩ := e
    rw [List.map_cons, Dens]
    exact ⟨_, _, l1, l2, rfl, rfl, h3.agree ⟨Nat.le_refl _, fun l hl => ⟨rfl, hFG l hl⟩, fun l hl => ⟨rfl, hn l (by simp [hl])⟩⟩, ioLends_ok h hFG rfl h4 (fun l hl => hn l (by simp [hl])) h2 hG⟩
  ·rename_i hi
   split at hx
   ·rename_i t rs0 h1
    obtain ⟨⟨ts', rs'⟩, h2, hx⟩ := zM hx
    simp only [zP] at hx
    obtain ⟨rfl, rfl⟩ := hx
    simp only [ioSel, hi, if_false] at ha
    rw [List.map_cons, Dens]
    refine ⟨_, _, [], ls, rfl, rfl, lend_ok h h1 fun l hl => hG l ?_, ioLends_ok h hFG ha hd hn h2 fun l hl => hG l ?_⟩
    ·rcases hl with hl | ⟨r, hr, hl⟩
     ·exact .inl hl
     ·exact .inr ⟨r, by simp [hr], hl⟩
    ·rcases hl with hl | ⟨r, hr, hl⟩
     ·exact .inl hl
     ·exact .inr ⟨r, by simp [hr], hl⟩
   ·simp at hx
theorem Sta.fill (h : Sta H F env V Lf) {s : Nat} {t : T} {l1 : List Nat} (hs : V.get s = .v .und) (hlt : s < env.length) (hd : Den H F (env.getD s .und) t l1) (hnd : l1.Nodup) (hdj : ∀ q l, l ∈ l1 -> l ∉ Lf q) :
  Sta H F env (V.set s (.v t)) (upL Lf s l1) := by
 have hloc : ∀ q p l cs, Loc H env V q p l cs -> Loc H env (V.set s (.v t)) q p l cs := by
  intro q p l cs hl
  refine hl.congr ?_ rfl
  rw [VEnv.get_set, if_neg]
  intro e
  subst e
  obtain ⟨t0, h1, h2, _⟩ := hl
  rw [hs] at h1
  simp only [S.v.injEq] at h1
  subst h1
  cases p <;> simp [T.node, T.kids] at h2
 refine ⟨h.fz, fun s' => ?_, fun s' => ?_, fun a b l h1 h2 => ?_, fun s' hl => ?_⟩
 ·rw [VEnv.get_set]
  unfold upL
  by_cases e : s = s'
  ·subst e
   rw [if_pos rfl, if_pos rfl]; exact hd
  ·rw [if_neg e, if_neg e]
   have hsr := h.sr s'
   cases hx : V.get s' with
   | v u => rw [hx] at hsr; exact hsr
   | al q =>
    rw [hx] at hsr
    obtain ⟨a1, a2, u, a3⟩ := hsr
    refine ⟨a1, a2, ?_⟩
    rw [VEnv.get_set]
    split
    ·exact ⟨_, rfl⟩
    ·exact ⟨u, a3⟩
   | ref q p k n ag =>
    rw [hx] at hsr
    obtain ⟨a1, l, cs, a2, a3⟩ := hsr
    exact ⟨a1, l, cs, hloc _ _ _ _ a2, a3⟩
   | adr q p k =>
    rw [hx] at hsr
    obtain ⟨a1, l, cs, a2, a3⟩ := hsr
    exact ⟨a1, l, cs, hloc _ _ _ _ a2, a3⟩
   | clo f cs =>
    rw [hx] at hsr
    obtain ⟨a1, vs, a2, a3⟩ := hsr
    refine ⟨a1, vs, a2, a3.imp fun c v _ hc => ?_⟩
    cases c with
    | t u => exact hc
    | a q p k =>
     obtain ⟨l, cs', b1, b2⟩ := hc
     exact ⟨l, cs', hloc _ _ _ _ b1, b2⟩
 ·unfold upL
  split
  ·exact hnd
  ·exact h.nd s'
 ·unfold upL at h1 h2
  split at h1 <;> split at h2
  ·rename_i e e'; rw [<- e, <- e']
  ·exact absurd h2 (hdj _ _ h1)
  ·exact absurd h1 (hdj _ _ h2)
  ·exact h.dj a b l h1 h2
 ·rw [VEnv.get_set]
  split
  ·rename_i e; subst e; omega
  ·exact h.ln s' hl
def CellAt (H : Heap) (env : Env) (V0 V1 : VEnv) (x : Opd) : Prop :=
 (∀ s r p k, x = .t s -> V0.get s = .ref r p k 1 false -> ∀ t1 cs1, V1.get r = .v t1 -> t1.node p = some cs1 -> ∃ l, plc H (env.getD r .und) p = some l /\ (H.get l).cells.getD k .und = x.ev env) /\
 (∀ s r p n, x = .t s -> V0.get s = .ref r p 0 n true -> ∀ t1 cs1, V1.get r = .v t1 -> t1.node p = some cs1 -> ∃ l, plc H (env.getD r .und) p = some l /\ x.ev env = .agg ((H.get l).cells.take n))
theorem cellAt {V0 V1 : VEnv} {Lf0 Lf1 : Nat -> List Nat} (h0 : Sta H F env V0 Lf0) (h1 : Sta H F env V1 Lf1) (ha : ∀ s, ∀ l ∈ Lf1 s, H'.get l = H.get l) (x : Opd) : CellAt H' env V0 V1 x := by
 constructor
 ·intro s r p k hx hs t1 cs1 ht1 hn1
  subst hx
  have hsr := h0.sr s
  rw [hs] at hsr
  obtain ⟨_, l, cs, ⟨t0, e1, e2, e3⟩, hkn, hv⟩ := hsr
  simp only [Bool.false_eq_true, if_false] at hv
  obtain ⟨g1, g2⟩ := h1.loc_agree (ha r) ⟨t1, ht1, hn1, e3⟩
  obtain ⟨_, _, _, g3⟩ := g1
  exact ⟨l, g3, by rw [g2, Opd.ev, hv.2]⟩
 ·intro s r p n hx hs t1 cs1 ht1 hn1
  subst hx
  have hsr := h0.sr s
  rw [hs] at hsr
  obtain ⟨_, l, cs, ⟨t0, e1, e2, e3⟩, hkn, hv⟩ := hsr
  simp only [if_true, List.drop_zero] at hv
  obtain ⟨g1, g2⟩ := h1.loc_agree (ha r) ⟨t1, ht1, hn1, e3⟩
  obtain ⟨_, _, _, g3⟩ := g1
  exact ⟨l, g3, by rw [g2, Opd.ev, hv]⟩
theorem und_dens : ∀ {cs : List T} {avs : List AV} {ls : List Nat}, cs.all isUnd = true -> Dens H F avs cs ls -> ls = []
 | [], _, _, _, h => by rw [Dens] at h; exact h.2
 | t :: cs, _, _, hu, h => by
  simp only [List.all_cons, Bool.and_eq_true] at hu
  rw [Dens] at h
  obtain ⟨c, cs', l1, l2, rfl, rfl, h1, h2⟩ := h
  have := und_dens hu.2 h2
  subst this
  cases t <;> simp [isUnd] at hu
  rw [Den] at h1
  subst h1; rfl
theorem back1_ok {V0 V1 : VEnv} {Lf0 : Nat -> List Nat} {H0 : Heap} {F0 : Nat -> Prop} {x : Opd} {t : T} {l1 : List Nat} (h0 : Sta H0 F0 env V0 Lf0) (h : Sta H F env V Lf) (hc : CellAt H env V0 V1 x) (hd : Den H F (x.ev env) t l1) (hnd : l1.Nodup) (hdj : ∀ q l, l ∈ l1 -> l ∉ Lf q)
  (hx : back1 V0 V1 V env.length x t = some V') : ∃ Lf', Sta H F env V' Lf' /\ ∀ l, Pl Lf' l -> Pl Lf l \/ l ∈ l1 := by
 cases x with
 | c a => simp [back1] at hx
 | t s =>
  have fill : ∀ {q : Nat}, V.get q = .v .und -> q < env.length -> env.getD s .und = env.getD q .und -> ∃ Lf', Sta H F env (V.set q (.v t)) Lf' /\ ∀ l, Pl Lf' l -> Pl Lf l \/ l ∈ l1 := by
   intro q hq hlt he
   refine ⟨_, h.fill hq hlt (by rw [<- he]; exact hd) hnd hdj, fun l ⟨s', hl⟩ => ?_⟩
   unfold upL at hl
   split at hl
   ·exact .inr hl
   ·exact .inl ⟨s', hl⟩
  have hsr := h0.sr s
  simp only [back1] at hx
  split at hx
  ·split at hx
   ·simp only [zJ] at hx; subst hx
    exact ⟨Lf, h, fun l hl => .inl hl⟩
   ·simp at hx
  ·split at hx
   ·simp at hx
   ·split at hx
    ·rename_i hlt
     split at hx
     ·rename_i hq
      simp only [zJ] at hx; subst hx
      exact fill hq hlt rfl
     ·simp at hx
    ·simp at hx
  ·rename_i q hq0
   rw [hq0] at hsr
   split at hx
   ·split at hx
    ·simp at hx
    ·split at hx
     ·rename_i hlt
      split at hx
      ·rename_i hq
       simp only [zJ] at hx; subst hx
       exact fill hq hlt hsr.2.1
      ·simp at hx
     ·simp at hx
   ·simp at hx
  ·rename_i r p k hs
   split at hx
   ·rename_i t1 ht1
    split at hx
    ·rename_i cs1 hcs1
     obtain ⟨l, hp, hcell⟩ := hc.1 s r p k rfl hs t1 cs1 ht1 hcs1
     split at hx
     ·rename_i t0 ht0
      split at hx
      ·rename_i cs hcs
       split at hx
       ·rename_i hk
        simp only [zJ] at hx; subst hx
        obtain ⟨avs, rest, A, lc, B, g2, g3, g4, g5, g6, g7, g8⟩ := h.chg ht0 hcs hp
        obtain ⟨c, m1, mu, m2, hck, rfl, hdu, hset⟩ := g7.at hk
        rw [Den] at hdu
        subst hdu
        have hcx : c = (Opd.t s).ev env := by
         rw [<- hcell, g5, zD, List.getElem?_append_left (zS hck).1, hck]; rfl
        have hd' := hset H F t l1 ⟨Nat.le_refl _, fun _ h => ⟨rfl, h⟩, fun l hl => ⟨rfl, (g7.owned l (by simpa using hl)).2.2⟩⟩ (by rw [hcx]; exact hd)
        have hndr := h.nd r
        rw [g6] at hndr
        have hdjr := hdj r
        rw [g6] at hdjr
        have hst := g8 H avs (cs.set k t) (m1 ++ l1 ++ m2) (Nat.le_refl _) (fun _ _ => rfl) g3 g5 (by simp) hd' (by
         simp only [List.append_assoc, List.cons_append, List.nil_append, List.nodup_append, List.nodup_cons, List.mem_append, List.mem_cons] at hndr hdjr ⊢
         grind) (by
         intro s' hs' l' hl' hl''
         rcases List.mem_append.1 hl' with hl' | hl'
         ·rcases List.mem_append.1 hl' with hl' | hl'
          ·exact hs' (h.dj _ _ _ hl'' (by rw [g6]; simp [hl']))
          ·exact hdj s' l' hl' hl''
         ·exact hs' (h.dj _ _ _ hl'' (by rw [g6]; simp [hl'])))
        refine ⟨_, hst, fun l' ⟨s', hl'⟩ => ?_⟩
        unfold upL at hl'
        split at hl'
        ·by_cases hm : l' ∈ l1
         ·exact .inr hm
         ·refine .inl ⟨r, ?_⟩
          rw [g6]; simp at hl' ⊢; grind
        ·exact .inl ⟨s', hl'⟩
       ·simp at hx
      ·simp at hx
     ·simp at hx
    ·simp at hx
   ·simp at hx
  ·rename_i r p n hs
   split at hx
   ·rename_i t1 ht1
    split at hx
    ·rename_i cs1 hcs1
     obtain ⟨l, hp, hcell⟩ := hc.2 s r p n rfl hs t1 cs1 ht1 hcs1
     split at hx
     ·rename_i t0 ht0
      split at hx
      ·rename_i cs hcs
       split at hx
       ·rename_i us
        split at hx
        ·rename_i hk
         obtain ⟨hk1, hk2, hk3⟩ := hk
         simp only [zJ] at hx; subst hx
         obtain ⟨avs, rest, A, lc, B, g2, g3, g4, g5, g6, g7, g8⟩ := h.chg ht0 hcs hp
         have hlc := und_dens hk3 g7
         subst hlc
         have hal : avs.length = n := by rw [g7.length, hk2]
         have hcx : (Opd.t s).ev env = .agg avs := by
          rw [hcell, g5, <- hal, List.take_left]
         rw [hcx, Den] at hd
         obtain ⟨avs', e', hd⟩ := hd
         simp only [AV.agg.injEq] at e'
         subst e'
         have hndr := h.nd r
         rw [g6] at hndr
         have hdjr := hdj r
         rw [g6] at hdjr
         have hst := g8 H avs us l1 (Nat.le_refl _) (fun _ _ => rfl) g3 g5 (by omega) hd (by
          simp only [List.append_assoc, List.cons_append, List.nil_append, List.nodup_append, List.nodup_cons, List.mem_append, List.mem_cons] at hndr hdjr ⊢
          grind) (by
          intro s' hs' l' hl' hl''
          exact hdj s' l' hl' hl'')
         refine ⟨_, hst, fun l' ⟨s', hl'⟩ => ?_⟩
         unfold upL at hl'
         split at hl'
         ·by_cases hm : l' ∈ l1
          ·exact .inr hm
          ·refine .inl ⟨r, ?_⟩
           rw [g6]; simp at hl' ⊢; grind
         ·exact .inl ⟨s', hl'⟩
        ·simp at hx
       ·simp at hx
      ·simp at hx
     ·simp at hx
    ·simp at hx
   ·simp at hx
  ·simp at hx
theorem back0_ok {V0 V1 : VEnv} {Lf0 : Nat -> List Nat} {H0 : Heap} {F0 : Nat -> Prop} {x : Opd} {t : T} {l1 : List Nat} (h0 : Sta H0 F0 env V0 Lf0) (h : Sta H F env V Lf) (hc : CellAt H env V0 V1 x) (hd : Den H F (x.ev env) t l1) (hnd : l1.Nodup) (hdj : ∀ q l, l ∈ l1 -> l ∉ Lf q)
  (hx : back0 V0 V1 V env.length x t = some V') : ∃ Lf', Sta H F env V' Lf' /\ ∀ l, Pl Lf' l -> Pl Lf l \/ l ∈ l1 := by
 unfold back0 at hx
 split at hx
 ·simp only [zJ] at hx
  subst hx
  exact ⟨Lf, h, fun l hl => .inl hl⟩
 ·exact back1_ok h0 h hc hd hnd hdj hx
theorem backs_ok {V0 V1 : VEnv} {Lf0 : Nat -> List Nat} {H0 : Heap} {F0 : Nat -> Prop} (h0 : Sta H0 F0 env V0 Lf0) : ∀ {xs : List Opd} {ts : List T} {V : VEnv} {Lf : Nat -> List Nat} {l1 : List Nat}, Sta H F env V Lf -> (∀ x, CellAt H env V0 V1 x) -> Dens H F (xs.map (Opd.ev env)) ts l1 -> l1.Nodup -> (∀ q l, l ∈ l1 -> l ∉ Lf q) ->
  backs V0 V1 env.length V xs ts = some V' -> ∃ Lf', Sta H F env V' Lf' /\ ∀ l, Pl Lf' l -> Pl Lf l \/ l ∈ l1
 | [], [], V, Lf, l1, h, hc, hd, hnd, hdj, hx => by
  simp only [backs, zJ] at hx
  subst hx
  exact ⟨Lf, h, fun l hl => .inl hl⟩
 | x :: xs, t :: ts, V, Lf, l1, h, hc, hd, hnd, hdj, hx => by
  simp only [backs] at hx
  split at hx
  ·rename_i V2 h1
   rw [List.map_cons, Dens] at hd
   obtain ⟨c, cs', m1, m2, e, rfl, h3, h4⟩ := hd
   simp only [List.cons.injEq] at e
   obtain ⟨rfl, rfl⟩ := e
   obtain ⟨n1, n2, n3⟩ := List.nodup_append.1 hnd
   obtain ⟨Lf1, k1, k2⟩ := back0_ok h0 h (hc x) h3 n1 (fun q l hl => hdj q l (by simp [hl])) h1
   obtain ⟨Lf2, k3, k4⟩ := backs_ok h0 k1 hc h4 n2 (fun q l hl hl' => by
    rcases k2 l ⟨q, hl'⟩ with ⟨s, h5⟩ | h5
    ·exact hdj s l (by simp [hl]) h5
    ·exact n3 l h5 l hl rfl) hx
   refine ⟨Lf2, k3, fun l hl => ?_⟩
   rcases k4 l hl with h5 | h5
   ·rcases k2 l h5 with h6 | h6
    ·exact .inl h6
    ·exact .inr (by simp [h6])
   ·exact .inr (by simp [h5])
  ·simp at hx
 | [], _ :: _, V, Lf, l1, h, hc, hd, hnd, hdj, hx => by simp [backs] at hx
 | _ :: _, [], V, Lf, l1, h, hc, hd, hnd, hdj, hx => by simp [backs] at hx
end
section
def opsWrs : List (Nat × COper) -> List Nat
 | [] => []
 | (_, o) :: r => (match o.dst with | some d => [d] | none => []) ++ opsWrs r
def wrs : CCode -> List Nat
 | .kill ts => ts
 | .reg _ ops => opsWrs ops
 | .seq a b => wrs a ++ wrs b
 | .cond _ a b => wrs a ++ wrs b
 | .block _ c => wrs c
 | .loop c => wrs c
 | _ => []
def KeepM : Judg -> Prop
 | .co c env _ _ env' _ => env'.length = env.length /\ ∀ s, s ∉ wrs c -> env'.getD s .und = env.getD s .und
 | .op ops env _ env' _ => env'.length = env.length /\ ∀ s, s ∉ opsWrs ops -> env'.getD s .und = env.getD s .und
 | .ca .. => True
theorem putD_keep {env : Env} {d : Option Nat} {v : AV} {s : Nat} (h : s ∉ (match d with | some d => [d] | none => [])) : (putD env d v).getD s .und = env.getD s .und := by
 cases d with
 | none => rfl
 | some d => exact putD_ne (by simp only [List.mem_singleton] at h; intro e; exact h (by simpa using e.symm))
theorem killT_keep : ∀ (ss : List Nat) (env : Env) (s : Nat), s ∉ ss -> (killT env ss).getD s .und = env.getD s .und
 | [], env, s, _ => rfl
 | d :: ss, env, s, h => by
  have h1 := killT_keep ss (env.set d .und) s (fun hm => h (by simp [hm]))
  have h2 : s ≠ d := fun e => h (by simp [e])
  have : killT env (d :: ss) = killT (env.set d .und) ss := rfl
  rw [this, h1]
  simp [zD, List.getElem?_set_ne (Ne.symm h2)]
theorem J_keep {T : Nat -> Option CFn} {X : Ext} {j : Judg} (h : J T X j) : KeepM j := by
 induction h with
 | skip => exact ⟨rfl, fun _ _ => rfl⟩
 | @kill ts env H => exact ⟨killT_len ts env, fun s hs => killT_keep ts env s hs⟩
 | reg _ ih => exact ih
 | seqN _ _ ih1 ih2 => exact ⟨ih2.1.trans ih1.1, fun s hs => (ih2.2 s (fun h => hs (by simp [wrs, h]))).trans (ih1.2 s (fun h => hs (by simp [wrs, h])))⟩
 | seqX _ _ ih1 => exact ⟨ih1.1, fun s hs => ih1.2 s (fun h => hs (by simp [wrs, h]))⟩
 | condT _ _ ih => exact ⟨ih.1, fun s hs => ih.2 s (fun h => hs (by simp [wrs, h]))⟩
 | condF _ _ ih => exact ⟨ih.1, fun s hs => ih.2 s (fun h => hs (by simp [wrs, h]))⟩
 | blockE _ ih => exact ih
 | blockN _ _ ih => exact ih
 | loopN _ _ ih1 ih2 => exact ⟨ih2.1.trans ih1.1, fun s hs => (ih2.2 s hs).trans (ih1.2 s hs)⟩
 | loopX _ _ ih => exact ih
 | exit => exact ⟨rfl, fun _ _ => rfl⟩
 | ret => exact ⟨rfl, fun _ _ => rfl⟩
 | opNil => exact ⟨rfl, fun _ _ => rfl⟩
 | opSkip _ _ _ ih => exact ⟨ih.1.trans putD_length, fun s hs => (ih.2 s (fun h => hs (by simp only [opsWrs, List.mem_append]; exact .inr h))).trans (putD_keep fun h => hs (by simp only [opsWrs, List.mem_append]; exact .inl h))⟩
 | opDo _ _ _ _ _ ih => exact ⟨ih.1.trans putD_length, fun s hs => (ih.2 s (fun h => hs (by simp only [opsWrs, List.mem_append]; exact .inr h))).trans (putD_keep fun h => hs (by simp only [opsWrs, List.mem_append]; exact .inl h))⟩
 | opCall _ _ _ _ _ _ _ ih => exact ⟨ih.1.trans putD_length, fun s hs => (ih.2 s (fun h => hs (by simp only [opsWrs, List.mem_append]; exact .inr h))).trans (putD_keep fun h => hs (by simp only [opsWrs, List.mem_append]; exact .inl h))⟩
 | call => trivial
 | ext => trivial
inductive VJudg where
 | co (n : Nat) (c : CCode) (V : VEnv) (ex : Ex) (V' : VEnv)
 | op (n : Nat) (ops : List (Nat × COper)) (V V' : VEnv)
 | ca (f : Nat) (ts : List T) (t : T) (outs : List T)
def startV : Nat -> List T -> VEnv -> VEnv
 | _, [], V => V
 | i, t :: ts, V => startV (i + 1) ts ((unroot i V).set i (.v t))
def resV1 (V : VEnv) : CRes -> Option (T × VEnv)
 | .t i => takeV V (.t i)
 | .m i n ag => match adrOf V (.t i) with
  | some (.own r p k cs) => match rng cs k n ag, V.get r with
   | some u, .v t0 => if u.plain then some (u, V) else some (u, (cut r p V).set r (.v (T.setNode (holes cs k n) t0 p)))
   | _, _ => none
  | some (.sh cs) => (rng cs 0 n ag).map fun u => (u, V)
  | none => none
def resV (V : VEnv) : List CRes -> Option (List T × VEnv)
 | [] => some ([], V)
 | r :: rs => match resV1 V r with
  | some (t, V1) => (resV V1 rs).map fun (ts, V2) => (t :: ts, V2)
  | none => none
def tupT : List T -> T
 | [t] => t
 | ts => .tup ts
def ioOpds (io : List Nat) (k : Nat) : List Opd := ioSel io 0 ((List.range k).map Opd.t)
def TLe (t t1 : T) : Prop := ∀ H F v ls, Den H F v t ls -> Den H F v t1 ls
def TLes (ts ts1 : List T) : Prop := ∀ H F vs ls, Dens H F vs ts ls -> Dens H F vs ts1 ls
def VLe (V V1 : VEnv) : Prop := ∀ H F env Lf, Sta H F env V Lf -> ∃ F1 Lf1, Sta H F1 env V1 Lf1 /\ Tr H F (Pl Lf) H F1 (Pl Lf1)
def SemOp (V : VEnv) (c : COp) (V1 : VEnv) (r : RV) : Prop := ∀ H F env Lf, Sta H F env V Lf -> Out H F env Lf V1 c r
def Unl (s : Nat) (t : T) (wr asd : List Nat) (Vf V1 : VEnv) : VEnv -> Prop
 | [] => True
 | (q, x) :: r => ((q = s /\ x = .v t) \/ (q ≠ s /\ ∃ u, x = .v u /\ ((wr.contains q = false /\ (u.plain = true \/ asd.contains q = true) /\ Vf.get q = .v u) \/ (u.alone = true /\ V1.get q = .v u)))) /\ Unl s t wr asd Vf V1 r
def AtCaps (V : VEnv) : List AV -> List Nat -> Prop
 | [], [] => True
 | a :: az, s :: ss => (∃ t, V.get s = .v (.at a t)) /\ AtCaps V az ss
 | _, _ => False
inductive VJ (Tb : Nat -> Option CFn) (io : Nat -> List Nat) (XV : Nat -> List T -> T -> List T -> Prop) : VJudg -> Prop
  | skip {n V} : VJ Tb io XV (.co n .skip V .normal V)
  | kill {n ts V} : VJ Tb io XV (.co n (.kill ts) V .normal (V.drops ts))
  | reg {n d ops V V'} : VJ Tb io XV (.op n ops V V') -> VJ Tb io XV (.co n (.reg d ops) V .normal V')
  | seqN {n a b V V1 ex V2} : VJ Tb io XV (.co n a V .normal V1) -> VJ Tb io XV (.co n b V1 ex V2) -> VJ Tb io XV (.co n (.seq a b) V ex V2)
  | seqX {n a b V ex V1} : ex ≠ .normal -> VJ Tb io XV (.co n a V ex V1) -> VJ Tb io XV (.co n (.seq a b) V ex V1)
  | condT {n c a b V ex V1} : sca V c = .bool true -> VJ Tb io XV (.co n a V ex V1) -> VJ Tb io XV (.co n (.cond c a b) V ex V1)
  | condF {n c a b V ex V1} : sca V c = .bool false -> VJ Tb io XV (.co n b V ex V1) -> VJ Tb io XV (.co n (.cond c a b) V ex V1)
  | blockE {n id c V V1} : VJ Tb io XV (.co n c V (.exit id) V1) -> VJ Tb io XV (.co n (.block id c) V .normal V1)
  | blockN {n id c V ex V1} : ex ≠ .exit id -> VJ Tb io XV (.co n c V ex V1) -> VJ Tb io XV (.co n (.block id c) V ex V1)
  | loopN {n c V V1 ex V2} : VJ Tb io XV (.co n c V .normal V1) -> VJ Tb io XV (.co n (.loop c) V1 ex V2) -> VJ Tb io XV (.co n (.loop c) V ex V2)
  | loopX {n c V ex V1} : ex ≠ .normal -> VJ Tb io XV (.co n c V ex V1) -> VJ Tb io XV (.co n (.loop c) V ex V1)
  | exit {n id V} : VJ Tb io XV (.co n (.exit id) V (.exit id) V)
  | ret {n V} : VJ Tb io XV (.co n .ret V .ret V)
  | opNil {n V} : VJ Tb io XV (.op n [] V V)
  | opSkip {n i o ops V V'} : gV V o.guard = some false -> dstLt n o.dst = true -> VJ Tb io XV (.op n ops ((match o.dst with | some d => (unroot d V).set d (.v (.tup [])) | none => V).drops o.ks) V') -> VJ Tb io XV (.op n ((i, o) :: ops) V V')
  | opDo {n i o ops V r V1 V2 V'} : gV V o.guard = some true -> dstLt n o.dst = true -> needUs V o = true -> stepV o.ks V o.op = some (r, V1) -> putR V1 o.dst r = some V2 -> VJ Tb io XV (.op n ops (V2.drops o.ks) V') -> VJ Tb io XV (.op n ((i, o) :: ops) V V')
  | opCall {n i o ops V f ts rs V1 xs t outs V2 V3 V'} : gV V o.guard = some true -> dstLt n o.dst = true -> callV io V o.op = some (f, ts, rs, V1, xs) -> (o.us.isEmpty || xs.isEmpty || usOk V1 o.us []) = true -> VJ Tb io XV (.ca f ts t outs) ->
      (rs.isEmpty || (t.alone && alones outs)) = true -> backs V V1 n V1 xs outs = some V2 -> putR V2 o.dst (.v t) = some V3 -> VJ Tb io XV (.op n ops (V3.drops o.ks) V') -> VJ Tb io XV (.op n ((i, o) :: ops) V V')
  | opSem {n i o ops V r V1 V2 V'} : gV V o.guard = some true -> dstLt n o.dst = true -> needUs V o = true -> SemOp V o.op V1 r -> putR V1 o.dst r = some V2 -> VJ Tb io XV (.op n ops (V2.drops o.ks) V') -> VJ Tb io XV (.op n ((i, o) :: ops) V V')
  | loc {n c V s t ex V'} : V.get s = .v t -> t ≠ .und -> (∀ a, VJ Tb io XV (.co n c ((unroot s V).set s (.v (.at a t))) ex V')) -> VJ Tb io XV (.co n c V ex V')
  | locO {n ops V s t V'} : V.get s = .v t -> t ≠ .und -> (∀ a, VJ Tb io XV (.op n ops ((unroot s V).set s (.v (.at a t))) V')) -> VJ Tb io XV (.op n ops V V')
  | lendO {n ops ops2 V s t V1 V2 V'} (asd : List Nat) : V.get s = .v t -> t ≠ .und -> VJ Tb io XV (.op n ops (((unroot s V).set s (.v t.frz)).drops asd) V1) -> (opsWrs ops).contains s = false -> Unl s t (opsWrs ops) asd V V1 V2 -> VJ Tb io XV (.op n ops2 V2 V') -> VJ Tb io XV (.op n (ops ++ ops2) V V')
  | reAl {n ops ops2 V q r t V1 V'} : V.get q = .al r -> ((opsWrs ops).contains q || (opsWrs ops).contains r) = false -> VJ Tb io XV (.op n ops V V1) -> V1.get r = .v t -> q ≠ r -> VJ Tb io XV (.op n ops2 ((unroot q V1).set q (.al r)) V') -> VJ Tb io XV (.op n (ops ++ ops2) V V')
  | rew {n i o x xs f avs u ss ops V s V'} : o.op = .callv x xs -> x = .t s -> V.get s = .v (.at (.fn f avs) u) -> AtCaps V avs ss -> VJ Tb io XV (.op n ((i, { o with op := .call f (xs ++ ss.map Opd.t) }) :: ops) V V') -> VJ Tb io XV (.op n ((i, o) :: ops) V V')
  | call {f cf ts ex V' rts V2 outs V3} : Tb f = some cf -> ts.length = cf.nargs -> cf.nargs <= cf.ntmps -> ((io f).all fun j => !(wrs cf.body).contains j) = true -> VJ Tb io XV (.co cf.ntmps cf.body (startV 0 ts []) ex V') -> (ex = .normal \/ ex = .ret) ->
      resV V' cf.res = some (rts, V2) -> takesV V2 (ioOpds (io f) cf.nargs) = some (outs, V3) -> VJ Tb io XV (.ca f ts (tupT rts) outs)
  | ext {f ts t outs} : XV f ts t outs -> VJ Tb io XV (.ca f ts t outs)
  | ghO {n ops V V1 V'} : VLe V V1 -> VJ Tb io XV (.op n ops V1 V') -> VJ Tb io XV (.op n ops V V')
  | ghC {n c V V1 ex V'} : VLe V V1 -> VJ Tb io XV (.co n c V1 ex V') -> VJ Tb io XV (.co n c V ex V')
  | ghE {n c V ex V1 V2} : VJ Tb io XV (.co n c V ex V1) -> VLe V1 V2 -> VJ Tb io XV (.co n c V ex V2)
  | ghEO {n ops V V1 V2} : VJ Tb io XV (.op n ops V V1) -> VLe V1 V2 -> VJ Tb io XV (.op n ops V V2)
  | ghR {f ts ts1 t t1 outs outs1} : TLes ts ts1 -> TLe t t1 -> TLes outs outs1 -> VJ Tb io XV (.ca f ts1 t outs) -> VJ Tb io XV (.ca f ts t1 outs1)
variable {H H' : Heap} {F F' : Nat -> Prop} {env env' : Env} {V V' : VEnv} {Lf : Nat -> List Nat} {v : AV} {ls : List Nat} {r : RV}
def Fz (H : Heap) (F : Nat -> Prop) : Prop := ∀ l, F l -> l < H.sz /\ (H.get l).st ≠ .dead
def CallOk (Tb : Nat -> Option CFn) (X : Ext) (io : Nat -> List Nat) (f : Nat) (ts : List T) (t : T) (outs : List T) : Prop :=
 ∀ (H : Heap) (F : Nat -> Prop) (vs : List AV) (ls : List Nat), Dens H F vs ts ls -> ls.Nodup -> Fz H F ->
  ∃ v H' F' l1, J Tb X (.ca f vs H v H') /\ Fz H' F' /\ Dens H' F' (v :: ioSel (io f) 0 vs) (t :: outs) l1 /\ l1.Nodup /\ Tr H F (fun l => l ∈ ls) H' F' (fun l => l ∈ l1)
def VMot (Tb : Nat -> Option CFn) (X : Ext) (io : Nat -> List Nat) : VJudg -> Prop
 | .co n c V ex V' => ∀ H F env Lf, env.length = n -> Sta H F env V Lf -> ∃ env' H' F' Lf', J Tb X (.co c env H ex env' H') /\ env'.length = n /\ Sta H' F' env' V' Lf' /\ Tr H F (Pl Lf) H' F' (Pl Lf')
 | .op n ops V V' => ∀ H F env Lf, env.length = n -> Sta H F env V Lf -> ∃ env' H' F' Lf', J Tb X (.op ops env H env' H') /\ env'.length = n /\ Sta H' F' env' V' Lf' /\ Tr H F (Pl Lf) H' F' (Pl Lf')
 | .ca f ts t outs => CallOk Tb X io f ts t outs
theorem gV_ok (h : Sta H F env V Lf) {g : Option (Nat × Bool)} {b : Bool} (hg : gV V g = some b) : known env g = true /\ wanted env g = b := by
 cases g with
 | none =>
  simp only [gV, zJ] at hg
  subst hg; exact ⟨rfl, rfl⟩
 | some p =>
  obtain ⟨j, b'⟩ := p
  simp only [gV] at hg
  split at hg
  ·rename_i c hc
   simp only [zJ] at hg
   subst hg
   have he := sca_ev h hc (by simp)
   simp only [Opd.ev] at he
   exact ⟨by simp only [known, he], by simp only [wanted, he]⟩
  ·rename_i hc
   simp only [zJ] at hg
   subst hg
   have he := sca_ev h hc (by simp)
   simp only [Opd.ev] at he
   exact ⟨by simp only [known, he], by simp only [wanted, he]⟩
  ·simp at hg
theorem ioSel_map {α β : Type} (g : α -> β) (io : List Nat) : ∀ (i : Nat) (xs : List α), ioSel io i (xs.map g) = (ioSel io i xs).map g
 | _, [] => rfl
 | i, x :: xs => by
  simp only [List.map_cons, ioSel]
  split
  ·rw [List.map_cons, ioSel_map g io (i + 1) xs]
  ·exact ioSel_map g io (i + 1) xs
theorem ioSel_nil {α : Type} : ∀ (i : Nat) (xs : List α), ioSel [] i xs = []
 | _, [] => rfl
 | i, x :: xs => by simp only [ioSel]; exact ioSel_nil (i + 1) xs
theorem Sta.own (h : Sta H F env V Lf) {s l : Nat} (hl : l ∈ Lf s) : l < H.sz /\ (H.get l).st = .own /\ ¬ F l := by
 have hsr := h.sr s
 cases hx : V.get s with
 | v t => rw [hx] at hsr; exact Den.owned hsr l hl
 | al | ref | adr | clo => rw [hx] at hsr; have := hsr.1; rw [this] at hl; simp at hl
theorem callV_ok {io : Nat -> List Nat} {c : COp} {f : Nat} {ts : List T} {rs : List Nat} {V1 : VEnv} {xs : List Opd} (h : Sta H F env V Lf) (hx : callV io V c = some (f, ts, rs, V1, xs)) :
  ∃ vs tios l1 Lf1, callee env c = some (f, vs) /\ Took H F env V1 Lf Lf1 (xs.map (Opd.ev env)) tios l1 /\ (∀ l ∈ l1, ∃ s, l ∈ Lf s) /\ Dens H (Lent F Lf1 rs) vs ts l1 /\ ioSel (io f) 0 vs = xs.map (Opd.ev env) := by
 cases c with
 | call g ys =>
  simp only [callV] at hx
  split at hx
  ·rename_i tios V2 h1
   obtain ⟨⟨ts', rs'⟩, h2, hx⟩ := zM hx
   simp only [zP] at hx
   obtain ⟨rfl, rfl, rfl, rfl, rfl⟩ := hx
   obtain ⟨l1, Lf1, k1, p1⟩ := ioTakes_ok h Lo.nil h1
   simp only [List.nil_append] at k1
   refine ⟨ys.map (Opd.ev env), tios, l1, Lf1, rfl, k1, p1, ?_, ioSel_map _ _ _ _⟩
   refine ioLends_ok (G := Lent F Lf1 rs') k1.st (fun l hl => .inl hl) rfl k1.lo.den (fun l hl hG => ?_) h2 (fun l hl => hl)
   rcases hG with hG | ⟨r, _, hG⟩
   ·exact (k1.lo.den.owned l hl).2.2 hG
   ·exact k1.lo.dj r l hl hG
  ·simp at hx
 | callv x ys =>
  cases x with
  | c a => simp [callV] at hx
  | t s =>
   have hsr := h.sr s
   simp only [callV] at hx
   split at hx
   ·rename_i g cs hs
    rw [hs] at hsr
    split at hx
    ·rename_i hio
     obtain ⟨⟨ts', rs'⟩, h2, hx⟩ := zM hx
     simp only [zP] at hx
     obtain ⟨rfl, rfl, rfl, rfl, rfl⟩ := hx
     have hd : Den H F (env.getD s .und) (.fn g cs) (Lf s) := hsr
     rw [Den] at hd
     obtain ⟨cavs, he, _, hd⟩ := hd
     have hio' : io g = [] := by simpa using hio
     refine ⟨ys.map (Opd.ev env) ++ cavs, [], [], Lf, by simp only [callee, Opd.ev, he], Took.nil h (by rw [List.map_nil, Dens]; exact ⟨rfl, rfl⟩), by simp, ?_, by rw [hio', ioSel_nil]; rfl⟩
     have h3 := ioLends_ok (io := []) (G := Lent F Lf rs') (avs := []) (ls := []) h (fun l hl => .inl hl) (by rw [ioSel_nil]; rfl) (by rw [Dens]; exact ⟨rfl, rfl⟩) (by simp) h2 (fun l hl => hl)
     simpa using h3.append (hd.agree ⟨Nat.le_refl _, fun l hl => ⟨rfl, .inl hl⟩, by simp⟩)
    ·simp at hx
   ·rename_i g cs hs
    rw [hs] at hsr
    split at hx
    ·rename_i hio
     split at hx
     ·rename_i ts' rs1 us rs2 h2 h3
      simp only [zJ, zP] at hx
      obtain ⟨rfl, rfl, rfl, rfl, rfl⟩ := hx
      obtain ⟨_, cavs, he, hc⟩ := hsr
      have hio' : io g = [] := by simpa using hio
      refine ⟨ys.map (Opd.ev env) ++ cavs, [], [], Lf, by simp only [callee, Opd.ev, he], Took.nil h (by rw [List.map_nil, Dens]; exact ⟨rfl, rfl⟩), by simp, ?_, by rw [hio', ioSel_nil]; rfl⟩
      have h4 := ioLends_ok (io := []) (G := Lent F Lf (rs1 ++ rs2)) (avs := []) (ls := []) h (fun l hl => .inl hl) (by rw [ioSel_nil]; rfl) (by rw [Dens]; exact ⟨rfl, rfl⟩) (by simp) h2 (fun l hl => hl.imp id fun ⟨r, hr, hl⟩ => ⟨r, by simp [hr], hl⟩)
      have h5 := lendC_ok h (G := Lent F Lf (rs1 ++ rs2)) hc h3 (fun l hl => hl.imp id fun ⟨r, hr, hl⟩ => ⟨r, by simp [hr], hl⟩)
      simpa using h4.append h5
     ·simp at hx
    ·simp at hx
   ·simp at hx
 | _ => simp [callV] at hx
theorem rd_same {l o n : Nat} {vs : List AV} (hsz : H.sz <= H'.sz) (h : H.rd l o n = some vs) (hg : l < H.sz -> H'.get l = H.get l) : H'.rd l o n = some vs := by
 unfold Heap.rd at h ⊢
 split at h
 ·rename_i hc
  have := hg hc.2.1
  rw [if_pos ⟨by rw [this]; exact hc.1, Nat.lt_of_lt_of_le hc.2.1 hsz, by rw [this]; exact hc.2.2⟩, this]
  exact h
 ·simp at h
theorem Tr.drop {P P' P'' : Nat -> Prop} (h : Tr H F P H' F' P') (hp : ∀ l, P'' l -> P' l) : Tr H F P H' F' P'' := ⟨h.sz, h.fr, fun l hl => h.pl l (hp l hl), h.fm, h.fp⟩
theorem call_step {Tb : Nat -> Option CFn} {X : Ext} {io : Nat -> List Nat} {o : COper} {f : Nat} {ts : List T} {rs : List Nat} {V1 V2 V3 : VEnv} {xs : List Opd} {t : T} {outs : List T} (h : Sta H F env V Lf) (hd : dstLt env.length o.dst = true)
  (hx : callV io V o.op = some (f, ts, rs, V1, xs)) (hus : (o.us.isEmpty || xs.isEmpty || usOk V1 o.us []) = true) (hca : CallOk Tb X io f ts t outs) (hal : (rs.isEmpty || (t.alone && alones outs)) = true) (hb : backs V V1 env.length V1 xs outs = some V2) (hp : putR V2 o.dst (.v t) = some V3) :
  ∃ vs v H' F' Lf', callee env o.op = some (f, vs) /\ J Tb X (.ca f vs H v H') /\ Kept env o.us H H' /\ Sta H' F' (putD env o.dst v) V3 Lf' /\ Tr H F (Pl Lf) H' F' (Pl Lf') := by
 obtain ⟨vs, tios, l1, Lf1, hc, k1, p1, hds, hsel⟩ := callV_ok h hx
 have hlo := k1.lo.den.owned
 have hGf : Fz H (Lent F Lf1 rs) := by
  intro l hl
  rcases hl with hl | ⟨r, _, hl⟩
  ·exact h.fz l hl
  ·have := k1.st.own hl; exact ⟨this.1, by rw [this.2.1]; simp⟩
 obtain ⟨v, H', F', l2, hj, hfz, hres, hnd, htr⟩ := hca H (Lent F Lf1 rs) vs l1 hds k1.lo.nd hGf
 rw [hsel, Dens] at hres
 obtain ⟨c, cs', m1, m2, e, rfl, hv, houts⟩ := hres
 simp only [List.cons.injEq] at e
 obtain ⟨rfl, rfl⟩ := e
 obtain ⟨n1, n2, n3⟩ := List.nodup_append.1 hnd
 -- what nobody may write is as it was
 have hsame : ∀ l, l < H.sz -> l ∉ l1 -> H'.get l = H.get l := fun l hl hn => htr.fr l hl hn
 have hLf1 : ∀ s l, l ∈ Lf1 s -> H'.get l = H.get l := fun s l hl => hsame l (k1.st.own hl).1 fun hm => k1.lo.dj s l hm hl
 have hF1 : ∀ l, F l -> H'.get l = H.get l := fun l hl => hsame l (h.fz l hl).1 fun hm => (hlo l hm).2.2 hl
 have hm12 : ∀ l, l ∈ m1 ++ m2 -> l ∈ l1 \/ H.sz <= l := fun l hl => htr.pl l hl
 have hdisj : ∀ q l, l ∈ m1 ++ m2 -> l ∉ Lf1 q := by
  intro q l hl hl'
  rcases hm12 l hl with h1 | h1
  ·exact k1.lo.dj q l h1 hl'
  ·have := (k1.st.own hl').1; omega
 -- the state behind the call
 obtain ⟨F2, hst2, hv2, ho2, hfm, hfp⟩ : ∃ F2 : Nat -> Prop, Sta H' F2 env V1 Lf1 /\ Den H' F2 v t m1 /\ Dens H' F2 (xs.map (Opd.ev env)) outs m2 /\ (∀ l, F l -> F2 l) /\ (∀ l, F2 l -> F l \/ l ∈ l1 \/ H.sz <= l) := by
  simp only [Bool.or_eq_true, Bool.and_eq_true] at hal
  rcases hal with hr | ⟨ha1, ha2⟩
  ·have hrs : rs = [] := by simpa using hr
   subst hrs
   have hG : ∀ l, Lent F Lf1 [] l -> F l := fun l hl => hl.elim id (fun ⟨r, hr, _⟩ => by simp at hr)
   refine ⟨F', k1.st.heap (fun s => ⟨htr.sz, fun l hl => ⟨hF1 l hl, htr.fm l (.inl hl)⟩, fun l hl => ⟨hLf1 s l hl, fun hf => ?_⟩⟩) hfz, hv, houts, fun l hl => htr.fm l (.inl hl), fun l hl => (htr.fp l hl).imp (hG l) id⟩
   rcases htr.fp l hf with h1 | h1 | h1
   ·exact (k1.st.own hl).2.2 (hG l h1)
   ·exact k1.lo.dj s l h1 hl
   ·have := (k1.st.own hl).1; omega
  ·have hnF : ∀ l, l ∈ m1 ++ m2 -> ¬ F l := by
    intro l hl hf
    rcases hm12 l hl with h1 | h1
    ·exact (hlo l h1).2.2 hf
    ·have := (h.fz l hf).1; omega
   refine ⟨F, k1.st.heap (fun s => ⟨htr.sz, fun l hl => ⟨hF1 l hl, hl⟩, fun l hl => ⟨hLf1 s l hl, (k1.st.own hl).2.2⟩⟩) (fun l hl => ?_), Den.alone ha1 ⟨Nat.le_refl _, fun l hl => ⟨rfl, hnF l (by simp [hl])⟩⟩ hv, Dens.alone ha2 ⟨Nat.le_refl _, fun l hl => ⟨rfl, hnF l (by simp [hl])⟩⟩ houts, fun l hl => hl, fun l hl => .inl hl⟩
   rw [hF1 l hl]
   exact ⟨Nat.lt_of_lt_of_le (h.fz l hl).1 htr.sz, (h.fz l hl).2⟩
 obtain ⟨Lf2, hst3, hpl3⟩ := backs_ok h hst2 (fun x => cellAt h k1.st (fun s l hl => hLf1 s l hl) x) ho2 n2 (fun q l hl => hdisj q l (by simp [hl])) hb
 have hlo3 : Lo H' F2 Lf2 [v] [t] m1 := by
  refine ⟨dens_one.2 hv2, n1, fun s l hl hl' => ?_⟩
  rcases hpl3 l ⟨s, hl'⟩ with ⟨q, h1⟩ | h1
  ·exact hdisj q l (by simp [hl]) h1
  ·exact n3 l hl l h1 rfl
 obtain ⟨Lf3, hst4, hpl4⟩ := put_ok hst3 hd hlo3 hp
 refine ⟨vs, v, H', F2, Lf3, hc, hj, ?_, hst4, ⟨htr.sz, fun l hl hn => hsame l hl fun hm => hn (p1 l hm), fun l hl => ?_, hfm, fun l hl => ?_⟩⟩
 ·simp only [Bool.or_eq_true] at hus
  rcases hus with (hu | hu) | hu
  ·have : o.us = [] := by simpa using hu
   rw [this]; intro s n hs; simp at hs
  ·have hxs : xs = [] := by simpa using hu
   subst hxs
   have hl1 : l1 = [] := by
    have hd1 := k1.lo.den
    rw [List.map_nil] at hd1
    cases tios with
    | nil => rw [Dens] at hd1; exact hd1.2
    | cons => rw [Dens] at hd1; obtain ⟨_, _, _, _, e, _⟩ := hd1; cases e
   subst hl1
   intro s n hs l o' he vs' hrd
   exact rd_same htr.sz hrd fun hl => hsame l hl (by simp)
  ·exact kept_of k1.st hu htr.sz fun l hl hh => hh.elim (hF1 l) fun ⟨r, hr, _⟩ => hLf1 r l hr
 ·rcases hpl4 l hl with h1 | h1
  ·rcases hpl3 l h1 with ⟨s, h2⟩ | h2
   ·exact .inl ⟨s, k1.sub s l h2⟩
   ·rcases hm12 l (by simp [h2]) with h3 | h3
    ·exact .inl (p1 l h3)
    ·exact .inr h3
  ·rcases hm12 l (by simp [h1]) with h3 | h3
   ·exact .inl (p1 l h3)
   ·exact .inr h3
 ·rcases hfp l hl with h1 | h1 | h1
  ·exact .inl h1
  ·exact .inr (.inl (p1 l h1))
  ·exact .inr (.inr h1)
end
end Go.Proofs.YtbpdhmbdpjafeaaGreatH
