/- Regions whose order is open: whatever order is taken, the run comes to what the abstract run comes to. -/
import Derived.Test.YtabmomjfdondnaaHm8
set_option linter.unusedVariables false
set_option linter.unusedSimpArgs false
namespace Go.Proofs.YtabmomjfdondnaaH
open Go

/-! ### The slots that an operation reads -/
def Opd.slots : Opd → List Nat
  | .t i => [i]
  | .c _ => []
def oslots : Option Opd → List Nat
  | some x => x.slots
  | none => []
def pslots : List (Nat × Nat × Opd) → List Nat
  | [] => []
  | (_, _, x) :: ps => x.slots ++ pslots ps
def xslots : List Opd → List Nat
  | [] => []
  | x :: xs => x.slots ++ xslots xs
def COp.slots : COp → List Nat
  | .mv x | .neg x | .not x | .isnil _ x | .len x | .lens x | .conv _ x | .b2s x | .ld _ _ x | .box _ x | .fa _ x | .nc x | .ex x _ | .cap x | .clr _ _ x => x.slots
  | .pick c a b => c.slots ++ a.slots ++ b.slots
  | .bin _ x y | .beq _ x y | .eqs _ x y | .max x y | .st _ x y | .mk _ _ _ x y | .ia _ x y | .ix x y | .app _ _ x y | .appm _ _ _ x y | .cpy _ x y => x.slots ++ y.slots
  | .al _ | .fail => []
  | .bld _ ps | .bsl _ _ _ ps => pslots ps
  | .sls _ x lo hi mx | .slx _ x lo hi mx => x.slots ++ oslots lo ++ oslots hi ++ oslots mx
  | .sst x lo hi => x.slots ++ oslots lo ++ oslots hi
  | .fn _ xs => xslots xs
  | .call _ xs => xslots xs
  | .callv x xs => x.slots ++ xslots xs

section
variable {env env' : Env}
theorem ev_congr {x : Opd} (h : ∀ s ∈ x.slots, env.getD s .und = env'.getD s .und) : x.ev env = x.ev env' := by
  cases x with
  | t i => exact h i (by simp [Opd.slots])
  | c v => rfl
theorem evs_congr : ∀ {xs : List Opd}, (∀ s ∈ xslots xs, env.getD s .und = env'.getD s .und) → xs.map (Opd.ev env) = xs.map (Opd.ev env')
  | [], _ => rfl
  | x :: xs, h => by
    simp only [List.map_cons]
    rw [ev_congr (x := x) fun s hs => h s (by simp [xslots, hs]), evs_congr (xs := xs) fun s hs => h s (by simp [xslots, hs])]
theorem lay_congr : ∀ {ps : List (Nat × Nat × Opd)} {cs : List AV}, (∀ s ∈ pslots ps, env.getD s .und = env'.getD s .und) → layAll env cs ps = layAll env' cs ps
  | [], _, _ => rfl
  | (o, n, x) :: ps, cs, h => by
    simp only [layAll]
    rw [ev_congr (x := x) fun s hs => h s (by simp [pslots, hs]), lay_congr (ps := ps) fun s hs => h s (by simp [pslots, hs])]
theorem obnd_congr {y n : Nat} {x : Option Opd} (h : ∀ s ∈ oslots x, env.getD s .und = env'.getD s .und) : obnd env y n x = obnd env' y n x := by
  cases x with
  | none => rfl
  | some x => simp only [obnd]; rw [ev_congr h]
theorem hbnd_congr {H : Heap} {l o n e : Nat} {b : Bool} {x : Option Opd} (h : ∀ s ∈ oslots x, env.getD s .und = env'.getD s .und) : hbnd env H l o n e b x = hbnd env' H l o n e b x := by
  cases x with
  | none => rfl
  | some x => simp only [hbnd]; rw [ev_congr h]

theorem pure_congr {c : COp} (h : ∀ s ∈ c.slots, env.getD s .und = env'.getD s .und) : pureOp env c = pureOp env' c := by
  cases c with
  | mv x => simp only [pureOp]; rw [ev_congr h]
  | neg x => simp only [pureOp]; rw [ev_congr h]
  | not x => simp only [pureOp]; rw [ev_congr h]
  | isnil _ x => simp only [pureOp]; rw [ev_congr h]
  | len x => simp only [pureOp]; rw [ev_congr h]
  | lens x => simp only [pureOp]; rw [ev_congr h]
  | conv _ x => simp only [pureOp]; rw [ev_congr h]
  | fa _ x => simp only [pureOp]; rw [ev_congr h]
  | nc x => simp only [pureOp]; rw [ev_congr h]
  | ex x _ => simp only [pureOp]; rw [ev_congr h]
  | cap x => simp only [pureOp]; rw [ev_congr h]
  | pick c a b =>
    simp only [pureOp]
    rw [ev_congr (x := c) fun s hs => h s (by simp [COp.slots, hs]), ev_congr (x := a) fun s hs => h s (by simp [COp.slots, hs]), ev_congr (x := b) fun s hs => h s (by simp [COp.slots, hs])]
  | bin _ x y => simp only [pureOp]; rw [ev_congr (x := x) fun s hs => h s (by simp [COp.slots, hs]), ev_congr (x := y) fun s hs => h s (by simp [COp.slots, hs])]
  | beq _ x y => simp only [pureOp]; rw [ev_congr (x := x) fun s hs => h s (by simp [COp.slots, hs]), ev_congr (x := y) fun s hs => h s (by simp [COp.slots, hs])]
  | eqs _ x y => simp only [pureOp]; rw [ev_congr (x := x) fun s hs => h s (by simp [COp.slots, hs]), ev_congr (x := y) fun s hs => h s (by simp [COp.slots, hs])]
  | max x y => simp only [pureOp]; rw [ev_congr (x := x) fun s hs => h s (by simp [COp.slots, hs]), ev_congr (x := y) fun s hs => h s (by simp [COp.slots, hs])]
  | ia _ x y => simp only [pureOp]; rw [ev_congr (x := x) fun s hs => h s (by simp [COp.slots, hs]), ev_congr (x := y) fun s hs => h s (by simp [COp.slots, hs])]
  | ix x y => simp only [pureOp]; rw [ev_congr (x := x) fun s hs => h s (by simp [COp.slots, hs]), ev_congr (x := y) fun s hs => h s (by simp [COp.slots, hs])]
  | bld zs ps => simp only [pureOp]; rw [lay_congr h]
  | sls e x lo hi mx =>
    simp only [pureOp]
    rw [ev_congr (x := x) fun s hs => h s (by simp [COp.slots, hs])]
    have h1 : ∀ y n, obnd env y n lo = obnd env' y n lo := fun y n => obnd_congr fun s hs => h s (by simp [COp.slots, hs])
    have h2 : ∀ y n, obnd env y n hi = obnd env' y n hi := fun y n => obnd_congr fun s hs => h s (by simp [COp.slots, hs])
    cases hi with
    | none =>
      cases mx with
      | none => simp only [h1, h2]
      | some m =>
        have em := ev_congr (env := env) (env' := env') (x := m) fun s hs => h s (by simp [COp.slots, oslots, hs])
        simp only [h1, h2, em]
        cases Opd.ev env' x with
        | sl l o n e' b => cases hb : bnd n (Opd.ev env' m) <;> simp only [hb]
        | _ => rfl
    | some hx =>
      have eh := ev_congr (env := env) (env' := env') (x := hx) fun s hs => h s (by simp [COp.slots, oslots, hs])
      cases mx with
      | none => simp only [h1, h2]
      | some m =>
        have em := ev_congr (env := env) (env' := env') (x := m) fun s hs => h s (by simp [COp.slots, oslots, hs])
        simp only [h1, h2, em]
        cases Opd.ev env' x with
        | sl l o n e' b => cases hb : bnd n (Opd.ev env' m) <;> simp only [hb, eh]
        | _ => rfl
  | sst x lo hi =>
    simp only [pureOp]
    rw [ev_congr (x := x) fun s hs => h s (by simp [COp.slots, hs])]
    have h1 : ∀ y n, obnd env y n lo = obnd env' y n lo := fun y n => obnd_congr fun s hs => h s (by simp [COp.slots, hs])
    have h2 : ∀ y n, obnd env y n hi = obnd env' y n hi := fun y n => obnd_congr fun s hs => h s (by simp [COp.slots, hs])
    simp only [h1, h2]
  | fn f xs => simp only [pureOp]; rw [evs_congr h]
  | _ => rfl
theorem alloc_congr {k : Nat} {c : COp} (h : ∀ s ∈ c.slots, env.getD s .und = env'.getD s .und) : allocOp env k c = allocOp env' k c := by
  cases c with
  | box n x => simp only [allocOp]; rw [ev_congr h]
  | bsl e n zs ps => simp only [allocOp]; rw [lay_congr h]
  | mk e bs zs x y => simp only [allocOp]; rw [ev_congr (x := x) fun s hs => h s (by simp [COp.slots, hs]), ev_congr (x := y) fun s hs => h s (by simp [COp.slots, hs])]
  | _ => rfl
theorem heap_congr {H : Heap} {c : COp} (h : ∀ s ∈ c.slots, env.getD s .und = env'.getD s .und) : heapOp env H c = heapOp env' H c := by
  cases c with
  | ld n ag x => simp only [heapOp]; rw [ev_congr h]
  | st n x y => simp only [heapOp]; rw [ev_congr (x := x) fun s hs => h s (by simp [COp.slots, hs]), ev_congr (x := y) fun s hs => h s (by simp [COp.slots, hs])]
  | al zs => simp only [heapOp]; rw [alloc_congr h]
  | box n x => simp only [heapOp]; rw [alloc_congr h]
  | bsl e n zs ps => simp only [heapOp]; rw [alloc_congr h]
  | mk e bs zs x y => simp only [heapOp]; rw [alloc_congr h]
  | b2s x => simp only [heapOp]; rw [ev_congr h]
  | app e bs x y => simp only [heapOp]; rw [ev_congr (x := x) fun s hs => h s (by simp [COp.slots, hs]), ev_congr (x := y) fun s hs => h s (by simp [COp.slots, hs])]
  | appm e bs zs x y => simp only [heapOp]; rw [ev_congr (x := x) fun s hs => h s (by simp [COp.slots, hs]), ev_congr (x := y) fun s hs => h s (by simp [COp.slots, hs])]
  | cpy e x y => simp only [heapOp]; rw [ev_congr (x := x) fun s hs => h s (by simp [COp.slots, hs]), ev_congr (x := y) fun s hs => h s (by simp [COp.slots, hs])]
  | clr e zs x => simp only [heapOp]; rw [ev_congr h]
  | slx e x lo hi mx =>
    simp only [heapOp]
    rw [ev_congr (x := x) fun s hs => h s (by simp [COp.slots, hs])]
    have h1 : ∀ y n, obnd env y n lo = obnd env' y n lo := fun y n => obnd_congr fun s hs => h s (by simp [COp.slots, hs])
    have h2 : ∀ y n, obnd env y n hi = obnd env' y n hi := fun y n => obnd_congr fun s hs => h s (by simp [COp.slots, hs])
    have h3 : ∀ l o n e b, hbnd env H l o n e b hi = hbnd env' H l o n e b hi := fun l o n e b => hbnd_congr fun s hs => h s (by simp [COp.slots, hs])
    cases hi with
    | none =>
      cases mx with
      | none => simp only [h1, h2, h3]
      | some m =>
        have em := ev_congr (env := env) (env' := env') (x := m) fun s hs => h s (by simp [COp.slots, oslots, hs])
        simp only [h1, h2, h3, em]
        cases Opd.ev env' x with
        | sl l o n e' b => cases hb : bnd n (Opd.ev env' m) <;> simp only [hb]
        | _ => rfl
    | some hx =>
      have eh := ev_congr (env := env) (env' := env') (x := hx) fun s hs => h s (by simp [COp.slots, oslots, hs])
      cases mx with
      | none => simp only [h1, h2, h3]
      | some m =>
        have em := ev_congr (env := env) (env' := env') (x := m) fun s hs => h s (by simp [COp.slots, oslots, hs])
        simp only [h1, h2, h3, em]
        cases Opd.ev env' x with
        | sl l o n e' b => cases hb : bnd n (Opd.ev env' m) <;> simp only [hb, eh]
        | _ => rfl
  | _ => exact congrArg (fun x : Option AV => x.map fun v => (v, H)) (pure_congr h)
theorem callee_congr {c : COp} (h : ∀ s ∈ c.slots, env.getD s .und = env'.getD s .und) : callee env c = callee env' c := by
  cases c with
  | call f xs => simp only [callee]; rw [evs_congr h]
  | callv x xs => simp only [callee]; rw [ev_congr (x := x) fun s hs => h s (by simp [COp.slots, hs]), evs_congr (xs := xs) fun s hs => h s (by simp [COp.slots, hs])]
  | _ => rfl
def gslots : Option (Nat × Bool) → List Nat
  | none => []
  | some (s, _) => [s]
theorem guard_congr {g : Option (Nat × Bool)} (h : ∀ s ∈ gslots g, env.getD s .und = env'.getD s .und) : known env g = known env' g ∧ wanted env g = wanted env' g := by
  cases g with
  | none => exact ⟨rfl, rfl⟩
  | some q =>
    obtain ⟨s, b⟩ := q
    have := h s (by simp [gslots])
    simp only [known, wanted, this, and_self]
end

end Go.Proofs.YtabmomjfdondnaaH
