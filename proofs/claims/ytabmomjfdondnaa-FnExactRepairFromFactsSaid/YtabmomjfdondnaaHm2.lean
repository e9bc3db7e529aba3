/- How abstract values and heaps stand for the model's; which operations of the text match; operations that look at no memory. -/
import Derived.Test.YtabmomjfdondnaaHm1
import Derived.ArgAppend
import Derived.Laws.Cells
import Derived.Laws.IdiomCopy
import Derived.Laws.Append
import Derived.Orders
import Derived.KernelRfl
import Derived.Below
import Derived.WalkKit
import Derived.Lib.AppendZeros
set_option linter.unusedVariables false
set_option linter.unusedSimpArgs false
namespace Go.Proofs.YtabmomjfdondnaaH
open Go

/-- Where a place of the abstract heap lies: block, offset, cells, the cells that may be used from the block's begin on. -/
structure Inf where
  b : Nat
  off : Nat
  n : Nat
  bsz : Nat
abbrev Map := Nat → Option Inf

mutual
def VR (m : Map) : AV → Value → Prop
  | .und, _ => True
  | .int k n, v => v = .int k n
  | .bool b, v => v = .bool b
  | .str s, v => ∃ b : ByteArray, v = .string b ∧ b.data.toList = s
  | .ptr l o, v => ∃ i, m l = some i ∧ v = .pointer (some ⟨i.b, i.off + o, none⟩)
  | .nilp, v => v = .pointer none
  | .sl l o n e x, v => ∃ i a cap, m l = some i ∧ v = .slice (some a) n cap ∧ n ≤ cap ∧ (x = true → cap = n) ∧ o + n * e ≤ i.n ∧ (x = false → i.n ≤ o + cap * e) ∧ i.off + o + cap * e ≤ i.bsz ∧
      (0 < cap → a = ⟨i.b, i.off + o, none⟩) ∧ 0 < e
  | .nils, v => v = .slice none 0 0
  | .fn f cs, v => ∃ vs : Array Value, v = .func (.func f) #[] vs ∧ VRs m cs vs.toList
  | .nilf, v => v = .nilFunc
  | .agg cs, v => ∃ vs : Array Value, v = .agg vs ∧ VRs m cs vs.toList
  | .tup cs, v => ∃ vs : Array Value, v = .tuple vs ∧ VRs m cs vs.toList
def VRs (m : Map) : List AV → List Value → Prop
  | [], vs => vs = []
  | c :: cs, vs => ∃ v vs', vs = v :: vs' ∧ VR m c v ∧ VRs m cs vs'
end

def MLe (m m' : Map) : Prop := ∀ l i, m l = some i → m' l = some i

mutual
theorem VR.mono {m m' : Map} (h : MLe m m') : ∀ {c : AV} {v : Value}, VR m c v → VR m' c v
  | .und, _, _ => trivial
  | .int .., _, hv => hv
  | .bool .., _, hv => hv
  | .str .., _, hv => hv
  | .ptr .., _, ⟨i, hm, hv⟩ => ⟨i, h _ _ hm, hv⟩
  | .nilp, _, hv => hv
  | .sl .., _, ⟨i, a, cap, hm, hv⟩ => ⟨i, a, cap, h _ _ hm, hv⟩
  | .nils, _, hv => hv
  | .fn _ cs, _, ⟨vs, hv, hs⟩ => ⟨vs, hv, VRs.mono h (cs := cs) hs⟩
  | .nilf, _, hv => hv
  | .agg cs, _, ⟨vs, hv, hs⟩ => ⟨vs, hv, VRs.mono h (cs := cs) hs⟩
  | .tup cs, _, ⟨vs, hv, hs⟩ => ⟨vs, hv, VRs.mono h (cs := cs) hs⟩
theorem VRs.mono {m m' : Map} (h : MLe m m') : ∀ {cs : List AV} {vs : List Value}, VRs m cs vs → VRs m' cs vs
  | [], _, hv => hv
  | _ :: cs, _, ⟨v, vs', e, h1, h2⟩ => ⟨v, vs', e, VR.mono h h1, VRs.mono h (cs := cs) h2⟩
end

theorem VRs.length {m : Map} : ∀ {cs : List AV} {vs : List Value}, VRs m cs vs → vs.length = cs.length
  | [], _, h => by simp [VRs] at h; simp [h]
  | _ :: cs, _, ⟨v, vs', e, _, h⟩ => by subst e; simp [VRs.length h]
theorem VRs.at {m : Map} : ∀ {cs : List AV} {vs : List Value}, VRs m cs vs → ∀ j, j < cs.length → ∃ v, vs[j]? = some v ∧ VR m (cs.getD j .und) v
  | [], _, _, j, hj => by simp at hj
  | c :: cs, _, ⟨v, vs', e, h1, h2⟩, 0, _ => by subst e; exact ⟨v, by simp, by simpa using h1⟩
  | c :: cs, _, ⟨v, vs', e, h1, h2⟩, j + 1, hj => by
    subst e
    obtain ⟨u, hu, hr⟩ := VRs.at h2 j (by simpa using hj)
    exact ⟨u, by simpa using hu, by simpa using hr⟩
theorem VRs.of {m : Map} : ∀ {cs : List AV} {vs : List Value}, vs.length = cs.length → (∀ j v, vs[j]? = some v → VR m (cs.getD j .und) v) → VRs m cs vs
  | [], vs, hl, _ => by simp at hl; simp [VRs, hl]
  | c :: cs, [], hl, _ => by simp at hl
  | c :: cs, v :: vs, hl, h => by
    refine ⟨v, vs, rfl, by simpa using h 0 v (by simp), VRs.of (by simpa using hl) fun j u hu => ?_⟩
    simpa using h (j + 1) u (by simpa using hu)
theorem VRs.append {m : Map} : ∀ {cs ds : List AV} {vs us : List Value}, VRs m cs vs → VRs m ds us → VRs m (cs ++ ds) (vs ++ us)
  | [], _, _, _, h, h' => by simp [VRs] at h; simpa [h] using h'
  | c :: cs, _, _, _, ⟨v, vs', e, h1, h2⟩, h' => by subst e; exact ⟨v, _, by simp, h1, VRs.append h2 h'⟩
theorem VRs.take {m : Map} : ∀ {cs : List AV} {vs : List Value} (k : Nat), VRs m cs vs → VRs m (cs.take k) (vs.take k)
  | [], _, k, h => by simp [VRs] at h; simp [VRs, h]
  | c :: cs, _, 0, ⟨v, vs', e, h1, h2⟩ => by simp [VRs]
  | c :: cs, _, k + 1, ⟨v, vs', e, h1, h2⟩ => by subst e; exact ⟨v, _, by simp, h1, VRs.take k h2⟩
theorem VRs.drop {m : Map} : ∀ {cs : List AV} {vs : List Value} (k : Nat), VRs m cs vs → VRs m (cs.drop k) (vs.drop k)
  | [], _, k, h => by simp [VRs] at h; simp [VRs, h]
  | c :: cs, _, 0, h => by simpa using h
  | c :: cs, _, k + 1, ⟨v, vs', e, h1, h2⟩ => by subst e; simpa using VRs.drop k h2

/-- A value's cells. -/
theorem VR.cells {m : Map} {c : AV} {v : Value} (h : VR m c v) (h1 : ∀ x ∈ c.cells, x.one = true) : VRs m c.cells v.cells.toList := by
  cases c with
  | agg cs => obtain ⟨vs, rfl, hs⟩ := h; simpa [AV.cells, Value.cells] using hs
  | und => simp [AV.cells, AV.one] at h1
  | tup vs => simp [AV.cells, AV.one] at h1
  | str s => obtain ⟨b, rfl, hb⟩ := h; exact ⟨_, [], by simp [Value.cells], ⟨b, rfl, hb⟩, by simp [VRs]⟩
  | ptr l o => obtain ⟨i, hm, rfl⟩ := h; exact ⟨_, [], by simp [Value.cells], ⟨i, hm, rfl⟩, by simp [VRs]⟩
  | sl l o n e x => obtain ⟨i, a, cap, hm, rfl, r⟩ := h; exact ⟨_, [], by simp [Value.cells], ⟨i, a, cap, hm, rfl, r⟩, by simp [VRs]⟩
  | fn f cs => obtain ⟨vs, rfl, hs⟩ := h; exact ⟨_, [], by simp [Value.cells], ⟨vs, rfl, hs⟩, by simp [VRs]⟩
  | int k n => simp only [VR] at h; subst h; exact ⟨_, [], by simp [Value.cells], rfl, by simp [VRs]⟩
  | bool b => simp only [VR] at h; subst h; exact ⟨_, [], by simp [Value.cells], rfl, by simp [VRs]⟩
  | nilp => simp only [VR] at h; subst h; exact ⟨_, [], by simp [Value.cells], rfl, by simp [VRs]⟩
  | nils => simp only [VR] at h; subst h; exact ⟨_, [], by simp [Value.cells], rfl, by simp [VRs]⟩
  | nilf => simp only [VR] at h; subst h; exact ⟨_, [], by simp [Value.cells], rfl, by simp [VRs]⟩
/-- What one cell holds. -/
theorem VR.one {m : Map} {c : AV} {v : Value} (h : VR m c v) (h1 : c.one = true) : v.oneCell' = true := by
  cases c with
  | agg cs => simp [AV.one] at h1
  | und => simp [AV.one] at h1
  | tup vs => simp [AV.one] at h1
  | str s => obtain ⟨b, rfl, hb⟩ := h; rfl
  | ptr l o => obtain ⟨i, hm, rfl⟩ := h; rfl
  | sl l o n e x => obtain ⟨i, a, cap, hm, rfl, r⟩ := h; rfl
  | fn f cs => obtain ⟨vs, rfl, hs⟩ := h; rfl
  | int k n => simp only [VR] at h; subst h; rfl
  | bool b => simp only [VR] at h; subst h; rfl
  | nilp => simp only [VR] at h; subst h; rfl
  | nils => simp only [VR] at h; subst h; rfl
  | nilf => simp only [VR] at h; subst h; rfl

/-! ### Operands -/
def mC : AV → Value → Bool
  | .int k n, .int k' n' => k == k' && n == n'
  | .bool a, .bool b => a == b
  | .str s, .string b => b.data.toList == s
  | .nils, .slice none 0 0 => true
  | .nilp, .pointer none => true
  | .nilf, .nilFunc => true
  | .tup [], .tuple vs => vs.size == 0
  | _, _ => false
def mO : Opd → Operand → Bool
  | .t i, .tmp j => i == j
  | .c v, .const u => mC v u
  | .c (.fn f []), .func g => f == g
  | _, _ => false
def mOs : List Opd → List Operand → Bool
  | [], [] => true
  | x :: xs, y :: ys => mO x y && mOs xs ys
  | _, _ => false
def mOo : Option Opd → Option Operand → Bool
  | none, none => true
  | some x, some y => mO x y
  | _, _ => false

def EnvR (m : Map) (env : Env) (ts : Array Value) : Prop := ∀ i, VR m (env.getD i .und) (ts.getD i undef)

theorem mC_ok {m : Map} {c : AV} {v : Value} (h : mC c v = true) : VR m c v := by
  unfold mC at h
  split at h <;> simp_all [VR, VRs]
theorem mO_ok {m : Map} {env : Env} {a : Act} {x : Opd} {X : Operand} (h : mO x X = true) (hE : EnvR m env a.tmps) : VR m (x.ev env) (a.eval X) := by
  unfold mO at h
  split at h
  · simp at h; subst h; exact hE _
  · exact mC_ok h
  · simp at h; subst h; exact ⟨#[], rfl, by simp [VRs]⟩
  · simp at h
theorem mOs_ok {m : Map} {env : Env} {a : Act} : ∀ {xs : List Opd} {Xs : List Operand}, mOs xs Xs = true → EnvR m env a.tmps → VRs m (xs.map (Opd.ev env)) (Xs.map a.eval)
  | [], [], _, _ => by simp [VRs]
  | x :: xs, X :: Xs, h, hE => by
    simp [mOs] at h
    exact ⟨_, _, by simp, mO_ok h.1 hE, mOs_ok h.2 hE⟩
  | [], _ :: _, h, _ => by simp [mOs] at h
  | _ :: _, [], h, _ => by simp [mOs] at h

end Go.Proofs.YtabmomjfdondnaaH
