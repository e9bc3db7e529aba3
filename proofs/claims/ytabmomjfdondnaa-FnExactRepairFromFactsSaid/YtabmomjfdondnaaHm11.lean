/- Regions whose order is open: the invariant. -/
import Derived.Test.YtabmomjfdondnaaHm10
set_option linter.unusedVariables false
set_option linter.unusedSimpArgs false
namespace Go.Proofs.YtabmomjfdondnaaH
open Go

section
variable {P : Program} {ops : Array Oper} {L : List (Nat × COper)}

/-- The run at hand: environments and heaps ahead of each operation. -/
structure Run (P : Program) (L : List (Nat × COper)) (E : Nat → Env) (K : Nat → Heap) (V : Nat → AV) : Prop where
  step : ∀ p (hp : p < L.length), StepSim P L[p].2 (E p) (K p) (V p) (K (p + 1))
  env : ∀ p (hp : p < L.length), E (p + 1) = putD (E p) L[p].2.dst (V p)
  kept : ∀ p (hp : p < L.length), wanted (E p) L[p].2.guard = true → Kept (E p) L[p].2.us (K p) (K (p + 1))
  sz : ∀ p, p < L.length → (K p).sz ≤ (K (p + 1)).sz

theorem putD_ne {env : Env} {d : Option Nat} {v : AV} {s : Nat} (h : d ≠ some s) : (putD env d v).getD s .und = env.getD s .und := by
  cases d with
  | none => rfl
  | some d =>
    have : d ≠ s := fun e => h (by rw [e])
    simp [putD, List.getD_eq_getElem?_getD, List.getElem?_set_ne this]
theorem putD_length {env : Env} {d : Option Nat} {v : AV} : (putD env d v).length = env.length := by cases d <;> simp [putD]

variable {E : Nat → Env} {K : Nat → Heap} {V : Nat → AV}
theorem Run.length (h : Run P L E K V) : ∀ p, p ≤ L.length → (E p).length = (E 0).length
  | 0, _ => rfl
  | p + 1, hp => by rw [h.env p (by omega), putD_length]; exact h.length p (by omega)
/-- A slot that nothing writes from p to q. -/
theorem Run.same (h : Run P L E K V) {s p : Nat} : ∀ q, p ≤ q → q ≤ L.length → (∀ r (hr : r < L.length), p ≤ r → r < q → L[r].2.dst ≠ some s) → (E q).getD s .und = (E p).getD s .und
  | q, hpq, hq, hn => by
    rcases Nat.lt_or_ge p q with hlt | hge
    · obtain ⟨q', rfl⟩ : ∃ q', q = q' + 1 := ⟨q - 1, by omega⟩
      rw [h.env q' (by omega), putD_ne (hn q' (by omega) (by omega) (by omega))]
      exact Run.same h q' (by omega) (by omega) fun r hr h1 h2 => hn r hr h1 (by omega)
    · have : p = q := by omega
      subst this; rfl

/-- What a step that is no 'other' does to the heap. -/
theorem quiet_heap {env : Env} {H H1 : Heap} {v : AV} {c : COp} (ho : isOther c = false) (h : heapOp env H c = some (v, H1)) : H1 = H ∨ ∃ cs, allocOp env H.sz c = some (v, cs) ∧ H1 = H.new cs := by
  have pure_ : (pureOp env c).map (fun v => (v, H)) = some (v, H1) → H1 = H := by
    intro h
    obtain ⟨v0, _, h⟩ := Option.map_eq_some_iff.1 h
    simp only [Prod.mk.injEq] at h
    exact h.2.symm
  have alloc_ : (allocOp env H.sz c).map (fun (v, cs) => (v, H.new cs)) = some (v, H1) → ∃ cs, allocOp env H.sz c = some (v, cs) ∧ H1 = H.new cs := by
    intro h
    obtain ⟨⟨v0, cs⟩, h0, h⟩ := Option.map_eq_some_iff.1 h
    simp only [Prod.mk.injEq] at h
    exact ⟨cs, by rw [h0, h.1], h.2.symm⟩
  cases c with
  | ld n ag p =>
    simp only [heapOp] at h
    split at h
    · obtain ⟨vs, _, h⟩ := Option.bind_eq_some_iff.1 h
      split at h
      · simp only [Option.some.injEq, Prod.mk.injEq] at h; exact .inl h.2.symm
      · split at h
        · simp only [Option.some.injEq, Prod.mk.injEq] at h; exact .inl h.2.symm
        · simp at h
    · simp at h
  | al zs => exact .inr (alloc_ h)
  | box n x => exact .inr (alloc_ h)
  | bsl e n zs ps => exact .inr (alloc_ h)
  | mk e bs zs l c => exact .inr (alloc_ h)
  | st => simp [isOther] at ho
  | app => simp [isOther] at ho
  | appm => simp [isOther] at ho
  | cpy => simp [isOther] at ho
  | clr => simp [isOther] at ho
  | call => simp [isOther] at ho
  | callv => simp [isOther] at ho
  | slx => simp [isOther] at ho
  | b2s => simp [isOther] at ho
  | fail => simp [isOther] at ho
  | _ => exact .inl (pure_ h)
theorem quiet_call {env : Env} {c : COp} (ho : isOther c = false) : callee env c = none := by cases c <;> first | rfl | simp [isOther] at ho

theorem new_get {H : Heap} {cs : List AV} {l : Nat} (h : l < H.sz) : (H.new cs).get l = H.get l := by
  have : l ≠ H.sz := by omega
  simp [Heap.new, this]

theorem Run.quiet (h : Run P L E K V) {p : Nat} (hp : p < L.length) (ho : isOther L[p].2.op = false) : K (p + 1) = K p ∨ ∃ cs, wanted (E p) L[p].2.guard = true ∧ allocOp (E p) (K p).sz L[p].2.op = some (V p, cs) ∧ K (p + 1) = (K p).new cs := by
  obtain ⟨hk, hs⟩ := h.step p hp
  rcases hs with ⟨_, _, h1⟩ | ⟨hw, h1 | ⟨f, args, hc, _⟩⟩
  · exact .inl h1
  · rcases quiet_heap ho h1 with h2 | ⟨cs, h2, h3⟩
    · exact .inl h2
    · exact .inr ⟨cs, hw, h2, h3⟩
  · rw [quiet_call ho] at hc; simp at hc

/-- Over steps that are no others nothing that is there changes. -/
theorem Run.calm (h : Run P L E K V) {p : Nat} : ∀ q, p ≤ q → q ≤ L.length → (∀ r (hr : r < L.length), p ≤ r → r < q → isOther L[r].2.op = false) → (K p).sz ≤ (K q).sz ∧ ∀ l, l < (K p).sz → (K q).get l = (K p).get l
  | q, hpq, hq, hn => by
    rcases Nat.lt_or_ge p q with hlt | hge
    · obtain ⟨q', rfl⟩ : ∃ q', q = q' + 1 := ⟨q - 1, by omega⟩
      obtain ⟨h1, h2⟩ := Run.calm h q' (by omega) (by omega) fun r hr h1 h2 => hn r hr h1 (by omega)
      rcases h.quiet (p := q') (by omega) (hn q' (by omega) (by omega) (by omega)) with h3 | ⟨cs, _, _, h3⟩
      · rw [h3]; exact ⟨h1, h2⟩
      · rw [h3]
        exact ⟨by simp [Heap.new]; omega, fun l hl => by rw [new_get (by omega)]; exact h2 l hl⟩
    · have : p = q := by omega
      subst this; exact ⟨Nat.le_refl _, fun _ _ => rfl⟩

theorem rd_new {H : Heap} {cs : List AV} {l o n : Nat} {vs : List AV} (h : H.rd l o n = some vs) : (H.new cs).rd l o n = some vs := by
  unfold Heap.rd at h ⊢
  split at h
  · rename_i hc
    rw [new_get hc.2.1, if_pos ⟨hc.1, by simp [Heap.new]; omega, hc.2.2⟩]; exact h
  · simp at h
end

/-- What the checks say of two places. -/
structure Pair (tbl : List Nat) (p q : Nat × COper) : Prop where
  ne : p.1 ≠ q.1
  other : isOther p.2.op = true → anc tbl q.1 p.1 = true
  load : ∀ n ag s, p.2.op = .ld n ag (.t s) → (isOther q.2.op = true → anc tbl q.1 p.1 = true ∨ (s, n) ∈ q.2.us) ∧ q.2.dst ≠ some s
  dst : ∀ d, p.2.dst = some d → q.2.dst ≠ some d ∧ (d ∈ rds q.2 → anc tbl q.1 p.1 = true)
  dst' : ∀ d, q.2.dst = some d → d ∈ rds p.2 → anc tbl q.1 p.1 = true
theorem pair_of {tbl : List Nat} {p q : Nat × COper} (h : pairOk tbl p q = true) : Pair tbl p q := by
  unfold pairOk at h
  simp only [Bool.and_eq_true] at h
  obtain ⟨⟨⟨⟨h1, h3⟩, h4⟩, h5⟩, h6⟩ := h
  refine ⟨by simpa using h1, fun ho => by simpa [ho] using h3, fun n ag s e => ?_, fun d e => ?_, fun d e hd => ?_⟩
  · rw [e] at h4
    simp only [Bool.and_eq_true, bne_iff_ne] at h4
    refine ⟨fun ho => ?_, h4.2⟩
    have := h4.1
    simp only [ho, Bool.not_true, Bool.false_or, Bool.or_eq_true, List.contains_iff_mem] at this
    exact this
  · rw [e] at h5
    simp only [Bool.and_eq_true, bne_iff_ne] at h5
    refine ⟨h5.1, fun hd => ?_⟩
    have := h5.2
    rw [List.contains_iff_mem.2 hd] at this
    simpa using this
  · rw [e] at h6
    have := h6
    simp only at this
    rw [List.contains_iff_mem.2 hd] at this
    simpa using this

end Go.Proofs.YtabmomjfdondnaaH
