/- Heaps: how the abstract heap lies in the model's world, and what a change of one is for the other. -/
import Derived.Test.YtabmomjfdondnaaHm4
import Derived.Laws.Append
import Derived.Laws.AppendOwn
set_option linter.unusedVariables false
set_option linter.unusedSimpArgs false
namespace Go.Proofs.YtabmomjfdondnaaH
open Go

structure Rel (base : Nat) (m : Map) (H : Heap) (w : World) : Prop where
  dom : ∀ l i, m l = some i → l < H.sz
  size : base ≤ w.heap.size
  cells : ∀ l i, m l = some i → (H.get l).st ≠ .dead → (H.get l).cells.length = i.n ∧ ∀ j, j < i.n → ∃ v, w.cell? ⟨i.b, i.off + j, none⟩ = some v ∧ VR m ((H.get l).cells.getD j .und) v
  own : ∀ l i, m l = some i → (H.get l).st = .own → base ≤ i.b ∧ i.off + i.n ≤ i.bsz ∧ (∃ arr T fz, w.heap[i.b]? = some (.cells arr T fz) ∧ arr.size = i.bsz) ∧ ∀ off, w.frozen? ⟨i.b, off, none⟩ = false
  ro : ∀ l i, m l = some i → (H.get l).st = .ro → 0 < i.n → i.b < base
  sep : ∀ l l' i i', m l = some i → m l' = some i' → l ≠ l' → (H.get l).st = .own → (H.get l').st = .own → i.b ≠ i'.b

/-- What has not been touched. -/
structure Frame (m : Map) (H : Heap) (w w' : World) : Prop where
  os : w'.os = w.os
  tape : w'.tape = w.tape
  output : w'.output = w.output
  size : w.heap.size ≤ w'.heap.size
  block : ∀ b, b < w.heap.size → (∀ l i, m l = some i → (H.get l).st = .own → i.b ≠ b) → w'.heap[b]? = w.heap[b]?

structure Ok (base : Nat) (m : Map) (H : Heap) (w : World) (m' : Map) (H' : Heap) (w' : World) : Prop where
  rel : Rel base m' H' w'
  le : MLe m m'
  sz : H.sz ≤ H'.sz
  un : ∀ l, l < H.sz → m l = none → m' l = none ∧ H'.get l = H.get l
  fr : Frame m H w w'
  ow : ∀ l i, m' l = some i → (H'.get l).st = .own → w.heap.size ≤ i.b ∨ ∃ l0 i0, m l0 = some i0 ∧ (H.get l0).st = .own ∧ i0.b = i.b

theorem MLe.refl (m : Map) : MLe m m := fun _ _ h => h
theorem MLe.trans {m m' m'' : Map} (h : MLe m m') (h' : MLe m' m'') : MLe m m'' := fun _ _ e => h' _ _ (h _ _ e)
theorem Frame.refl (m : Map) (H : Heap) (w : World) : Frame m H w w := ⟨rfl, rfl, rfl, Nat.le_refl _, fun _ _ _ => rfl⟩
theorem Ok.refl {base : Nat} {m : Map} {H : Heap} {w : World} (h : Rel base m H w) : Ok base m H w m H w :=
  ⟨h, MLe.refl _, Nat.le_refl _, fun _ _ e => ⟨e, rfl⟩, Frame.refl _ _ _, fun l i e h => .inr ⟨l, i, e, h, rfl⟩⟩
theorem Ok.trans {base : Nat} {m m1 m2 : Map} {H H1 H2 : Heap} {w w1 w2 : World} (h : Ok base m H w m1 H1 w1) (h' : Ok base m1 H1 w1 m2 H2 w2) : Ok base m H w m2 H2 w2 := by
  refine ⟨h'.rel, h.le.trans h'.le, Nat.le_trans h.sz h'.sz, fun l hl e => ?_, ⟨h'.fr.os.trans h.fr.os, h'.fr.tape.trans h.fr.tape, h'.fr.output.trans h.fr.output, Nat.le_trans h.fr.size h'.fr.size, fun b hb hn => ?_⟩, fun l i e ho => ?_⟩
  · obtain ⟨e1, g1⟩ := h.un l hl e
    obtain ⟨e2, g2⟩ := h'.un l (Nat.lt_of_lt_of_le hl h.sz) e1
    exact ⟨e2, g2.trans g1⟩
  · rw [h'.fr.block b (Nat.lt_of_lt_of_le hb h.fr.size) fun l i e ho => ?_, h.fr.block b hb hn]
    rcases h.ow l i e ho with h1 | ⟨l0, i0, e0, ho0, hb0⟩
    · omega
    · rw [← hb0]; exact hn l0 i0 e0 ho0
  · rcases h'.ow l i e ho with h1 | ⟨l0, i0, e0, ho0, hb0⟩
    · exact .inl (Nat.le_trans h.fr.size h1)
    · rw [← hb0]; exact h.ow l0 i0 e0 ho0

theorem EnvR.mono {m m' : Map} {env : Env} {ts : Array Value} (h : MLe m m') (hE : EnvR m env ts) : EnvR m' env ts := fun i => VR.mono h (hE i)

/-- Reading cells. -/
theorem Rel.rd {base : Nat} {m : Map} {H : Heap} {w : World} (h : Rel base m H w) {l o n : Nat} {i : Inf} {vs : List AV} (hm : m l = some i) (hr : H.rd l o n = some vs) :
    vs.length = n ∧ o + n ≤ i.n ∧ ∃ us : List Value, us.length = n ∧ VRs m vs us ∧ ∀ j v, us[j]? = some v → w.cell? ⟨i.b, i.off + o + j, none⟩ = some v := by
  unfold Heap.rd at hr
  split at hr
  · rename_i hc
    obtain ⟨hst, hl, hle⟩ := hc
    simp only [Option.some.injEq] at hr; subst hr
    obtain ⟨hlen, hcs⟩ := h.cells l i hm hst
    rw [hlen] at hle
    have hvl : (((H.get l).cells.drop o).take n).length = n := by rw [List.length_take, List.length_drop]; omega
    refine ⟨hvl, hle, (List.range n).map fun j => (w.cell? ⟨i.b, i.off + o + j, none⟩).getD undef, by simp, ?_, ?_⟩
    · refine VRs.of (by simp [hvl]) fun j v hv => ?_
      have hj : j < n := by
        rcases Nat.lt_or_ge j n with hj | hj
        · exact hj
        · rw [List.getElem?_eq_none (by simpa using hj)] at hv; simp at hv
      obtain ⟨u, hu, hr⟩ := hcs (o + j) (by omega)
      rw [← Nat.add_assoc] at hu
      simp only [List.getElem?_map, List.getElem?_range hj, Option.map_some, hu, Option.getD_some, Option.some.injEq] at hv
      subst hv
      have e : (((H.get l).cells.drop o).take n).getD j .und = (H.get l).cells.getD (o + j) .und := by
        simp only [List.getD_eq_getElem?_getD, List.getElem?_take, if_pos hj, List.getElem?_drop]
      rw [e]; exact hr
    · intro j v hv
      have hj : j < n := by
        rcases Nat.lt_or_ge j n with hj | hj
        · exact hj
        · rw [List.getElem?_eq_none (by simpa using hj)] at hv; simp at hv
      obtain ⟨u, hu, hr⟩ := hcs (o + j) (by omega)
      rw [← Nat.add_assoc] at hu
      simp only [List.getElem?_map, List.getElem?_range hj, Option.map_some, hu, Option.getD_some, Option.some.injEq] at hv
      rw [hu, hv]
  · simp at hr

theorem Rel.rd0 {base : Nat} {m : Map} {H : Heap} {w : World} (h : Rel base m H w) {l o n : Nat} {i : Inf} {vs : List AV} (hm : m l = some i) (hi : o + n ≤ i.n) (hr : H.rd0 l o n = some vs) :
    vs.length = n ∧ o + n ≤ i.n ∧ ∃ us : List Value, us.length = n ∧ VRs m vs us ∧ ∀ j v, us[j]? = some v → w.cell? ⟨i.b, i.off + o + j, none⟩ = some v := by
  unfold Heap.rd0 at hr
  split at hr
  · rename_i hn
    subst hn
    simp only [Option.some.injEq] at hr
    subst hr
    exact ⟨rfl, hi, [], rfl, rfl, by simp⟩
  · exact h.rd hm hr

theorem cell_of_heap {w w' : World} {b : Nat} (h : w'.heap[b]? = w.heap[b]?) (o : Nat) : w'.cell? ⟨b, o, none⟩ = w.cell? ⟨b, o, none⟩ := by unfold World.cell?; simp only [h]
theorem frozen_of_heap {w w' : World} {b : Nat} (h : w'.heap[b]? = w.heap[b]?) (o : Nat) : w'.frozen? ⟨b, o, none⟩ = w.frozen? ⟨b, o, none⟩ := by unfold World.frozen?; simp only [h]

def Map.add (m : Map) (l : Nat) (i : Inf) : Map := fun k => if k = l then some i else m k
theorem MLe.add {m : Map} {l : Nat} {i : Inf} (h : m l = none) : MLe m (m.add l i) := by
  intro k j e
  unfold Map.add
  rw [if_neg]
  · exact e
  · rintro rfl; rw [h] at e; simp at e
theorem Rel.fresh {base : Nat} {m : Map} {H : Heap} {w : World} (h : Rel base m H w) : m H.sz = none := by
  cases hm : m H.sz with
  | none => rfl
  | some i => exact absurd (h.dom _ _ hm) (Nat.lt_irrefl _)

/-- A new block. -/
theorem Ok.new {base : Nat} {m : Map} {H : Heap} {w w' : World} (h : Rel base m H w) {cs : List AV} {arr : Array Value} {T : TypeId} {rest : List Value} {us : List Value} (hcs : VRs m cs us) (harr : arr.toList = us ++ rest)
    (hw : w'.heap = w.heap.push (.cells arr T (0, 0))) (ho : w'.os = w.os) (ht : w'.tape = w.tape) (hu : w'.output = w.output) :
    Ok base m H w (m.add H.sz ⟨w.heap.size, 0, cs.length, arr.size⟩) (H.new cs) w' := by
  have hle : MLe m (m.add H.sz ⟨w.heap.size, 0, cs.length, arr.size⟩) := MLe.add h.fresh
  have hold : ∀ b, b < w.heap.size → w'.heap[b]? = w.heap[b]? := fun b hb => by rw [hw, Array.getElem?_push_lt hb, Array.getElem?_eq_getElem hb]
  have hnew : w'.heap[w.heap.size]? = some (.cells arr T (0, 0)) := by rw [hw]; simp
  have hsz : w'.heap.size = w.heap.size + 1 := by rw [hw]; simp
  have hul := hcs.length
  have hal : arr.size = us.length + rest.length := by rw [← Array.length_toList, harr, List.length_append]
  have key : ∀ l i, m.add H.sz ⟨w.heap.size, 0, cs.length, arr.size⟩ l = some i → (l = H.sz ∧ i = ⟨w.heap.size, 0, cs.length, arr.size⟩) ∨ (l ≠ H.sz ∧ m l = some i) := by
    intro l i e
    unfold Map.add at e
    split at e
    · rename_i hl; exact .inl ⟨hl, by simpa using e.symm⟩
    · rename_i hl; exact .inr ⟨hl, e⟩
  have hg : ∀ l, l ≠ H.sz → (H.new cs).get l = H.get l := fun l hl => by simp [Heap.new, hl]
  have hgn : (H.new cs).get H.sz = ⟨cs, .own⟩ := by simp [Heap.new]
  have hcl : ∀ j v, us[j]? = some v → w'.cell? ⟨w.heap.size, 0 + j, none⟩ = some v := by
    intro j v hv
    unfold World.cell?
    simp only [hnew, Option.isSome_none, Bool.false_eq_true, if_false, Nat.zero_add]
    rw [← Array.getElem?_toList, harr, List.getElem?_append_left (List.getElem?_eq_some_iff.1 hv).1, hv]
  refine ⟨⟨?_, by rw [hsz]; have := h.size; omega, ?_, ?_, ?_, ?_⟩, hle, by simp [Heap.new], ?_, ⟨ho, ht, hu, by rw [hsz]; omega, fun b hb _ => hold b hb⟩, ?_⟩
  · intro l i e
    rcases key l i e with ⟨rfl, _⟩ | ⟨_, e⟩
    · simp [Heap.new]
    · have := h.dom l i e; simp [Heap.new]; omega
  · intro l i e hst
    rcases key l i e with ⟨rfl, rfl⟩ | ⟨hl, e⟩
    · rw [hgn]
      refine ⟨rfl, fun j hj => ?_⟩
      obtain ⟨v, hv, hr⟩ := hcs.at j hj
      exact ⟨v, hcl j v hv, hr.mono hle⟩
    · rw [hg l hl] at hst ⊢
      obtain ⟨h1, h2⟩ := h.cells l i e hst
      refine ⟨h1, fun j hj => ?_⟩
      obtain ⟨v, hv, hr⟩ := h2 j hj
      refine ⟨v, ?_, hr.mono hle⟩
      rw [cell_of_heap (hold _ (World.block_lt_of_cell? w _ hv)), hv]
  · intro l i e hst
    rcases key l i e with ⟨rfl, rfl⟩ | ⟨hl, e⟩
    · refine ⟨h.size, by simp; omega, ⟨arr, T, _, hnew, rfl⟩, fun off => ?_⟩
      unfold World.frozen?
      simp only [hnew]
      simp
    · rw [hg l hl] at hst
      obtain ⟨h1, h2, ⟨ar, T', fz, h3, h4⟩, h5⟩ := h.own l i e hst
      have hb : i.b < w.heap.size := (Array.getElem?_eq_some_iff.1 h3).1
      exact ⟨h1, h2, ⟨ar, T', fz, by rw [hold _ hb, h3], h4⟩, fun off => by rw [frozen_of_heap (hold _ hb), h5]⟩
  · intro l i e hst hn
    rcases key l i e with ⟨rfl, rfl⟩ | ⟨hl, e⟩
    · rw [hgn] at hst; simp at hst
    · rw [hg l hl] at hst; exact h.ro l i e hst hn
  · intro l l' i i' e e' hne hst hst'
    rcases key l i e with ⟨rfl, rfl⟩ | ⟨hl, e⟩ <;> rcases key l' i' e' with ⟨rfl, rfl⟩ | ⟨hl', e'⟩
    · exact absurd rfl hne
    · rw [hg l' hl'] at hst'
      obtain ⟨_, _, ⟨ar, T', fz, h3, h4⟩, _⟩ := h.own l' i' e' hst'
      have hb : i'.b < w.heap.size := (Array.getElem?_eq_some_iff.1 h3).1
      simp; omega
    · rw [hg l hl] at hst
      obtain ⟨_, _, ⟨ar, T', fz, h3, h4⟩, _⟩ := h.own l i e hst
      have hb : i.b < w.heap.size := (Array.getElem?_eq_some_iff.1 h3).1
      simp; omega
    · rw [hg l hl] at hst; rw [hg l' hl'] at hst'
      exact h.sep l l' i i' e e' hne hst hst'
  · intro l hl e
    have hne : l ≠ H.sz := by omega
    exact ⟨by unfold Map.add; rw [if_neg hne, e], hg l hne⟩
  · intro l i e hst
    rcases key l i e with ⟨rfl, rfl⟩ | ⟨hl, e⟩
    · exact .inl (Nat.le_refl _)
    · rw [hg l hl] at hst; exact .inr ⟨l, i, e, hst, rfl⟩

/-! ### Cells written -/
theorem setCells_other (b : Nat) : ∀ (vs : List Value) (o : Nat) (w : World) (b' : Nat), b' ≠ b → (w.setCells b o vs).heap[b']? = w.heap[b']?
  | [], _, _, _, _ => rfl
  | v :: vs, o, w, b', h => by
    rw [World.setCells, setCells_other b vs (o + 1) _ b' h]
    simp [World.setCell, Array.getElem?_modify, Ne.symm h]
theorem setCells_size (b : Nat) : ∀ (vs : List Value) (o : Nat) (w : World), (w.setCells b o vs).heap.size = w.heap.size
  | [], _, _ => rfl
  | v :: vs, o, w => by rw [World.setCells, setCells_size b vs]; simp
theorem setCells_os (b : Nat) : ∀ (vs : List Value) (o : Nat) (w : World), (w.setCells b o vs).os = w.os ∧ (w.setCells b o vs).tape = w.tape ∧ (w.setCells b o vs).output = w.output
  | [], _, _ => ⟨rfl, rfl, rfl⟩
  | v :: vs, o, w => by rw [World.setCells]; exact setCells_os b vs (o + 1) _
theorem setCells_shape (b : Nat) : ∀ (vs : List Value) (o : Nat) (w : World) (arr : Array Value) (T : TypeId) (fz : Nat × Nat), w.heap[b]? = some (.cells arr T fz) →
    ∃ arr', (w.setCells b o vs).heap[b]? = some (.cells arr' T fz) ∧ arr'.size = arr.size
  | [], _, _, arr, _, _, h => ⟨arr, h, rfl⟩
  | v :: vs, o, w, arr, T, fz, h => by
    rw [World.setCells]
    have h1 : (w.setCell ⟨b, o, none⟩ v).heap[b]? = some (.cells (arr.setIfInBounds o v) T fz) := by
      simp [World.setCell, Array.getElem?_modify, h]
    obtain ⟨arr', h2, h3⟩ := setCells_shape b vs (o + 1) _ _ T fz h1
    exact ⟨arr', h2, by simpa using h3⟩

/-- Cells written in place. -/
theorem Ok.put {base : Nat} {m : Map} {H H' : Heap} {w : World} (h : Rel base m H w) {l o : Nat} {i : Inf} {cs : List AV} {us : List Value} (hm : m l = some i) (hw : H.wr l o cs = some H') (hcs : VRs m cs us) :
    (∀ j, j < us.length → (w.cell? ⟨i.b, i.off + o + j, none⟩).isSome = true) ∧ (∀ j, j < us.length → w.frozen? ⟨i.b, i.off + o + j, none⟩ = false) ∧ (∀ u ∈ us, u.oneCell' = true) ∧
    Ok base m H w m H' (w.setCells i.b (i.off + o) us) := by
  unfold Heap.wr at hw
  split at hw
  · rename_i hc
    obtain ⟨hst, hl, hle, h1⟩ := hc
    simp only [Option.some.injEq] at hw; subst hw
    obtain ⟨hlen, hcells⟩ := h.cells l i hm (by rw [hst]; simp)
    obtain ⟨hb, hbs, ⟨arr, T, fz, hheap, harr⟩, hfz⟩ := h.own l i hm hst
    have hul := hcs.length
    rw [hlen] at hle
    have hsome : ∀ j, j < us.length → (w.cell? ⟨i.b, i.off + o + j, none⟩).isSome = true := by
      intro j hj
      obtain ⟨v, hv, _⟩ := hcells (o + j) (by omega)
      rw [← Nat.add_assoc] at hv
      simp [hv]
    have hone : ∀ u ∈ us, u.oneCell' = true := by
      intro u hu
      obtain ⟨j, hj, rfl⟩ := List.mem_iff_getElem.1 hu
      obtain ⟨v, hv, hr⟩ := hcs.at j (by omega)
      rw [List.getElem?_eq_getElem hj, Option.some.injEq] at hv; subst hv
      refine hr.one ?_
      have hjc : j < cs.length := by omega
      rw [List.getD_eq_getElem?_getD, List.getElem?_eq_getElem hjc]
      exact (List.all_eq_true.1 h1) _ (List.getElem_mem hjc)
    refine ⟨hsome, fun j _ => hfz _, hone, ?_⟩
    obtain ⟨eos, etape, eout⟩ := setCells_os i.b us (i.off + o) w
    have hg : ∀ k, k ≠ l → (H.put l (splice (H.get l).cells o cs)).get k = H.get k := fun k hk => by simp [Heap.put, hk]
    have hgl : (H.put l (splice (H.get l).cells o cs)).get l = ⟨splice (H.get l).cells o cs, .own⟩ := by simp [Heap.put]
    have hst' : ∀ k, ((H.put l (splice (H.get l).cells o cs)).get k).st = (H.get k).st := by
      intro k
      by_cases hk : k = l
      · subst hk; rw [hgl, hst]
      · rw [hg k hk]
    obtain ⟨arr', hheap', harr'⟩ := setCells_shape i.b us (i.off + o) w arr T fz hheap
    refine ⟨⟨?_, by rw [setCells_size]; exact h.size, ?_, ?_, ?_, ?_⟩, MLe.refl _, Nat.le_refl _, ?_, ⟨eos, etape, eout, by rw [setCells_size]; exact Nat.le_refl _, ?_⟩, ?_⟩
    · intro k j e; exact h.dom k j e
    · intro k j e hs
      rw [hst'] at hs
      by_cases hk : k = l
      · subst hk
        rw [hm] at e; simp only [Option.some.injEq] at e; subst e
        rw [hgl]
        have hsl : (splice (H.get k).cells o cs).length = i.n := by unfold splice; simp only [List.length_append, List.length_take, List.length_drop]; omega
        refine ⟨hsl, fun q hq => ?_⟩
        by_cases hin : o ≤ q ∧ q < o + cs.length
        · obtain ⟨v, hv, hr⟩ := hcs.at (q - o) (by omega)
          have hlt : q - o < us.length := by omega
          have hin' := World.cell?_setCells_in i.b us (i.off + o) w (by intro p hp; exact hsome p hp) (q - o) hlt
          rw [show i.off + o + (q - o) = i.off + q by omega] at hin'
          refine ⟨v, ?_, ?_⟩
          · rw [hin', ← hv, List.getElem?_eq_getElem hlt]
          · have e : (splice (H.get k).cells o cs).getD q .und = cs.getD (q - o) .und := by
              unfold splice
              simp only [List.getD_eq_getElem?_getD]
              rw [List.append_assoc, List.getElem?_append_right (by rw [List.length_take]; omega), List.getElem?_append_left (by rw [List.length_take]; omega), List.length_take, show min o (H.get k).cells.length = o by omega]
            rw [e]; exact hr
        · obtain ⟨v, hv, hr⟩ := hcells q hq
          refine ⟨v, ?_, ?_⟩
          · rw [World.cell?_setCells_out i.b us (i.off + o) w _ (fun _ _ => by simp; omega), hv]
          · have e : (splice (H.get k).cells o cs).getD q .und = (H.get k).cells.getD q .und := by
              unfold splice
              simp only [List.getD_eq_getElem?_getD]
              by_cases hq1 : q < o
              · rw [List.append_assoc, List.getElem?_append_left (by rw [List.length_take]; omega), List.getElem?_take, if_pos hq1]
              · rw [List.getElem?_append_right (by rw [List.length_append, List.length_take]; omega), List.length_append, List.length_take, List.getElem?_drop]
                congr 2
                omega
            rw [e]; exact hr
      · rw [hg k hk]
        obtain ⟨e1, e2⟩ := h.cells k j e hs
        refine ⟨e1, fun q hq => ?_⟩
        obtain ⟨v, hv, hr⟩ := e2 q hq
        refine ⟨v, ?_, hr⟩
        have hjb : j.b ≠ i.b := by
          cases hsk : (H.get k).st with
          | dead => exact absurd hsk hs
          | ro => have := h.ro k j e hsk (by omega); omega
          | own => exact h.sep k l j i e hm hk hsk hst
        rw [cell_of_heap (setCells_other i.b us (i.off + o) w j.b hjb), hv]
    · intro k j e hs
      rw [hst'] at hs
      by_cases hk : k = l
      · subst hk
        rw [hm] at e; simp only [Option.some.injEq] at e; subst e
        exact ⟨hb, hbs, ⟨arr', T, fz, hheap', by omega⟩, fun off => by rw [World.frozen?_setCells, hfz]⟩
      · obtain ⟨a1, a2, ⟨ar, T', fz', a3, a4⟩, a5⟩ := h.own k j e hs
        have hjb : j.b ≠ i.b := h.sep k l j i e hm hk hs hst
        exact ⟨a1, a2, ⟨ar, T', fz', by rw [setCells_other i.b us _ w j.b hjb, a3], a4⟩, fun off => by rw [World.frozen?_setCells, a5]⟩
    · intro k j e hs hn; rw [hst'] at hs; exact h.ro k j e hs hn
    · intro k k' j j' e e' hne hs hs'; rw [hst'] at hs hs'; exact h.sep k k' j j' e e' hne hs hs'
    · intro k hk e
      refine ⟨e, hg k ?_⟩
      rintro rfl; rw [hm] at e; simp at e
    · intro b hb' hn
      refine setCells_other i.b us _ w b ?_
      exact fun hbb => hn l i hm hst hbb.symm
    · intro k j e hs; rw [hst'] at hs; exact .inr ⟨k, j, e, hs, rfl⟩
  · simp at hw

/-- Cells written behind what a place holds: the place goes, a longer one comes, in the same block. -/
theorem Ok.grow {base : Nat} {m : Map} {H : Heap} {w : World} (h : Rel base m H w) {l o : Nat} {i : Inf} {cs : List AV} {us : List Value} (hm : m l = some i) (hst : (H.get l).st = .own) (ho : o ≤ i.n)
    (hcs : VRs m cs us) (hone : ∀ c ∈ cs, c.one = true) (hroom : i.off + i.n + cs.length ≤ i.bsz) :
    (∀ j, j < us.length → (w.cell? ⟨i.b, i.off + i.n + j, none⟩).isSome = true) ∧ (∀ j, j < us.length → w.frozen? ⟨i.b, i.off + i.n + j, none⟩ = false) ∧ (∀ u ∈ us, u.oneCell' = true) ∧
    Ok base m H w (m.add H.sz ⟨i.b, i.off + o, i.n - o + cs.length, i.bsz⟩) ((H.kill l).new ((H.get l).cells.drop o ++ cs)) (w.setCells i.b (i.off + i.n) us) := by
  obtain ⟨hlen, hcells⟩ := h.cells l i hm (by rw [hst]; simp)
  obtain ⟨hb, hbs, ⟨arr, T, fz, hheap, harr⟩, hfz⟩ := h.own l i hm hst
  have hul := hcs.length
  have hlsz := h.dom l i hm
  have hle : MLe m (m.add H.sz ⟨i.b, i.off + o, i.n - o + cs.length, i.bsz⟩) := MLe.add h.fresh
  have hsome : ∀ j, j < us.length → (w.cell? ⟨i.b, i.off + i.n + j, none⟩).isSome = true := by
    intro j hj
    unfold World.cell?
    simp only [hheap, Option.isSome_none, Bool.false_eq_true, if_false]
    rw [Array.getElem?_eq_getElem (by omega)]; rfl
  have h1 : ∀ u ∈ us, u.oneCell' = true := by
    intro u hu
    obtain ⟨j, hj, rfl⟩ := List.mem_iff_getElem.1 hu
    obtain ⟨v, hv, hr⟩ := hcs.at j (by omega)
    rw [List.getElem?_eq_getElem hj, Option.some.injEq] at hv; subst hv
    refine hr.one ?_
    have hjc : j < cs.length := by omega
    rw [List.getD_eq_getElem?_getD, List.getElem?_eq_getElem hjc]
    exact hone _ (List.getElem_mem hjc)
  refine ⟨hsome, fun j _ => hfz _, h1, ?_⟩
  obtain ⟨eos, etape, eout⟩ := setCells_os i.b us (i.off + i.n) w
  obtain ⟨arr', hheap', harr'⟩ := setCells_shape i.b us (i.off + i.n) w arr T fz hheap
  have key : ∀ k j, m.add H.sz ⟨i.b, i.off + o, i.n - o + cs.length, i.bsz⟩ k = some j → (k = H.sz ∧ j = ⟨i.b, i.off + o, i.n - o + cs.length, i.bsz⟩) ∨ (k ≠ H.sz ∧ m k = some j) := by
    intro k j e
    unfold Map.add at e
    split at e
    · rename_i hk; exact .inl ⟨hk, by simpa using e.symm⟩
    · rename_i hk; exact .inr ⟨hk, e⟩
  have hksz : (H.kill l).sz = H.sz := rfl
  have hg : ∀ k, k ≠ l → k ≠ H.sz → ((H.kill l).new ((H.get l).cells.drop o ++ cs)).get k = H.get k := fun k h1 h2 => by simp [Heap.kill, Heap.new, h1, h2]
  have hgl : ((H.kill l).new ((H.get l).cells.drop o ++ cs)).get l = ⟨[], .dead⟩ := by
    have : l ≠ H.sz := by omega
    simp [Heap.kill, Heap.new, this]
  have hgn : ((H.kill l).new ((H.get l).cells.drop o ++ cs)).get H.sz = ⟨(H.get l).cells.drop o ++ cs, .own⟩ := by simp [Heap.kill, Heap.new]
  refine ⟨⟨?_, by rw [setCells_size]; exact h.size, ?_, ?_, ?_, ?_⟩, hle, by simp [Heap.kill, Heap.new], ?_, ⟨eos, etape, eout, by rw [setCells_size]; exact Nat.le_refl _, ?_⟩, ?_⟩
  · intro k j e
    rcases key k j e with ⟨rfl, _⟩ | ⟨_, e⟩
    · simp [Heap.kill, Heap.new]
    · have := h.dom k j e; simp [Heap.kill, Heap.new]; omega
  · intro k j e hs
    rcases key k j e with ⟨rfl, rfl⟩ | ⟨hk, e⟩
    · rw [hgn]
      refine ⟨by simp only [List.length_append, List.length_drop, hlen], fun q hq => ?_⟩
      simp only at hq
      by_cases hin : q < i.n - o
      · obtain ⟨v, hv, hr⟩ := hcells (o + q) (by omega)
        refine ⟨v, ?_, ?_⟩
        · simp only
          rw [World.cell?_setCells_out i.b us (i.off + i.n) w _ (fun _ _ => by simp; omega), Nat.add_assoc, hv]
        · have e : ((H.get l).cells.drop o ++ cs).getD q .und = (H.get l).cells.getD (o + q) .und := by
            simp only [List.getD_eq_getElem?_getD]
            rw [List.getElem?_append_left (by rw [List.length_drop]; omega), List.getElem?_drop]
          rw [e]; exact hr.mono hle
      · obtain ⟨v, hv, hr⟩ := hcs.at (q - (i.n - o)) (by omega)
        have hlt : q - (i.n - o) < us.length := by omega
        have hin' := World.cell?_setCells_in i.b us (i.off + i.n) w (by intro p hp; exact hsome p hp) (q - (i.n - o)) hlt
        rw [show i.off + i.n + (q - (i.n - o)) = i.off + o + q by omega] at hin'
        refine ⟨v, ?_, ?_⟩
        · simp only
          rw [hin', ← hv, List.getElem?_eq_getElem hlt]
        · have e : ((H.get l).cells.drop o ++ cs).getD q .und = cs.getD (q - (i.n - o)) .und := by
            simp only [List.getD_eq_getElem?_getD]
            rw [List.getElem?_append_right (by rw [List.length_drop]; omega), List.length_drop, hlen]
          rw [e]; exact hr.mono hle
    · by_cases hkl : k = l
      · subst hkl; rw [hgl] at hs; simp at hs
      · rw [hg k hkl hk] at hs ⊢
        obtain ⟨e1, e2⟩ := h.cells k j e hs
        refine ⟨e1, fun q hq => ?_⟩
        obtain ⟨v, hv, hr⟩ := e2 q hq
        refine ⟨v, ?_, hr.mono hle⟩
        have hjb : j.b ≠ i.b := by
          cases hsk : (H.get k).st with
          | dead => exact absurd hsk hs
          | ro => have := h.ro k j e hsk (by omega); omega
          | own => exact h.sep k l j i e hm hkl hsk hst
        rw [cell_of_heap (setCells_other i.b us _ w j.b hjb), hv]
  · intro k j e hs
    rcases key k j e with ⟨rfl, rfl⟩ | ⟨hk, e⟩
    · exact ⟨hb, by simp only; omega, ⟨arr', T, fz, hheap', by simp only; omega⟩, fun off => by rw [World.frozen?_setCells, hfz]⟩
    · by_cases hkl : k = l
      · subst hkl; rw [hgl] at hs; simp at hs
      · rw [hg k hkl hk] at hs
        obtain ⟨a1, a2, ⟨ar, T', fz', a3, a4⟩, a5⟩ := h.own k j e hs
        have hjb : j.b ≠ i.b := h.sep k l j i e hm hkl hs hst
        exact ⟨a1, a2, ⟨ar, T', fz', by rw [setCells_other i.b us _ w j.b hjb, a3], a4⟩, fun off => by rw [World.frozen?_setCells, a5]⟩
  · intro k j e hs hn
    rcases key k j e with ⟨rfl, rfl⟩ | ⟨hk, e⟩
    · rw [hgn] at hs; simp at hs
    · by_cases hkl : k = l
      · subst hkl; rw [hgl] at hs; simp at hs
      · rw [hg k hkl hk] at hs; exact h.ro k j e hs hn
  · intro k k' j j' e e' hne hs hs'
    rcases key k j e with ⟨rfl, rfl⟩ | ⟨hk, e⟩ <;> rcases key k' j' e' with ⟨rfl, rfl⟩ | ⟨hk', e'⟩
    · exact absurd rfl hne
    · by_cases hkl : k' = l
      · subst hkl; rw [hgl] at hs'; simp at hs'
      · rw [hg k' hkl hk'] at hs'
        exact (h.sep k' l j' i e' hm hkl hs' hst).symm
    · by_cases hkl : k = l
      · subst hkl; rw [hgl] at hs; simp at hs
      · rw [hg k hkl hk] at hs
        exact h.sep k l j i e hm hkl hs hst
    · by_cases hkl : k = l
      · subst hkl; rw [hgl] at hs; simp at hs
      · by_cases hkl' : k' = l
        · subst hkl'; rw [hgl] at hs'; simp at hs'
        · rw [hg k hkl hk] at hs; rw [hg k' hkl' hk'] at hs'
          exact h.sep k k' j j' e e' hne hs hs'
  · intro k hk e
    have hne : k ≠ H.sz := by omega
    refine ⟨by unfold Map.add; rw [if_neg hne, e], hg k ?_ hne⟩
    rintro rfl; rw [hm] at e; simp at e
  · intro b hb' hn
    refine setCells_other i.b us _ w b ?_
    exact fun hbb => hn l i hm hst hbb.symm
  · intro k j e hs
    rcases key k j e with ⟨rfl, rfl⟩ | ⟨hk, e⟩
    · exact .inr ⟨l, i, hm, hst, rfl⟩
    · by_cases hkl : k = l
      · subst hkl; rw [hgl] at hs; simp at hs
      · rw [hg k hkl hk] at hs; exact .inr ⟨k, j, e, hs, rfl⟩

/-- A place that goes. -/
theorem Ok.kill {base : Nat} {m : Map} {H : Heap} {w : World} (h : Rel base m H w) (l : Nat) (hm : m l ≠ none) : Ok base m H w m (H.kill l) w := by
  have hg : ∀ k, k ≠ l → (H.kill l).get k = H.get k := fun k h1 => by simp [Heap.kill, h1]
  have hgl : (H.kill l).get l = ⟨[], .dead⟩ := by simp [Heap.kill]
  have hk : ∀ k, ((H.kill l).get k).st ≠ .dead → k ≠ l := by rintro k hk rfl; rw [hgl] at hk; exact hk rfl
  refine ⟨⟨h.dom, h.size, ?_, ?_, ?_, ?_⟩, MLe.refl _, Nat.le_refl _, ?_, Frame.refl _ _ _, ?_⟩
  · intro k i e hs; have hne := hk k hs; rw [hg k hne] at hs ⊢; exact h.cells k i e hs
  · intro k i e hs; have hne := hk k (by rw [hs]; simp); rw [hg k hne] at hs; exact h.own k i e hs
  · intro k i e hs; have hne := hk k (by rw [hs]; simp); rw [hg k hne] at hs; exact h.ro k i e hs
  · intro k k' i i' e e' hne hs hs'
    have h1 := hk k (by rw [hs]; simp); have h2 := hk k' (by rw [hs']; simp)
    rw [hg k h1] at hs; rw [hg k' h2] at hs'; exact h.sep k k' i i' e e' hne hs hs'
  · intro k hks e; exact ⟨e, hg k (by rintro rfl; exact hm e)⟩
  · intro k i e hs; have hne := hk k (by rw [hs]; simp); rw [hg k hne] at hs; exact .inr ⟨k, i, e, hs, rfl⟩

end Go.Proofs.YtabmomjfdondnaaH
