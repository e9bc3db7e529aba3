import Derived.Test.YtjfeimhiiomgoaaGreatX3
import Derived.Below
import Derived.Sort.Row
import Derived.Sort.Grow
set_option linter.unusedVariables false
set_option linter.unusedSimpArgs false
set_option linter.defProp false
namespace Go.Proofs.YtjfeimhiiomgoaaGreatH
open Go
section
open Go Go.RowKit
section
variable {P : Program} {base : Nat} {m : Map} {H : Heap} {w w' : World}
theorem Ok.below (h : Rel base m H w) (hb : Below w.heap.size w w') : Ok base m H w m H w' := by
 refine ⟨⟨h.dom, Nat.le_trans h.size hb.size, fun l i e hs => ?_, fun l i e hs => ?_, h.ro, h.sep, h.tab.on fun b hb' => hb.block b (Nat.lt_of_lt_of_le hb' h.size)⟩, MLe.refl _, Nat.le_refl _, fun l _ e => ⟨e, rfl⟩, ⟨hb.os, hb.tape, hb.output, hb.size, fun b h1 _ => hb.block b h1⟩, fun l i e hs => .inr ⟨l, i, e, hs, rfl⟩⟩
 ·obtain ⟨h1, h2⟩ := h.cells l i e hs
  refine ⟨h1, fun j hj => ?_⟩
  obtain ⟨v, hv, hr⟩ := h2 j hj
  refine ⟨v, ?_, hr⟩
  rw [cell_of_heap (hb.block _ (World.block_lt_of_cell? w _ hv)), hv]
 ·obtain ⟨h1, h2, ⟨ar, T', fz, h3, h4⟩, h5⟩ := h.own l i e hs
  have hlt : i.b < w.heap.size := (Array.getElem?_eq_some_iff.1 h3).1
  exact ⟨h1, h2, ⟨ar, T', fz, by rw [hb.block _ hlt, h3], h4⟩, fun off => by rw [frozen_of_heap (hb.block _ hlt), h5]⟩
theorem orX_ok {X Y : Ext} (h1 : ExtOk P X) (h2 : ExtOk P Y) : ExtOk P (orX X Y) := fun f args H v H' h => h.elim (h1 f args H v H') (h2 f args H v H')
open Go.Sort in
theorem setCells_map (b : Nat) : ∀ (vs : List Value) (o : Nat) (w : World), w.setCells b o vs = mapBlock w b (fun c => c.mapIdx fun k x => if o <= k /\ k < o + vs.length then vs.getD (k - o) undef else x)
 | [], o, w => by
  rw [World.setCells, mapBlock_id]
  intro c e fr _
  apply Array.ext_getElem?
  intro k
  rw [Array.getElem?_mapIdx]
  cases c[k]? with
  | none => rfl
  | some y => rw [Option.map_some, if_neg (by simp)]
 | v :: vs, o, w => by
  rw [World.setCells, setCells_map b vs (o + 1), setCell_eq, mapBlock_mapBlock]
  refine mapBlock_congr _ _ _ _ fun c _ _ _ => ?_
  apply Array.ext_getElem?
  intro k
  simp only [Array.getElem?_mapIdx, Array.getElem?_setIfInBounds, List.length_cons]
  by_cases hk : o = k
  ·subst hk
   by_cases hc : o < c.size
   ·rw [if_pos rfl, if_pos hc, Array.getElem?_eq_getElem hc, Option.map_some, Option.map_some, if_neg (by omega), if_pos (by omega)]
    simp
   ·rw [if_pos rfl, if_neg hc, Array.getElem?_eq_none (by omega)]; rfl
  ·rw [if_neg hk]
   cases c[k]? with
   | none => rfl
   | some y =>
    rw [Option.map_some, Option.map_some]
    by_cases hr : o + 1 <= k /\ k < o + 1 + vs.length
    ·rw [if_pos hr, if_pos (by omega), show k - o = (k - (o + 1)) + 1 by omega, List.getD_cons_succ]
    ·rw [if_neg hr, if_neg (by omega)]
open Go.Sort in
theorem putRow_setCells (w : World) (b o : Nat) (zs : List Int) : putRow (Value.int .i64) w b o zs.toArray = w.setCells b o (zs.map (Value.int .i64)) := by
 rw [setCells_map]
 refine mapBlock_congr _ _ _ _ fun c _ _ _ => ?_
 apply Array.ext_getElem?
 intro k
 simp only [putCells, Array.getElem?_mapIdx, List.length_map, List.size_toArray]
 cases c[k]? with
 | none => rfl
 | some y =>
  rw [Option.map_some, Option.map_some]
  by_cases hr : o <= k /\ k < o + zs.length
  ·rw [if_pos hr, if_pos hr]
   have : k - o < zs.length := by omega
   simp [zD, this]
  ·rw [if_neg hr, if_neg hr]
theorem ints_val {m : Map} : ∀ {zs : List Int} {us : List Value}, VRs m (zs.map fun n => AV.int .i64 n) us -> us = zs.map (Value.int .i64)
 | [], us, h => by simpa [VRs] using h
 | x :: xs, us, h => by
  rw [List.map_cons, VRs] at h
  obtain ⟨v, vs, rfl, h1, h2⟩ := h
  rw [VR] at h1
  rw [ints_val h2, List.map_cons, h1]
theorem val_ints {m : Map} : ∀ {zs : List Int}, VRs m (zs.map fun n => AV.int .i64 n) (zs.map (Value.int .i64))
 | [] => by simp [VRs]
 | x :: xs => by rw [List.map_cons, VRs]; exact ⟨_, _, rfl, by rw [VR], val_ints⟩
theorem row_ok (hr : Rel base m H w) {l o n : Nat} {i : Inf} {zs ys : List Int} {H' : Heap} (hm : m l = some i) (hrd : H.rd l o zs.length = some (zs.map fun n => .int .i64 n)) (hw : H.wr l o (ys.map fun n => .int .i64 n) = some H') :
    (Go.Sort.Holds (Value.int .i64) w i.b (i.off + o) zs.toArray /\ i.b < w.heap.size) /\ ∀ w', (∃ q os, w' = Sort.grow (Sort.putRow (Value.int .i64) (Sort.ahead w q) i.b (i.off + o) ys.toArray) os) -> Ok base m H w m H' w' := by
  have hst : (H.get l).st = .own := by
    unfold Heap.wr at hw
    split at hw
    · rename_i h; exact h.1
    · simp at hw
  obtain ⟨hb, hbs, ⟨arr, T, fz, hheap, harr⟩, hfz⟩ := hr.own l i hm hst
  obtain ⟨g1, g2, us, g3, g4, g5⟩ := hr.rd hm hrd
  have hus := ints_val g4
  refine ⟨⟨fun j hj => ?_, (Array.getElem?_eq_some_iff.1 hheap).1⟩, ?_⟩
  · have hj' : j < zs.length := by simpa using hj
    refine ⟨?_, hfz _⟩
    refine g5 j _ ?_
    rw [hus]
    simp [hj']
  · rintro w' ⟨q, os, rfl⟩
    obtain ⟨_, _, _, hok⟩ := Ok.put hr hm hw (val_ints (m := m) (zs := ys))
    rw [putRow_setCells]
    refine hok.trans (Ok.below hok.rel ?_)
    refine ⟨?_, ?_, ?_, ?_, fun k hk => ?_⟩
    · exact (setCells_os i.b _ _ (Sort.ahead w q)).1.trans (setCells_os i.b _ _ w).1.symm
    · exact (setCells_os i.b _ _ (Sort.ahead w q)).2.1.trans (setCells_os i.b _ _ w).2.1.symm
    · exact (setCells_os i.b _ _ (Sort.ahead w q)).2.2.trans (setCells_os i.b _ _ w).2.2.symm
    · show _ <= (((Sort.ahead w q).setCells _ _ _).heap ++ os).size
      rw [Array.size_append, setCells_size, setCells_size]
      exact Nat.le_add_right _ _
    · show (((Sort.ahead w q).setCells _ _ _).heap ++ os)[k]? = _
      have hk' : k < w.heap.size := by rw [setCells_size] at hk; exact hk
      rw [Array.getElem?_append_left (by rw [setCells_size]; exact hk'), setCells_map, setCells_map]
      rfl
theorem sortX_ok {fs : Nat}
  (h0 : ∀ (a : Option Addr) (c : Nat) (w : World), Calls P fs #[.slice a 0 c] w fun e w' => e = .returned (.tuple #[]) /\ Below w.heap.size w w')
  (hS : ∀ (b o c : Nat) (zs : List Int) (w : World), Go.Sort.Holds (Value.int .i64) w b o zs.toArray -> b < w.heap.size -> zs.length < 4611686018427387904 ->
   Calls P fs #[.slice (some ⟨b, o, none⟩) zs.length c] w fun e w' => e = .returned (.tuple #[]) /\ ∃ q os, w' = Sort.grow (Sort.putRow (Value.int .i64) (Sort.ahead w q) b o (srtL zs).toArray) os)
  (cS : Callable P fs) : ExtOk P (sortX fs) := by
 rintro f args H v H' ⟨rfl, rfl, h⟩
 rcases h with ⟨rfl, a, rfl, h⟩ | ⟨l, o, zs, rfl, hn, hp, hrd, hw⟩
 ·refine ⟨Nat.le_refl _, fun base m w args' hr ha => ?_, cS⟩
  rw [VRs] at ha
  obtain ⟨u, us, rfl, h1, h2⟩ := ha
  rw [VRs] at h2
  subst h2
  obtain ⟨ad, c, rfl⟩ : ∃ ad c, u = .slice ad 0 c := by
   rcases h with rfl | ⟨l, o, e, x, rfl⟩
   ·rw [VR] at h1; exact ⟨none, 0, h1⟩
   ·rw [VR] at h1
    obtain ⟨i, a, cap, _, rfl, _⟩ := h1
    exact ⟨_, _, rfl⟩
  refine (h0 ad c w).mono fun e w' ⟨he, hw⟩ => ⟨_, m, he, ?_, Ok.below hr hw⟩
  rw [VR]
  exact ⟨#[], rfl, by simp [VRs]⟩
 ·have hsz : H'.sz = H.sz := by
   unfold Heap.wr at hw
   split at hw
   ·simp only [zJ] at hw; subst hw; rfl
   ·simp at hw
  refine ⟨Nat.le_of_eq hsz.symm, fun base m w args' hr ha => ?_, cS⟩
  rw [VRs] at ha
  obtain ⟨u, us, rfl, h1, h2⟩ := ha
  rw [VRs] at h2
  subst h2
  rw [VR] at h1
  obtain ⟨i, a, cap, hm, rfl, hc, _, _, _, _, ha, _⟩ := h1
  obtain rfl := ha (by omega)
  obtain ⟨⟨k1, k2⟩, k3⟩ := row_ok (n := 0) hr hm hrd hw
  refine (hS i.b (i.off + o) cap zs w k1 k2 hn).mono fun e w' ⟨he, hw'⟩ => ⟨_, m, he, ?_, k3 w' hw'⟩
  rw [VR]
  exact ⟨#[], rfl, by simp [VRs]⟩
theorem grow_none (w : World) : Sort.grow w #[] = w := by
 unfold Sort.grow
 rw [Array.append_empty]
theorem Ok.trim {base : Nat} {m : Map} {H : Heap} {w : World} (h : Rel base m H w) {l n : Nat} {i : Inf} (hm : m l = some i) (hst : (H.get l).st = .own) (hn : n <= i.n) :
  Ok base m H w (m.add H.sz ⟨i.b, i.off, n, i.bsz⟩) ((H.kill l).new ((H.get l).cells.take n)) w := by
 obtain ⟨hlen, hcells⟩ := h.cells l i hm (by rw [hst]; simp)
 obtain ⟨hb, hbs, ⟨arr, T, fz, hheap, harr⟩, hfz⟩ := h.own l i hm hst
 have hlsz := h.dom l i hm
 have hle : MLe m (m.add H.sz ⟨i.b, i.off, n, i.bsz⟩) := MLe.add h.fresh
 have key : ∀ k j, m.add H.sz ⟨i.b, i.off, n, i.bsz⟩ k = some j -> (k = H.sz /\ j = ⟨i.b, i.off, n, i.bsz⟩) \/ (k ≠ H.sz /\ m k = some j) := by
  intro k j e
  unfold Map.add at e
  split at e
  ·rename_i hk; exact .inl ⟨hk, by simpa using e.symm⟩
  ·rename_i hk; exact .inr ⟨hk, e⟩
 have hg : ∀ k, k ≠ l -> k ≠ H.sz -> ((H.kill l).new ((H.get l).cells.take n)).get k = H.get k := fun k h1 h2 => by simp [Heap.kill, Heap.new, h1, h2]
 have hgl : ((H.kill l).new ((H.get l).cells.take n)).get l = ⟨[], .dead⟩ := by
  have : l ≠ H.sz := by omega
  simp [Heap.kill, Heap.new, this]
 have hgn : ((H.kill l).new ((H.get l).cells.take n)).get H.sz = ⟨(H.get l).cells.take n, .own⟩ := by simp [Heap.kill, Heap.new]
 have old : ∀ {k j st}, (((H.kill l).new ((H.get l).cells.take n)).get k).st = st -> st ≠ .dead -> k ≠ H.sz -> m k = some j -> k ≠ l /\ (H.get k).st = st := by
  intro k j st hs hd hk e
  have hkl : k ≠ l := by rintro rfl; rw [hgl] at hs; exact hd hs.symm
  rw [hg k hkl hk] at hs
  exact ⟨hkl, hs⟩
 refine ⟨⟨?_, h.size, ?_, ?_, ?_, ?_, h.tab⟩, hle, by simp [Heap.kill, Heap.new], ?_, Frame.refl _ _ _, ?_⟩
 ·intro k j e
  rcases key k j e with ⟨rfl, _⟩ | ⟨_, e⟩
  ·simp [Heap.kill, Heap.new]
  ·have := h.dom k j e; simp [Heap.kill, Heap.new]; omega
 ·intro k j e hs
  rcases key k j e with ⟨rfl, rfl⟩ | ⟨hk, e⟩
  ·rw [hgn]
   refine ⟨by simp only [List.length_take, hlen]; omega, fun q hq => ?_⟩
   simp only at hq
   obtain ⟨v, hv, hr⟩ := hcells q (by omega)
   refine ⟨v, hv, ?_⟩
   have e : ((H.get l).cells.take n).getD q .und = (H.get l).cells.getD q .und := by
    simp only [zD]
    rw [List.getElem?_take_of_lt hq]
   rw [e]; exact hr.mono hle
  ·obtain ⟨hkl, _⟩ := old rfl hs hk e
   rw [hg k hkl hk] at hs ⊢
   obtain ⟨e1, e2⟩ := h.cells k j e hs
   exact ⟨e1, fun q hq => let ⟨v, hv, hr⟩ := e2 q hq; ⟨v, hv, hr.mono hle⟩⟩
 ·intro k j e hs
  rcases key k j e with ⟨rfl, rfl⟩ | ⟨hk, e⟩
  ·exact ⟨hb, by simp only; omega, ⟨arr, T, fz, hheap, harr⟩, hfz⟩
  ·exact h.own k j e (old hs (by simp) hk e).2
 ·intro k j e hs hn
  rcases key k j e with ⟨rfl, rfl⟩ | ⟨hk, e⟩
  ·rw [hgn] at hs; simp at hs
  ·exact h.ro k j e (old hs (by simp) hk e).2 hn
 ·intro k k' j j' e e' hne hs hs'
  rcases key k j e with ⟨rfl, rfl⟩ | ⟨hk, e⟩ <;> rcases key k' j' e' with ⟨rfl, rfl⟩ | ⟨hk', e'⟩
  ·exact absurd rfl hne
  ·obtain ⟨a1, a2⟩ := old hs' (by simp) hk' e'
   exact (h.sep k' l j' i e' hm a1 a2 hst).symm
  ·obtain ⟨a1, a2⟩ := old hs (by simp) hk e
   exact h.sep k l j i e hm a1 a2 hst
  ·exact h.sep k k' j j' e e' hne (old hs (by simp) hk e).2 (old hs' (by simp) hk' e').2
 ·intro k hk e
  have hne : k ≠ H.sz := by omega
  refine ⟨by unfold Map.add; rw [if_neg hne, e], hg k ?_ hne⟩
  rintro rfl; rw [hm] at e; simp at e
 ·intro k j e hs
  rcases key k j e with ⟨rfl, rfl⟩ | ⟨hk, e⟩
  ·exact .inr ⟨l, i, hm, hst, rfl⟩
  ·exact .inr ⟨k, j, e, (old hs (by simp) hk e).2, rfl⟩
theorem compX_ok {fc : Nat}
  (h0 : ∀ (a : Option Addr) (c : Nat) (w : World), Calls P fc #[.slice a 0 c] w fun e w' => e = .returned (.slice a 0 c) /\ Below w.heap.size w w')
  (hS : ∀ (b o c : Nat) (zs : List Int) (w : World), Go.Sort.Holds (Value.int .i64) w b o zs.toArray -> zs.length <= 9223372036854775807 -> zs.length <= c ->
   Calls P fc #[.slice (some ⟨b, o, none⟩) zs.length c] w fun e w' => e = .returned (.slice (some ⟨b, o, none⟩) (compactL zs).length c) /\ ∃ q, w' = Sort.putRow (Value.int .i64) (Sort.ahead w q) b o (compactL zs ++ List.replicate (zs.length - (compactL zs).length) 0).toArray)
  (cS : Callable P fc) : ExtOk P (compX fc) := by
 rintro f args H v H' ⟨rfl, h⟩
 rcases h with ⟨rfl, rfl, h⟩ | ⟨l, zs, H1, rfl, hn, hp, hrd, hw, rfl, rfl⟩
 ·refine ⟨Nat.le_refl _, fun base m w args' hr ha => ?_, cS⟩
  rw [VRs] at ha
  obtain ⟨u, us, rfl, h1, h2⟩ := ha
  rw [VRs] at h2
  subst h2
  obtain ⟨ad, c, rfl⟩ : ∃ ad c, u = .slice ad 0 c := by
   rcases h with rfl | ⟨l, o, e, x, rfl⟩
   ·rw [VR] at h1; exact ⟨none, 0, h1⟩
   ·rw [VR] at h1
    obtain ⟨i, a, cap, _, rfl, _⟩ := h1
    exact ⟨_, _, rfl⟩
  exact (h0 ad c w).mono fun e w' ⟨he, hw⟩ => ⟨_, m, he, h1, Ok.below hr hw⟩
 ·have hl := compactL_len zs
  have hwr : H1.sz = H.sz /\ (H1.get l).st = .own := by
   unfold Heap.wr at hw
   split at hw
   ·simp only [zJ] at hw; subst hw; exact ⟨rfl, by simp [Heap.put]⟩
   ·simp at hw
  refine ⟨by simp [Heap.kill, Heap.new]; omega, fun base m w args' hr ha => ?_, cS⟩
  rw [VRs] at ha
  obtain ⟨u, us, rfl, h1, h2⟩ := ha
  rw [VRs] at h2
  subst h2
  rw [VR] at h1
  obtain ⟨i, a, cap, hm, rfl, hc, hx, h5, h6, h7, ha, he⟩ := h1
  obtain rfl := ha (by omega)
  obtain ⟨⟨k1, k2⟩, k3⟩ := row_ok (n := 0) hr hm hrd hw
  refine (hS i.b (i.off + 0) cap zs w k1 hn hc).mono fun e w' ⟨he', q, hw'⟩ => ?_
  have ok := k3 w' ⟨q, #[], by rw [grow_none]; exact hw'⟩
  have ok2 := Ok.trim ok.rel hm hwr.2 (n := (compactL zs).length) (by omega)
  refine ⟨_, _, he', ?_, ok.trans ok2⟩
  rw [VR]
  exact ⟨⟨i.b, i.off, (compactL zs).length, i.bsz⟩, _, cap, by unfold Map.add; rw [if_pos rfl], rfl, by omega, by simp, by simp, fun _ => by simp only; omega, h7, fun _ => rfl, he⟩
end
section
variable {Tb : Nat -> Option CFn} {io : Nat -> List Nat} {fi fj : Nat}
end
end
section
variable {Tb : Nat -> Option CFn} {io : Nat -> List Nat} {X : Ext} {l : List Int}
theorem srtL_len : (srtL l).length = l.length := (List.mergeSort_perm _ _).length_eq
theorem own_ints {H : Heap} {F : Nat -> Prop} {v : AV} {ls : List Nat} (hd : Den H F v (osl eI true l) ls) :
  (l = [] /\ (v = .nils \/ ∃ q o e x, v = .sl q o 0 e x)) \/ ∃ p, 0 < l.length /\ v = .sl p 0 l.length 1 false /\ ls = [p] /\ p < H.sz /\ (H.get p).st = .own /\ ¬ F p /\ (H.get p).cells = l.map fun n => .int .i64 n := by
 rw [Den] at hd
 rcases hd with ⟨_, hl, hv, _, _⟩ | ⟨p, o, n, avs, hv, he, hn, hp, hd⟩
 ·refine .inl ⟨by simpa using hl, ?_⟩
  rcases hv with rfl | ⟨q, o, rfl⟩
  ·exact .inl rfl
  ·exact .inr ⟨_, _, _, _, rfl⟩
 ·rcases hd with ⟨_, h3, h4, h5, ⟨rest, h6, h7⟩, l1, h8, h9⟩ | ⟨h1, _⟩
  ·subst h3
   obtain ⟨rfl, rfl⟩ := dens_ints h9
   have hrest : rest = [] := List.eq_nil_of_length_eq_zero (by simpa using h7)
   subst hrest
   have hln : l.length = n := by simpa using hn
   subst hln
   have hv' : v = .sl p 0 l.length 1 false := by rw [hv]; simp
   by_cases hz : l.length = 0
   ·refine .inl ⟨List.eq_nil_of_length_eq_zero hz, .inr ⟨p, 0, 1, false, ?_⟩⟩
    rw [hv', hz]
   ·exact .inr ⟨p, by omega, hv', h8, hp, h4, h5, by simpa using h6⟩
  ·cases h1
theorem put_all {H : Heap} {p : Nat} {ys : List Int} (hp : p < H.sz) (ho : (H.get p).st = .own) (hc : (H.get p).cells = l.map fun n => AV.int .i64 n) (hy : ys.length = l.length) :
    H.rd p 0 l.length = some (l.map fun n => .int .i64 n) /\ H.wr p 0 (ys.map fun n => .int .i64 n) = some (H.put p (ys.map fun n => .int .i64 n)) := by
  constructor
  · unfold Heap.rd
    rw [if_pos ⟨by rw [ho]; simp, hp, by rw [hc]; simp⟩, hc, List.drop_zero, List.take_of_length_le (by simp)]
  · unfold Heap.wr
    rw [if_pos ⟨ho, hp, by rw [hc]; simp [hy], by rw [List.all_map]; exact List.all_eq_true.2 fun _ _ => rfl⟩]
    congr 2
    unfold splice
    rw [hc, List.take_zero, List.nil_append, List.drop_of_length_le (by simp [hy]), List.append_nil]
theorem sort_call {fs : Nat} (hX : ∀ f a H v H', sortX fs f a H v H' -> X f a H v H') (hio : io fs = [0]) (hmax : l.length < 4611686018427387904) : CallOk Tb X io fs [osl eI true l] (.tup []) [osl eI true (srtL l)] := by
 intro H F vs ls hd hnd hfz
 have hvl := hd.length
 match vs, hvl, hd with
 | [v], _, hd =>
 rw [dens_one] at hd
 have hd0 := hd
 rcases own_ints hd with ⟨rfl, hv⟩ | ⟨p, hpos, rfl, rfl, hp, ho, hF, hc⟩
 ·refine ⟨.tup [], H, F, ls, .ext (hX _ _ _ _ _ ⟨rfl, rfl, .inl ⟨rfl, v, rfl, hv⟩⟩), hfz, ?_, hnd, Tr.refl _ _ _⟩
  rw [hio, Dens]
  refine ⟨_, [v], [], ls, rfl, rfl, by rw [Den]; exact ⟨[], rfl, by rw [Dens]; exact ⟨rfl, rfl⟩⟩, dens_one.2 ?_⟩
  rw [show srtL [] = [] by simp [srtL]]; exact hd0
 ·obtain ⟨k1, k2⟩ := put_all (ys := srtL l) hp ho hc srtL_len
  have hg : ∀ q, q ≠ p -> (H.put p ((srtL l).map fun n => .int .i64 n)).get q = H.get q := fun q hq => by simp [Heap.put, hq]
  have hgp : (H.put p ((srtL l).map fun n => .int .i64 n)).get p = ⟨(srtL l).map fun n => .int .i64 n, .own⟩ := by simp [Heap.put]
  refine ⟨.tup [], _, F, [p], .ext (hX _ _ _ _ _ ⟨rfl, rfl, .inr ⟨p, 0, l, rfl, hmax, hpos, k1, k2⟩⟩), ?_, ?_, hnd, ⟨Nat.le_refl _, fun k hk hn => hg k (by simpa using hn), fun k hk => .inl hk, fun k hk => hk, fun k hk => .inl hk⟩⟩
  ·intro k hk
   have hkp : k ≠ p := fun e => by subst e; exact hF hk
   rw [hg k hkp]; exact hfz k hk
  ·rw [hio, Dens]
   refine ⟨_, [.sl p 0 l.length 1 false], [], [p], rfl, rfl, by rw [Den]; exact ⟨[], rfl, by rw [Dens]; exact ⟨rfl, rfl⟩⟩, dens_one.2 ?_⟩
   rw [Den]
   exact .inr ⟨p, 0, _, (srtL l).map (fun n => .int .i64 n), rfl, by decide, by simp [srtL_len], hp, .inl ⟨rfl, rfl, by rw [hgp], hF, ⟨[], by rw [hgp]; simp, rfl⟩, [], rfl, ints_dens⟩⟩
theorem comp_call {fc : Nat} (hX : ∀ f a H v H', compX fc f a H v H' -> X f a H v H') (hio : io fc = [0]) (hmax : l.length <= 9223372036854775807) : CallOk Tb X io fc [osl eI true l] (osl eI true (compactL l)) [.und] := by
 intro H F vs ls hd hnd hfz
 have hvl := hd.length
 match vs, hvl, hd with
 | [v], _, hd =>
 rw [dens_one] at hd
 have hd0 := hd
 rcases own_ints hd with ⟨rfl, hv⟩ | ⟨p, hpos, rfl, rfl, hp, ho, hF, hc⟩
 ·refine ⟨v, H, F, ls, .ext (hX _ _ _ _ _ ⟨rfl, .inl ⟨rfl, rfl, hv⟩⟩), hfz, ?_, hnd, Tr.refl _ _ _⟩
  rw [hio, Dens]
  exact ⟨v, [v], ls, [], rfl, by simp, hd0, by rw [dens_one, Den]⟩
 ·have hl := compactL_len l
  have hy : (compactL l ++ List.replicate (l.length - (compactL l).length) 0).length = l.length := by simp; omega
  obtain ⟨k1, k2⟩ := put_all (ys := compactL l ++ List.replicate (l.length - (compactL l).length) 0) hp ho hc hy
  have hgp : (H.put p ((compactL l ++ List.replicate (l.length - (compactL l).length) 0).map fun n => .int .i64 n)).get p = ⟨(compactL l ++ List.replicate (l.length - (compactL l).length) 0).map fun n => .int .i64 n, .own⟩ := by simp [Heap.put]
  have hcl : ((H.put p ((compactL l ++ List.replicate (l.length - (compactL l).length) 0).map fun n => .int .i64 n)).get p).cells.take (compactL l).length = (compactL l).map fun n => .int .i64 n := by
   rw [hgp]; simp
  refine ⟨.sl H.sz 0 (compactL l).length 1 false, _, F, [H.sz], .ext (hX _ _ _ _ _ ⟨rfl, .inr ⟨p, l, _, rfl, hmax, hpos, k1, k2, rfl, rfl⟩⟩), ?_, ?_, by simp, ?_⟩
  ·intro k hk
   have hkp : k ≠ p := fun e => by subst e; exact hF hk
   obtain ⟨h1, h2⟩ := hfz k hk
   have hkn : k ≠ H.sz := by omega
   refine ⟨by simp [Heap.kill, Heap.new, Heap.put]; omega, ?_⟩
   simpa [Heap.kill, Heap.new, Heap.put, hkp, hkn] using h2
  ·rw [hio, Dens]
   refine ⟨_, [.sl p 0 l.length 1 false], [H.sz], [], rfl, by simp, ?_, by rw [dens_one, Den]⟩
   rw [Den, hcl]
   have hFn : ¬ F H.sz := fun h => by have := (hfz _ h).1; omega
   refine .inr ⟨H.sz, 0, _, (compactL l).map (fun n => .int .i64 n), rfl, by decide, by simp, by simp [Heap.kill, Heap.new, Heap.put], .inl ⟨rfl, rfl, by simp [Heap.new, Heap.kill, Heap.put], hFn, ⟨[], by simp [Heap.new, Heap.kill, Heap.put], by simp⟩, [], by simp, ints_dens⟩⟩
  ·refine ⟨by simp [Heap.kill, Heap.new, Heap.put], fun k hk hn => ?_, fun k hk => ?_, fun k hk => hk, fun k hk => .inl hk⟩
   ·have hkp : k ≠ p := by simpa using hn
    have hkn : k ≠ H.sz := by omega
    simp [Heap.kill, Heap.new, Heap.put, hkp, hkn]
   ·right
    simp only [List.mem_singleton] at hk
    omega
def sortN (l : List Int) : Option (List Int) := if l.length < 4611686018427387904 then some (srtL l) else none
theorem ca_sort {x : Cx} {X : Ext} {fs : Nat} {r : List Int} (hX : ∀ f a H v H', sortX fs f a H v H' -> X f a H v H') (hx : ∀ f ts t outs, CallOk x.fns X x.io f ts t outs -> x.X f ts t outs) (hio : x.io fs = [0]) (h : sortN l = some r) : VJx x (.ca fs [osl eI true l] (.tup []) [osl eI true r]) := by
 unfold sortN at h
 split at h
 ·rename_i hc
  simp only [zJ] at h
  subst h
  exact VJ.ext (hx _ _ _ _ (sort_call hX hio hc))
 ·simp at h
theorem ca_comp {x : Cx} {X : Ext} {fc : Nat} {r : List Int} (hX : ∀ f a H v H', compX fc f a H v H' -> X f a H v H') (hx : ∀ f ts t outs, CallOk x.fns X x.io f ts t outs -> x.X f ts t outs) (hio : x.io fc = [0]) (h : compactN l = some r) : VJx x (.ca fc [osl eI true l] (osl eI true r) [.und]) := by
 unfold compactN at h
 split at h
 ·rename_i hc
  simp only [zJ] at h
  subst h
  exact VJ.ext (hx _ _ _ _ (comp_call hX hio (Nat.le_of_lt hc)))
 ·simp at h
end
section
theorem kept_nil {env : Env} {H H' : Heap} : Kept env [] H H' := fun s n h => by cases h
end
section
def delB (w bs : Nat) (zs : List AV) : CCode :=
  .seq (.reg false [(0, ⟨some 6, .mv (.c (.nils)), none, [], [6]⟩)])
   (.seq (.reg false [(0, ⟨some 8, .mv (.t 0), none, [], []⟩), (1, ⟨some 9, .mv (.t 1), none, [], []⟩), (2, ⟨some 10, .mv (.t 2), none, [], []⟩), (3, ⟨some 11, .mv (.t 0), none, [], []⟩), (4, ⟨some 12, .len (.t 11), none, [], [11]⟩),
      (5, ⟨some 13, .slx w (.t 8) (some (.t 9)) (some (.t 10)) (some (.t 12)), none, [], [8, 9, 10, 12, 13]⟩)])
    (.seq (.seq (.reg false [(0, ⟨some 14, .mv (.t 1), none, [], []⟩), (1, ⟨some 15, .mv (.t 2), none, [], []⟩), (2, ⟨some 16, .bin .eql (.t 14) (.t 15), none, [], [14, 15]⟩)])
      (.cond (.t 16) (.seq (.kill [1, 2, 16]) (.seq (.reg false [(0, ⟨some 17, .mv (.t 0), none, [], []⟩), (1, ⟨some 6, .mv (.t 17), none, [], [17]⟩)]) .ret)) (.seq (.kill [16]) .skip)))
     (.seq (.reg false [(0, ⟨some 18, .mv (.t 0), none, [], []⟩), (1, ⟨some 19, .len (.t 18), none, [], [18]⟩), (2, ⟨some 7, .mv (.t 19), none, [], [19]⟩)])
      (.seq (.reg true [(0, ⟨some 20, .mv (.t 0), none, [], []⟩), (1, ⟨some 21, .mv (.t 1), none, [], [1]⟩), (2, ⟨some 22, .sls w (.t 20) none (some (.t 21)) none, none, [], [20, 21]⟩), (3, ⟨some 23, .mv (.t 0), none, [], [0]⟩), (4, ⟨some 24, .mv (.t 2), none, [], [2]⟩),
         (5, ⟨some 25, .sls w (.t 23) (some (.t 24)) none none, none, [], [23, 24]⟩), (6, ⟨some 26, .app w bs (.t 22) (.t 25), none, [], [22, 25]⟩), (7, ⟨some 0, .mv (.t 26), none, [], [26]⟩)])
       (.seq (.reg false [(0, ⟨some 27, .mv (.t 0), none, [], []⟩), (1, ⟨some 28, .mv (.t 0), none, [], []⟩), (2, ⟨some 29, .len (.t 28), none, [], [28]⟩), (3, ⟨some 30, .mv (.t 7), none, [], [7]⟩),
          (4, ⟨some 31, .slx w (.t 27) (some (.t 29)) (some (.t 30)) none, none, [], [27, 29, 30]⟩), (5, ⟨none, .clr w zs (.t 31), none, [], [31]⟩)])
        (.seq (.reg false [(0, ⟨some 32, .mv (.t 0), none, [], []⟩), (1, ⟨some 6, .mv (.t 32), none, [], [32]⟩)]) .ret))))))
theorem call_of {Tb : Nat -> Option CFn} {X : Ext} {f nt na : Nat} {rs : List CRes} {c : CCode} {args : List AV} {H H' : Heap} {env0 env' : Env} {v : AV} (hT : Tb f = some ⟨nt, na, rs, c⟩) (hl : args.length = na) (hn : na <= nt) (he : args ++ List.replicate (nt - na) .und = env0) (hj : J Tb X (.co c env0 H .ret env' H')) (hr : results env' H' rs = some v) : J Tb X (.ca f args H v H') := by
 subst he
 exact .call hT hl hn hj (.inr rfl) hr
theorem put2_ne {H : Heap} {p z : Nat} {a b : List AV} (hz : z ≠ p) : ((H.put p a).put p b).get z = H.get z := by simp [Heap.put, hz]
theorem put2_eq {H : Heap} {p : Nat} {a b : List AV} : ((H.put p a).put p b).get p = ⟨b, .own⟩ := by simp [Heap.put]
theorem slx_cut {env : Env} {H : Heap} {p n w i : Nat} (h8 : env.getD 8 .und = .sl p 0 n w false) (h9 : env.getD 9 .und = .int .i64 (i : Int)) (h10 : env.getD 10 .und = .int .i64 ((i + 1 : Nat) : Int)) (h12 : env.getD 12 .und = .int .i64 (n : Int)) (hi : i < n) (hw : ¬ w = 0) :
  heapOp env H (.slx w (.t 8) (some (.t 9)) (some (.t 10)) (some (.t 12))) = some (if n = i + 1 then .sl p (0 + i * w) (i + 1 - i) w true else .und, H) := by
 simp only [heapOp, Opd.ev, h8, h9, h10, h12, obnd, bnd, ne_eq, not_true_eq_false, false_or, if_neg hw]
 have b1 : (0 : Int) <= (n : Int) /\ (n : Int) <= (n : Int) := by omega
 have b2 : (0 : Int) <= ((i + 1 : Nat) : Int) /\ ((i + 1 : Nat) : Int) <= (n : Int) := by omega
 have b3 : (0 : Int) <= (i : Int) /\ (i : Int) <= ((i + 1 : Nat) : Int) := by omega
 rw [if_pos b1]
 simp only [Int.toNat_natCast, h10]
 rw [if_pos b2]
 simp only [Int.toNat_natCast]
 rw [if_pos b3]
 simp only [Int.toNat_natCast]
 split <;> rfl
theorem sls_fst {env : Env} {H : Heap} {p n w i : Nat} (h1 : env.getD 20 .und = .sl p 0 n w false) (h2 : env.getD 21 .und = .int .i64 (i : Int)) (hi : i < n) (hw : ¬ w = 0) : heapOp env H (.sls w (.t 20) none (some (.t 21)) none) = some (.sl p 0 i w false, H) := by
 simp only [heapOp, pureOp, Opd.ev, obnd, h1, h2, bnd]
 simp [hw, show (i : Int) <= n by omega]
theorem sls_snd {env : Env} {H : Heap} {p n w i : Nat} (h1 : env.getD 23 .und = .sl p 0 n w false) (h2 : env.getD 24 .und = .int .i64 ((i + 1 : Nat) : Int)) (hi : i < n) (hw : ¬ w = 0) : heapOp env H (.sls w (.t 23) (some (.t 24)) none none) = some (.sl p ((i + 1) * w) (n - (i + 1)) w false, H) := by
 simp only [heapOp, pureOp, Opd.ev, obnd, h1, h2, bnd]
 simp [hw, show (i : Int) + 1 <= n by omega, show (0 : Int) <= (i : Int) + 1 by omega]
theorem slx_end {env : Env} {H : Heap} {p n w : Nat} {cs : List AV} (h1 : env.getD 27 .und = .sl p 0 (n - 1) w false) (h2 : env.getD 29 .und = .int .i64 ((n - 1 : Nat) : Int)) (h3 : env.getD 30 .und = .int .i64 (n : Int)) (hn : 0 < n) (hw : ¬ w = 0) (hp : p < H.sz) (hg : H.get p = ⟨cs, .own⟩) (hl : n * w <= cs.length) :
  heapOp env H (.slx w (.t 27) (some (.t 29)) (some (.t 30)) none) = some (.sl p ((n - 1) * w) 1 w false, H) := by
 have b1 : (0 : Int) <= (n : Int) /\ ((n : Int) <= ((n - 1 : Nat) : Int) \/ (True /\ p < H.sz /\ (H.get p).st ≠ .dead /\ 0 + (n : Int).toNat * w <= (H.get p).cells.length)) := by
  refine ⟨by omega, .inr ⟨trivial, hp, by rw [hg]; simp, by rw [hg]; simpa using hl⟩⟩
 have b2 : (0 : Int) <= ((n - 1 : Nat) : Int) /\ ((n - 1 : Nat) : Int) <= (n : Int) := by omega
 have hb : hbnd env H p 0 (n - 1) w false (some (.t 30)) = some n := by
  simp only [hbnd, Opd.ev, h3]
  rw [if_pos b1]; simp
 simp only [heapOp, Opd.ev, h1, ne_eq, not_true_eq_false, false_or, if_neg hw]
 rw [hb]
 simp only [obnd, Opd.ev, h2, bnd]
 rw [if_pos b2]
 simp only [Int.toNat_natCast, Bool.false_eq_true, false_and, if_false]
 rw [Nat.zero_add, show n - (n - 1) = 1 by omega]
theorem clr_one {env : Env} {H : Heap} {p k w : Nat} {cs zs : List AV} (h1 : env.getD 31 .und = .sl p k 1 w false) (hz : zs.length = w) (hz1 : zs.all AV.one = true) (hp : p < H.sz) (hg : H.get p = ⟨cs, .own⟩) (hl : k + w <= cs.length) :
  heapOp env H (.clr w zs (.t 31)) = some (.tup [], H.put p (splice cs k zs)) := by
 simp only [heapOp, Opd.ev, h1]
 rw [if_neg (by simp [hz]), if_neg (by simp)]
 have e : (List.replicate 1 zs).flatten = zs := by simp
 rw [e]
 unfold Heap.wr
 rw [if_pos ⟨by rw [hg], hp, by rw [hg, hz]; exact hl, hz1⟩, hg]
 rfl
theorem app_cut {env : Env} {H : Heap} {p n w i bs : Nat} {cs : List AV} (h1 : env.getD 22 .und = .sl p 0 i w false) (h2 : env.getD 25 .und = .sl p ((i + 1) * w) (n - (i + 1)) w false) (hi : i < n) (hwp : 0 < w) (hb : 0 < bs) (hroom : n * bs <= room) (hp : p < H.sz) (e4 : (H.get p).st = .own) (e6 : (H.get p).cells = cs) (hcl : cs.length = n * w) (hones : cs.all AV.one = true) :
  heapOp env H (.app w bs (.t 22) (.t 25)) = some (.sl p 0 (n - 1) w false, H.put p (cs.take (i * w) ++ cs.drop ((i + 1) * w) ++ cs.drop (i * w + (cs.drop ((i + 1) * w)).length))) := by
 have hkw : (i + 1) * w <= n * w := Nat.mul_le_mul_right _ (by omega)
 have hkk : (i + 1) * w = i * w + w := by rw [Nat.add_mul, Nat.one_mul]
 have hrl : (n - (i + 1)) * w = n * w - (i + 1) * w := Nat.sub_mul ..
 have hel : (n - 1) * w = n * w - w := by rw [Nat.sub_mul, Nat.one_mul]
 have hyl : (cs.drop ((i + 1) * w)).length = (n - (i + 1)) * w := by simp only [List.length_drop]; omega
 have hyo : (cs.drop ((i + 1) * w)).all AV.one = true := by
  rw [List.all_eq_true] at hones ⊢
  exact fun x hx => hones x (List.mem_of_mem_drop hx)
 simp only [heapOp, Opd.ev, h1, h2, cellsOf, if_true]
 by_cases hz : n - (i + 1) = 0
 ·have hy0 : cs.drop ((i + 1) * w) = [] := List.eq_nil_of_length_eq_zero (by rw [hyl, hz, Nat.zero_mul])
  rw [hz, Nat.zero_mul, Heap.rd0, if_pos rfl]
  simp only [Option.map_some, Option.bind_some, if_true]
  rw [hy0, List.append_nil, List.length_nil, Nat.add_zero, List.take_append_drop, put_same e4 e6, show i = n - 1 by omega]
 ·have hz2 : ¬ (n - (i + 1)) * w = 0 := by
   have := Nat.mul_pos (show 0 < n - (i + 1) by omega) hwp; omega
  have hrd : H.rd p ((i + 1) * w) ((n - (i + 1)) * w) = some (cs.drop ((i + 1) * w)) := by
   unfold Heap.rd
   rw [if_pos ⟨by rw [e4]; simp, hp, by rw [e6]; omega⟩, e6]
   rw [List.take_of_length_le (by rw [hyl]; exact Nat.le_refl _)]
  have hrd2 : H.rd0 p 0 (i * w) = some (cs.take (i * w)) := by
   unfold Heap.rd0
   split
   ·rename_i h0; rw [h0]; rfl
   ·unfold Heap.rd
    rw [if_pos ⟨by rw [e4]; simp, hp, by rw [e6]; omega⟩, e6, List.drop_zero]
  have hwr : H.wr p (0 + i * w) (cs.drop ((i + 1) * w)) = some (H.put p (cs.take (i * w) ++ cs.drop ((i + 1) * w) ++ cs.drop (i * w + (cs.drop ((i + 1) * w)).length))) := by
   unfold Heap.wr
   rw [Nat.zero_add, if_pos ⟨e4, hp, by rw [e6, hyl]; omega, hyo⟩, e6]
   rfl
  have hsum : i + (n - (i + 1)) = n - 1 := by omega
  have hroom2 : ¬ (n - 1) * bs > room := by
   have := Nat.mul_le_mul_right bs (show n - 1 <= n by omega); omega
  rw [Heap.rd0, if_neg hz2, hrd]
  simp only [Option.map_some, Option.bind_some, hyo, Bool.not_true, Bool.false_eq_true, or_false, ne_eq, not_true_eq_false, false_or]
  rw [if_neg hz, if_neg (by omega), hsum, if_neg hroom2, hrd2, Option.bind_some, if_neg (show ¬ False by simp), if_pos (by rw [e6]; omega), hwr]
  rfl
abbrev u : AV := .und
abbrev dS (p n w : Nat) : AV := .sl p 0 n w false
abbrev dN (n : Nat) : AV := .int .i64 (n : Int)
theorem del_run {Tb : Nat -> Option CFn} {X : Ext} {f n i w bs p : Nat} {zs cs cs' cs2 : List AV} {H : Heap} (hT : Tb f = some ⟨33, 3, [.t 6], delB w bs zs⟩) (hi : i < n) (hwp : 0 < w) (hb : 0 < bs) (hroom : n * bs <= room) (hz : zs.length = w) (hz1 : zs.all AV.one = true) (e3 : p < H.sz) (e4 : (H.get p).st = .own) (e6 : (H.get p).cells = cs) (hcl : cs.length = n * w) (hones : cs.all AV.one = true)
  (hcs' : cs' = cs.take (i * w) ++ cs.drop ((i + 1) * w) ++ cs.drop (i * w + (cs.drop ((i + 1) * w)).length)) (hcs2 : cs2 = splice cs' ((n - 1) * w) zs) (hcl' : cs'.length = n * w) {x13 : AV} (hx13 : x13 = if n = i + 1 then .sl p (0 + i * w) (i + 1 - i) w true else .und) :
  J Tb X (.ca f [.sl p 0 n w false, .int .i64 (i : Int), .int .i64 ((i + 1 : Nat) : Int)] H (.sl p 0 (n - 1) w false) ((H.put p cs').put p cs2)) := by
 have hw0 : ¬ w = 0 := by omega
 have hn0 : 0 < n := by omega
 have hputp : (H.put p cs').get p = ⟨cs', .own⟩ := by simp [Heap.put]
 have hel : (n - 1) * w = n * w - w := by rw [Nat.sub_mul, Nat.one_mul]
 have h1w : w <= n * w := Nat.le_mul_of_pos_left _ hn0
 have hfit : (n - 1) * w + w <= cs'.length := by omega
 have hfit2 : n * w <= cs'.length := by omega
 have j0 : J Tb X (.co (.reg false [(0, ⟨some 6, .mv (.c (.nils)), none, [], [6]⟩)]) [dS p n w, dN i, dN (i + 1), u, u, u, u, u, u, u, u, u, u, u, u, u, u, u, u, u, u, u, u, u, u, u, u, u, u, u, u, u, u] H .normal [dS p n w, dN i, dN (i + 1), u, u, u, .nils, u, u, u, u, u, u, u, u, u, u, u, u, u, u, u, u, u, u, u, u, u, u, u, u, u, u] H) := by
  refine .reg (.opDo (v := .nils) (H1 := H) rfl rfl rfl kept_nil .opNil)
 have j1 : J Tb X (.co (.reg false [(0, ⟨some 8, .mv (.t 0), none, [], []⟩), (1, ⟨some 9, .mv (.t 1), none, [], []⟩), (2, ⟨some 10, .mv (.t 2), none, [], []⟩), (3, ⟨some 11, .mv (.t 0), none, [], []⟩), (4, ⟨some 12, .len (.t 11), none, [], [11]⟩), (5, ⟨some 13, .slx w (.t 8) (some (.t 9)) (some (.t 10)) (some (.t 12)), none, [], [8, 9, 10, 12, 13]⟩)]) [dS p n w, dN i, dN (i + 1), u, u, u, .nils, u, u, u, u, u, u, u, u, u, u, u, u, u, u, u, u, u, u, u, u, u, u, u, u, u, u] H .normal [dS p n w, dN i, dN (i + 1), u, u, u, .nils, u, dS p n w, dN i, dN (i + 1), dS p n w, dN n, x13, u, u, u, u, u, u, u, u, u, u, u, u, u, u, u, u, u, u, u] H) := by
  refine .reg (.opDo (v := dS p n w) (H1 := H) rfl rfl rfl kept_nil (.opDo (v := dN i) (H1 := H) rfl rfl rfl kept_nil (.opDo (v := dN (i + 1)) (H1 := H) rfl rfl rfl kept_nil (.opDo (v := dS p n w) (H1 := H) rfl rfl rfl kept_nil (.opDo (v := dN n) (H1 := H) rfl rfl rfl kept_nil (.opDo (v := x13) (H1 := H) rfl rfl (by rw [hx13]; exact slx_cut rfl rfl rfl rfl hi hw0) kept_nil .opNil))))))
 have j2 : J Tb X (.co (.reg false [(0, ⟨some 14, .mv (.t 1), none, [], []⟩), (1, ⟨some 15, .mv (.t 2), none, [], []⟩), (2, ⟨some 16, .bin .eql (.t 14) (.t 15), none, [], [14, 15]⟩)]) [dS p n w, dN i, dN (i + 1), u, u, u, .nils, u, dS p n w, dN i, dN (i + 1), dS p n w, dN n, x13, u, u, u, u, u, u, u, u, u, u, u, u, u, u, u, u, u, u, u] H .normal [dS p n w, dN i, dN (i + 1), u, u, u, .nils, u, dS p n w, dN i, dN (i + 1), dS p n w, dN n, x13, dN i, dN (i + 1), .bool false, u, u, u, u, u, u, u, u, u, u, u, u, u, u, u, u] H) := by
  refine .reg (.opDo (v := dN i) (H1 := H) rfl rfl rfl kept_nil (.opDo (v := dN (i + 1)) (H1 := H) rfl rfl rfl kept_nil (.opDo (v := .bool false) (H1 := H) rfl rfl ?_ kept_nil .opNil)))
  show some (AV.bool ((i : Int) == ((i + 1 : Nat) : Int)), H) = _
  rw [show ((i : Int) == ((i + 1 : Nat) : Int)) = false by rw [beq_eq_false_iff_ne]; omega]
 have j4 : J Tb X (.co (.reg false [(0, ⟨some 18, .mv (.t 0), none, [], []⟩), (1, ⟨some 19, .len (.t 18), none, [], [18]⟩), (2, ⟨some 7, .mv (.t 19), none, [], [19]⟩)]) [dS p n w, dN i, dN (i + 1), u, u, u, .nils, u, dS p n w, dN i, dN (i + 1), dS p n w, dN n, x13, dN i, dN (i + 1), u, u, u, u, u, u, u, u, u, u, u, u, u, u, u, u, u] H .normal [dS p n w, dN i, dN (i + 1), u, u, u, .nils, dN n, dS p n w, dN i, dN (i + 1), dS p n w, dN n, x13, dN i, dN (i + 1), u, u, dS p n w, dN n, u, u, u, u, u, u, u, u, u, u, u, u, u] H) := by
  refine .reg (.opDo (v := dS p n w) (H1 := H) rfl rfl rfl kept_nil (.opDo (v := dN n) (H1 := H) rfl rfl rfl kept_nil (.opDo (v := dN n) (H1 := H) rfl rfl rfl kept_nil .opNil)))
 have j5 : J Tb X (.co (.reg true [(0, ⟨some 20, .mv (.t 0), none, [], []⟩), (1, ⟨some 21, .mv (.t 1), none, [], [1]⟩), (2, ⟨some 22, .sls w (.t 20) none (some (.t 21)) none, none, [], [20, 21]⟩), (3, ⟨some 23, .mv (.t 0), none, [], [0]⟩), (4, ⟨some 24, .mv (.t 2), none, [], [2]⟩),    (5, ⟨some 25, .sls w (.t 23) (some (.t 24)) none none, none, [], [23, 24]⟩), (6, ⟨some 26, .app w bs (.t 22) (.t 25), none, [], [22, 25]⟩), (7, ⟨some 0, .mv (.t 26), none, [], [26]⟩)]) [dS p n w, dN i, dN (i + 1), u, u, u, .nils, dN n, dS p n w, dN i, dN (i + 1), dS p n w, dN n, x13, dN i, dN (i + 1), u, u, dS p n w, dN n, u, u, u, u, u, u, u, u, u, u, u, u, u] H .normal [dS p (n - 1) w, dN i, dN (i + 1), u, u, u, .nils, dN n, dS p n w, dN i, dN (i + 1), dS p n w, dN n, x13, dN i, dN (i + 1), u, u, dS p n w, dN n, dS p n w, dN i, dS p i w, dS p n w, dN (i + 1), .sl p ((i + 1) * w) (n - (i + 1)) w false, dS p (n - 1) w, u, u, u, u, u, u] (H.put p cs')) := by
  refine .reg (.opDo (v := dS p n w) (H1 := H) rfl rfl rfl kept_nil (.opDo (v := dN i) (H1 := H) rfl rfl rfl kept_nil (.opDo (v := dS p i w) (H1 := H) rfl rfl (sls_fst rfl rfl hi hw0) kept_nil (.opDo (v := dS p n w) (H1 := H) rfl rfl rfl kept_nil (.opDo (v := dN (i + 1)) (H1 := H) rfl rfl rfl kept_nil (.opDo (v := .sl p ((i + 1) * w) (n - (i + 1)) w false) (H1 := H) rfl rfl (sls_snd rfl rfl hi hw0) kept_nil (.opDo (v := dS p (n - 1) w) (H1 := (H.put p cs')) rfl rfl (by rw [hcs']; exact app_cut rfl rfl hi hwp hb hroom e3 e4 e6 hcl hones) kept_nil (.opDo (v := dS p (n - 1) w) (H1 := (H.put p cs')) rfl rfl rfl kept_nil .opNil))))))))
 have j6 : J Tb X (.co (.reg false [(0, ⟨some 27, .mv (.t 0), none, [], []⟩), (1, ⟨some 28, .mv (.t 0), none, [], []⟩), (2, ⟨some 29, .len (.t 28), none, [], [28]⟩), (3, ⟨some 30, .mv (.t 7), none, [], [7]⟩),     (4, ⟨some 31, .slx w (.t 27) (some (.t 29)) (some (.t 30)) none, none, [], [27, 29, 30]⟩), (5, ⟨none, .clr w zs (.t 31), none, [], [31]⟩)]) [dS p (n - 1) w, dN i, dN (i + 1), u, u, u, .nils, dN n, dS p n w, dN i, dN (i + 1), dS p n w, dN n, x13, dN i, dN (i + 1), u, u, dS p n w, dN n, dS p n w, dN i, dS p i w, dS p n w, dN (i + 1), .sl p ((i + 1) * w) (n - (i + 1)) w false, dS p (n - 1) w, u, u, u, u, u, u] (H.put p cs') .normal [dS p (n - 1) w, dN i, dN (i + 1), u, u, u, .nils, dN n, dS p n w, dN i, dN (i + 1), dS p n w, dN n, x13, dN i, dN (i + 1), u, u, dS p n w, dN n, dS p n w, dN i, dS p i w, dS p n w, dN (i + 1), .sl p ((i + 1) * w) (n - (i + 1)) w false, dS p (n - 1) w, dS p (n - 1) w, dS p (n - 1) w, dN (n - 1), dN n, .sl p ((n - 1) * w) 1 w false, u] ((H.put p cs').put p cs2)) := by
  refine .reg (.opDo (v := dS p (n - 1) w) (H1 := (H.put p cs')) rfl rfl rfl kept_nil (.opDo (v := dS p (n - 1) w) (H1 := (H.put p cs')) rfl rfl rfl kept_nil (.opDo (v := dN (n - 1)) (H1 := (H.put p cs')) rfl rfl rfl kept_nil (.opDo (v := dN n) (H1 := (H.put p cs')) rfl rfl rfl kept_nil (.opDo (v := .sl p ((n - 1) * w) 1 w false) (H1 := (H.put p cs')) rfl rfl (slx_end rfl rfl rfl hn0 hw0 e3 hputp hfit2) kept_nil (.opDo (v := .tup []) (H1 := ((H.put p cs').put p cs2)) rfl rfl (by rw [hcs2]; exact clr_one rfl hz hz1 e3 hputp hfit) kept_nil .opNil))))))
 have j7 : J Tb X (.co (.reg false [(0, ⟨some 32, .mv (.t 0), none, [], []⟩), (1, ⟨some 6, .mv (.t 32), none, [], [32]⟩)]) [dS p (n - 1) w, dN i, dN (i + 1), u, u, u, .nils, dN n, dS p n w, dN i, dN (i + 1), dS p n w, dN n, x13, dN i, dN (i + 1), u, u, dS p n w, dN n, dS p n w, dN i, dS p i w, dS p n w, dN (i + 1), .sl p ((i + 1) * w) (n - (i + 1)) w false, dS p (n - 1) w, dS p (n - 1) w, dS p (n - 1) w, dN (n - 1), dN n, .sl p ((n - 1) * w) 1 w false, u] ((H.put p cs').put p cs2) .normal [dS p (n - 1) w, dN i, dN (i + 1), u, u, u, dS p (n - 1) w, dN n, dS p n w, dN i, dN (i + 1), dS p n w, dN n, x13, dN i, dN (i + 1), u, u, dS p n w, dN n, dS p n w, dN i, dS p i w, dS p n w, dN (i + 1), .sl p ((i + 1) * w) (n - (i + 1)) w false, dS p (n - 1) w, dS p (n - 1) w, dS p (n - 1) w, dN (n - 1), dN n, .sl p ((n - 1) * w) 1 w false, dS p (n - 1) w] ((H.put p cs').put p cs2)) := by
  refine .reg (.opDo (v := dS p (n - 1) w) (H1 := ((H.put p cs').put p cs2)) rfl rfl rfl kept_nil (.opDo (v := dS p (n - 1) w) (H1 := ((H.put p cs').put p cs2)) rfl rfl rfl kept_nil .opNil))
 have jb : J Tb X (.co (delB w bs zs) [dS p n w, dN i, dN (i + 1), u, u, u, u, u, u, u, u, u, u, u, u, u, u, u, u, u, u, u, u, u, u, u, u, u, u, u, u, u, u] H .ret [dS p (n - 1) w, dN i, dN (i + 1), u, u, u, dS p (n - 1) w, dN n, dS p n w, dN i, dN (i + 1), dS p n w, dN n, x13, dN i, dN (i + 1), u, u, dS p n w, dN n, dS p n w, dN i, dS p i w, dS p n w, dN (i + 1), .sl p ((i + 1) * w) (n - (i + 1)) w false, dS p (n - 1) w, dS p (n - 1) w, dS p (n - 1) w, dN (n - 1), dN n, .sl p ((n - 1) * w) 1 w false, dS p (n - 1) w] ((H.put p cs').put p cs2)) := .seqN j0 (.seqN j1 (.seqN (.seqN j2 (.condF rfl (.seqN .kill .skip))) (.seqN j4 (.seqN j5 (.seqN j6 (.seqN j7 .ret))))))
 have henv : [dS p n w, dN i, dN (i + 1)] ++ List.replicate (33 - 3) AV.und = [dS p n w, dN i, dN (i + 1), u, u, u, u, u, u, u, u, u, u, u, u, u, u, u, u, u, u, u, u, u, u, u, u, u, u, u, u, u, u] := by simp only [Nat.reduceSub, List.replicate_succ, List.replicate_zero, List.cons_append, List.nil_append]
 have hres : results [dS p (n - 1) w, dN i, dN (i + 1), u, u, u, dS p (n - 1) w, dN n, dS p n w, dN i, dN (i + 1), dS p n w, dN n, x13, dN i, dN (i + 1), u, u, dS p n w, dN n, dS p n w, dN i, dS p i w, dS p n w, dN (i + 1), .sl p ((i + 1) * w) (n - (i + 1)) w false, dS p (n - 1) w, dS p (n - 1) w, dS p (n - 1) w, dN (n - 1), dN n, .sl p ((n - 1) * w) 1 w false, dS p (n - 1) w] ((H.put p cs').put p cs2) [.t 6] = some (dS p (n - 1) w) := by
  simp only [results, List.mapM_cons, List.mapM_nil, resOf, List.getD_cons_succ, List.getD_cons_zero]; rfl
 exact call_of hT (by rfl) (by decide) henv jb hres
theorem del_of {Tb : Nat -> Option CFn} {X : Ext} {io : Nat -> List Nat} {α : Type} {E : En α} {b : Bool} {l : List α} {f i bs : Nat} {zs : List AV}
  (hT : Tb f = some ⟨33, 3, [.t 6], delB E.w bs zs⟩) (hio : io f = [0]) (hi : i < l.length) (hb : 0 < bs) (hroom : l.length * bs <= room) (hz : zs.length = E.w) (hz1 : zs.all AV.one = true) :
  CallOk Tb X io f [.sl true true E.w 0 (arr E b l), .int .i64 i, .int .i64 ((i + 1 : Nat) : Int)] (.sl false false E.w 1 (arr E false (l.eraseIdx i))) [.und] := by
 intro H F vs ls hd hnd hfz
 rw [Dens] at hd
 obtain ⟨v0, cs0, m0, n0, rfl, rfl, hd, h2⟩ := hd
 rw [Dens] at h2
 obtain ⟨a1, cs1, m1, n1, rfl, rfl, h21, h2⟩ := h2
 rw [Dens] at h2
 obtain ⟨a2, cs2, m2, n2, rfl, rfl, h22, h2⟩ := h2
 rw [Den] at h21 h22
 rw [Dens] at h2
 obtain ⟨rfl, rfl⟩ := h21
 obtain ⟨rfl, rfl⟩ := h22
 obtain ⟨rfl, rfl⟩ := h2
 simp only [List.append_nil] at *
 have hwp := E.hp
 rw [Den] at hd
 have hal : (arr E b l).length = l.length * E.w := arr_len
 rcases hd with ⟨_, e0, _⟩ | ⟨p, o, n, cs, e1, _, e2, e3, ⟨_, rfl, e4, e5, ⟨rest, e6, e7⟩, l1, e8, e9⟩ | ⟨e0, _⟩⟩
 ·have := congrArg List.length e0
  rw [hal, List.length_nil] at this
  have := Nat.mul_pos (show 0 < l.length by omega) hwp
  omega
 ·simp only [Bool.not_true, Bool.false_and] at e1
  have e7' : rest = [] := List.eq_nil_of_length_eq_zero (by omega)
  subst e7'
  rw [List.append_nil] at e6
  have hcl : cs.length = l.length * E.w := by rw [e9.length, hal]
  have hn : n = l.length := Nat.eq_of_mul_eq_mul_right hwp (by omega)
  subst hn
  subst e1
  have hmul : ∀ x y : Nat, x <= y -> x * E.w <= y * E.w := fun x y hxy => Nat.mul_le_mul_right _ hxy
  have hkw := hmul (i + 1) l.length (by omega)
  have hkk : (i + 1) * E.w = i * E.w + E.w := by rw [Nat.add_mul, Nat.one_mul]
  have hrl : (l.length - (i + 1)) * E.w = l.length * E.w - (i + 1) * E.w := Nat.sub_mul ..
  have hel : (l.length - 1) * E.w = l.length * E.w - E.w := by rw [Nat.sub_mul, Nat.one_mul]
  have hw0 : ¬ (E.w = 0) := by omega
  have hones : cs.all AV.one = true := by
   have hda : Den H F (.agg cs) (.agg (arr E b l)) l1 := by rw [Den]; exact ⟨cs, rfl, e9⟩
   exact (Den.cells hda arr_ones).2
  have hpm : p ∈ m0 := by rw [e8]; simp
  have hnp : p ∉ l1 := by
   have h3 : (p :: l1).Nodup := by rw [<- e8]; exact hnd
   exact (List.nodup_cons.1 h3).1
  have ho := e9.owned
  let ys := cs.drop ((i + 1) * E.w)
  have hyl : ys.length = (l.length - (i + 1)) * E.w := by simp only [ys, List.length_drop]; omega
  let cs' := cs.take (i * E.w) ++ ys ++ cs.drop (i * E.w + ys.length)
  have hcl' : cs'.length = l.length * E.w := by
   show (cs.take (i * E.w) ++ ys ++ cs.drop (i * E.w + ys.length)).length = _
   simp only [List.length_append, List.length_take, List.length_drop]; omega
  have hputp : (H.put p cs').get p = ⟨cs', .own⟩ := by simp [Heap.put]
  let cs2 := splice cs' ((l.length - 1) * E.w) zs
  let x13 : AV := if l.length = i + 1 then .sl p (0 + i * E.w) (i + 1 - i) E.w true else .und
  have hput1 : ∀ z, z ≠ p -> ((H.put p cs').put p cs2).get z = H.get z := fun z hz => put2_ne hz
  have hput2 : ((H.put p cs').put p cs2).get p = ⟨cs2, .own⟩ := put2_eq
  have hden : Den ((H.put p cs').put p cs2) (fun z => F z \/ z ∈ m0) (.sl p 0 (l.length - 1) E.w false) (.sl false false E.w 1 (arr E false (l.eraseIdx i))) [] := by
   have g1 : Dens ((H.put p cs').put p cs2) F cs (arr E b l) l1 := Dens.agree (H := H) (H' := (H.put p cs').put p cs2) (F := F) (F' := F) ⟨Nat.le_refl _, fun z hz => ⟨hput1 z (fun e => by subst e; exact e5 hz), hz⟩, fun z hz => ⟨hput1 z (fun e => by subst e; exact hnp hz), (ho z hz).2.2⟩⟩ e9
   have g2 : Dens ((H.put p cs').put p cs2) (fun z => F z \/ z ∈ m0) cs (arr E false l) [] := by
    have := Dens.frz (G := fun z => F z \/ z ∈ m0) (fun z hz => .inl hz) (fun z hz => .inr (by rw [e8]; simp [hz])) g1
    rwa [arr_frz] at this
   have hsp : l = l.take i ++ ([l[i]] ++ l.drop (i + 1)) := by
    rw [List.singleton_append, <- List.drop_eq_getElem_cons hi, List.take_append_drop]
   rw [hsp, <- arr_app, <- arr_app] at g2
   obtain ⟨c1, c23, j1', j23, hc1, hj, g3, g4⟩ := g2.split
   obtain ⟨c2', c3', j2', j3', hc2, hj2, g5, g6⟩ := g4.split
   have hj1 : j1' = [] := by cases j1' with | nil => rfl | cons => cases hj
   subst hj1
   have hj23 : j23 = [] := by simpa using hj.symm
   subst hj23
   have hj3 : j2' = [] /\ j3' = [] := List.append_eq_nil_iff.1 hj2.symm
   obtain ⟨rfl, rfl⟩ := hj3
   have y1 : c1.length = i * E.w := by rw [g3.length, arr_len, List.length_take, Nat.min_eq_left (by omega)]
   have y2 : c2'.length = E.w := by rw [g5.length, arr_len]; simp
   have hys : ys = c3' := by
    simp only [ys]
    rw [hc1, hc2, <- List.append_assoc, hkk]
    exact List.drop_left' (by rw [List.length_append, y1, y2])
   have htk : cs.take (i * E.w) = c1 := by rw [hc1]; exact List.take_left' y1
   have y3 : (arr E false (l.eraseIdx i)) = arr E false (l.take i) ++ arr E false (l.drop (i + 1)) := by
    rw [arr_app, List.eraseIdx_eq_take_drop_succ]
   have y4 : (c1 ++ c3').length = (l.length - 1) * E.w := by
    rw [List.length_append, y1, <- hys, hyl, hel]; omega
   have y5 : cs2 = (c1 ++ c3') ++ (zs ++ cs'.drop ((l.length - 1) * E.w + zs.length)) := by
    show splice cs' ((l.length - 1) * E.w) zs = _
    unfold splice
    rw [List.append_assoc]
    congr 1
    show (cs.take (i * E.w) ++ ys ++ cs.drop (i * E.w + ys.length)).take ((l.length - 1) * E.w) = _
    rw [htk, hys]
    exact List.take_left' y4
   rw [Den]
   refine .inr ⟨p, 0, l.length - 1, c1 ++ c3', rfl, hwp, y4, e3, .inr ⟨rfl, by rw [hput2]; simp, .inr hpm, ⟨[], zs ++ cs'.drop ((l.length - 1) * E.w + zs.length), by rw [hput2]; simp only [List.nil_append]; exact y5, rfl⟩, rfl, ?_⟩⟩
   rw [y3]
   simpa using g3.append g6
  have jcall := del_run (X := X) (cs' := cs') (cs2 := cs2) (x13 := x13) hT hi hwp hb hroom hz hz1 e3 e4 e6 hcl hones rfl rfl hcl' rfl
  refine ⟨.sl p 0 (l.length - 1) E.w false, (H.put p cs').put p cs2, fun z => F z \/ z ∈ m0, [], jcall, fun z hz => ?_, ?_, List.nodup_nil, ?_⟩
  ·by_cases e : z = p
   ·rw [e]; exact ⟨e3, by rw [hput2]; simp⟩
   ·rw [hput1 z e]
    rcases hz with hz | hz
    ·exact hfz z hz
    ·rw [e8] at hz
     rcases List.mem_cons.1 hz with h | h
     ·exact absurd h e
     ·exact ⟨(ho z h).1, by rw [(ho z h).2.1]; simp⟩
  ·rw [hio]
   show Dens _ _ [.sl p 0 (l.length - 1) E.w false, .sl p 0 l.length E.w false] [.sl false false E.w 1 (arr E false (l.eraseIdx i)), .und] []
   have x2 : Dens ((H.put p cs').put p cs2) (fun z => F z \/ z ∈ m0) [.sl p 0 l.length E.w false] [.und] [] := dens_one.2 (by rw [Den])
   simpa using (dens_one.2 hden).append x2
  ·refine ⟨Nat.le_refl _, fun z hz hn => hput1 z (fun e => hn (e ▸ hpm)), fun z hz => (by cases hz), fun z hz => .inl hz, fun z hz => ?_⟩
   rcases hz with hz | hz
   ·exact .inl hz
   ·exact .inr (.inl hz)
 ·cases e0
def delN {α : Type} (bs : Nat) (l : List α) (i j : Int) : Option (List α) := if 0 <= i /\ i < (l.length : Int) /\ j = i + 1 /\ l.length * bs <= 140737488355328 then some (l.eraseIdx i.toNat) else none
theorem ca_del {x : Cx} {X : Ext} {α : Type} {E : En α} {b : Bool} {l r : List α} {f bs : Nat} {zs : List AV} {i j : Int} (hx1 : ∀ f ts t outs, CallOk x.fns X x.io f ts t outs -> x.X f ts t outs) (hf : x.fns f = some ⟨33, 3, [.t 6], delB E.w bs zs⟩) (hio : x.io f = [0]) (hbs : 0 < bs) (hz : zs.length = E.w) (hz1 : zs.all AV.one = true) (h : delN bs l i j = some r) :
  VJx x (.ca f [.sl true true E.w 0 (arr E b l), .int .i64 i, .int .i64 j] (.sl false false E.w 1 (arr E false r)) [.und]) := by
 unfold delN at h
 split at h
 ·rename_i hc
  obtain ⟨h0, h1, h2, h3⟩ := hc
  simp only [zJ] at h
  subst h
  obtain ⟨m, rfl⟩ : ∃ m : Nat, i = m := ⟨i.toNat, by omega⟩
  have : j = ((m + 1 : Nat) : Int) := by omega
  subst this
  rw [Int.toNat_natCast]
  exact VJ.ext (hx1 _ _ _ _ (del_of hf hio (by omega) hbs h3 hz hz1))
 ·cases h
end
section
variable {α β σ ρ : Type}
theorem ix_nat {l : List α} {i : Nat} (h : i < l.length) : ix l (i : Int) = some l[i] := by
 unfold ix
 rw [if_pos (by omega), Int.toNat_natCast, zE h]
theorem ix_cast {l : List α} {i : Nat} : ix l (i : Int) = l[i]? := by
 unfold ix
 rw [if_pos (by omega), Int.toNat_natCast]
theorem ix_of {l : List α} {j : Int} (h0 : 0 <= j) : ix l j = l[j.toNat]? := by
 unfold ix; rw [if_pos h0]
theorem app_fits {bs : Nat} {l l' : List α} (h : (l.length + l'.length) * bs <= 140737488355328) : app bs l l' = some (l ++ l') := by
 unfold app; rw [if_pos (.inr h)]
theorem mkl_ok {bs n : Int} {a : α} (h0 : 0 <= n) (h : bs * n <= 281474976710656) (hn : n <= 9223372036854775807) : mkl bs n a = some (List.replicate n.toNat a) := by
 unfold mkl; rw [if_pos ⟨h0, h, hn⟩]
theorem w64_of {n : Int} (h : -9223372036854775808 <= n /\ n <= 9223372036854775807) : w64 n = n := by
 unfold w64; rw [IntKind.wrap_i64]; omega
theorem w64_succ {i : Nat} (h : i < 9223372036854775807) : w64 ((i : Int) + 1) = ((i + 1 : Nat) : Int) := by
 rw [w64_of (by omega)]; omega
theorem cutL_ok {l : List α} {lo hi : Int} (h0 : 0 <= lo) (h1 : lo <= hi) (h2 : hi <= l.length) : cutL l lo hi = some ((l.take hi.toNat).drop lo.toNat) := by
 unfold cutL; rw [if_pos ⟨h0, h1, h2⟩]
theorem iter_steps {f : σ -> Option (σ ⊕ ρ)} (st : Nat -> σ) (n : Nat) (r : ρ) (hs : ∀ i, i < n -> f (st i) = some (.inl (st (i + 1)))) (he : f (st n) = some (.inr r)) : iter f (st 0) = some r := by
 have : ∀ k i, k = n - i -> i <= n -> iter f (st i) = some r := by
  intro k
  induction k with
  | zero =>
   intro i hk hi
   have : i = n := by omega
   subst this
   rw [iter_eq, he]
  | succ k ih =>
   intro i hk hi
   rw [iter_eq, hs i (by omega)]
   exact ih (i + 1) (by omega) (by omega)
 exact this n 0 (by omega) (by omega)
end
section
variable {α β σ ρ : Type}
theorem iter_up {f : σ -> Option (σ ⊕ ρ)} (n : Nat) (I : Nat -> σ -> Prop) (Q : ρ -> Prop)
  (hs : ∀ i s, i < n -> I i s -> ∃ o, f s = some o /\ (match o with | .inl s' => I (i + 1) s' | .inr r => Q r)) (he : ∀ s, I n s -> ∃ r, f s = some (.inr r) /\ Q r) :
  ∀ (s : σ), I 0 s -> ∃ r, iter f s = some r /\ Q r := by
 have : ∀ k i s, k = n - i -> i <= n -> I i s -> ∃ r, iter f s = some r /\ Q r := by
  intro k
  induction k with
  | zero =>
   intro i s hk hi h
   have : i = n := by omega
   subst this
   obtain ⟨r, h1, h2⟩ := he s h
   exact ⟨r, by rw [iter_eq, h1], h2⟩
  | succ k ih =>
   intro i s hk hi h
   obtain ⟨o, h1, h2⟩ := hs i s (by omega) h
   rw [iter_eq, h1]
   cases o with
   | inl s' => exact ih (i + 1) s' (by omega) (by omega) h2
   | inr r => exact ⟨r, rfl, h2⟩
 exact fun s h => this n 0 s (by omega) (by omega) h
theorem take_succ' {l : List α} {i : Nat} (h : i < l.length) : l.take (i + 1) = l.take i ++ [l[i]] := by
 rw [List.take_add_one, zE h]; rfl
theorem set_copy {a L : List α} {i : Nat} (h : i < a.length) (hl : L.length = a.length) : (a.take i ++ L.drop i).set i a[i] = a.take (i + 1) ++ L.drop (i + 1) := by
 apply List.ext_getElem?
 intro j
 rw [List.getElem?_set]
 have e1 : (a.take i).length = i := by simp; omega
 have e2 : (a.take (i + 1)).length = i + 1 := by simp; omega
 by_cases hj : i = j
 ·subst hj
  rw [if_pos rfl, if_pos (by simp; omega), List.getElem?_append_left (by omega), List.getElem?_take, if_pos (by omega), zE h]
 ·rw [if_neg hj]
  by_cases hlt : j < i
  ·rw [List.getElem?_append_left (by omega), List.getElem?_append_left (by omega), List.getElem?_take, List.getElem?_take, if_pos hlt, if_pos (by omega)]
  ·rw [List.getElem?_append_right (by omega), List.getElem?_append_right (by omega), e1, e2, List.getElem?_drop, List.getElem?_drop]
   congr 1; omega
theorem iter_copy {f : List α × Int -> Option ((List α × Int) ⊕ List α)} {a L : List α} (hl : L.length = a.length)
  (hs : ∀ (i : Nat) (h : i < a.length) out, i < out.length -> f (out, (i : Int)) = some (.inl (out.set i a[i], ((i + 1 : Nat) : Int)))) (he : ∀ out, f (out, (a.length : Int)) = some (.inr out)) :
  iter f (L, 0) = some a := by
 have := iter_steps (f := f) (fun i => (a.take i ++ L.drop i, (i : Int))) a.length a (fun i hi => by rw [hs i hi _ (by simp; omega), set_copy hi hl]) (by
  rw [he, List.take_of_length_le (Nat.le_refl _), List.drop_of_length_le (by omega), List.append_nil])
 simpa using this
theorem iter_ex {f : Int -> Option (Int ⊕ (Unit ⊕ ρ))} (L : List α) (p : α -> Bool) (c : ρ)
  (hs : ∀ (i : Nat) (h : i < L.length), f (i : Int) = some (if p L[i] = true then .inr (.inr c) else .inl ((i + 1 : Nat) : Int))) (he : f (L.length : Int) = some (.inr (.inl ()))) :
  iter f 0 = some (if L.any p = true then .inr c else .inl ()) := by
 obtain ⟨r, h1, h2⟩ := iter_up (f := f) L.length (fun i s => s = (i : Int) /\ (L.take i).any p = false) (fun r => r = if L.any p = true then .inr c else .inl ()) (fun i s hi ⟨h, hp⟩ => by
   subst h
   refine ⟨_, hs i hi, ?_⟩
   by_cases hc : p L[i] = true
   ·rw [if_pos hc]
    dsimp only
    rw [if_pos (List.any_eq_true.2 ⟨L[i], List.getElem_mem hi, hc⟩)]
   ·rw [if_neg hc]
    refine ⟨rfl, ?_⟩
    rw [take_succ' hi, List.any_append, hp]
    simpa using hc) (fun s ⟨h, hp⟩ => by
   subst h
   refine ⟨_, he, ?_⟩
   rw [List.take_of_length_le (Nat.le_refl _)] at hp
   rw [hp]; rfl) 0 ⟨rfl, by simp⟩
 rw [h1, h2]
theorem iter_idx {f : Int -> Option (Int ⊕ (Unit ⊕ Int))} (L : List α) (p : α -> Bool)
  (hs : ∀ (i : Nat) (h : i < L.length), f (i : Int) = some (if p L[i] = true then .inr (.inr (i : Int)) else .inl ((i + 1 : Nat) : Int))) (he : f (L.length : Int) = some (.inr (.inl ()))) :
  ∃ o, iter f 0 = some o /\ (match o with | .inl _ => L.any p = false | .inr x => 0 <= x /\ L.any p = true) := by
 refine iter_up (f := f) L.length (fun i s => s = (i : Int) /\ (L.take i).any p = false) (fun o => match o with | .inl _ => L.any p = false | .inr x => 0 <= x /\ L.any p = true) (fun i s hi ⟨h, hp⟩ => ?_) (fun s ⟨h, hp⟩ => ?_) 0 ⟨rfl, by simp⟩
 ·subst h
  refine ⟨_, hs i hi, ?_⟩
  by_cases hc : p L[i] = true
  ·rw [if_pos hc]
   exact ⟨by omega, List.any_eq_true.2 ⟨L[i], List.getElem_mem hi, hc⟩⟩
  ·rw [if_neg hc]
   refine ⟨rfl, ?_⟩
   rw [take_succ' hi, List.any_append, hp]
   simpa using hc
 ·subst h
  refine ⟨_, he, ?_⟩
  rw [List.take_of_length_le (Nat.le_refl _)] at hp
  exact hp
def lft (n : Int) (s : Nat) : Int := if (s : Int) <= n then n - s else -1
theorem lft_neg {n : Int} {s : Nat} : lft n s < 0 ↔ n < s := by unfold lft; split <;> omega
theorem lft_pos {n : Int} {s : Nat} (h : ¬ lft n s < 0) : lft n s = n - s /\ (s : Int) <= n := by
 unfold lft at h ⊢
 by_cases hc : (s : Int) <= n
 ·rw [if_pos hc]; exact ⟨rfl, hc⟩
 ·rw [if_neg hc] at h; omega
theorem lft_bad {n : Int} {s : Nat} (h : lft n s < 0) : lft n s = -1 := by
 unfold lft at h ⊢
 by_cases hc : (s : Int) <= n
 ·rw [if_pos hc] at h; omega
 ·rw [if_neg hc]
theorem iter_sz {f : Int × Int -> Option ((Int × Int) ⊕ (Int ⊕ Int))} (s : α -> Nat) (L : List α) (b0 : Int) (h0 : 0 <= b0)
  (hs : ∀ (i : Nat) (h : i < L.length) (b : Int), 0 <= b -> b <= b0 -> f (b, (i : Int)) = some (if lft b (s L[i]) < 0 then .inr (.inr (-1)) else .inl (lft b (s L[i]), ((i + 1 : Nat) : Int))))
  (he : ∀ b, f (b, (L.length : Int)) = some (.inr (.inl b))) : iter f (b0, 0) = some (if lft b0 (L.map s).sum < 0 then .inr (-1) else .inl (lft b0 (L.map s).sum)) := by
 obtain ⟨r, h1, h2⟩ := iter_up (f := f) L.length (fun i x => x = (b0 - ((L.take i).map s).sum, (i : Int)) /\ (((L.take i).map s).sum : Int) <= b0) (fun r => r = (if lft b0 (L.map s).sum < 0 then .inr (-1) else .inl (lft b0 (L.map s).sum))) (fun i x hi ⟨h, hp⟩ => by
   subst h
   refine ⟨_, hs i hi _ (by omega) (by omega), ?_⟩
   have e1 : ((L.take (i + 1)).map s).sum = ((L.take i).map s).sum + s L[i] := by
    rw [take_succ' hi, List.map_append, List.sum_append]; simp
   have e2 : ((L.take (i + 1)).map s).sum <= (L.map s).sum := by
    conv => rhs; rw [<- List.take_append_drop (i + 1) L, List.map_append, List.sum_append]
    omega
   by_cases hc : lft (b0 - ((L.take i).map s).sum) (s L[i]) < 0
   ·rw [if_pos hc]
    dsimp only
    rw [if_pos]
    rw [lft_neg] at hc ⊢
    omega
   ·rw [if_neg hc]
    obtain ⟨g1, g2⟩ := lft_pos hc
    refine ⟨?_, by omega⟩
    rw [g1, e1]
    congr 1; omega) (fun x ⟨h, hp⟩ => by
   subst h
   refine ⟨_, he _, ?_⟩
   rw [List.take_of_length_le (Nat.le_refl _)] at hp ⊢
   have e3 : lft b0 (L.map s).sum = b0 - (L.map s).sum := by unfold lft; rw [if_pos hp]
   rw [e3, if_neg (by omega)]) (b0, 0) ⟨by simp, by simpa using h0⟩
 rw [h1, h2]
theorem mem_le_sum {s : α -> Nat} {l : List α} {a : α} (h : a ∈ l) : s a <= (l.map s).sum := by
 induction l with
 | nil => simp at h
 | cons b l ih =>
  rw [List.map_cons, List.sum_cons]
  rcases List.mem_cons.1 h with rfl | h
  ·omega
  ·have := ih h; omega
end
section
variable {α β γ σ ρ : Type}
theorem iter_foldl {f : β × Int -> Option ((β × Int) ⊕ ρ)} (L : List α) (g : β -> α -> β) (fin : β -> ρ) {b0 : β}
  (hs : ∀ (i : Nat) (h : i < L.length) b, f (b, (i : Int)) = some (.inl (g b L[i], ((i + 1 : Nat) : Int)))) (he : ∀ b, f (b, (L.length : Int)) = some (.inr (fin b))) :
  iter f (b0, 0) = some (fin (L.foldl g b0)) := by
 obtain ⟨r, h1, h2⟩ := iter_up (f := f) L.length (fun i s => s = ((L.take i).foldl g b0, (i : Int))) (fun r => r = fin (L.foldl g b0)) (fun i s hi h => by
   subst h
   refine ⟨_, hs i hi _, ?_⟩
   dsimp only
   rw [take_succ' hi, List.foldl_append]; rfl) (fun s h => by
   subst h
   refine ⟨_, he _, ?_⟩
   rw [List.take_of_length_le (Nat.le_refl _)]) (b0, 0) (by simp)
 rw [h1, h2]
theorem iter_flat {f : List γ × Int -> Option ((List γ × Int) ⊕ ρ)} (L : List α) (g : α -> List γ) (fin : List γ -> ρ)
  (hs : ∀ (i : Nat) (h : i < L.length), f ((L.take i).flatMap g, (i : Int)) = some (.inl ((L.take i).flatMap g ++ g L[i], ((i + 1 : Nat) : Int)))) (he : f (L.flatMap g, (L.length : Int)) = some (.inr (fin (L.flatMap g)))) :
  iter f ([], 0) = some (fin (L.flatMap g)) := by
 obtain ⟨r, h1, h2⟩ := iter_up (f := f) L.length (fun i s => s = ((L.take i).flatMap g, (i : Int))) (fun r => r = fin (L.flatMap g)) (fun i s hi h => by
   subst h
   refine ⟨_, hs i hi, ?_⟩
   dsimp only
   rw [take_succ' hi, List.flatMap_append]; simp) (fun s h => by
   subst h
   rw [List.take_of_length_le (Nat.le_refl _)]
   exact ⟨_, he, rfl⟩) ([], 0) (by simp)
 rw [h1, h2]
theorem foldl_any {l : List α} {p : α -> Bool} {b : Bool} : l.foldl (fun b a => b || p a) b = (b || l.any p) := by
 induction l generalizing b with
 | nil => simp
 | cons a l ih => rw [List.foldl_cons, ih, List.any_cons, Bool.or_assoc]
theorem any_mem_congr {l : List α} {p q : α -> Bool} (h : ∀ a ∈ l, p a = q a) : l.any p = l.any q := by
 induction l with
 | nil => rfl
 | cons a l ih => rw [List.any_cons, List.any_cons, h a (by simp), ih fun b hb => h b (by simp [hb])]
theorem all_mem_congr {l : List α} {p q : α -> Bool} (h : ∀ a ∈ l, p a = q a) : l.all p = l.all q := by
 induction l with
 | nil => rfl
 | cons a l ih => rw [List.all_cons, List.all_cons, h a (by simp), ih fun b hb => h b (by simp [hb])]
theorem any_not {l : List α} {p : α -> Bool} : (l.any fun a => !p a) = !l.all p := by
 induction l with
 | nil => rfl
 | cons a l ih => simp [ih, Bool.not_and]
theorem take_flat_le {l : List α} {i : Nat} {g : α -> List γ} {m : Nat} (h : ∀ a, (g a).length <= m) : ((l.take i).flatMap g).length <= i * m := by
 have : ∀ l : List α, (l.flatMap g).length <= l.length * m := by
  intro l
  induction l with
  | nil => simp
  | cons a l ih => rw [List.flatMap_cons, List.length_append, List.length_cons, Nat.add_mul]; have := h a; omega
 refine Nat.le_trans (this _) (Nat.mul_le_mul_right _ ?_)
 simp; omega
end
section
variable {α β : Type}
def Ens (x : Option α) (Q : α -> Prop) : Prop := ∃ a, x = some a /\ Q a
theorem Ens.of {a : α} {Q : α -> Prop} (h : Q a) : Ens (some a) Q := ⟨a, rfl, h⟩
theorem Ens.bind {x : Option α} {f : α -> Option β} {Q : α -> Prop} {R : β -> Prop} (h : Ens x Q) (g : ∀ a, Q a -> Ens (f a) R) : Ens (x.bind f) R := by
 obtain ⟨a, rfl, ha⟩ := h
 exact g a ha
theorem Ens.mono {x : Option α} {Q R : α -> Prop} (h : Ens x Q) (g : ∀ a, Q a -> R a) : Ens x R := by
 obtain ⟨a, h1, h2⟩ := h
 exact ⟨a, h1, g a h2⟩
theorem Ens.eq {x : Option α} {Q : α -> Prop} (h : Ens x Q) (a : α) (g : ∀ b, Q b -> b = a) : x = some a := by
 obtain ⟨b, h1, h2⟩ := h
 rw [h1, g b h2]
end
end Go.Proofs.YtjfeimhiiomgoaaGreatH
