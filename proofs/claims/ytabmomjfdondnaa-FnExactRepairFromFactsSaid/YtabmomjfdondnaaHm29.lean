/- From a run of trees to a call of the model, for arguments that are data in any memory. -/
import Derived.Test.YtabmomjfdondnaaHm28
import Derived.Below
set_option linter.unusedVariables false
set_option linter.unusedSimpArgs false
namespace Go.Proofs.YtabmomjfdondnaaH
open Go Go.RowKit

/- A value, in a memory, reads as a tree. -/
mutual
def RdV (W : World) : T → Value → Prop
  | .int k n, v => v = .int k n
  | .bool b, v => v = .bool b
  | .str s, v => ∃ b : ByteArray, v = .string b ∧ b.data.toList = s
  | .nils, v => v = .slice none 0 0
  | .sl own x e sk ts, v => own = false ∧ x = false ∧ 0 < e ∧ ((sk = 1 ∧ ts = [] ∧ v = .slice none 0 0) ∨ ∃ a n cap, v = .slice (some a) n cap ∧ n ≤ cap ∧ ts.length = n * e ∧ (0 < cap → a.spot = none) ∧ ∃ us : List Value, us.length = ts.length ∧ (∀ j u, us[j]? = some u → W.cell? ⟨a.block, a.off + j, none⟩ = some u) ∧ RdVs W ts us)
  | .agg ts, v => ∃ vs : Array Value, v = .agg vs ∧ RdVs W ts vs.toList
  | _, _ => False
def RdVs (W : World) : List T → List Value → Prop
  | [], vs => vs = []
  | t :: ts, vs => ∃ v vs', vs = v :: vs' ∧ RdV W t v ∧ RdVs W ts vs'
end

/-- Heaps that hold nothing but what is read. -/
structure RoH (W : World) (H : Heap) (m : Map) : Prop where
  rel : Rel W.heap.size m H W
  ro : ∀ l, l < H.sz → (H.get l).st = .ro
structure RoLe (H : Heap) (m : Map) (H' : Heap) (m' : Map) : Prop where
  sz : H.sz ≤ H'.sz
  get : ∀ l, l < H.sz → H'.get l = H.get l
  le : MLe m m'
theorem RoLe.refl (H : Heap) (m : Map) : RoLe H m H m := ⟨Nat.le_refl _, fun _ _ => rfl, MLe.refl m⟩
theorem RoLe.trans {H1 H2 H3 : Heap} {m1 m2 m3 : Map} (h : RoLe H1 m1 H2 m2) (h' : RoLe H2 m2 H3 m3) : RoLe H1 m1 H3 m3 :=
  ⟨Nat.le_trans h.sz h'.sz, fun l hl => by rw [h'.get l (Nat.lt_of_lt_of_le hl h.sz), h.get l hl], h.le.trans h'.le⟩

def Heap.newRo (H : Heap) (cs : List AV) : Heap := ⟨H.sz + 1, fun l => if l = H.sz then ⟨cs, .ro⟩ else H.get l⟩

theorem addRo {W : World} {H : Heap} {m : Map} (h : RoH W H m) {cs : List AV} {us : List Value} {b off bsz : Nat} (hcs : VRs m cs us) (hcell : ∀ j u, us[j]? = some u → W.cell? ⟨b, off + j, none⟩ = some u) :
    RoH W (H.newRo cs) (m.add H.sz ⟨b, off, cs.length, bsz⟩) ∧ RoLe H m (H.newRo cs) (m.add H.sz ⟨b, off, cs.length, bsz⟩) := by
  have hfr : m H.sz = none := h.rel.fresh
  have hle : MLe m (m.add H.sz ⟨b, off, cs.length, bsz⟩) := MLe.add hfr
  have hget : ∀ l, l ≠ H.sz → (H.newRo cs).get l = H.get l := fun l hl => by simp [Heap.newRo, hl]
  have hgs : (H.newRo cs).get H.sz = ⟨cs, .ro⟩ := by simp [Heap.newRo]
  have hm : ∀ l i, m.add H.sz ⟨b, off, cs.length, bsz⟩ l = some i → (l = H.sz ∧ i = ⟨b, off, cs.length, bsz⟩) ∨ (l ≠ H.sz ∧ m l = some i) := by
    intro l i hl
    unfold Map.add at hl
    by_cases e : l = H.sz
    · subst e; simp at hl; exact .inl ⟨rfl, hl.symm⟩
    · simp [e] at hl; exact .inr ⟨e, hl⟩
  have hst : ∀ l, l < H.sz + 1 → ((H.newRo cs).get l).st = .ro := by
    intro l hl
    by_cases e : l = H.sz
    · subst e; rw [hgs]
    · rw [hget l e]; exact h.ro l (by omega)
  have hblock : ∀ {b o : Nat} {u : Value}, W.cell? ⟨b, o, none⟩ = some u → b < W.heap.size := by
    intro b o u hc
    unfold World.cell? at hc
    rcases Nat.lt_or_ge b W.heap.size with h1 | h1
    · exact h1
    · simp only [Array.getElem?_eq_none h1] at hc
      simp at hc
  refine ⟨⟨⟨fun l i hl => ?_, h.rel.size, fun l i hl hd => ?_, fun l i hl ho => ?_, fun l i hl hr hn => ?_, fun l l' i i' hl hl' hne ho ho' => ?_⟩, hst⟩, ⟨by simp [Heap.newRo], fun l hl => hget l (Nat.ne_of_lt hl), hle⟩⟩
  · rcases hm l i hl with ⟨rfl, _⟩ | ⟨_, h1⟩
    · simp [Heap.newRo]
    · have := h.rel.dom l i h1; simp [Heap.newRo]; omega
  · rcases hm l i hl with ⟨rfl, rfl⟩ | ⟨e, h1⟩
    · rw [hgs]
      refine ⟨rfl, fun j hj => ?_⟩
      obtain ⟨v, hv, hr⟩ := hcs.at j hj
      exact ⟨v, hcell j v hv, hr.mono hle⟩
    · rw [hget l e] at hd ⊢
      obtain ⟨h2, h3⟩ := h.rel.cells l i h1 hd
      refine ⟨h2, fun j hj => ?_⟩
      obtain ⟨v, h4, h5⟩ := h3 j hj
      exact ⟨v, h4, h5.mono hle⟩
  · have hlt : l < H.sz + 1 := by
      rcases hm l i hl with ⟨rfl, _⟩ | ⟨_, h1⟩
      · omega
      · have := h.rel.dom l i h1; omega
    rw [hst l hlt] at ho; cases ho
  · rcases hm l i hl with ⟨rfl, rfl⟩ | ⟨e, h1⟩
    · simp only at hn ⊢
      obtain ⟨v, hv, _⟩ := hcs.at 0 hn
      have := hcell 0 v hv
      exact hblock this
    · rw [hget l e] at hr
      exact h.rel.ro l i h1 hr hn
  · have hlt : l < H.sz + 1 := by
      rcases hm l i hl with ⟨rfl, _⟩ | ⟨_, h1⟩
      · omega
      · have := h.rel.dom l i h1; omega
    rw [hst l hlt] at ho; cases ho

theorem roDen {H H' : Heap} {m m' : Map} (hl : RoLe H m H' m') {vs : List AV} {ts : List T} (h : Dens H (fun l => l < H.sz) vs ts []) : Dens H' (fun l => l < H'.sz) vs ts [] :=
  h.agree ⟨hl.sz, fun l hlt => ⟨hl.get l hlt, Nat.lt_of_lt_of_le hlt hl.sz⟩, by simp⟩

mutual
theorem rd_build {W : World} : ∀ {t : T} {v : Value} {H : Heap} {m : Map}, RdV W t v → RoH W H m → ∃ H' m' av, RoH W H' m' ∧ RoLe H m H' m' ∧ VR m' av v ∧ Den H' (fun l => l < H'.sz) av t []
  | .int k n, v, H, m, h, hr => by rw [RdV] at h; exact ⟨H, m, .int k n, hr, .refl _ _, h, by rw [Den]; exact ⟨rfl, rfl⟩⟩
  | .bool b, v, H, m, h, hr => by rw [RdV] at h; exact ⟨H, m, .bool b, hr, .refl _ _, h, by rw [Den]; exact ⟨rfl, rfl⟩⟩
  | .str s, v, H, m, h, hr => by rw [RdV] at h; exact ⟨H, m, .str s, hr, .refl _ _, h, by rw [Den]; exact ⟨rfl, rfl⟩⟩
  | .nils, v, H, m, h, hr => by rw [RdV] at h; exact ⟨H, m, .nils, hr, .refl _ _, h, by rw [Den]; exact ⟨rfl, rfl⟩⟩
  | .sl own x e sk ts, v, H, m, h, hr => by
    rw [RdV] at h
    obtain ⟨rfl, rfl, he, h⟩ := h
    rcases h with ⟨rfl, rfl, rfl⟩ | ⟨a, n, cap, rfl, hnc, hlen, hspot, us, hul, hcell, hus⟩
    · exact ⟨H, m, .nils, hr, .refl _ _, rfl, by rw [Den]; exact .inl ⟨rfl, rfl, .inl rfl, rfl, he⟩⟩
    obtain ⟨H1, m1, avs, h1, h2, h3, h4⟩ := rds_build hus hr
    obtain ⟨g1, g2⟩ := addRo (bsz := a.off + cap * e) h1 h3 hcell
    have hal : avs.length = ts.length := h4.length
    refine ⟨H1.newRo avs, _, .sl H1.sz 0 n e false, g1, h2.trans g2, ?_, ?_⟩
    · refine ⟨⟨a.block, a.off, avs.length, a.off + cap * e⟩, a, cap, by simp [Map.add], rfl, hnc, by simp, by simp only; omega, fun _ => ?_, by simp only; omega, fun hc => ?_, he⟩
      · simp only [Nat.zero_add]; rw [hal, hlen]; exact Nat.mul_le_mul_right e hnc
      · have := hspot hc
        cases a; simp_all
    · rw [Den]
      have hg : (H1.newRo avs).get H1.sz = ⟨avs, .ro⟩ := by simp [Heap.newRo]
      refine .inr ⟨H1.sz, 0, n, avs, rfl, he, by omega, by simp [Heap.newRo], .inr ⟨rfl, by rw [hg]; simp, by simp [Heap.newRo], ⟨[], [], by rw [hg]; simp, rfl⟩, rfl, roDen g2 h4⟩⟩
  | .agg ts, v, H, m, h, hr => by
    rw [RdV] at h
    obtain ⟨vs, rfl, hvs⟩ := h
    obtain ⟨H1, m1, avs, h1, h2, h3, h4⟩ := rds_build hvs hr
    exact ⟨H1, m1, .agg avs, h1, h2, ⟨vs, rfl, h3⟩, by rw [Den]; exact ⟨avs, rfl, h4⟩⟩
  | .und, v, H, m, h, hr => by simp [RdV] at h
  | .nilp, v, H, m, h, hr => by simp [RdV] at h
  | .nilf, v, H, m, h, hr => by simp [RdV] at h
  | .ptr _ _, v, H, m, h, hr => by simp [RdV] at h
  | .fn _ _, v, H, m, h, hr => by simp [RdV] at h
  | .tup _, v, H, m, h, hr => by simp [RdV] at h
  | .slo _ _, v, H, m, h, hr => by simp [RdV] at h
  | .at _ _, v, H, m, h, hr => by simp [RdV] at h
theorem rds_build {W : World} : ∀ {ts : List T} {vs : List Value} {H : Heap} {m : Map}, RdVs W ts vs → RoH W H m → ∃ H' m' avs, RoH W H' m' ∧ RoLe H m H' m' ∧ VRs m' avs vs ∧ Dens H' (fun l => l < H'.sz) avs ts []
  | [], vs, H, m, h, hr => by rw [RdVs] at h; exact ⟨H, m, [], hr, .refl _ _, h, by rw [Dens]; exact ⟨rfl, rfl⟩⟩
  | t :: ts, vs, H, m, h, hr => by
    rw [RdVs] at h
    obtain ⟨v, vs', rfl, h1, h2⟩ := h
    obtain ⟨H1, m1, av, a1, a2, a3, a4⟩ := rd_build h1 hr
    obtain ⟨H2, m2, avs, b1, b2, b3, b4⟩ := rds_build h2 a1
    refine ⟨H2, m2, av :: avs, b1, a2.trans b2, ⟨v, vs', rfl, a3.mono b2.le, b3⟩, ?_⟩
    rw [Dens]
    exact ⟨av, avs, [], [], rfl, rfl, dens_one.1 (roDen b2 (dens_one.2 a4)), b4⟩
end

/-- A law: its run of trees answers 'true', so the call does, and leaves the memory as it was. -/
theorem law_calls {P : Program} {Tb : Nat → Option CFn} {X : Ext} {io : Nat → List Nat} {XV : Nat → List T → T → List T → Prop} (hmx : P.follows .mixedOrders = true) (hT : TabOk P Tb) (hX : ExtOk P X) (hXV : ∀ f ts t outs, XV f ts t outs → CallOk Tb X io f ts t outs)
    {f : Nat} {ts : List T} {b : Bool} {outs : List T} (hv : VJ Tb io XV (.ca f ts (.bool b) outs)) {W : World} {args : Array Value} (hr : RdVs W ts args.toList) :
    Calls P f args W fun e W' => e = .returned (.bool b) ∧ Below W.heap.size W W' := by
  have h0 : RoH W ⟨0, fun _ => ⟨[], .dead⟩⟩ (fun _ => none) := by
    refine ⟨⟨?_, Nat.le_refl _, ?_, ?_, ?_, ?_⟩, fun l hl => absurd hl (Nat.not_lt_zero l)⟩ <;> intros <;> simp_all
  obtain ⟨H, m, avs, h1, h2, h3, h4⟩ := rds_build hr h0
  obtain ⟨v, H', F', l1, hj, _, hres, _, _⟩ := vsound hXV hv H (fun l => l < H.sz) avs [] h4 List.nodup_nil (fun l hl => ⟨hl, by rw [h1.ro l hl]; simp⟩)
  rw [Dens] at hres
  obtain ⟨c, cs', m1, m2, e, _, hvd, _⟩ := hres
  simp only [List.cons.injEq] at e
  obtain ⟨rfl, _⟩ := e
  rw [Den] at hvd
  have hs := sim hmx hT hX hj W.heap.size m W args.toList h1.rel h3
  have hargs : args.toList.toArray = args := by simp
  rw [hargs] at hs
  refine hs.mono fun e W' he => ?_
  obtain ⟨v', m', rfl, hvr, hok⟩ := he
  rw [hvd.1] at hvr
  simp only [VR] at hvr
  subst hvr
  refine ⟨rfl, hok.fr.os, hok.fr.tape, hok.fr.output, hok.fr.size, fun k hk => hok.fr.block k hk fun l i hl ho => ?_⟩
  rw [h1.ro l (h1.rel.dom l i hl)] at ho; cases ho

end Go.Proofs.YtabmomjfdondnaaH
