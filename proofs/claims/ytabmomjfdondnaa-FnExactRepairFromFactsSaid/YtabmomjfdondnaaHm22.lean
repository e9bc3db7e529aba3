/- The machine of trees: building, slicing, appending. -/
import Derived.Test.YtabmomjfdondnaaHm21
set_option linter.unusedVariables false
set_option linter.unusedSimpArgs false
namespace Go.Proofs.YtabmomjfdondnaaH
open Go

variable {H H' : Heap} {F F' : Nat → Prop} {env env' : Env} {V V' : VEnv} {Lf : Nat → List Nat} {v : AV} {ls : List Nat} {ks : List Nat} {r : RV}

theorem capsV_ok (h : Sta H F env V Lf) : ∀ {xs : List Opd} {cs : List Cap}, capsV V xs = some cs → CapsR H F env V (xs.map (Opd.ev env)) cs
  | [], cs, hx => by
    simp only [capsV, Option.some.injEq] at hx; subst hx; rfl
  | x :: xs, cs, hx => by
    simp only [capsV] at hx
    split at hx
    · rename_i q p k cs0 cs' ha hc
      simp only [Option.some.injEq] at hx; subst hx
      obtain ⟨l, hl, he⟩ := adr_ok h ha
      exact ⟨_, _, rfl, ⟨l, cs0, hl, he⟩, capsV_ok h hc⟩
    · rename_i ts cs' ha hc
      simp only [Option.some.injEq] at hx; subst hx
      obtain ⟨l, k, avs, he, g1, g2, g3, g4, g6⟩ := adr_ok h ha
      refine ⟨_, _, rfl, ?_, capsV_ok h hc⟩
      show Den H F _ (.ptr false ts) []
      rw [Den]
      exact ⟨l, k, avs, he, g1, .inr ⟨rfl, g2, g3, g4, rfl, g6⟩⟩
    · simp at hx
theorem capTs_ok : ∀ {cs : List Cap} {ts : List T} {vs : List AV}, capTs cs = some ts → CapsR H F env V vs cs → Dens H F vs ts []
  | [], ts, vs, hx, hv => by
    simp only [capTs, Option.some.injEq] at hx; subst hx
    rw [Dens]; exact ⟨hv, rfl⟩
  | .t t :: cs, ts, vs, hx, hv => by
    simp only [capTs] at hx
    obtain ⟨ts', h1, rfl⟩ := Option.map_eq_some_iff.1 hx
    obtain ⟨v, vs', rfl, h2, h3⟩ := hv
    rw [Dens]
    exact ⟨v, vs', [], [], rfl, rfl, h2, capTs_ok h1 h3⟩
  | .a .. :: cs, ts, vs, hx, hv => by simp [capTs] at hx

theorem fn_ok {f : Nat} {xs : List Opd} (h : Sta H F env V Lf) (hx : opV ks V (.fn f xs) = some (r, V')) : Out H F env Lf V' (.fn f xs) r := by
  simp only [opV] at hx
  split at hx
  · rename_i cs hc
    have hcs := capsV_ok h hc
    split at hx
    · rename_i ts ht
      simp only [Option.some.injEq, Prod.mk.injEq] at hx
      obtain ⟨rfl, rfl⟩ := hx
      refine Out.plain h (v := .fn f (xs.map (Opd.ev env))) rfl ?_
      rw [Den]
      exact ⟨_, rfl, rfl, capTs_ok ht hcs⟩
    · simp only [Option.some.injEq, Prod.mk.injEq] at hx
      obtain ⟨rfl, rfl⟩ := hx
      exact Out.alias h (v := .fn f (xs.map (Opd.ev env))) rfl ⟨rfl, _, rfl, hcs⟩
  · simp at hx

theorem lay_ok' : ∀ {ps : List (Nat × Nat × Opd)} {V : VEnv} {Lf : Nat → List Nat} {cs cs' : List T} {avs : List AV} {ls : List Nat} {V' : VEnv}, Sta H F env V Lf → Lo H F Lf avs cs ls → layV V cs ps = some (cs', V') →
    ∃ avs' l1 Lf', layAll env avs ps = some avs' ∧ Took H F env V' Lf Lf' avs' cs' l1 ∧ ∀ l ∈ l1, l ∈ ls ∨ ∃ s, l ∈ Lf s
  | [], V, Lf, cs, cs', avs, ls, V', h, hl, hx => by
    simp only [layV, Option.some.injEq, Prod.mk.injEq] at hx
    obtain ⟨rfl, rfl⟩ := hx
    exact ⟨avs, ls, Lf, rfl, ⟨h, hl, fun _ _ h => h⟩, fun l hl => .inl hl⟩
  | (o, n, x) :: ps, V, Lf, cs, cs', avs, ls, V', h, hl, hx => by
    simp only [layV] at hx
    split at hx
    · rename_i t V1 ht
      split at hx
      · rename_i hc
        obtain ⟨hc1, hc2, hc3⟩ := hc
        obtain ⟨l1, Lf1, k1, p1⟩ := take_ok h hl ht
        -- the loose cells' parts, and the taken value
        have hlo := k1.lo
        have hden := hlo.den
        obtain ⟨b1, b2, n1, n2, hb, hn, e1, e2⟩ := hden.split
        have hbl : b1.length = avs.length := by rw [e1.length, hl.den.length]
        obtain ⟨rfl, rfl⟩ := List.append_inj hb hbl.symm
        have e2' := dens_one.1 e2
        obtain ⟨hvc, hvo⟩ := Den.cells e2' hc3
        obtain ⟨a1, a2, a3, m1, m2, m3, rfl, rfl, c1, c2, d1, d2, d3⟩ := dens_mid e1 hc2
        have hvl : (x.ev env).cells.length = n := by rw [hvc.length]; exact hc1
        have hsp : splice (a1 ++ (a2 ++ a3)) o (x.ev env).cells = a1 ++ ((x.ev env).cells ++ a3) := by
          have := splice_mid (pre := []) (rest := []) (a3 := a3) c1 (show (x.ev env).cells.length = a2.length by omega)
          simpa using this
        have hspT : spliceT cs o t.cells = cs.take o ++ (t.cells ++ cs.drop (o + n)) := by unfold spliceT; rw [hc1]
        have hlo' : Lo H F Lf1 (splice (a1 ++ (a2 ++ a3)) o (x.ev env).cells) (spliceT cs o t.cells) (m1 ++ (n2 ++ m3)) := by
          rw [hsp, hspT]
          have hnd := hlo.nd
          rw [hn] at hnd
          refine ⟨d1.append (hvc.append d3), ?_, fun s l hm => hlo.dj s l ?_⟩
          · simp only [List.append_assoc, List.nodup_append, List.mem_append] at hnd ⊢
            grind
          · rw [hn]; simp only [List.mem_append] at hm ⊢; grind
        obtain ⟨avs', l2, Lf2, h1, h2, h3⟩ := lay_ok' k1.st hlo' hx
        refine ⟨avs', l2, Lf2, ?_, ⟨h2.st, h2.lo, fun s l hm => k1.sub s l (h2.sub s l hm)⟩, fun l hm => ?_⟩
        · simp only [layAll]
          rw [if_pos ⟨hvl, by rw [e1.length]; exact hc2, hvo⟩]
          exact h1
        · rcases h3 l hm with h4 | ⟨s, h4⟩
          · have : l ∈ ls ++ l1 := by rw [hn]; simp only [List.mem_append] at h4 ⊢; grind
            rcases List.mem_append.1 this with h5 | h5
            · exact .inl h5
            · exact .inr (p1 l h5)
          · exact .inr ⟨s, k1.sub s l h4⟩
      · simp at hx
    · simp at hx

theorem bld_ok {zs : List AV} {ps : List (Nat × Nat × Opd)} (h : Sta H F env V Lf) (hx : opV ks V (.bld zs ps) = some (r, V')) : Out H F env Lf V' (.bld zs ps) r := by
  simp only [opV] at hx
  split at hx
  · rename_i ts hts
    obtain ⟨⟨cs, V1⟩, hl, hx⟩ := Option.map_eq_some_iff.1 hx
    simp only [Prod.mk.injEq] at hx
    obtain ⟨rfl, rfl⟩ := hx
    obtain ⟨hd, hp⟩ := ofAVs_ok (H := H) (F := F) hts
    obtain ⟨avs', l1, Lf', h1, h2, h3⟩ := lay_ok' h ⟨hd, List.nodup_nil, by simp⟩ hl
    refine ⟨.agg avs', H, Lf', l1, by simp only [heapOp, pureOp, h1]; rfl, h2.st, ⟨Nat.le_refl _, fun _ _ _ => rfl, fun l hm => .inl ?_, fun _ h => h, fun _ h => .inl h⟩, dens_one.2 ?_, h2.lo.nd, h2.lo.dj⟩
    · rcases hm with ⟨s, hm⟩ | hm
      · exact ⟨s, h2.sub s l hm⟩
      · exact (h3 l hm).resolve_left (by simp)
    · rw [Den]; exact ⟨avs', rfl, h2.lo.den⟩
  · simp at hx

theorem dens_flat {zs : List AV} {ts : List T} (h : Dens H F zs ts []) : ∀ n, Dens H F (List.replicate n zs).flatten (List.replicate n ts).flatten []
  | 0 => by simp only [List.replicate_zero, List.flatten_nil]; rw [Dens]; exact ⟨rfl, rfl⟩
  | n + 1 => by
    simp only [List.replicate_succ, List.flatten_cons]
    exact h.append (dens_flat h n)
theorem flat_len {α : Type} (zs : List α) : ∀ n, (List.replicate n zs).flatten.length = n * zs.length
  | 0 => by simp
  | n + 1 => by simp only [List.replicate_succ, List.flatten_cons, List.length_append, flat_len zs n]; rw [Nat.succ_mul, Nat.add_comm]

theorem layAll_len : ∀ {ps : List (Nat × Nat × Opd)} {cs cs' : List AV}, layAll env cs ps = some cs' → cs'.length = cs.length
  | [], cs, cs', h => by simp only [layAll, Option.some.injEq] at h; rw [h]
  | (o, n, x) :: ps, cs, cs', h => by
    simp only [layAll] at h
    split at h
    · rename_i hc
      rw [layAll_len h]
      simp only [splice, List.length_append, List.length_take, List.length_drop]
      omega
    · simp at h

theorem bsl_ok {e n : Nat} {zs : List AV} {ps : List (Nat × Nat × Opd)} (h : Sta H F env V Lf) (hx : opV ks V (.bsl e n zs ps) = some (r, V')) : Out H F env Lf V' (.bsl e n zs ps) r := by
  simp only [opV] at hx
  split at hx
  · rename_i ts hts
    split at hx
    · rename_i hc
      obtain ⟨⟨cs, V1⟩, hl, hx⟩ := Option.map_eq_some_iff.1 hx
      simp only [Prod.mk.injEq] at hx
      obtain ⟨rfl, rfl⟩ := hx
      obtain ⟨hd, hp⟩ := ofAVs_ok (H := H) (F := F) hts
      obtain ⟨avs', l1, Lf', h1, h2, h3⟩ := lay_ok' h ⟨dens_flat hd n, List.nodup_nil, by simp⟩ hl
      obtain ⟨a1, a2, a3, a4, a5, a6, a7, a8⟩ := alloc_ok h2 fun l hm => (h3 l hm).resolve_left (by simp)
      refine ⟨.sl H.sz 0 n e false, H.new avs', Lf', H.sz :: l1, ?_, a1, a8, dens_one.2 ?_, a6, a7⟩
      · simp only [heapOp, allocOp, if_pos hc, h1]; rfl
      · rw [Den]
        refine .inr ⟨H.sz, 0, n, avs', rfl, hc.2.2, ?_, a3, .inl ⟨rfl, rfl, by rw [a4], a5, ⟨[], by rw [a4]; simp, by simp⟩, l1, rfl, a2⟩⟩
        rw [layAll_len h1, flat_len, hc.2.1]
    · simp at hx
  · simp at hx

theorem mk_ok {e bs : Nat} {zs : List AV} {l c : Opd} (h : Sta H F env V Lf) (hx : opV ks V (.mk e bs zs l c) = some (r, V')) : Out H F env Lf V' (.mk e bs zs l c) r := by
  simp only [opV] at hx
  split at hx
  · rename_i a b ts ha hb hts
    have ha' := sca_ev h ha (by simp)
    have hb' := sca_ev h hb (by simp)
    split at hx
    · rename_i hc
      simp only [Option.some.injEq, Prod.mk.injEq] at hx
      obtain ⟨rfl, rfl⟩ := hx
      obtain ⟨hd, hp⟩ := ofAVs_ok (H := H) (F := F) hts
      obtain ⟨a1, a2, a3, a4, a5, a6, a7, a8⟩ := alloc_ok (Took.nil h (dens_flat hd b.toNat)) (by simp)
      refine ⟨.sl H.sz 0 a.toNat e false, H.new (List.replicate b.toNat zs).flatten, Lf, [H.sz], ?_, a1, a8, dens_one.2 ?_, a6, a7⟩
      · simp only [heapOp, allocOp, ha', hb', if_pos hc, Option.map_some]
      · have hab : a.toNat ≤ b.toNat := by omega
        have hsplit : (List.replicate b.toNat zs).flatten = (List.replicate a.toNat zs).flatten ++ (List.replicate (b.toNat - a.toNat) zs).flatten := by
          rw [← List.flatten_append, List.replicate_append_replicate, Nat.add_sub_cancel' hab]
        have hsplitT : (List.replicate b.toNat ts).flatten = (List.replicate a.toNat ts).flatten ++ (List.replicate (b.toNat - a.toNat) ts).flatten := by
          rw [← List.flatten_append, List.replicate_append_replicate, Nat.add_sub_cancel' hab]
        rw [hsplit] at a4
        rw [Den]
        refine .inr ⟨H.sz, 0, a.toNat, (List.replicate a.toNat zs).flatten, rfl, hc.2.2.2.2.2, ?_, a3, .inl ⟨rfl, rfl, by rw [hsplit, a4], a5, ⟨(List.replicate (b.toNat - a.toNat) zs).flatten, by rw [hsplit, a4], ?_⟩, [], rfl, ?_⟩⟩
        · rw [flat_len, hc.2.2.2.2.1]
        · rw [flat_len, hc.2.2.2.2.1]
        · have hd1 := dens_flat hd a.toNat
          have hlt : ∀ k, F k → (H.new (List.replicate b.toNat zs).flatten).get k = H.get k := fun k hk => by simp [Heap.new, Nat.ne_of_lt (h.fz k hk).1]
          exact hd1.agree ⟨by simp [Heap.new], fun k hk => ⟨hlt k hk, hk⟩, by simp⟩
    · simp at hx
  · simp at hx

theorem scaV_ok {c : COp} {a : AV} {t : T} (h : Sta H F env V Lf) (h1 : scaOp (sca V) c = some a) (h2 : T.ofAV a = some t) : Out H F env Lf V c (.v t) :=
  Out.plain h (scaOp_heap (scaOp_mono (sca_ok h) h1)) (ofAV_den h2).1

end Go.Proofs.YtabmomjfdondnaaH
