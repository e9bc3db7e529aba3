/- The machine of trees: appending; all operations together. -/
import Derived.Test.YtabmomjfdondnaaHm23
set_option linter.unusedVariables false
set_option linter.unusedSimpArgs false
namespace Go.Proofs.YtabmomjfdondnaaH
open Go

variable {H H' : Heap} {F F' : Nat → Prop} {env env' : Env} {V V' : VEnv} {Lf : Nat → List Nat} {v : AV} {ls : List Nat} {ks : List Nat} {r : RV}

theorem Dens.ones {ts : List T} {avs : List AV} (h : Dens H F avs ts ls) (ho : ts.all T.one = true) : avs.all AV.one = true := by
  have : Den H F (.agg avs) (.agg ts) ls := by rw [Den]; exact ⟨avs, rfl, h⟩
  exact (Den.cells this ho).2

theorem rd0_of {l o n : Nat} {vs : List AV} (h : H.rd l o n = some vs) : H.rd0 l o n = some vs := by
  unfold Heap.rd0
  split
  · rename_i h0
    subst h0
    unfold Heap.rd at h
    split at h
    · simpa using h
    · simp at h
  · exact h
/-- A slice's cells. -/
theorem sl_cells {o y : Bool} {e sk : Nat} {cs : List T} (hd : Den H F v (.sl o y e sk cs) ls) : ∃ n avs l1, cellsOf H e v = some (n, avs) ∧ avs.length = n * e ∧ 0 < e ∧ Dens H F avs cs l1 ∧ (∀ l ∈ l1, l ∈ ls) ∧ (ls.Nodup → l1.Nodup) := by
  rw [Den] at hd
  rcases hd with ⟨_, rfl, hv, rfl, he⟩ | ⟨l, p, n, avs, rfl, he, hn, hl, hd⟩
  · refine ⟨0, [], [], ?_, by simp, he, by rw [Dens]; exact ⟨rfl, rfl⟩, by simp, fun h => h⟩
    rcases hv with rfl | ⟨l, o, rfl⟩
    · rfl
    · simp [cellsOf, Heap.rd0]
  rcases hd with ⟨h1, h3, h4, h5, ⟨rest, h6, h7⟩, l1, rfl, h8⟩ | ⟨h1, h2, h3, ⟨pre, rest, h4, h5⟩, rfl, h6⟩
  · refine ⟨n, avs, l1, ?_, hn, he, h8, fun l hm => by simp [hm], fun h => (List.nodup_cons.1 h).2⟩
    subst h3
    have : H.rd l 0 (n * e) = some avs := by
      unfold Heap.rd
      rw [if_pos ⟨by rw [h4]; simp, hl, by rw [h6]; simp; omega⟩, h6, List.drop_zero, ← hn, List.take_left]
    simp only [cellsOf, if_true, rd0_of this, Option.map_some]
  · refine ⟨n, avs, [], ?_, hn, he, h6, by simp, fun _ => List.nodup_nil⟩
    have : H.rd l p (n * e) = some avs := by
      unfold Heap.rd
      rw [if_pos ⟨h2, hl, by rw [h4]; simp; omega⟩, h4, List.append_assoc, ← h5, List.drop_left, ← hn, List.take_left]
    simp only [cellsOf, if_true, rd0_of this, Option.map_some]

theorem more_ok {e : Nat} {x : Opd} {ys : List T} (h : Sta H F env V Lf) (hx : moreV V e x = some (ys, V')) :
    ∃ n avs l1 Lf', cellsOf H e (x.ev env) = some (n, avs) ∧ ((n = 0 ∧ avs = []) ∨ (avs.length = n * e ∧ 0 < e)) ∧ Took H F env V' Lf Lf' avs ys l1 ∧ ∀ l ∈ l1, ∃ s, l ∈ Lf s := by
  unfold moreV at hx
  split at hx
  · rename_i hs
    simp only [Option.some.injEq, Prod.mk.injEq] at hx
    obtain ⟨rfl, rfl⟩ := hx
    obtain ⟨ls, hd⟩ := see_ok h hs
    rw [Den] at hd
    exact ⟨0, [], [], Lf, by rw [hd.1]; rfl, .inl ⟨rfl, rfl⟩, Took.nil h (by rw [Dens]; exact ⟨rfl, rfl⟩), by simp⟩
  · rename_i o y e' sk cs hs
    split at hx
    · rename_i hee
      subst hee
      obtain ⟨ls, hd⟩ := see_ok h hs
      split at hx
      · rename_i hp
        simp only [Option.some.injEq, Prod.mk.injEq] at hx
        obtain ⟨rfl, rfl⟩ := hx
        obtain ⟨n, avs, l1, h1, h2, h3, h4, _, _⟩ := sl_cells hd
        rw [Dens.plain hp h4] at h4
        exact ⟨n, avs, [], Lf, h1, .inr ⟨h2, h3⟩, Took.nil h h4, by simp⟩
      · split at hx
        · rename_i o' y' e' sk' cs' V1 ht
          split at hx
          · rename_i hee
            subst hee
            simp only [Option.some.injEq, Prod.mk.injEq] at hx
            obtain ⟨rfl, rfl⟩ := hx
            obtain ⟨l1, Lf1, k1, p1⟩ := take_ok h Lo.nil ht
            have hlo := k1.lo
            simp only [List.nil_append] at hlo
            obtain ⟨n, avs, l2, h1, h2, h3, h4, h5, h6⟩ := sl_cells (dens_one.1 hlo.den)
            exact ⟨n, avs, l2, Lf1, h1, .inr ⟨h2, h3⟩, ⟨k1.st, ⟨h4, h6 hlo.nd, fun s l hm => hlo.dj s l (h5 l hm)⟩, k1.sub⟩, fun l hm => p1 l (h5 l hm)⟩
          · simp at hx
        · simp at hx
    · simp at hx
  · simp at hx

theorem app_ok {e bs : Nat} {s x : Opd} {t : T} (h : Sta H F env V Lf) (hx : appV V e bs s x = some (t, V')) : Out H F env Lf V' (.app e bs s x) (.v t) := by
  rw [appV_eq] at hx
  unfold appV0 at hx
  split at hx
  · rename_i ys V1 hmore
    obtain ⟨n, avs, l1, Lf1, hcell, hlen, k1, p1⟩ := more_ok h hmore
    have hyl : ys.length = avs.length := k1.lo.den.length.symm
    split at hx
    · rename_i ts V2 ht
      obtain ⟨l2, Lf2, k2, p2⟩ := take_ok k1.st k1.lo ht
      obtain ⟨b1, b2, n1, n2, hb, hn, e1, e2⟩ := k2.lo.den.split
      have hbl : b1.length = avs.length := by rw [e1.length, hyl]
      obtain ⟨rfl, rfl⟩ := List.append_inj hb hbl.symm
      have e2' := dens_one.1 e2
      have hndl : (n1 ++ n2).Nodup := by rw [← hn]; exact k2.lo.nd
      have hdjl : ∀ s l, l ∈ n1 ++ n2 → l ∉ Lf2 s := by rw [← hn]; exact k2.lo.dj
      have hsub : ∀ s l, l ∈ Lf2 s → l ∈ Lf s := fun s l hm => k1.sub s l (k2.sub s l hm)
      have hpl : ∀ l ∈ n1 ++ n2, ∃ s, l ∈ Lf s := by
        intro l hm
        rw [← hn] at hm
        rcases List.mem_append.1 hm with hm | hm
        · exact p1 l hm
        · obtain ⟨s, hs⟩ := p2 l hm; exact ⟨s, k1.sub s l hs⟩
      have tr0 : Tr H F (Pl Lf) H F (fun l => Pl Lf2 l ∨ l ∈ n2) := ⟨Nat.le_refl _, fun _ _ _ => rfl, fun l hm => .inl (hm.elim (fun ⟨s, hm⟩ => ⟨s, hsub s l hm⟩) fun hm => hpl l (by simp [hm])), fun _ h => h, fun _ h => .inl h⟩
      have hnd2 : n2.Nodup := (List.nodup_append.1 hndl).2.1
      have hdj2 : ∀ s l, l ∈ n2 → l ∉ Lf2 s := fun s l hm => hdjl s l (by simp [hm])
      split at hx
      · -- nothing is appended
        rename_i hy0
        have hk0 : n = 0 := by
          rcases hlen with ⟨h1, _⟩ | ⟨h1, h2⟩
          · exact h1
          · have : n * e = 0 := by omega
            rcases Nat.mul_eq_zero.1 this with h3 | h3
            · exact h3
            · omega
        subst hk0
        split at hx
        · simp only [Option.some.injEq, Prod.mk.injEq] at hx
          obtain ⟨rfl, rfl⟩ := hx
          have hs : s.ev env = .nils := by rw [Den] at e2'; exact e2'.1
          exact ⟨.nils, H, Lf2, n2, by simp only [heapOp, hcell, Option.bind_some, if_true, hs], k2.st, tr0, ⟨dens_one.2 (by rw [hs] at e2'; exact e2'), hnd2, hdj2⟩⟩
        · rename_i o y e' sk cs
          split at hx
          · rename_i hee
            subst hee
            simp only [Option.some.injEq, Prod.mk.injEq] at hx
            obtain ⟨rfl, rfl⟩ := hx
            rcases sl_count e2' with ⟨_, _, hs | ⟨l, p, hs⟩⟩ | ⟨l, p, hs, _⟩
            · exact ⟨s.ev env, H, Lf2, n2, by simp only [heapOp, hcell, Option.bind_some, if_true, hs], k2.st, tr0, ⟨e2, hnd2, hdj2⟩⟩
            · exact ⟨s.ev env, H, Lf2, n2, by simp only [heapOp, hcell, Option.bind_some, if_true, hs], k2.st, tr0, ⟨e2, hnd2, hdj2⟩⟩
            exact ⟨s.ev env, H, Lf2, n2, by simp only [heapOp, hcell, Option.bind_some, if_true, hs], k2.st, tr0, ⟨e2, hnd2, hdj2⟩⟩
          · simp at hx
        · simp at hx
      · rename_i hy0
        obtain ⟨hal, hepos⟩ : avs.length = n * e ∧ 0 < e := by
          rcases hlen with ⟨_, h2⟩ | h2
          · rw [h2] at hyl; simp at hyl; exact absurd (by simp [hyl]) hy0
          · exact h2
        have hk : ys.length / e = n := by rw [hyl, hal, Nat.mul_div_cancel _ hepos]
        have hn0 : n ≠ 0 := by rintro rfl; rw [hal] at hyl; simp at hyl; exact hy0 (by simp [hyl])
        split at hx
        · simp at hx
        · rename_i hg
          have hbs : bs ≠ 0 := fun e => hg (.inr (.inl e))
          have hones : ys.all T.one = true := by
            cases hh : ys.all T.one with
            | true => rfl
            | false => exact absurd (.inr (.inr hh)) hg
          have hao : avs.all AV.one = true := e1.ones hones
          have hgg : ¬ (e = 0 ∨ bs = 0 ∨ (!(avs.all AV.one)) = true) := by
            rw [hao]; simp; omega
          rw [hk] at hx
          split at hx
          · -- onto nil
            split at hx
            · rename_i hroom
              simp only [Option.some.injEq, Prod.mk.injEq] at hx
              obtain ⟨rfl, rfl⟩ := hx
              have hs : s.ev env = .nils := by rw [Den] at e2'; exact e2'.1
              have hn2 : n2 = [] := by rw [Den] at e2'; exact e2'.2
              subst hn2
              obtain ⟨a1, a2, a3, a4, a5, a6, a7, a8⟩ := alloc_ok (Lf := Lf) (l1 := n1) ⟨k2.st, ⟨e1, (List.nodup_append.1 hndl).1, fun s l hm => hdjl s l (by simp [hm])⟩, hsub⟩ fun l hm => hpl l (by simp [hm])
              refine ⟨.sl H.sz 0 n e false, H.new avs, Lf2, H.sz :: n1, ?_, a1, a8, dens_one.2 ?_, a6, a7⟩
              · simp only [heapOp, hcell, Option.bind_some, if_neg hn0, if_neg hgg, hs, if_pos hroom]
              · rw [Den]
                exact .inr ⟨H.sz, 0, n, avs, rfl, hepos, hal, a3, .inl ⟨rfl, rfl, by rw [a4], a5, ⟨[], by rw [a4]; simp, by simp⟩, n1, rfl, a2⟩⟩
            · simp at hx
          · -- onto what is owned
            rename_i y e' sk cs
            split at hx
            · rename_i hc
              obtain ⟨hee, hroom⟩ := hc
              subst hee
              rw [Den] at e2'
              rcases e2' with ⟨q1, rfl, hs0, rfl, _⟩ | ⟨l, p, n', cavs, hs, _, hn', hl, e3⟩
              · simp only [nilOk, if_true, Bool.and_eq_true, beq_iff_eq] at q1
                obtain ⟨q1, rfl⟩ := q1
                rw [if_neg (by omega), if_pos rfl] at hx
                simp only [List.nil_append, Option.some.injEq, Prod.mk.injEq] at hx
                obtain ⟨rfl, rfl⟩ := hx
                simp only [List.length_nil, Nat.zero_div, Nat.zero_add] at hroom
                obtain ⟨a1, a2, a3, a4, a5, a6, a7, a8⟩ := alloc_ok (Lf := Lf) (l1 := n1) ⟨k2.st, ⟨e1, (List.nodup_append.1 hndl).1, fun s l hm => hdjl s l (by simp [hm])⟩, hsub⟩ fun l hm => hpl l (by simp [hm])
                refine ⟨.sl H.sz 0 n e false, H.new avs, Lf2, H.sz :: n1, ?_, a1, a8, dens_one.2 ?_, a6, a7⟩
                · rcases hs0 with hs | ⟨l, p, hs⟩
                  · simp only [heapOp, hcell, Option.bind_some, if_neg hn0, if_neg hgg, hs, if_pos hroom]
                  · simp only [heapOp, hcell, Option.bind_some, if_neg hn0, if_neg hgg, hs]
                    rw [if_neg (by rw [Nat.zero_add]; omega : ¬ (e ≠ e ∨ (0 + n) * bs > room))]
                    simp [Heap.rd0]
                · rw [Den]
                  exact .inr ⟨H.sz, 0, n, avs, by simp, hepos, hal, a3, .inl ⟨rfl, rfl, by rw [a4], a5, ⟨[], by rw [a4]; simp, by simp⟩, n1, rfl, a2⟩⟩
              rcases e3 with ⟨_, hp0, hst, hnF, ⟨rest, hc1, hc2⟩, l3, rfl, hdc⟩ | ⟨e4, _⟩
              · subst hp0
                simp only [Bool.not_true, Bool.false_and] at hs
                have hcl : cs.length / e = n' := by rw [← hdc.length, hn', Nat.mul_div_cancel _ hepos]
                rw [hcl] at hroom
                have hrd : H.rd l 0 (n' * e) = some cavs := by
                  unfold Heap.rd
                  rw [if_pos ⟨by rw [hst]; simp, hl, by rw [hc1]; simp; omega⟩, hc1, List.drop_zero, ← hn', List.take_left]
                have hpre : heapOp env H (.app e bs s x) = (if 0 + (n' + n) * e ≤ (H.get l).cells.length then (H.wr l (0 + n' * e) avs).map fun H' => (AV.sl l 0 (n' + n) e false, H')
                    else if 0 + n' * e = (H.get l).cells.length ∧ (H.get l).st = .own then some (.sl H.sz 0 (n' + n) e false, (H.kill l).new (cavs ++ avs)) else none) := by
                  simp only [heapOp, hcell, Option.bind_some, if_neg hn0, if_neg hgg, hs]
                  rw [if_neg (by omega : ¬ (e ≠ e ∨ (n' + n) * bs > room))]
                  simp only [rd0_of hrd, Option.bind_some, Bool.false_eq_true, if_false]
                have hclen : (H.get l).cells.length = n' * e + sk * e := by rw [hc1, List.length_append, hn', hc2]
                have hln1 : l ∉ n1 := by
                  intro hm
                  exact (List.nodup_append.1 hndl).2.2 l hm l (by simp) rfl
                have hll3 : l ∉ l3 := (List.nodup_cons.1 hnd2).1
                have hlL : ∀ s, l ∉ Lf2 s := fun s => hdj2 s l (by simp)
                split at hx
                · rename_i hsk
                  simp only [Option.some.injEq, Prod.mk.injEq] at hx
                  obtain ⟨rfl, rfl⟩ := hx
                  have hfit : 0 + (n' + n) * e ≤ (H.get l).cells.length := by
                    rw [hclen, Nat.zero_add, Nat.add_mul]
                    exact Nat.add_le_add_left (Nat.mul_le_mul_right e hsk) _
                  have hsplit : rest = rest.take (n * e) ++ rest.drop (n * e) := (List.take_append_drop _ _).symm
                  have hrl : (rest.take (n * e)).length = n * e := by
                    rw [List.length_take, hc2, Nat.min_eq_left (Nat.mul_le_mul_right e hsk)]
                  have hwr : H.wr l (0 + n' * e) avs = some (H.put l (cavs ++ (avs ++ rest.drop (n * e)) ++ [])) := by
                    unfold Heap.wr
                    rw [if_pos ⟨hst, hl, by rw [hal, hclen]; rw [hclen, Nat.add_mul] at hfit; omega, hao⟩]
                    congr 2
                    have := splice_mid (pre := []) (a1 := cavs) (a2 := rest.take (n * e)) (a3 := rest.drop (n * e)) (us := avs) (rest := []) (k := n' * e) hn' (by rw [hrl, hal])
                    rw [← this, hc1, Nat.zero_add, List.append_nil, ← hsplit]
                  have hH : ∀ k, k ≠ l → (H.put l (cavs ++ (avs ++ rest.drop (n * e)) ++ [])).get k = H.get k := fun k hk => by simp [Heap.put, hk]
                  have hag : ∀ ls', (∀ k ∈ ls', k ≠ l ∧ ¬ F k) → Agree H (H.put l (cavs ++ (avs ++ rest.drop (n * e)) ++ [])) F F ls' := fun ls' hls' =>
                    ⟨Nat.le_refl _, fun k hk => ⟨hH k (fun e => by subst e; exact hnF hk), hk⟩, fun k hk => ⟨hH k (hls' k hk).1, (hls' k hk).2⟩⟩
                  have hown : ∀ s k, k ∈ Lf2 s → ¬ F k := by
                    intro s k hk
                    have hsr := k2.st.sr s
                    cases hx : V2.get s with
                    | v t => rw [hx] at hsr; exact (Den.owned hsr k hk).2.2
                    | al | ref | adr | clo => rw [hx] at hsr; have := hsr.1; rw [this] at hk; simp at hk
                  refine ⟨.sl l 0 (n' + n) e false, _, Lf2, l :: (l3 ++ n1), by rw [hpre, if_pos hfit, hwr, Option.map_some], k2.st.heap (fun s => hag _ fun k hk => ⟨fun e => by subst e; exact hlL s hk, hown s k hk⟩) (fun k hk => ?_), ⟨Nat.le_refl _, fun k _ hk => hH k fun e => ?_, fun k hk => .inl ?_, fun _ h => h, fun _ h => .inl h⟩, dens_one.2 ?_, ?_, ?_⟩
                  · rw [hH k (fun e => by subst e; exact hnF hk)]; exact k2.st.fz k hk
                  · subst e; exact hk (hpl k (by simp))
                  · rcases hk with ⟨s, hk⟩ | hk
                    · exact ⟨s, hsub s k hk⟩
                    · exact hpl k (by simp at hk ⊢; grind)
                  · rw [Den]
                    refine .inr ⟨l, 0, n' + n, cavs ++ avs, by simp, hepos, by rw [List.length_append, hn', hal, Nat.add_mul], hl, .inl ⟨rfl, rfl, by simp [Heap.put], hnF, ⟨rest.drop (n * e), by simp [Heap.put], ?_⟩, l3 ++ n1, rfl, ?_⟩⟩
                    · rw [List.length_drop, hc2, Nat.sub_mul]
                    · exact (hdc.agree (hag _ fun k hk => ⟨fun e => by subst e; exact hll3 hk, (hdc.owned k hk).2.2⟩)).append (e1.agree (hag _ fun k hk => ⟨fun e => by subst e; exact hln1 hk, (e1.owned k hk).2.2⟩))
                  · simp only [List.nodup_append, List.nodup_cons, List.mem_append, List.mem_cons] at hndl ⊢
                    grind
                  · intro s k hk; exact hdjl s k (by simp at hk ⊢; grind)
                · rename_i hsk
                  split at hx
                  · rename_i hsk0
                    subst hsk0
                    simp only [Option.some.injEq, Prod.mk.injEq] at hx
                    obtain ⟨rfl, rfl⟩ := hx
                    have hnofit : ¬ (0 + (n' + n) * e ≤ (H.get l).cells.length) := by
                      rw [hclen, Nat.zero_add, Nat.add_mul, Nat.zero_mul]
                      have : 0 < n * e := Nat.mul_pos (by omega) hepos
                      omega
                    have hH : ∀ k, k ≠ l → k < H.sz → ((H.kill l).new (cavs ++ avs)).get k = H.get k := fun k hk hlt => by simp [Heap.new, Heap.kill, hk, Nat.ne_of_lt hlt]
                    have hFs : ¬ F H.sz := fun hf => Nat.lt_irrefl _ (k2.st.fz _ hf).1
                    have hag : ∀ ls', (∀ k ∈ ls', k ≠ l ∧ k < H.sz ∧ ¬ F k) → Agree H ((H.kill l).new (cavs ++ avs)) F F ls' := fun ls' hls' =>
                      ⟨by simp [Heap.new, Heap.kill], fun k hk => ⟨hH k (fun e => by subst e; exact hnF hk) (k2.st.fz k hk).1, hk⟩, fun k hk => ⟨hH k (hls' k hk).1 (hls' k hk).2.1, (hls' k hk).2.2⟩⟩
                    have hown : ∀ s k, k ∈ Lf2 s → k < H.sz ∧ ¬ F k := by
                      intro s k hk
                      have hsr := k2.st.sr s
                      cases hx : V2.get s with
                      | v t => rw [hx] at hsr; have := Den.owned hsr k hk; exact ⟨this.1, this.2.2⟩
                      | al | ref | adr | clo => rw [hx] at hsr; have := hsr.1; rw [this] at hk; simp at hk
                    have hlow : ∀ k ∈ l3 ++ n1, k < H.sz ∧ ¬ F k ∧ k ≠ l := by
                      intro k hk
                      rcases List.mem_append.1 hk with hk | hk
                      · exact ⟨(hdc.owned k hk).1, (hdc.owned k hk).2.2, fun e => by subst e; exact hll3 hk⟩
                      · exact ⟨(e1.owned k hk).1, (e1.owned k hk).2.2, fun e => by subst e; exact hln1 hk⟩
                    refine ⟨.sl H.sz 0 (n' + n) e false, _, Lf2, H.sz :: (l3 ++ n1), by rw [hpre, if_neg hnofit, if_pos ⟨by rw [hclen]; simp, hst⟩], k2.st.heap (fun s => hag _ fun k hk => ⟨fun e => by subst e; exact hlL s hk, hown s k hk⟩) (fun k hk => ?_), ⟨by simp [Heap.new, Heap.kill], fun k hlt hk => hH k (fun e => ?_) hlt, fun k hk => ?_, fun _ h => h, fun _ h => .inl h⟩, dens_one.2 ?_, ?_, ?_⟩
                    · rw [hH k (fun e => by subst e; exact hnF hk) (k2.st.fz k hk).1]
                      exact ⟨by simp [Heap.new, Heap.kill]; exact Nat.lt_succ_of_lt (k2.st.fz k hk).1, (k2.st.fz k hk).2⟩
                    · subst e; exact hk (hpl k (by simp))
                    · rcases hk with ⟨s, hk⟩ | hk
                      · exact .inl ⟨s, hsub s k hk⟩
                      · rcases List.mem_cons.1 hk with rfl | hk
                        · exact .inr (Nat.le_refl _)
                        · exact .inl (hpl k (by simp at hk ⊢; grind))
                    · rw [Den]
                      refine .inr ⟨H.sz, 0, n' + n, cavs ++ avs, by simp, hepos, by rw [List.length_append, hn', hal, Nat.add_mul], by simp [Heap.new, Heap.kill], .inl ⟨rfl, rfl, by simp [Heap.new, Heap.kill], hFs, ⟨[], by simp [Heap.new, Heap.kill], by simp⟩, l3 ++ n1, rfl, ?_⟩⟩
                      exact (hdc.agree (hag _ fun k hk => by have := hlow k (by simp [hk]); exact ⟨this.2.2, this.1, this.2.1⟩)).append (e1.agree (hag _ fun k hk => by have := hlow k (by simp [hk]); exact ⟨this.2.2, this.1, this.2.1⟩))
                    · refine List.nodup_cons.2 ⟨fun hm => Nat.lt_irrefl _ (hlow _ hm).1, ?_⟩
                      simp only [List.nodup_append, List.nodup_cons, List.mem_append, List.mem_cons] at hndl ⊢
                      grind
                    · intro s k hk hk'
                      rcases List.mem_cons.1 hk with rfl | hk
                      · exact Nat.lt_irrefl _ (hown s _ hk').1
                      · exact hdjl s k (by simp at hk ⊢; grind) hk'
                  · simp at hx
              · cases e4
            · simp at hx
          · -- onto what is shared, and has no room
            rename_i e' sk cs
            split at hx
            · rename_i hc
              obtain ⟨hee, hroom, hco⟩ := hc
              subst hee
              simp only [Option.some.injEq, Prod.mk.injEq] at hx
              obtain ⟨rfl, rfl⟩ := hx
              have hn2 := Den.plain (t := .sl false true e sk cs) rfl e2'
              subst hn2
              rw [Den] at e2'
              rcases e2' with ⟨_, rfl, hs0, _, _⟩ | ⟨l, p, n', cavs, hs, _, hn', hl, e3⟩
              · simp only [List.length_nil, Nat.zero_div, Nat.zero_add] at hroom
                obtain ⟨a1, a2, a3, a4, a5, a6, a7, a8⟩ := alloc_ok (Lf := Lf) (l1 := n1) ⟨k2.st, ⟨e1, (List.nodup_append.1 hndl).1, fun s l hm => hdjl s l (by simp [hm])⟩, hsub⟩ fun l hm => hpl l (by simp [hm])
                refine ⟨.sl H.sz 0 n e false, H.new avs, Lf2, H.sz :: n1, ?_, a1, a8, dens_one.2 ?_, a6, a7⟩
                · rcases hs0 with hs | ⟨l, p, hs⟩
                  · simp only [heapOp, hcell, Option.bind_some, if_neg hn0, if_neg hgg, hs, if_pos hroom]
                  · simp only [heapOp, hcell, Option.bind_some, if_neg hn0, if_neg hgg, hs]
                    rw [if_neg (by rw [Nat.zero_add]; omega : ¬ (e ≠ e ∨ (0 + n) * bs > room))]
                    simp [Heap.rd0]
                · rw [List.nil_append, Den]
                  exact .inr ⟨H.sz, 0, n, avs, rfl, hepos, hal, a3, .inl ⟨rfl, rfl, by rw [a4], a5, ⟨[], by rw [a4]; simp, by simp⟩, n1, rfl, a2⟩⟩
              simp only [Bool.not_false, Bool.true_and] at hs
              rcases e3 with ⟨e4, _⟩ | ⟨_, hst, hF, ⟨pre, rest, hc1, hc2⟩, _, hdc⟩
              · cases e4
              · have hcl : cs.length / e = n' := by rw [← hdc.length, hn', Nat.mul_div_cancel _ hepos]
                rw [hcl] at hroom
                have hrd : H.rd l p (n' * e) = some cavs := by
                  unfold Heap.rd
                  rw [if_pos ⟨hst, hl, by rw [hc1]; simp; omega⟩, hc1, List.append_assoc, ← hc2, List.drop_left, ← hn', List.take_left]
                have hcao := hdc.ones hco
                have hlo : Lo H F Lf2 (cavs ++ avs) (cs ++ ys) n1 := ⟨by simpa using hdc.append e1, (List.nodup_append.1 hndl).1, fun s l hm => hdjl s l (by simp [hm])⟩
                obtain ⟨a1, a2, a3, a4, a5, a6, a7, a8⟩ := alloc_ok (Lf := Lf) ⟨k2.st, hlo, hsub⟩ fun l hm => hpl l (by simp [hm])
                refine ⟨.sl H.sz 0 (n' + n) e false, H.new (cavs ++ avs), Lf2, H.sz :: n1, ?_, a1, a8, dens_one.2 ?_, a6, a7⟩
                · simp only [heapOp, hcell, Option.bind_some, if_neg hn0, if_neg hgg, hs]
                  rw [if_neg (by omega : ¬ (e ≠ e ∨ (n' + n) * bs > room))]
                  simp only [rd0_of hrd, Option.bind_some, if_true, if_pos hcao]
                · rw [Den]
                  exact .inr ⟨H.sz, 0, n' + n, cavs ++ avs, rfl, hepos, by rw [List.length_append, hn', hal, Nat.add_mul], a3, .inl ⟨rfl, rfl, by rw [a4], a5, ⟨[], by rw [a4]; simp, by simp⟩, n1, rfl, a2⟩⟩
            · simp at hx
          · simp at hx
    · simp at hx
  · simp at hx

/-- Cells that are bytes. -/
def bytesT : List T → Option (List UInt8)
  | [] => some []
  | .int .u8 b :: ts => if 0 ≤ b ∧ b < 256 then (bytesT ts).map (UInt8.ofNat b.toNat :: ·) else none
  | _ => none
def b2sV (V : VEnv) (x : Opd) : Option (List UInt8) := match see V x with
  | some .nils => some []
  | some (.sl _ _ e _ cs) => if e = 1 then bytesT cs else none
  | _ => none
theorem bytesT_ok : ∀ {ts : List T} {avs : List AV} {l1 : List Nat} {s : List UInt8}, Dens H F avs ts l1 → bytesT ts = some s → avs.mapM byteA = some s
  | [], avs, l1, s, hd, h => by
    rw [Dens] at hd
    simp only [bytesT, Option.some.injEq] at h
    rw [hd.1, ← h]; rfl
  | t :: ts, avs, l1, s, hd, h => by
    rw [Dens] at hd
    obtain ⟨c, cs', m1, m2, rfl, _, h1, h2⟩ := hd
    unfold bytesT at h
    split at h
    · rename_i h0; cases h0
    · rename_i b us h0
      simp only [List.cons.injEq] at h0
      obtain ⟨rfl, rfl⟩ := h0
      split at h
      · rename_i hb
        obtain ⟨s', hs', rfl⟩ := Option.map_eq_some_iff.1 h
        rw [Den] at h1
        obtain ⟨rfl, _⟩ := h1
        simp only [List.mapM_cons, byteA, if_pos hb, bytesT_ok h2 hs']; rfl
      · simp at h
    · simp at h
theorem b2s_ok {x : Opd} {s : List UInt8} (h : Sta H F env V Lf) (hx : b2sV V x = some s) : Out H F env Lf V (.b2s x) (.v (.str s)) := by
  unfold b2sV at hx
  split at hx
  · rename_i hs
    obtain ⟨ls, hd⟩ := see_ok h hs
    rw [Den] at hd
    simp only [Option.some.injEq] at hx
    subst hx
    refine Out.plain h (v := .str []) (by simp only [heapOp, hd.1]) (by rw [Den]; exact ⟨rfl, rfl⟩)
  · rename_i o y e sk cs hs
    split at hx
    · rename_i he
      subst he
      obtain ⟨ls, hd⟩ := see_ok h hs
      obtain ⟨n, avs, l1, hc, hn, _, hda, _⟩ := sl_cells hd
      have hb := bytesT_ok hda hx
      refine Out.plain h (v := .str s) ?_ (by rw [Den]; exact ⟨rfl, rfl⟩)
      simp only [heapOp]
      cases hv : x.ev env with
      | nils =>
        rw [hv] at hc
        simp only [cellsOf, Option.some.injEq, Prod.mk.injEq] at hc
        rw [← hc.2] at hb
        simp only [List.mapM_nil] at hb
        obtain rfl := Option.some.inj hb
        rfl
      | sl l p m e' z =>
        rw [hv] at hc
        simp only [cellsOf] at hc
        split at hc
        · rename_i he
          subst he
          obtain ⟨vs, h1, h2⟩ := Option.map_eq_some_iff.1 hc
          simp only [Prod.mk.injEq] at h2
          obtain ⟨rfl, rfl⟩ := h2
          rw [Nat.mul_one] at h1
          simp only [h1, Option.bind_some, hb, Option.map_some, if_true]
        · simp at hc
      | _ => rw [hv] at hc; simp [cellsOf] at hc
    · simp at hx
  · simp at hx
/-- All operations that are no calls. -/
def stepV (ks : List Nat) (V : VEnv) (c : COp) : Option (RV × VEnv) :=
  match c with
  | .app e bs s x => (appV V e bs s x).map fun (t, V1) => (.v t, V1)
  | .ex x i => (exV V x i).map fun (t, V1) => (.v t, V1)
  | .b2s x => (b2sV V x).map fun s => (.v (.str s), V)
  | .sls e x lo hi mx => (sliceV V e x lo hi mx).map fun t => (.v t, V)
  | .slx e x lo hi mx => (sliceV V e x lo hi mx).map fun t => (.v t, V)
  | c => opV ks V c
theorem stepV_ok {c : COp} (h : Sta H F env V Lf) (hx : stepV ks V c = some (r, V')) : Out H F env Lf V' c r := by
  cases c with
  | app e bs s x =>
    obtain ⟨⟨t, V1⟩, h1, h2⟩ := Option.map_eq_some_iff.1 hx
    simp only [Prod.mk.injEq] at h2
    obtain ⟨rfl, rfl⟩ := h2
    exact app_ok h h1
  | ex x i =>
    obtain ⟨⟨t, V1⟩, h1, h2⟩ := Option.map_eq_some_iff.1 hx
    simp only [Prod.mk.injEq] at h2
    obtain ⟨rfl, rfl⟩ := h2
    exact ex_ok h h1
  | b2s x =>
    obtain ⟨s, h1, h2⟩ := Option.map_eq_some_iff.1 hx
    simp only [Prod.mk.injEq] at h2
    obtain ⟨rfl, rfl⟩ := h2
    exact b2s_ok h h1
  | sls e x lo hi mx =>
    obtain ⟨t, h1, h2⟩ := Option.map_eq_some_iff.1 hx
    simp only [Prod.mk.injEq] at h2
    obtain ⟨rfl, rfl⟩ := h2
    obtain ⟨v, h3, _, h4⟩ := slice_ok h h1
    exact Out.plain h h3 h4
  | slx e x lo hi mx =>
    obtain ⟨t, h1, h2⟩ := Option.map_eq_some_iff.1 hx
    simp only [Prod.mk.injEq] at h2
    obtain ⟨rfl, rfl⟩ := h2
    obtain ⟨v, _, h3, h4⟩ := slice_ok h h1
    exact Out.plain h h3 h4
  | mv x => exact mv_ok h rfl hx
  | pick c a b => exact pick_ok (ks := ks) h hx
  | len x => exact len_ok (ks := ks) h hx
  | cap x => exact cap_ok (ks := ks) h hx
  | isnil ng x => exact isnil_ok (ks := ks) h hx
  | ld n ag p => exact ld_ok (ks := ks) h hx
  | st n p x => exact st_ok (ks := ks) h hx
  | al zs => exact al_ok (ks := ks) h hx
  | box n x => exact box_ok (ks := ks) h hx
  | fa o x => exact fa_ok (ks := ks) h hx
  | nc x => exact nc_ok (ks := ks) h hx
  | ia e x i => exact ia_ok (ks := ks) h hx
  | fn f xs => exact fn_ok (ks := ks) h hx
  | bld zs ps => exact bld_ok (ks := ks) h hx
  | bsl e n zs ps => exact bsl_ok (ks := ks) h hx
  | mk e bs zs l c => exact mk_ok (ks := ks) h hx
  | _ =>
    simp only [stepV, opV] at hx
    split at hx
    · rename_i a ha
      obtain ⟨t, h1, h2⟩ := Option.map_eq_some_iff.1 hx
      simp only [Prod.mk.injEq] at h2
      obtain ⟨rfl, rfl⟩ := h2
      exact scaV_ok h ha h1
    · simp at hx

end Go.Proofs.YtabmomjfdondnaaH
