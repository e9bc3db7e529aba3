/- Rules for lending, for located values and for slices that slide; functions of the library by hand. -/
import Derived.Test.YtabmomjfdondnaaHn3
set_option linter.unusedVariables false
set_option linter.unusedSimpArgs false
namespace Go.Proofs.YtabmomjfdondnaaH
open Go
variable {x : Cx} {n : Nat} {V V1 : VEnv} {Q : Ex → VEnv → Prop}

theorem Wo.sem {i : Nat} {o : COper} {ops : List (Nat × COper)} {Q : VEnv → Prop} {r : RV} {V1 V2 : VEnv} (hg : gV V o.guard = some true) (hd : dstLt n o.dst = true) (hu : needUs V o = true) (hs : SemOp V o.op V1 r) (hp : putR V1 o.dst r = some V2) (h : Wo x n ops (V2.drops o.ks) Q) : Wo x n ((i, o) :: ops) V Q := by
  obtain ⟨V', h1, h2⟩ := h
  exact ⟨V', .opSem hg hd hu hs hp h1, h2⟩
theorem Wo.lend {k : Nat} {ops : List (Nat × COper)} {Q : VEnv → Prop} {s : Nat} {t : T} (asd : List Nat) (V2 : VEnv) (hs : V.get s = .v t) (hu : t ≠ .und) (hw : (opsWrs (ops.take k)).contains s = false)
    (h : Wo x n (ops.take k) (((unroot s V).set s (.v t.frz)).drops asd) (fun V1 => Unl s t (opsWrs (ops.take k)) asd V V1 V2)) (h2 : Wo x n (ops.drop k) V2 Q) : Wo x n ops V Q := by
  obtain ⟨V1, h3, h4⟩ := h
  obtain ⟨V', h5, h6⟩ := h2
  refine ⟨V', ?_, h6⟩
  have := VJ.lendO (ops2 := ops.drop k) asd hs hu h3 hw h4 h5
  rwa [List.take_append_drop] at this
theorem Wo.rew {i : Nat} {o : COper} {ops : List (Nat × COper)} {Q : VEnv → Prop} {s f : Nat} {xs : List Opd} {avs : List AV} {u : T} (ss : List Nat) (hop : o.op = .callv (.t s) xs) (hs : V.get s = .v (.at (.fn f avs) u)) (hc : AtCaps V avs ss)
    (h : Wo x n ((i, { o with op := .call f (xs ++ ss.map Opd.t) }) :: ops) V Q) : Wo x n ((i, o) :: ops) V Q := by
  obtain ⟨V', h1, h2⟩ := h
  exact ⟨V', .rew hop rfl hs hc h1, h2⟩
attribute [simp] Unl opsWrs AtCaps

/-! ### Operations on slices that slide -/
/-- A slice that is owned slides: its first elements are given up. -/
theorem sem_slide {e : Nat} {x lo : Opd} {cs : List T} {a : Nat} {V2 : VEnv} (ht : takeV V x = some (.slo e cs, V2)) (hl : sca V lo = .int .i64 a) (ha : a * e ≤ cs.length) : SemOp V (.sls e x (some lo) none none) V2 (.v (.slo e (cs.drop (a * e)))) := by
  intro H F env Lf h
  have hev : lo.ev env = .int .i64 a := sca_ev h hl (by simp)
  obtain ⟨ls, Lf', k1, p1⟩ := take_ok h Lo.nil ht
  have hlo := k1.lo
  simp only [List.nil_append] at hlo
  have hd := dens_one.1 hlo.den
  have htr : ∀ {m : List Nat}, (∀ l ∈ m, l ∈ ls) → Tr H F (Pl Lf) H F (fun l => Pl Lf' l ∨ l ∈ m) := fun hm =>
    ⟨Nat.le_refl _, fun _ _ _ => rfl, fun l hq => .inl (hq.elim (fun ⟨q, hq⟩ => ⟨q, k1.sub q l hq⟩) fun hq => p1 l (hm l hq)), fun _ h => h, fun _ h => .inl h⟩
  rw [Den] at hd
  rcases hd with ⟨rfl, hv, hls, he⟩ | ⟨l, o, m, avs, pre, l1, hv, he, hm, hl2, h4, h5, h6, h7, h8, h9⟩
  · have ha0 : a = 0 := by
      simp only [List.length_nil, Nat.le_zero_eq] at ha
      rcases Nat.mul_eq_zero.1 ha with h | h <;> omega
    subst ha0
    have hb : obnd env 0 0 (some lo) = some 0 := by simp only [obnd, hev, bnd]; rfl
    rcases hv with hv | ⟨l, o, hv⟩
    · refine ⟨.nils, H, Lf', [], ?_, k1.st, htr (by simp), Lo.plain ?_⟩
      · simp only [heapOp, pureOp, hv, hb]; rfl
      · rw [Den]; exact .inl ⟨by simp, .inl rfl, rfl, he⟩
    · refine ⟨.sl l (o + 0 * e) 0 e true, H, Lf', [], ?_, k1.st, htr (by simp), Lo.plain ?_⟩
      · simp only [heapOp, pureOp, hv]
        rw [if_neg (by omega)]
        simp only [obnd] at hb
        simp only [hb, obnd]
        simp
      · rw [Den]; exact .inl ⟨by simp, .inr ⟨_, _, rfl⟩, rfl, he⟩
  · have hcl := h9.length
    have ham : a ≤ m := by
      rw [← hcl, hm] at ha
      exact Nat.le_of_mul_le_mul_right ha he
    have hb : obnd env m 0 (some lo) = some a := by simp only [obnd, hev, bnd]; rw [if_pos (by omega)]; simp
    have hcs : cs = cs.take (a * e) ++ cs.drop (a * e) := (List.take_append_drop _ _).symm
    rw [hcs] at h9
    obtain ⟨a1, a2, m1, m2, rfl, rfl, d1, d2⟩ := h9.split
    have hl1 : a1.length = a * e := by rw [d1.length, List.length_take]; omega
    have hnd := hlo.nd
    have hdj := hlo.dj
    rw [h8] at hnd hdj
    refine ⟨.sl l (o + a * e) (m - a) e false, H, Lf', l :: m2, ?_, k1.st, htr (by intro k hk; rw [h8]; simp at hk ⊢; grind), ?_, ?_, ?_⟩
    · simp only [heapOp, pureOp, hv]
      rw [if_neg (by omega)]
      simp only [obnd] at hb
      simp only [obnd, hb]
      simp
    · rw [dens_one, Den]
      refine .inr ⟨l, o + a * e, m - a, a2, pre ++ a1, m2, rfl, he, ?_, hl2, h4, h5, by simpa using h6, by simp; omega, rfl, d2⟩
      rw [List.length_append, hl1] at hm
      rw [Nat.sub_mul]; omega
    · refine List.Sublist.nodup ?_ hnd
      exact List.Sublist.cons_cons _ (List.sublist_append_right _ _)
    · exact fun s' k hk => hdj s' k (by simp at hk ⊢; grind)
theorem TLe.nilslo {e : Nat} (he : 0 < e) : TLe .nils (.slo e []) := by
  intro H F v ls hd
  rw [Den] at hd
  rw [Den]
  exact .inl ⟨rfl, .inl hd.1, hd.2, he⟩
/-- A list that slides. -/
theorem sem_slideL {α : Type} {E : En α} {x lo : Opd} {l v : List α} {i n : Int} {V2 : VEnv} (h : cutL l i n = some v) (hn : n = l.length) (ht : takeV V x = some (.slo E.w (arr E true l), V2)) (hl : sca V lo = .int .i64 i) : SemOp V (.sls E.w x (some lo) none none) V2 (.v (.slo E.w (arr E true v))) := by
  obtain ⟨h1, h2, h3, h4⟩ := cut_some h
  obtain ⟨a, rfl⟩ : ∃ a : Nat, i = a := ⟨i.toNat, by omega⟩
  have := sem_slide (V := V) (a := a) ht hl (by rw [arr_len]; exact Nat.mul_le_mul_right _ (by omega))
  rw [arr_drop] at this
  rw [← h4, hn]
  simpa using this
/-- How many elements a sliding slice has. -/
theorem sem_slen {e s : Nat} {x : Opd} {cs : List T} (hx : x = .t s) (hs : see V (.t s) = some (.slo e cs)) : SemOp V (.len x) V (.v (.int .i64 (cs.length / e : Nat))) := by
  intro H F env Lf h
  subst hx
  obtain ⟨ls, hd⟩ := see_ok h hs
  rw [Den] at hd
  rcases hd with ⟨rfl, hv, _, he⟩ | ⟨l, o, m, avs, pre, l1, hv, he, hm, _, _, _, _, _, _, h9⟩
  · have hz : ((([] : List T).length / e : Nat) : Int) = 0 := by simp
    rw [hz]
    rcases hv with hv | ⟨l, o, hv⟩
    · exact Out.plain h (v := .int .i64 0) (by simp only [heapOp, pureOp, hv, lenA]; rfl) (by rw [Den]; exact ⟨rfl, rfl⟩)
    · exact Out.plain h (v := .int .i64 0) (by simp only [heapOp, pureOp, hv, lenA]; rfl) (by rw [Den]; exact ⟨rfl, rfl⟩)
  · refine Out.plain h (v := .int .i64 m) (by simp only [heapOp, pureOp, hv, lenA]; rfl) ?_
    have hq : cs.length / e = m := by rw [← h9.length, hm, Nat.mul_div_cancel _ he]
    rw [hq]
    simp [Den]
theorem sem_slenL {α : Type} {E : En α} {x : Opd} {l : List α} (hs : see V x = some (.slo E.w (arr E true l))) : SemOp V (.len x) V (.v (.int .i64 l.length)) := by
  cases x with
  | c a =>
    exfalso
    simp only [see] at hs
    unfold T.ofAV at hs
    split at hs <;> simp at hs
  | t s =>
    have := sem_slen (V := V) (s := s) rfl hs
    rwa [arr_len, Nat.mul_div_cancel _ E.hp] at this
/-- What is owned may slide. -/
theorem TLe.slo {y : Bool} {e : Nat} {cs cs1 : List T} (h : cs = cs1) : TLe (.sl true y e 0 cs) (.slo e cs1) := by
  subst h
  intro H F v ls hd
  rw [Den] at hd
  rw [Den]
  rcases hd with ⟨h1, rfl, hv, rfl, he⟩ | ⟨l, o, n, avs, rfl, he, hn, hl, hd⟩
  · exact .inl ⟨rfl, hv, rfl, he⟩
  · rcases hd with ⟨_, rfl, h4, h5, ⟨rest, h6, h7⟩, l1, rfl, h8⟩ | ⟨h1, _⟩
    · have : rest = [] := List.eq_nil_of_length_eq_zero (by omega)
      subst this
      exact .inr ⟨l, 0, n, avs, [], l1, rfl, he, hn, hl, h4, h5, by simpa using h6, rfl, rfl, h8⟩
    · cases h1
/-- Appending to a slice that slides. -/
theorem sem_sapp {e bs : Nat} {s x : Opd} {V1 V2 : VEnv} {ys cs : List T} (hm : moreV V e x = some (ys, V1)) (ht : takeV V1 s = some (.slo e cs, V2)) (hy0 : ys.length ≠ 0) (hg : ¬ (e = 0 ∨ bs = 0 ∨ ys.all T.one = false))
    (hroom : (cs.length / e + ys.length / e) * bs ≤ room) : SemOp V (.app e bs s x) V2 (.v (.sl true false e 0 (cs ++ ys))) := by
  intro H F env Lf h
  obtain ⟨n, avs, l1, Lf1, hcell, hlen, k1, p1⟩ := more_ok h hm
  have hyl : ys.length = avs.length := k1.lo.den.length.symm
  obtain ⟨l2, Lf2, k2, p2⟩ := take_ok k1.st k1.lo ht
  obtain ⟨b1, b2, n1, n2, hb, hn, e1, e2⟩ := k2.lo.den.split
  have hbl : b1.length = avs.length := by rw [e1.length, hyl]
  obtain ⟨rfl, rfl⟩ := List.append_inj hb hbl.symm
  have e2' := dens_one.1 e2
  have hndl : (n1 ++ n2).Nodup := by rw [← hn]; exact k2.lo.nd
  have hdjl : ∀ s l, l ∈ n1 ++ n2 → l ∉ Lf2 s := by rw [← hn]; exact k2.lo.dj
  have hsub : ∀ s l, l ∈ Lf2 s → l ∈ Lf s := fun s l hm => k1.sub s l (k2.sub s l hm)
  have hpl : ∀ l ∈ n1 ++ n2, ∃ s, l ∈ Lf s := by
    intro l hm
    rw [← hn] at hm
    rcases List.mem_append.1 hm with hm | hm
    · exact p1 l hm
    · obtain ⟨s, hs⟩ := p2 l hm; exact ⟨s, k1.sub s l hs⟩
  have hnd2 : n2.Nodup := (List.nodup_append.1 hndl).2.1
  have hdj2 : ∀ s l, l ∈ n2 → l ∉ Lf2 s := fun s l hm => hdjl s l (by simp [hm])
  obtain ⟨hal, hepos⟩ : avs.length = n * e ∧ 0 < e := by
    rcases hlen with ⟨_, h2⟩ | h2
    · rw [h2] at hyl; simp at hyl; exact absurd (by simp [hyl]) hy0
    · exact h2
  have hk : ys.length / e = n := by rw [hyl, hal, Nat.mul_div_cancel _ hepos]
  have hn0 : n ≠ 0 := by rintro rfl; rw [hal] at hyl; simp at hyl; exact hy0 (by simp [hyl])
  have hbs : bs ≠ 0 := fun e => hg (.inr (.inl e))
  have hones : ys.all T.one = true := by
    cases hh : ys.all T.one with
    | true => rfl
    | false => exact absurd (.inr (.inr hh)) hg
  have hao : avs.all AV.one = true := e1.ones hones
  have hgg : ¬ (e = 0 ∨ bs = 0 ∨ (!(avs.all AV.one)) = true) := by
    rw [hao]; simp; omega
  rw [hk] at hroom
  rw [Den] at e2'
  rcases e2' with ⟨rfl, hs0, rfl, _⟩ | ⟨l, p, n', cavs, pre, l3, hs, _, hn', hl, hst, hnF, hc1, hc2, rfl, hdc⟩
  · simp only [List.length_nil, Nat.zero_div, Nat.zero_add] at hroom
    obtain ⟨a1, a2, a3, a4, a5, a6, a7, a8⟩ := alloc_ok (Lf := Lf) (l1 := n1) ⟨k2.st, ⟨e1, (List.nodup_append.1 hndl).1, fun s l hm => hdjl s l (by simp [hm])⟩, hsub⟩ fun l hm => hpl l (by simp [hm])
    refine ⟨.sl H.sz 0 n e false, H.new avs, Lf2, H.sz :: n1, ?_, a1, a8, dens_one.2 ?_, a6, a7⟩
    · rcases hs0 with hs | ⟨l, p, hs⟩
      · simp only [heapOp, hcell, Option.bind_some, if_neg hn0, if_neg hgg, hs, if_pos hroom]
      · simp only [heapOp, hcell, Option.bind_some, if_neg hn0, if_neg hgg, hs]
        rw [if_neg (by rw [Nat.zero_add]; omega : ¬ (e ≠ e ∨ (0 + n) * bs > room))]
        simp [Heap.rd0]
    · rw [List.nil_append, Den]
      exact .inr ⟨H.sz, 0, n, avs, by simp, hepos, hal, a3, .inl ⟨rfl, rfl, by rw [a4], a5, ⟨[], by rw [a4]; simp, by simp⟩, n1, rfl, a2⟩⟩
  · have hcl : cs.length / e = n' := by rw [← hdc.length, hn', Nat.mul_div_cancel _ hepos]
    rw [hcl] at hroom
    have hrd : H.rd l p (n' * e) = some cavs := by
      unfold Heap.rd
      rw [if_pos ⟨by rw [hst]; simp, hl, by rw [hc1]; simp; omega⟩, hc1, ← hc2, List.drop_left, ← hn', List.take_length]
    have hpre : heapOp env H (.app e bs s x) = (if p + (n' + n) * e ≤ (H.get l).cells.length then (H.wr l (p + n' * e) avs).map fun H' => (AV.sl l p (n' + n) e false, H')
        else if p + n' * e = (H.get l).cells.length ∧ (H.get l).st = .own then some (.sl H.sz 0 (n' + n) e false, (H.kill l).new (cavs ++ avs)) else none) := by
      simp only [heapOp, hcell, Option.bind_some, if_neg hn0, if_neg hgg, hs]
      rw [if_neg (by omega : ¬ (e ≠ e ∨ (n' + n) * bs > room))]
      simp only [rd0_of hrd, Option.bind_some, Bool.false_eq_true, if_false]
    have hclen : (H.get l).cells.length = p + n' * e := by rw [hc1, List.length_append, hn', hc2]
    have hln1 : l ∉ n1 := by
      intro hm
      exact (List.nodup_append.1 hndl).2.2 l hm l (by simp) rfl
    have hll3 : l ∉ l3 := (List.nodup_cons.1 hnd2).1
    have hlL : ∀ s, l ∉ Lf2 s := fun s => hdj2 s l (by simp)
    have hnofit : ¬ (p + (n' + n) * e ≤ (H.get l).cells.length) := by
      rw [hclen, Nat.add_mul]
      have : 0 < n * e := Nat.mul_pos (by omega) hepos
      omega
    have hH : ∀ k, k ≠ l → k < H.sz → ((H.kill l).new (cavs ++ avs)).get k = H.get k := fun k hk hlt => by simp [Heap.new, Heap.kill, hk, Nat.ne_of_lt hlt]
    have hFs : ¬ F H.sz := fun hf => Nat.lt_irrefl _ (k2.st.fz _ hf).1
    have hag : ∀ ls', (∀ k ∈ ls', k ≠ l ∧ k < H.sz ∧ ¬ F k) → Agree H ((H.kill l).new (cavs ++ avs)) F F ls' := fun ls' hls' =>
      ⟨by simp [Heap.new, Heap.kill], fun k hk => ⟨hH k (fun e => by subst e; exact hnF hk) (k2.st.fz k hk).1, hk⟩, fun k hk => ⟨hH k (hls' k hk).1 (hls' k hk).2.1, (hls' k hk).2.2⟩⟩
    have hown : ∀ s k, k ∈ Lf2 s → k < H.sz ∧ ¬ F k := by
      intro s k hk
      have hsr := k2.st.sr s
      cases hx : V2.get s with
      | v t => rw [hx] at hsr; have := Den.owned hsr k hk; exact ⟨this.1, this.2.2⟩
      | al | ref | adr | clo => rw [hx] at hsr; have := hsr.1; rw [this] at hk; simp at hk
    have hlow : ∀ k ∈ l3 ++ n1, k < H.sz ∧ ¬ F k ∧ k ≠ l := by
      intro k hk
      rcases List.mem_append.1 hk with hk | hk
      · exact ⟨(hdc.owned k hk).1, (hdc.owned k hk).2.2, fun e => by subst e; exact hll3 hk⟩
      · exact ⟨(e1.owned k hk).1, (e1.owned k hk).2.2, fun e => by subst e; exact hln1 hk⟩
    refine ⟨.sl H.sz 0 (n' + n) e false, _, Lf2, H.sz :: (l3 ++ n1), by rw [hpre, if_neg hnofit, if_pos ⟨by rw [hclen], hst⟩], k2.st.heap (fun s => hag _ fun k hk => ⟨fun e => by subst e; exact hlL s hk, hown s k hk⟩) (fun k hk => ?_), ⟨by simp [Heap.new, Heap.kill], fun k hlt hk => hH k (fun e => ?_) hlt, fun k hk => ?_, fun _ h => h, fun _ h => .inl h⟩, dens_one.2 ?_, ?_, ?_⟩
    · rw [hH k (fun e => by subst e; exact hnF hk) (k2.st.fz k hk).1]
      exact ⟨by simp [Heap.new, Heap.kill]; exact Nat.lt_succ_of_lt (k2.st.fz k hk).1, (k2.st.fz k hk).2⟩
    · subst e; exact hk (hpl k (by simp))
    · rcases hk with ⟨s, hk⟩ | hk
      · exact .inl ⟨s, hsub s k hk⟩
      · rcases List.mem_cons.1 hk with rfl | hk
        · exact .inr (Nat.le_refl _)
        · exact .inl (hpl k (by simp at hk ⊢; grind))
    · rw [Den]
      refine .inr ⟨H.sz, 0, n' + n, cavs ++ avs, by simp, hepos, by rw [List.length_append, hn', hal, Nat.add_mul], by simp [Heap.new, Heap.kill], .inl ⟨rfl, rfl, by simp [Heap.new, Heap.kill], hFs, ⟨[], by simp [Heap.new, Heap.kill], by simp⟩, l3 ++ n1, rfl, ?_⟩⟩
      exact (hdc.agree (hag _ fun k hk => by have := hlow k (by simp [hk]); exact ⟨this.2.2, this.1, this.2.1⟩)).append (e1.agree (hag _ fun k hk => by have := hlow k (by simp [hk]); exact ⟨this.2.2, this.1, this.2.1⟩))
    · refine List.nodup_cons.2 ⟨fun hm => Nat.lt_irrefl _ (hlow _ hm).1, ?_⟩
      simp only [List.nodup_append, List.nodup_cons, List.mem_append, List.mem_cons] at hndl ⊢
      grind
    · intro s k hk hk'
      rcases List.mem_cons.1 hk with rfl | hk
      · exact Nat.lt_irrefl _ (hown s _ hk').1
      · exact hdjl s k (by simp at hk ⊢; grind) hk'
/-! ### slices.Grow of nil -/
theorem sem_appm {e bs : Nat} {zs : List AV} {zt : List T} {s x : Opd} {n : Int} (hs : see V s = some .nils) (hx : sca V x = .int .i64 n) (hz : ofAVs zs = some zt) (hl : zs.length = e) (he : 0 < e) (hb : 0 < bs) (h0 : 0 < n) (hr : n.toNat * bs ≤ room) :
    SemOp V (.appm e bs zs s x) V (.v (.sl true false e 0 (List.replicate n.toNat zt).flatten)) := by
  intro H F env Lf h
  have hev : x.ev env = .int .i64 n := sca_ev h hx (by simp)
  obtain ⟨ls, hd⟩ := see_ok h hs
  rw [Den] at hd
  have hzd := (ofAVs_ok (H := H) (F := F) hz).1
  have hfl := dens_flat hzd n.toNat
  obtain ⟨a1, a2, a3, a4, a5, a6, a7, a8⟩ := alloc_ok (Took.nil h hfl) (by simp)
  refine ⟨.sl H.sz 0 n.toNat e false, H.new (List.replicate n.toNat zs).flatten, Lf, [H.sz], ?_, a1, a8, dens_one.2 ?_, a6, a7⟩
  · simp only [heapOp, hd.1, hev, if_pos (show 0 < n ∧ n.toNat * bs ≤ room ∧ zs.length = e ∧ 0 < e ∧ 0 < bs from ⟨h0, hr, hl, he, hb⟩)]
  · rw [Den]
    exact .inr ⟨H.sz, 0, n.toNat, _, by simp, he, by rw [flat_len, hl], a3, .inl ⟨rfl, rfl, by rw [a4], a5, ⟨[], by rw [a4]; simp, by simp⟩, [], rfl, a2⟩⟩
/-- The empty front of what is owned: all its room is left. -/
theorem sem_front {e s k : Nat} {hi : Opd} {y : Bool} {cs : List T} (hs : V.get s = .v (.sl true y e 0 cs)) (hh : sca V hi = .int .i64 0) (hk : cs.length = k * e) (hk0 : 0 < k) (he : 0 < e) : SemOp V (.sls e (.t s) none (some hi) none) (V.drop s) (.v (.sl true true e k [])) := by
  intro H F env Lf h
  have hev : hi.ev env = .int .i64 0 := sca_ev h hh (by simp)
  have hd := h.den hs
  have hsub : ∀ s' l, l ∈ upL Lf s [] s' → l ∈ Lf s' := by
    intro s' l hm
    unfold upL at hm
    split at hm
    · simp at hm
    · exact hm
  rw [Den] at hd
  rcases hd with ⟨_, rfl, _⟩ | ⟨l, o, m, avs, hv, _, hm, hl2, hd⟩
  · have := Nat.mul_pos hk0 he
    simp at hk; omega
  · rcases hd with ⟨_, h3, h4, h5, ⟨rest, h6, h7⟩, l1, h8, h9⟩ | ⟨h1, _⟩
    · subst h3
      have hmk : m = k := by
        have := h9.length
        rw [hm, hk] at this
        exact Nat.eq_of_mul_eq_mul_right he this
      subst hmk
      refine ⟨.sl l 0 0 e false, H, upL Lf s [], [l], ?_, h.drop s env rfl (fun _ _ => rfl), ⟨Nat.le_refl _, fun _ _ _ => rfl, fun k hk => .inl (hk.elim (fun ⟨q, hq⟩ => ⟨q, hsub q k hq⟩) fun hq => ⟨s, ?_⟩), fun _ h => h, fun _ h => .inl h⟩, dens_one.2 ?_, by simp, ?_⟩
      · simp only [heapOp, pureOp, Opd.ev, hv]
        rw [if_neg (by omega)]
        simp only [obnd, hev, bnd]
        simp
      · simp only [List.mem_singleton] at hq; subst hq; rw [h8]; simp
      · rw [Den]
        have hr : rest = [] := List.eq_nil_of_length_eq_zero (by omega)
        subst hr
        exact .inr ⟨l, 0, 0, [], rfl, he, by simp, hl2, .inl ⟨rfl, rfl, h4, h5, ⟨avs, by simpa using h6, hm⟩, [], rfl, by rw [Dens]; exact ⟨rfl, rfl⟩⟩⟩
      · intro s' k hk hk'
        simp only [List.mem_singleton] at hk; subst hk
        unfold upL at hk'
        split at hk'
        · simp at hk'
        · rename_i hne
          exact hne (h.dj _ _ _ (by rw [h8]; simp) hk')
    · cases h1
def growB (e bs : Nat) (zs : List AV) : CCode :=
  (.seq
   (.reg false [
     (0, ⟨some 4, .mv (.c (.nils)), none, [], [4]⟩)])
   (.seq
    (.seq
     (.reg false [
       (0, ⟨some 5, .mv (.t 1), none, [], []⟩),
       (1, ⟨some 6, .bin .lss (.t 5) (.c (.int .i64 (0))), none, [], [5]⟩)])
     (.cond (.t 6)
      (.seq
       (.kill [6])
       (.reg false [
         (0, ⟨some 7, .fail, none, [], [7]⟩),
         (1, ⟨none, .fail, none, [], []⟩)]))
      (.seq
       (.kill [6])
       .skip)))
    (.seq
     (.seq
      (.reg false [
        (0, ⟨some 8, .mv (.t 1), none, [], [1]⟩),
        (1, ⟨some 9, .mv (.t 0), none, [], []⟩),
        (2, ⟨some 10, .cap (.t 9), none, [], [9]⟩),
        (3, ⟨some 11, .mv (.t 0), none, [], []⟩),
        (4, ⟨some 12, .len (.t 11), none, [], [11]⟩),
        (5, ⟨some 13, .bin .sub (.t 10) (.t 12), none, [], [10, 12]⟩),
        (6, ⟨some 14, .bin .sub (.t 8) (.t 13), none, [], [8, 13]⟩),
        (7, ⟨some 1, .mv (.t 14), none, [], [14]⟩)])
      (.seq
       (.reg false [
         (0, ⟨some 15, .mv (.t 1), none, [], []⟩),
         (1, ⟨some 16, .bin .gtr (.t 15) (.c (.int .i64 (0))), none, [], [15]⟩)])
       (.cond (.t 16)
        (.seq
         (.kill [16])
         (.reg false [
           (0, ⟨some 17, .mv (.t 0), none, [], []⟩),
           (1, ⟨some 18, .mv (.t 0), none, [], []⟩),
           (2, ⟨some 19, .cap (.t 18), none, [], [18]⟩),
           (3, ⟨some 20, .sls e (.t 17) none (some (.t 19)) none, none, [], [17, 19]⟩),
           (4, ⟨some 21, .mv (.t 1), none, [], [1]⟩),
           (5, ⟨some 22, .appm e bs zs (.t 20) (.t 21), none, [], [20, 21]⟩),
           (6, ⟨some 23, .mv (.t 0), none, [], [0]⟩),
           (7, ⟨some 24, .len (.t 23), none, [], [23]⟩),
           (8, ⟨some 25, .sls e (.t 22) none (some (.t 24)) none, none, [], [22, 24]⟩),
           (9, ⟨some 0, .mv (.t 25), none, [], [25]⟩)]))
        (.seq
         (.kill [1, 16])
         .skip))))
     (.seq
      (.reg false [
        (0, ⟨some 26, .mv (.t 0), none, [], [0]⟩),
        (1, ⟨some 4, .mv (.t 26), none, [], [26]⟩)])
      .ret))))
/-- Room for so many elements. -/
def growN (bs : Nat) (n : Int) : Option Nat := if 0 ≤ n ∧ n.toNat * bs ≤ room then some n.toNat else none
theorem ca_grow {x : Cx} {f e bs : Nat} {zs : List AV} {zt : List T} (hf : x.fns f = some ⟨27, 2, [.t 4], growB e bs zs⟩) (hio : x.io f = []) (hz : ofAVs zs = some zt) (hl : zs.length = e) (he : 0 < e) (hb : 0 < bs) {n : Int} {k : Nat} (hk : growN bs n = some k) :
    VJx x (.ca f [.nils, .int .i64 n] (.sl true true e k []) []) := by
  unfold growN at hk
  split at hk
  · rename_i hc
    obtain ⟨h0, hr⟩ := hc
    simp only [Option.some.injEq] at hk
    subst hk
    have hmax : n ≤ 140737488355328 := by
      have : n.toNat * 1 ≤ n.toNat * bs := Nat.mul_le_mul_left _ hb
      unfold room at hr; omega
    refine ca_of hf rfl (by decide) (by rw [hio]; rfl) ?_
    refine Wc.start (V1 := [(0, .v .nils), (1, .v (.int .i64 n))]) (by simp) ?_
    refine Wc.seq (Wc.evs (by conv => lhs; simp) (Wo.nil ?_))
    refine Wc.seq (Wc.seq (Wc.evs (by conv => lhs; simp) (Wo.nil ?_)))
    refine Wc.condF' (t := _) (by conv => lhs; simp) (by simpa using h0) ?_
    refine Wc.seq (Wc.kil (by conv => lhs; simp) (Wc.skip ?_))
    refine Wc.seq (Wc.seq (Wc.evs (by conv => lhs; simp) (Wo.nil ?_)))
    refine Wc.seq (Wc.evs (by conv => lhs; simp) (Wo.nil ?_))
    have hw : IntKind.i64.wrap n = n := by rw [IntKind.wrap_i64]; omega
    by_cases hn : 0 < n
    · refine Wc.condT' (t := _) (by conv => lhs; simp) (by simpa [hw] using hn) ?_
      refine Wc.seq (Wc.kil (by conv => lhs; simp) ?_)
      refine Wc.evk 5 (by conv => lhs; simp [hw]) ?_
      refine Wo.sem (by simp) (by simp) (by simp) (sem_appm (n := n) (zt := zt) (by simp) (by simp) hz hl he hb hn hr) (by conv => lhs; simp) ?_
      refine Wo.evk 2 (by conv => lhs; simp) ?_
      have hzl : zt.length = e := by
        rw [← hl]
        have : ∀ {as : List AV} {ts : List T}, ofAVs as = some ts → ts.length = as.length := by
          intro as
          induction as with
          | nil => intro ts h; simp only [ofAVs, Option.some.injEq] at h; subst h; rfl
          | cons a as ih =>
            intro ts h
            simp only [ofAVs] at h
            split at h
            · rename_i t ts' h1 h2
              simp only [Option.some.injEq] at h; subst h
              simp [ih h2]
            · simp at h
        exact this hz
      refine Wo.sem (by simp) (by simp) (by simp) (sem_front (k := n.toNat) (y := false) (cs := (List.replicate n.toNat zt).flatten) (by simp) (by simp) (by rw [flat_len, hzl]) (by omega) he) (by conv => lhs; simp) ?_
      refine Wo.evs (by conv => lhs; simp) (Wo.nil ?_)
      refine Wc.seq (Wc.evs (by conv => lhs; simp) (Wo.nil ?_))
      exact Wc.ret (res_of (.inr rfl) ⟨_, _, _, by conv => lhs; simp, by (conv => lhs; simp [hio, List.range, List.range.loop]) <;> rfl, rfl⟩)
    · have hn0 : n = 0 := by omega
      subst hn0
      refine Wc.condF' (t := _) (by conv => lhs; simp) (by simp [hw]) ?_
      refine Wc.seq (Wc.kil (by conv => lhs; simp) (Wc.skip ?_))
      refine Wc.seq (Wc.evs (by conv => lhs; simp) (Wo.nil ?_))
      refine Wc.gh (vle_co (s := 4) (t1 := .sl true true e 0 []) rfl (by simp) (TLe.nil rfl he) (by conv => lhs; simp)) ?_
      exact Wc.ret (res_of (.inr rfl) ⟨_, _, _, by conv => lhs; simp, by (conv => lhs; simp [hio, List.range, List.range.loop]) <;> rfl, rfl⟩)
  · simp at hk
end Go.Proofs.YtabmomjfdondnaaH
namespace Go.Proofs.YtabmomjfdondnaaH
/-- Appending into room that is there. -/
def apps {α : Type} (bs : Nat) (l : List α) (sk : Nat) (l' : List α) : Option (List α × Nat) := if l'.length ≤ sk ∧ (l.length + l'.length) * bs ≤ room then some (l ++ l', sk - l'.length) else none
theorem appT_sk {α : Type} {E : En α} {b b' y : Bool} {bs sk : Nat} {l l' : List α} {v : List α × Nat} (h : apps bs l sk l' = some v) (hb : bs ≠ 0) (he : arr E b' l' = arr E b l') : appT E.w bs (.sl true y E.w sk (arr E b l)) (arr E b' l') = some (.sl true y E.w v.2 (arr E b v.1)) := by
  unfold apps at h
  split at h
  · rename_i hc
    obtain ⟨h1, h2⟩ := hc
    simp only [Option.some.injEq] at h
    subst h
    rw [he]
    have hw := E.hp
    unfold appT
    by_cases h0 : l' = []
    · subst h0; simp
    · have hl : 0 < l'.length := List.length_pos_iff.2 h0
      have e1 : (arr E b l').length / E.w = l'.length := by rw [arr_len, Nat.mul_div_cancel _ hw]
      have e2 : (arr E b l).length / E.w = l.length := by rw [arr_len, Nat.mul_div_cancel _ hw]
      have hne : ¬ ((arr E b l').length = 0) := by
        rw [arr_len]
        have := Nat.mul_pos hl hw
        omega
      have hg : ¬ (E.w = 0 ∨ bs = 0 ∨ (arr E b l').all T.one = false) := by
        rw [arr_ones]; simp; omega
      rw [if_neg hne, if_neg hg]
      simp only [e1, e2, true_and]
      rw [if_pos h2, if_pos h1, arr_app]
  · simp at h
/-- No room is left. -/
def nsk (n : Nat) : Option Unit := if n = 0 then some () else none
theorem nsk_some {n : Nat} {u : Unit} (h : nsk n = some u) : n = 0 := by
  unfold nsk at h
  split at h
  · assumption
  · simp at h
/-- Appending to a list that slides. -/
theorem sem_sappL {V V1 V2 : VEnv} {α : Type} {E : En α} {bs : Nat} {b' : Bool} {s x : Opd} {l l' v : List α} (h : app bs l l' = some v) (hne : l' ≠ []) (hb : bs ≠ 0) (he : arr E b' l' = arr E true l') (hm : moreV V E.w x = some (arr E b' l', V1)) (ht : takeV V1 s = some (.slo E.w (arr E true l), V2)) :
    SemOp V (.app E.w bs s x) V2 (.v (.sl true false E.w 0 (arr E true v))) := by
  have hw := E.hp
  have hl : 0 < l'.length := List.length_pos_iff.2 hne
  unfold app at h
  split at h
  · rename_i hc
    have hr : (l.length + l'.length) * bs ≤ room := by omega
    simp only [Option.some.injEq] at h
    subst h
    rw [← arr_app, ← he]
    refine sem_sapp hm ht ?_ ?_ ?_
    · rw [arr_len]; have := Nat.mul_pos hl hw; omega
    · rw [arr_ones]; simp; omega
    · rw [arr_len, arr_len, Nat.mul_div_cancel _ hw, Nat.mul_div_cancel _ hw]; exact hr
  · simp at h
end Go.Proofs.YtabmomjfdondnaaH
