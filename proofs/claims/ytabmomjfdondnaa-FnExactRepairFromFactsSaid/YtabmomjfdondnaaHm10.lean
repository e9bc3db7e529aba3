/- Regions whose order is open, the theorem. -/
import Derived.Test.YtabmomjfdondnaaHm9
set_option linter.unusedVariables false
set_option linter.unusedSimpArgs false
namespace Go.Proofs.YtabmomjfdondnaaH
open Go

/-! ### What comes before what -/
def ancStep (tbl : List Nat) (o : Oper) : Nat := o.after.toList.foldl (fun s e => if Region.binds .any e then s ||| 2 ^ e.on ||| tbl.getD e.on 0 else s) 0
def ancTbl : List Oper → List Nat → List Nat
  | [], tbl => tbl
  | o :: os, tbl => ancTbl os (tbl ++ [ancStep tbl o])
def anc (tbl : List Nat) (i j : Nat) : Bool := (tbl.getD i 0).testBit j

def isOther : COp → Bool
  | .st .. | .app .. | .appm .. | .cpy .. | .clr .. | .call .. | .callv .. | .slx .. | .b2s .. | .fail => true
  | _ => false
def rds (o : COper) : List Nat := o.op.slots ++ gslots o.guard

/-- Of two operations, the first ahead of the second in the abstract run. -/
def pairOk (tbl : List Nat) (p q : Nat × COper) : Bool :=
  p.1 != q.1 && (!isOther p.2.op || anc tbl q.1 p.1) &&
  (match p.2.op with
    | .ld n _ (.t s) => (!isOther q.2.op || anc tbl q.1 p.1 || q.2.us.contains (s, n)) && q.2.dst != some s
    | .ld _ _ (.c _) => false
    | _ => true) &&
  (match p.2.dst with
    | some d => q.2.dst != some d && (!(rds q.2).contains d || anc tbl q.1 p.1)
    | none => true) &&
  (match q.2.dst with
    | some d => !(rds p.2).contains d || anc tbl q.1 p.1
    | none => true)
def pairsOk (tbl : List Nat) : List (Nat × COper) → Bool
  | [] => true
  | p :: rest => rest.all (pairOk tbl p) && pairsOk tbl rest
/-- What an operation waits for stands ahead of it. -/
def topoOk (ops : Array Oper) : List Nat → List (Nat × COper) → Bool
  | _, [] => true
  | seen, p :: rest => (match ops[p.1]? with
    | some o => o.after.toList.all fun e => !Region.binds .any e || seen.contains e.on
    | none => false) && topoOk ops (p.1 :: seen) rest
def oneOk (p : Nat × COper) : Bool :=
  match p.2.op with
  | .ld _ _ (.t s) => p.2.dst != some s
  | .ld _ _ (.c _) => false
  | _ => true
def drawChk (P : Program) (ops : Array Oper) (L : List (Nat × COper)) : Bool :=
  L.all (opMatch P ops) && topoOk ops [] L && L.all oneOk && pairsOk (ancTbl ops.toList []) L && (List.range ops.size).all fun i => L.any fun p => p.1 == i

theorem pairsOk_at {tbl : List Nat} : ∀ {L : List (Nat × COper)}, pairsOk tbl L = true → ∀ p q, p < q → ∀ (hq : q < L.length) (hp : p < L.length), pairOk tbl L[p] L[q] = true
  | [], _, p, q, _, hq, _ => by simp at hq
  | x :: L, h, 0, q + 1, _, hq, _ => by
    simp only [pairsOk, Bool.and_eq_true] at h
    exact (List.all_eq_true.1 h.1) _ (List.getElem_mem _)
  | x :: L, h, p + 1, q + 1, hlt, hq, hp => by
    simp only [pairsOk, Bool.and_eq_true] at h
    exact pairsOk_at h.2 p q (by omega) (by simpa using hq) (by simpa using hp)
  | x :: L, h, 0, 0, hlt, _, _ => by omega
  | x :: L, h, p + 1, 0, hlt, _, _ => by omega

/-- The table tells true: what it calls an ancestor is one. -/
def Tells (ops : List Oper) (tbl : List Nat) : Prop :=
  ∀ i, i < tbl.length → ∀ j, (tbl.getD i 0).testBit j = true → ∃ o e, ops[i]? = some o ∧ e ∈ o.after ∧ Region.binds .any e = true ∧ (e.on = j ∨ (e.on < i ∧ (tbl.getD e.on 0).testBit j = true))
theorem foldl_bits (tbl : List Nat) (j : Nat) : ∀ (es : List Edge) (s : Nat), (es.foldl (fun s e => if Region.binds .any e then s ||| 2 ^ e.on ||| tbl.getD e.on 0 else s) s).testBit j = true →
    s.testBit j = true ∨ ∃ e ∈ es, Region.binds .any e = true ∧ (e.on = j ∨ (tbl.getD e.on 0).testBit j = true)
  | [], s, h => .inl h
  | e :: es, s, h => by
    simp only [List.foldl_cons] at h
    rcases foldl_bits tbl j es _ h with h | ⟨e', he', h⟩
    · by_cases hb : Region.binds .any e = true
      · rw [if_pos hb] at h
        simp only [Nat.testBit_or, Bool.or_eq_true] at h
        rcases h with (h | h) | h
        · exact .inl h
        · refine .inr ⟨e, by simp, hb, .inl ?_⟩
          rw [Nat.testBit_two_pow] at h
          simpa using h
        · exact .inr ⟨e, by simp, hb, .inr h⟩
      · rw [if_neg hb] at h; exact .inl h
    · exact .inr ⟨e', by simp [he'], h⟩
theorem tells_tbl : ∀ (os pre : List Oper) (tbl : List Nat), tbl.length = pre.length → Tells (pre ++ os) tbl → Tells (pre ++ os) (ancTbl os tbl)
  | [], pre, tbl, _, h => by simpa [ancTbl] using h
  | o :: os, pre, tbl, hl, h => by
    have := tells_tbl os (pre ++ [o]) (tbl ++ [ancStep tbl o]) (by simp [hl]) ?_
    · simpa [ancTbl] using this
    · intro i hi j hj
      simp only [List.append_assoc, List.singleton_append]
      have hget : ∀ k, k < tbl.length → (tbl ++ [ancStep tbl o]).getD k 0 = tbl.getD k 0 := fun k hk => by
        simp only [List.getD_eq_getElem?_getD]; rw [List.getElem?_append_left hk]
      by_cases hlt : i < tbl.length
      · rw [hget i hlt] at hj
        obtain ⟨o', e, h1, h2, h3, h4⟩ := h i hlt j hj
        refine ⟨o', e, h1, h2, h3, h4.imp id fun ⟨h5, h6⟩ => ⟨h5, by rw [hget _ (by omega)]; exact h6⟩⟩
      · have hie : i = tbl.length := by simp at hi; omega
        subst hie
        have : (tbl ++ [ancStep tbl o]).getD tbl.length 0 = ancStep tbl o := by simp [List.getD_eq_getElem?_getD]
        rw [this] at hj
        rcases foldl_bits tbl j _ 0 hj with h0 | ⟨e, he, hb, hc⟩
        · simp at h0
        · refine ⟨o, e, by rw [List.getElem?_append_right (by omega)]; simp [hl], by simpa using he, hb, ?_⟩
          rcases hc with hc | hc
          · exact .inl hc
          · refine .inr ?_
            have hlt' : e.on < tbl.length := by
              rcases Nat.lt_or_ge e.on tbl.length with h | h
              · exact h
              · rw [List.getD_eq_getElem?_getD, List.getElem?_eq_none h] at hc; simp at hc
            exact ⟨hlt', by rw [hget _ hlt']; exact hc⟩
theorem tells (ops : Array Oper) : Tells ops.toList (ancTbl ops.toList []) := by
  have := tells_tbl ops.toList [] [] rfl (by intro i hi; simp at hi)
  simpa using this

/-- What has been run holds all that must come before it. -/
def Closed (ops : Array Oper) (S : Nat → Prop) : Prop := ∀ i o e, S i → ops[i]? = some o → e ∈ o.after → Region.binds .any e = true → S e.on
theorem closed_anc {ops : Array Oper} {S : Nat → Prop} (hc : Closed ops S) : ∀ i j, S i → anc (ancTbl ops.toList []) i j = true → S j := by
  intro i
  induction i using Nat.strongRecOn with
  | _ i ih =>
    intro j hi hj
    unfold anc at hj
    have hlt : i < (ancTbl ops.toList []).length := by
      rcases Nat.lt_or_ge i (ancTbl ops.toList []).length with h | h
      · exact h
      · rw [List.getD_eq_getElem?_getD, List.getElem?_eq_none h] at hj; simp at hj
    obtain ⟨o, e, h1, h2, h3, h4⟩ := tells ops i hlt j hj
    have hse := hc i o e hi (by simpa using h1) h2 h3
    rcases h4 with h4 | ⟨h4, h5⟩
    · rw [← h4]; exact hse
    · exact ih e.on h4 j hse h5
theorem ready_anc {ops : Array Oper} {S : Nat → Prop} (hc : Closed ops S) {i : Nat} {o : Oper} (ho : ops[i]? = some o) (hr : ∀ e ∈ o.after, Region.binds .any e = true → S e.on) {j : Nat} (hj : anc (ancTbl ops.toList []) i j = true) : S j := by
  unfold anc at hj
  have hlt : i < (ancTbl ops.toList []).length := by
    rcases Nat.lt_or_ge i (ancTbl ops.toList []).length with h | h
    · exact h
    · rw [List.getD_eq_getElem?_getD, List.getElem?_eq_none h] at hj; simp at hj
  obtain ⟨o', e, h1, h2, h3, h4⟩ := tells ops i hlt j hj
  have : o' = o := by
    have h1' : ops[i]? = some o' := by simpa using h1
    rw [ho] at h1'; simpa using h1'.symm
  subst this
  have hse := hr e h2 h3
  rcases h4 with h4 | ⟨_, h5⟩
  · rw [← h4]; exact hse
  · exact closed_anc hc e.on j hse h5

/-! ### The abstract run, step by step -/
theorem trace {P : Program} : ∀ {L : List (Nat × COper)} {env env' : Env} {H H' : Heap}, OpsSim P L env H env' H' → ∃ (E : Nat → Env) (K : Nat → Heap) (V : Nat → AV), E 0 = env ∧ K 0 = H ∧ E L.length = env' ∧ K L.length = H' ∧
    ∀ p (hp : p < L.length), StepSim P L[p].2 (E p) (K p) (V p) (K (p + 1)) ∧ E (p + 1) = putD (E p) L[p].2.dst (V p) ∧ (wanted (E p) L[p].2.guard = true → Kept (E p) L[p].2.us (K p) (K (p + 1))) ∧ (K p).sz ≤ (K (p + 1)).sz
  | [], env, env', H, H', ⟨h1, h2⟩ => ⟨fun _ => env, fun _ => H, fun _ => .und, rfl, rfl, h1.symm, h2.symm, fun p hp => by simp at hp⟩
  | (i, o) :: L, env, env', H, H', ⟨v, H1, hs, hkp, hsz, hrest⟩ => by
    obtain ⟨E, K, V, h1, h2, h3, h4, h5⟩ := trace hrest
    refine ⟨fun | 0 => env | p + 1 => E p, fun | 0 => H | p + 1 => K p, fun | 0 => v | p + 1 => V p, rfl, rfl, h3, h4, fun p hp => ?_⟩
    cases p with
    | zero => simp only [List.getElem_cons_zero, h1, h2]; exact ⟨hs, trivial, hkp, hsz⟩
    | succ p => exact h5 p (by simpa using hp)

/-! ### The relation under what is made later -/
theorem Rel.ext {base : Nat} {m : Map} {H H' : Heap} {w : World} (h : Rel base m H w) (hg : ∀ l, l < H.sz → H'.get l = H.get l) (hs : H.sz ≤ H'.sz) : Rel base m H' w := by
  refine ⟨fun l i e => Nat.lt_of_lt_of_le (h.dom l i e) hs, h.size, fun l i e hst => ?_, fun l i e hst => ?_, fun l i e hst => ?_, fun l l' i i' e e' hne hst hst' => ?_⟩
  · rw [hg l (h.dom l i e)] at hst ⊢; exact h.cells l i e hst
  · rw [hg l (h.dom l i e)] at hst; exact h.own l i e hst
  · rw [hg l (h.dom l i e)] at hst; exact h.ro l i e hst
  · rw [hg l (h.dom l i e)] at hst; rw [hg l' (h.dom l' i' e')] at hst'; exact h.sep l l' i i' e e' hne hst hst'
theorem Ok.ext {base : Nat} {m m' : Map} {H H' H'' : Heap} {w w' : World} (h : Ok base m H w m' H' w') (hg : ∀ l, l < H'.sz → H''.get l = H'.get l) (hs : H'.sz ≤ H''.sz) : Ok base m H w m' H'' w' := by
  refine ⟨h.rel.ext hg hs, h.le, Nat.le_trans h.sz hs, fun l hl e => ?_, h.fr, fun l i e hst => ?_⟩
  · obtain ⟨h1, h2⟩ := h.un l hl e
    exact ⟨h1, (hg l (Nat.lt_of_lt_of_le hl h.sz)).trans h2⟩
  · rw [hg l (h.rel.dom l i e)] at hst; exact h.ow l i e hst

/-- Memory that the abstract heap holds already is made. -/
theorem Ok.made {base : Nat} {m0 m : Map} {H0 R : Heap} {w0 w w' : World} (h : Ok base m0 H0 w0 m R w) {k : Nat} (hk : m k = none) (hk0 : H0.sz ≤ k) (hkR : k < R.sz) {cs : List AV} (hR : R.get k = ⟨cs, .own⟩) {arr : Array Value} {T : TypeId} {rest : List Value} {us : List Value}
    (hcs : VRs m cs us) (harr : arr.toList = us ++ rest) (hw : w'.heap = w.heap.push (.cells arr T (0, 0))) (ho : w'.os = w.os) (ht : w'.tape = w.tape) (hu : w'.output = w.output) :
    Ok base m0 H0 w0 (m.add k ⟨w.heap.size, 0, cs.length, arr.size⟩) R w' := by
  have hle : MLe m (m.add k ⟨w.heap.size, 0, cs.length, arr.size⟩) := MLe.add hk
  have hold : ∀ b, b < w.heap.size → w'.heap[b]? = w.heap[b]? := fun b hb => by rw [hw, Array.getElem?_push_lt hb, Array.getElem?_eq_getElem hb]
  have hnew : w'.heap[w.heap.size]? = some (.cells arr T (0, 0)) := by rw [hw]; simp
  have hsz : w'.heap.size = w.heap.size + 1 := by rw [hw]; simp
  have hul := hcs.length
  have hal : arr.size = us.length + rest.length := by rw [← Array.length_toList, harr, List.length_append]
  have key : ∀ l i, m.add k ⟨w.heap.size, 0, cs.length, arr.size⟩ l = some i → (l = k ∧ i = ⟨w.heap.size, 0, cs.length, arr.size⟩) ∨ (l ≠ k ∧ m l = some i) := by
    intro l i e
    unfold Map.add at e
    split at e
    · rename_i hl; exact .inl ⟨hl, by simpa using e.symm⟩
    · rename_i hl; exact .inr ⟨hl, e⟩
  have hcl : ∀ j v, us[j]? = some v → w'.cell? ⟨w.heap.size, 0 + j, none⟩ = some v := by
    intro j v hv
    unfold World.cell?
    simp only [hnew, Option.isSome_none, Bool.false_eq_true, if_false, Nat.zero_add]
    rw [← Array.getElem?_toList, harr, List.getElem?_append_left (List.getElem?_eq_some_iff.1 hv).1, hv]
  have hr := h.rel
  refine ⟨⟨?_, by rw [hsz]; have := hr.size; omega, ?_, ?_, ?_, ?_⟩, h.le.trans hle, h.sz, ?_, ⟨ho.trans h.fr.os, ht.trans h.fr.tape, hu.trans h.fr.output, by rw [hsz]; have := h.fr.size; omega, fun b hb hn => ?_⟩, ?_⟩
  · intro l i e
    rcases key l i e with ⟨rfl, _⟩ | ⟨_, e⟩
    · exact hkR
    · exact hr.dom l i e
  · intro l i e hst
    rcases key l i e with ⟨rfl, rfl⟩ | ⟨hl, e⟩
    · rw [hR]
      refine ⟨rfl, fun j hj => ?_⟩
      obtain ⟨v, hv, hr⟩ := hcs.at j hj
      exact ⟨v, hcl j v hv, hr.mono hle⟩
    · obtain ⟨h1, h2⟩ := hr.cells l i e hst
      refine ⟨h1, fun j hj => ?_⟩
      obtain ⟨v, hv, hr⟩ := h2 j hj
      refine ⟨v, ?_, hr.mono hle⟩
      rw [cell_of_heap (hold _ (World.block_lt_of_cell? w _ hv)), hv]
  · intro l i e hst
    rcases key l i e with ⟨rfl, rfl⟩ | ⟨hl, e⟩
    · refine ⟨hr.size, by simp; omega, ⟨arr, T, _, hnew, rfl⟩, fun off => ?_⟩
      unfold World.frozen?
      simp only [hnew]
      simp
    · obtain ⟨h1, h2, ⟨ar, T', fz, h3, h4⟩, h5⟩ := hr.own l i e hst
      have hb : i.b < w.heap.size := (Array.getElem?_eq_some_iff.1 h3).1
      exact ⟨h1, h2, ⟨ar, T', fz, by rw [hold _ hb, h3], h4⟩, fun off => by rw [frozen_of_heap (hold _ hb), h5]⟩
  · intro l i e hst hn
    rcases key l i e with ⟨rfl, rfl⟩ | ⟨hl, e⟩
    · rw [hR] at hst; simp at hst
    · exact hr.ro l i e hst hn
  · intro l l' i i' e e' hne hst hst'
    rcases key l i e with ⟨h1, rfl⟩ | ⟨hl, e1⟩ <;> rcases key l' i' e' with ⟨h1', rfl⟩ | ⟨hl', e1'⟩
    · exact absurd (h1.trans h1'.symm) hne
    · obtain ⟨_, _, ⟨ar, T', fz, h3, h4⟩, _⟩ := hr.own l' i' e1' hst'
      have hb : i'.b < w.heap.size := (Array.getElem?_eq_some_iff.1 h3).1
      simp; omega
    · obtain ⟨_, _, ⟨ar, T', fz, h3, h4⟩, _⟩ := hr.own l i e1 hst
      have hb : i.b < w.heap.size := (Array.getElem?_eq_some_iff.1 h3).1
      simp; omega
    · exact hr.sep l l' i i' e1 e1' hne hst hst'
  · intro l hl e
    have hne : l ≠ k := by omega
    obtain ⟨h1, h2⟩ := h.un l hl e
    exact ⟨by unfold Map.add; rw [if_neg hne, h1], h2⟩
  · rw [hold b (Nat.lt_of_lt_of_le hb h.fr.size)]; exact h.fr.block b hb hn
  · intro l i e hst
    rcases key l i e with ⟨rfl, rfl⟩ | ⟨hl, e⟩
    · exact .inl h.fr.size
    · exact h.ow l i e hst

end Go.Proofs.YtabmomjfdondnaaH
