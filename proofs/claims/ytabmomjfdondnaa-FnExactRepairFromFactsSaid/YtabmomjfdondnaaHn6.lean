/- slices.Compact of whole numbers, by hand: a run of the abstract machine. -/
import Derived.Test.YtabmomjfdondnaaHn5
set_option linter.unusedVariables false
set_option linter.unusedSimpArgs false
namespace Go.Proofs.YtabmomjfdondnaaH
open Go

/-- Operations that are no calls and bear no guard, run one behind the other. -/
def evalJ : List (Nat × COper) → Env → Heap → Option (Env × Heap)
  | [], env, H => some (env, H)
  | (_, o) :: ops, env, H => if o.guard = none then match heapOp env H o.op with
      | some (v, H1) => evalJ ops (putD env o.dst v) H1
      | none => none
    else none
/-- Do the loads that float lead to what stays the same? Here: the heap is left alone by all. -/
theorem evalJ_ok {Tb : Nat → Option CFn} {X : Ext} : ∀ {ops : List (Nat × COper)} {env : Env} {H : Heap} {env' : Env} {H' : Heap}, (∀ p ∈ ops, p.2.us = []) → evalJ ops env H = some (env', H') → J Tb X (.op ops env H env' H')
  | [], env, H, env', H', _, h => by
    simp only [evalJ, Option.some.injEq, Prod.mk.injEq] at h
    obtain ⟨rfl, rfl⟩ := h
    exact .opNil
  | (i, o) :: ops, env, H, env', H', hu, h => by
    simp only [evalJ] at h
    split at h
    · rename_i hg
      split at h
      · rename_i v H1 hop
        have hus := hu (i, o) (by simp)
        refine .opDo (by rw [hg]; rfl) (by rw [hg]; rfl) hop ?_ (evalJ_ok (fun p hp => hu p (by simp [hp])) h)
        intro s n hs
        simp only at hus
        rw [hus] at hs; simp at hs
      · simp at h
    · simp at h
@[irreducible] def gt (env : Env) (j : Nat) : AV := env.getD j .und
theorem ev_t {env : Env} {i : Nat} : Opd.ev env (.t i) = gt env i := by unfold gt; rfl
theorem gs {env : Env} {i j : Nat} {a : AV} : gt (env.set i a) j = if i = j ∧ i < env.length then a else gt env j := by
  unfold gt
  simp only [List.getD_eq_getElem?_getD, List.getElem?_set]
  by_cases h : i = j
  · subst h
    by_cases h2 : i < env.length
    · simp [h2]
    · simp [h2, List.getElem?_eq_none (by omega : env.length ≤ i)]
  · simp [h]
/-- Each number that equals the one before it is left out. -/
def compactL : List Int → List Int
  | [] => []
  | [a] => [a]
  | a :: b :: r => if a = b then compactL (b :: r) else a :: compactL (b :: r)
def cptR1 : List (Nat × COper) := [
        (0, ⟨some 35, .mv (.t 4), none, [], []⟩),
        (1, ⟨some 36, .mv (.t 5), none, [], []⟩),
        (2, ⟨some 37, .ia 1 (.t 35) (.t 36), none, [], []⟩),
        (3, ⟨some 38, .ld 1 false (.t 37), none, [], [35, 36, 37]⟩),
        (4, ⟨some 39, .mv (.t 4), none, [], []⟩),
        (5, ⟨some 40, .mv (.t 5), none, [], []⟩),
        (6, ⟨some 41, .bin .sub (.t 40) (.c (.int .i64 (1))), none, [], [40]⟩),
        (7, ⟨some 42, .ia 1 (.t 39) (.t 41), none, [], []⟩),
        (8, ⟨some 43, .ld 1 false (.t 42), none, [], [39, 41, 42]⟩),
        (9, ⟨some 44, .bin .neq (.t 38) (.t 43), none, [], [38, 43]⟩)]
def cptL1 : CCode :=
  (.seq
   (.seq
    (.reg false [
      (0, ⟨some 29, .mv (.t 5), none, [], []⟩),
      (1, ⟨some 30, .mv (.t 4), none, [], []⟩),
      (2, ⟨some 31, .len (.t 30), none, [], [30]⟩),
      (3, ⟨some 32, .bin .lss (.t 29) (.t 31), none, [], [29, 31]⟩)])
    (.cond (.t 32)
     (.seq
      (.kill [32])
      .skip)
     (.seq
      (.kill [4, 5, 32])
      (.exit 2))))
   (.seq
    (.block 3
     (.seq
      (.reg true cptR1)
      (.cond (.t 44)
       (.seq
        (.kill [44])
        (.seq
         (.reg false [
           (0, ⟨some 45, .mv (.t 0), none, [], []⟩),
           (1, ⟨some 46, .mv (.t 3), none, [], []⟩),
           (2, ⟨some 47, .mv (.t 4), none, [], []⟩),
           (3, ⟨some 48, .mv (.t 5), none, [], []⟩),
           (4, ⟨some 49, .ia 1 (.t 47) (.t 48), none, [], []⟩),
           (5, ⟨some 50, .ld 1 false (.t 49), none, [], [47, 48, 49]⟩),
           (6, ⟨some 51, .ia 1 (.t 45) (.t 46), none, [], []⟩),
           (7, ⟨none, .st 1 (.t 51) (.t 50), none, [], [45, 46, 50, 51]⟩)])
         (.reg false [
           (0, ⟨some 52, .mv (.t 3), none, [], [3]⟩),
           (1, ⟨some 53, .bin .add (.t 52) (.c (.int .i64 (1))), none, [], [52]⟩),
           (2, ⟨some 3, .mv (.t 53), none, [], [53]⟩)])))
       (.seq
        (.kill [44])
        .skip))))
    (.reg false [
      (0, ⟨some 33, .mv (.t 5), none, [], [5]⟩),
      (1, ⟨some 34, .bin .add (.t 33) (.c (.int .i64 (1))), none, [], [33]⟩),
      (2, ⟨some 5, .mv (.t 34), none, [], [34]⟩)])))
/-- A place that holds these numbers. -/
def holdsI (H : Heap) (p : Nat) (cs : List Int) : Prop := p < H.sz ∧ (H.get p).st = .own ∧ (H.get p).cells = cs.map fun n => .int .i64 n
theorem holdsI_rd {H : Heap} {p i : Nat} {cs : List Int} (h : holdsI H p cs) (hi : i < cs.length) : H.rd p i 1 = some [.int .i64 cs[i]] := by
  obtain ⟨h1, h2, h3⟩ := h
  unfold Heap.rd
  rw [if_pos ⟨by rw [h2]; simp, h1, by rw [h3]; simp; omega⟩, h3]
  rw [List.drop_eq_getElem_cons (by simpa using hi)]
  simp
theorem holdsI_wr {H : Heap} {p i : Nat} {cs : List Int} {x : Int} (h : holdsI H p cs) (hi : i < cs.length) : ∃ H', H.wr p i [.int .i64 x] = some H' ∧ holdsI H' p (cs.set i x) ∧ H'.sz = H.sz ∧ ∀ q, q ≠ p → H'.get q = H.get q := by
  obtain ⟨h1, h2, h3⟩ := h
  refine ⟨H.put p (splice (H.get p).cells i [.int .i64 x]), ?_, ⟨h1, by simp [Heap.put], ?_⟩, rfl, fun q hq => by simp [Heap.put, hq]⟩
  · unfold Heap.wr
    rw [if_pos ⟨h2, h1, by rw [h3]; simp; omega, by simp [AV.one]⟩]
  · simp only [Heap.put, if_true, splice, h3]
    rw [List.map_set, List.set_eq_take_append_cons_drop, if_pos (by simpa using hi)]
    simp
section
variable {Tb : Nat → Option CFn} {X : Ext}
theorem J_regs {d : Bool} {ops : List (Nat × COper)} {env env' : Env} {H H' : Heap} (hu : ∀ p ∈ ops, p.2.us = []) (h : evalJ ops env H = some (env', H')) : J Tb X (.co (.reg d ops) env H .normal env' H') := .reg (evalJ_ok hu h)
theorem ev_c {env : Env} {a : AV} : Opd.ev env (.c a) = a := rfl
attribute [local simp] evalJ heapOp pureOp ev_t ev_c putD gs binA binI lenA
/-- What stays as it is round the loops. -/
structure CS (env : Env) (p n k0 k k2 : Nat) : Prop where
  l : env.length = 61
  s : gt env 0 = .sl p 0 n 1 false
  k : gt env 3 = .int .i64 k
  s2 : gt env 4 = .sl p (0 + k0 * 1) (n - k0) 1 false
  k2 : gt env 5 = .int .i64 k2
theorem wrapn {n : Nat} (h : n < 9223372036854775807) : IntKind.i64.wrap ((n : Int) + 1) = ((n + 1 : Nat) : Int) := by
  rw [IntKind.wrap_i64]; omega
theorem wrapm {n : Nat} (h0 : 1 ≤ n) (h : n < 9223372036854775807) : IntKind.i64.wrap ((n : Int) - 1) = ((n - 1 : Nat) : Int) := by
  rw [IntKind.wrap_i64]; omega
theorem CS.of {env env' : Env} {p n k0 k k2 : Nat} (h : CS env p n k0 k k2) (hl : env'.length = env.length) (he : ∀ s, s = 0 ∨ s = 3 ∨ s = 4 ∨ s = 5 → gt env' s = gt env s) : CS env' p n k0 k k2 :=
  ⟨hl.trans h.l, (he 0 (by simp)).trans h.s, (he 3 (by simp)).trans h.k, (he 4 (by simp)).trans h.s2, (he 5 (by simp)).trans h.k2⟩
/-- One round of the inner loop. -/
theorem cpt_round {H : Heap} {env : Env} {p n k0 k k2 : Nat} {cs : List Int} (h : CS env p n k0 k k2) (hc : holdsI H p cs) (hn : cs.length = n) (hmax : n < 9223372036854775807) (h1 : 1 ≤ k2) (h2 : k0 + k2 < n) (hk : k < n) :
    ∃ env' H', J Tb X (.co cptL1 env H .normal env' H') ∧ H'.sz = H.sz ∧ (∀ q, q ≠ p → H'.get q = H.get q) ∧
      CS env' p n k0 (if cs[k0 + k2]'(by omega) ≠ cs[k0 + k2 - 1]'(by omega) then k + 1 else k) (k2 + 1) ∧ holdsI H' p (if cs[k0 + k2]'(by omega) ≠ cs[k0 + k2 - 1]'(by omega) then cs.set k (cs[k0 + k2]'(by omega)) else cs) := by
  have hl := h.l
  -- the test
  obtain ⟨env1, a1, a2, a3⟩ : ∃ env1, evalJ [(0, ⟨some 29, .mv (.t 5), none, [], []⟩), (1, ⟨some 30, .mv (.t 4), none, [], []⟩), (2, ⟨some 31, .len (.t 30), none, [], [30]⟩), (3, ⟨some 32, .bin .lss (.t 29) (.t 31), none, [], [29, 31]⟩)] env H = some (env1, H) ∧ CS env1 p n k0 k k2 ∧ gt env1 32 = .bool true := by
    refine ⟨_, by simp [hl, h.s2, h.k2]; exact rfl, h.of (by simp) ?_, ?_⟩
    · rintro s (rfl | rfl | rfl | rfl) <;> simp
    · simp [hl]; omega
  have b1 : CS (killT env1 [32]) p n k0 k k2 := a2.of (by simp [killT]) (by rintro s (rfl | rfl | rfl | rfl) <;> simp [killT])
  have jA : J Tb X (.co (.seq (.reg false [(0, ⟨some 29, .mv (.t 5), none, [], []⟩), (1, ⟨some 30, .mv (.t 4), none, [], []⟩), (2, ⟨some 31, .len (.t 30), none, [], [30]⟩), (3, ⟨some 32, .bin .lss (.t 29) (.t 31), none, [], [29, 31]⟩)]) (.cond (.t 32) (.seq (.kill [32]) .skip) (.seq (.kill [4, 5, 32]) (.exit 2)))) env H .normal (killT env1 [32]) H) :=
    .seqN (J_regs (by simp) a1) (.condT (by rw [ev_t]; exact a3) (.seqN .kill .skip))
  generalize killT env1 [32] = env2 at b1 jA
  have hl2 := b1.l
  have r1 := holdsI_rd hc (i := k0 + k2) (by omega)
  have r2 := holdsI_rd hc (i := k0 + (k2 - 1)) (by omega)
  have hw1 : IntKind.i64.wrap ((k2 : Int) - 1) = ((k2 - 1 : Nat) : Int) := wrapm h1 (by omega)
  have f1 : (k2 : Int) < ((n - k0 : Nat) : Int) := by omega
  have f2 : ((k2 - 1 : Nat) : Int) < ((n - k0 : Nat) : Int) := by omega
  have e12 : k0 + (k2 - 1) = k0 + k2 - 1 := by omega
  obtain ⟨env3, c1, c2, c3, c4⟩ : ∃ env3, evalJ cptR1 env2 H = some (env3, H) ∧ CS env3 p n k0 k k2 ∧ gt env3 44 = .bool (decide (cs[k0 + k2]'(by omega) ≠ cs[k0 + (k2 - 1)]'(by omega))) ∧ True := by
    refine ⟨_, by simp [cptR1, hl2, b1.s2, b1.k2, hw1, f1, f2, r1, r2]; exact rfl, b1.of (by simp) ?_, ?_, trivial⟩
    · rintro s (rfl | rfl | rfl | rfl) <;> simp
    · simp [hl2]
  have jB : J Tb X (.co (.reg true cptR1) env2 H .normal env3 H) := J_regs (by simp [cptR1]) c1
  have b3 : CS (killT env3 [44]) p n k0 k k2 := c2.of (by simp [killT]) (by rintro s (rfl | rfl | rfl | rfl) <;> simp [killT])
  -- the step
  have last : ∀ {envx : Env} {k' : Nat} {Hx : Heap}, CS envx p n k0 k' k2 → ∃ envy, J Tb X (.co (.reg false [(0, ⟨some 33, .mv (.t 5), none, [], [5]⟩), (1, ⟨some 34, .bin .add (.t 33) (.c (.int .i64 (1))), none, [], [33]⟩), (2, ⟨some 5, .mv (.t 34), none, [], [34]⟩)]) envx Hx .normal envy Hx) ∧ CS envy p n k0 k' (k2 + 1) := by
    intro envx k' Hx hx
    have hlx := hx.l
    refine ⟨_, J_regs (by simp) (by simp [hlx, hx.k2]; exact rfl), ⟨by simp [hlx], by simp [hlx, hx.s], by simp [hlx, hx.k], by simp [hlx, hx.s2], ?_⟩⟩
    simp [hlx]
    exact_mod_cast wrapn (n := k2) (by omega)
  by_cases hne : cs[k0 + k2]'(by omega) ≠ cs[k0 + (k2 - 1)]'(by omega)
  · have hne' : cs[k0 + k2]'(by omega) ≠ cs[k0 + k2 - 1]'(by omega) := by simpa [e12] using hne
    rw [if_pos hne', if_pos hne']
    have hl3 := b3.l
    obtain ⟨H1, w1, w2, w3, w4⟩ := holdsI_wr (x := cs[k0 + k2]'(by omega)) hc (i := k) (by omega)
    have f3 : (k : Int) < (n : Int) := by omega
    generalize hk3 : killT env3 [44] = env4 at b3
    rw [hk3] at hl3
    obtain ⟨env5, d1, d2⟩ : ∃ env5, evalJ [(0, ⟨some 45, .mv (.t 0), none, [], []⟩), (1, ⟨some 46, .mv (.t 3), none, [], []⟩), (2, ⟨some 47, .mv (.t 4), none, [], []⟩), (3, ⟨some 48, .mv (.t 5), none, [], []⟩), (4, ⟨some 49, .ia 1 (.t 47) (.t 48), none, [], []⟩), (5, ⟨some 50, .ld 1 false (.t 49), none, [], [47, 48, 49]⟩), (6, ⟨some 51, .ia 1 (.t 45) (.t 46), none, [], []⟩), (7, ⟨none, .st 1 (.t 51) (.t 50), none, [], [45, 46, 50, 51]⟩)] env4 H = some (env5, H1) ∧ CS env5 p n k0 k k2 := by
      refine ⟨_, by simp [hl3, b3.s, b3.k, b3.s2, b3.k2, f1, f3, r1, AV.cells, w1]; exact rfl, b3.of (by simp) ?_⟩
      rintro s (rfl | rfl | rfl | rfl) <;> simp
    have hl5 := d2.l
    obtain ⟨env6, g1, g2⟩ : ∃ env6, evalJ [(0, ⟨some 52, .mv (.t 3), none, [], [3]⟩), (1, ⟨some 53, .bin .add (.t 52) (.c (.int .i64 (1))), none, [], [52]⟩), (2, ⟨some 3, .mv (.t 53), none, [], [53]⟩)] env5 H1 = some (env6, H1) ∧ CS env6 p n k0 (k + 1) k2 := by
      refine ⟨_, by simp [hl5, d2.k]; exact rfl, ⟨by simp [hl5], by simp [hl5, d2.s], ?_, by simp [hl5, d2.s2], by simp [hl5, d2.k2]⟩⟩
      simp [hl5]
      exact_mod_cast wrapn (n := k) (by omega)
    obtain ⟨env7, g3, g4⟩ := last (Hx := H1) g2
    refine ⟨env7, H1, ?_, w3, w4, g4, w2⟩
    refine .seqN jA (.seqN (.blockN (by simp) (.seqN jB (.condT (by rw [ev_t, c3]; simp only [hne, ne_eq, not_false_eq_true, decide_true]) (.seqN .kill ?_)))) g3)
    rw [hk3]
    exact .seqN (J_regs (by simp) d1) (J_regs (by simp) g1)
  · have hne' : ¬ cs[k0 + k2]'(by omega) ≠ cs[k0 + k2 - 1]'(by omega) := by simpa [e12] using hne
    rw [if_neg hne', if_neg hne']
    obtain ⟨env7, g3, g4⟩ := last (Hx := H) b3
    refine ⟨env7, H, ?_, rfl, fun _ _ => rfl, g4, hc⟩
    exact .seqN jA (.seqN (.blockN (by simp) (.seqN jB (.condF (by rw [ev_t, c3]; simp only [hne, decide_false]) (.seqN .kill .skip)))) g3)
theorem compactL_len : ∀ (l : List Int), (compactL l).length ≤ l.length
  | [] => by simp [compactL]
  | [a] => by simp [compactL]
  | a :: b :: r => by
    have := compactL_len (b :: r)
    simp only [compactL]
    split
    · simp only [List.length_cons] at this ⊢; omega
    · simp only [List.length_cons] at this ⊢; omega
theorem compactL_snoc (x y : Int) : ∀ (m : List Int), compactL (m ++ [x, y]) = if y ≠ x then compactL (m ++ [x]) ++ [y] else compactL (m ++ [x])
  | [] => by
    simp only [List.nil_append, compactL]
    by_cases h : x = y
    · subst h; simp
    · rw [if_neg h, if_pos (Ne.symm h)]; rfl
  | [a] => by
    simp only [List.cons_append, List.nil_append, compactL]
    by_cases h : x = y
    · subst h; simp
    · have h' : y ≠ x := Ne.symm h
      simp only [h, if_false, h', ne_eq, not_false_eq_true, if_true]
      split <;> simp
  | a :: b :: m => by
    have ih := compactL_snoc x y (b :: m)
    simp only [List.cons_append] at ih ⊢
    simp only [compactL]
    rw [ih]
    split <;> split <;> simp_all
theorem compactL_take {l : List Int} {j : Nat} (h1 : 1 ≤ j) (h : j < l.length) : compactL (l.take (j + 1)) = if l[j] ≠ l[j - 1]'(by omega) then compactL (l.take j) ++ [l[j]] else compactL (l.take j) := by
  obtain ⟨i, rfl⟩ : ∃ i, j = i + 1 := ⟨j - 1, by omega⟩
  have e1 : l.take (i + 1) = l.take i ++ [l[i]'(by omega)] := by rw [List.take_succ_eq_append_getElem]
  have e2 : l.take (i + 1 + 1) = l.take i ++ [l[i]'(by omega), l[i + 1]] := by rw [List.take_succ_eq_append_getElem h, e1, List.append_assoc]; rfl
  rw [e2, e1, compactL_snoc]
  rfl
/-- The inner loop. -/
theorem cpt_inner {l : List Int} {p n k0 : Nat} (hn : l.length = n) (hmax : n < 9223372036854775807) : ∀ (m : Nat) {H : Heap} {env : Env} {k k2 : Nat} {cs : List Int}, k0 + k2 + m = n → CS env p n k0 k k2 → holdsI H p cs → cs.length = n → 1 ≤ k2 → k + 1 ≤ k0 + k2 →
    cs.take k = compactL (l.take (k0 + k2)) → (compactL (l.take (k0 + k2))).length = k → cs.drop (k0 + k2 - 1) = l.drop (k0 + k2 - 1) →
    ∃ env' H' cs', J Tb X (.co (.loop cptL1) env H (.exit 2) env' H') ∧ H'.sz = H.sz ∧ (∀ q, q ≠ p → H'.get q = H.get q) ∧ env'.length = 61 ∧ gt env' 0 = .sl p 0 n 1 false ∧ gt env' 3 = .int .i64 (compactL l).length ∧
      holdsI H' p cs' ∧ cs'.length = n ∧ cs'.take (compactL l).length = compactL l ∧ (compactL l).length + 1 ≤ n
  | 0, H, env, k, k2, cs, hm, h, hc, hcl, h1, hk, ht, htl, hd => by
    have hl := h.l
    have hfull : l.take (k0 + k2) = l := List.take_of_length_le (by omega)
    rw [hfull] at ht htl
    obtain ⟨env1, a1, a2, a3⟩ : ∃ env1, evalJ [(0, ⟨some 29, .mv (.t 5), none, [], []⟩), (1, ⟨some 30, .mv (.t 4), none, [], []⟩), (2, ⟨some 31, .len (.t 30), none, [], [30]⟩), (3, ⟨some 32, .bin .lss (.t 29) (.t 31), none, [], [29, 31]⟩)] env H = some (env1, H) ∧ CS env1 p n k0 k k2 ∧ gt env1 32 = .bool false := by
      refine ⟨_, by simp [hl, h.s2, h.k2]; exact rfl, h.of (by simp) ?_, ?_⟩
      · rintro s (rfl | rfl | rfl | rfl) <;> simp
      · simp [hl]; omega
    have hl1 := a2.l
    refine ⟨killT env1 [4, 5, 32], H, cs, .loopX (by simp) (.seqX (by simp) (.seqN (J_regs (by simp) a1) (.condF (by rw [ev_t]; exact a3) (.seqN .kill .exit)))), rfl, fun _ _ => rfl, by simp [killT, hl1], by simp [killT, hl1, a2.s], by simp [killT, hl1, a2.k, htl], hc, hcl, by rw [htl]; exact ht, by omega⟩
  | m + 1, H, env, k, k2, cs, hm, h, hc, hcl, h1, hk, ht, htl, hd => by
    obtain ⟨env1, H1, j1, j2, j3, j4, j5⟩ := cpt_round (Tb := Tb) (X := X) h hc hcl hmax h1 (by omega) (by omega)
    have c1 : cs[k0 + k2]'(by omega) = l[k0 + k2]'(by omega) := by
      have e := congrArg (fun x => x[1]?) hd
      simp only [List.getElem?_drop] at e
      rw [show k0 + k2 - 1 + 1 = k0 + k2 by omega, List.getElem?_eq_getElem (by omega), List.getElem?_eq_getElem (by omega)] at e
      simpa using e
    have c2 : cs[k0 + k2 - 1]'(by omega) = l[k0 + k2 - 1]'(by omega) := by
      have e := congrArg (fun x => x[0]?) hd
      simp only [List.getElem?_drop] at e
      rw [show k0 + k2 - 1 + 0 = k0 + k2 - 1 by omega, List.getElem?_eq_getElem (by omega), List.getElem?_eq_getElem (by omega)] at e
      simpa using e
    rw [c1, c2] at j4 j5
    have hct := compactL_take (l := l) (j := k0 + k2) (by omega) (by omega)
    have hdd : cs.drop (k0 + k2) = l.drop (k0 + k2) := by
      have e := congrArg (List.drop 1) hd
      rw [List.drop_drop, List.drop_drop, show k0 + k2 - 1 + 1 = k0 + k2 by omega] at e
      exact e
    by_cases hne : l[k0 + k2]'(by omega) ≠ l[k0 + k2 - 1]'(by omega)
    · rw [if_pos hne] at j4 j5 hct
      obtain ⟨env2, H2, cs2, g1, g2, g3, g4⟩ := cpt_inner hn hmax m (by omega) j4 j5 (by simp [hcl]) (by omega) (by omega) (by
        rw [show k0 + (k2 + 1) = k0 + k2 + 1 by omega, hct, ← ht, List.take_succ_eq_append_getElem (by simp; omega)]
        simp [List.take_set_of_le]) (by
        rw [show k0 + (k2 + 1) = k0 + k2 + 1 by omega, hct]; simp [htl]) (by
        rw [show k0 + (k2 + 1) - 1 = k0 + k2 by omega, List.drop_set_of_lt (by omega)]; exact hdd)
      exact ⟨env2, H2, cs2, .loopN j1 g1, g2.trans j2, fun q hq => (g3 q hq).trans (j3 q hq), g4⟩
    · rw [if_neg hne] at j4 j5 hct
      obtain ⟨env2, H2, cs2, g1, g2, g3, g4⟩ := cpt_inner hn hmax m (by omega) j4 j5 hcl (by omega) (by omega) (by
        rw [show k0 + (k2 + 1) = k0 + k2 + 1 by omega, hct]; exact ht) (by
        rw [show k0 + (k2 + 1) = k0 + k2 + 1 by omega, hct]; exact htl) (by
        rw [show k0 + (k2 + 1) - 1 = k0 + k2 by omega]; exact hdd)
      exact ⟨env2, H2, cs2, .loopN j1 g1, g2.trans j2, fun q hq => (g3 q hq).trans (j3 q hq), g4⟩
def cptL0 : CCode :=
  (.seq
   (.seq
    (.reg false [
      (0, ⟨some 10, .mv (.t 3), none, [], []⟩),
      (1, ⟨some 11, .mv (.t 0), none, [], []⟩),
      (2, ⟨some 12, .len (.t 11), none, [], [11]⟩),
      (3, ⟨some 13, .bin .lss (.t 10) (.t 12), none, [], [10, 12]⟩)])
    (.cond (.t 13)
     (.seq
      (.kill [13])
      .skip)
     (.seq
      (.kill [3, 13])
      (.exit 0))))
   (.seq
    (.block 1
     (.seq
      (.reg true [
        (0, ⟨some 16, .mv (.t 0), none, [], []⟩),
        (1, ⟨some 17, .mv (.t 3), none, [], []⟩),
        (2, ⟨some 18, .ia 1 (.t 16) (.t 17), none, [], []⟩),
        (3, ⟨some 19, .ld 1 false (.t 18), none, [], [16, 17, 18]⟩),
        (4, ⟨some 20, .mv (.t 0), none, [], []⟩),
        (5, ⟨some 21, .mv (.t 3), none, [], []⟩),
        (6, ⟨some 22, .bin .sub (.t 21) (.c (.int .i64 (1))), none, [], [21]⟩),
        (7, ⟨some 23, .ia 1 (.t 20) (.t 22), none, [], []⟩),
        (8, ⟨some 24, .ld 1 false (.t 23), none, [], [20, 22, 23]⟩),
        (9, ⟨some 25, .bin .eql (.t 19) (.t 24), none, [], [19, 24]⟩)])
      (.cond (.t 25)
       (.seq
        (.kill [25])
        (.seq
         (.reg false [
           (0, ⟨some 26, .mv (.t 0), none, [], []⟩),
           (1, ⟨some 27, .mv (.t 3), none, [], []⟩),
           (2, ⟨some 28, .sls 1 (.t 26) (some (.t 27)) none none, none, [], [26, 27]⟩),
           (3, ⟨some 4, .mv (.t 28), none, [], [28]⟩)])
         (.seq
          (.seq
           (.reg false [
             (0, ⟨some 5, .mv (.c (.int .i64 (1))), none, [], []⟩)])
           (.block 2
            (.loop cptL1)))
          (.seq
           (.reg false [
             (0, ⟨some 54, .mv (.t 0), none, [], []⟩),
             (1, ⟨some 55, .mv (.t 3), none, [], []⟩),
             (2, ⟨some 56, .sls 1 (.t 54) (some (.t 55)) none none, none, [], [54, 55]⟩),
             (3, ⟨none, .clr 1 [.int .i64 (0)] (.t 56), none, [], [56]⟩)])
           (.seq
            (.reg false [
              (0, ⟨some 57, .mv (.t 0), none, [], []⟩),
              (1, ⟨some 58, .mv (.t 3), none, [], [3]⟩),
              (2, ⟨some 59, .sls 1 (.t 57) none (some (.t 58)) none, none, [], [57, 58]⟩),
              (3, ⟨some 2, .mv (.t 59), none, [], [59]⟩)])
            .ret)))))
       (.seq
        (.kill [25])
        .skip))))
    (.reg false [
      (0, ⟨some 14, .mv (.t 3), none, [], [3]⟩),
      (1, ⟨some 15, .bin .add (.t 14) (.c (.int .i64 (1))), none, [], [14]⟩),
      (2, ⟨some 3, .mv (.t 15), none, [], [15]⟩)])))
def cptB : CCode :=
  (.seq
   (.reg false [
     (0, ⟨some 2, .mv (.c (.nils)), none, [], [2]⟩)])
   (.seq
    (.seq
     (.reg false [
       (0, ⟨some 6, .mv (.t 0), none, [], []⟩),
       (1, ⟨some 7, .len (.t 6), none, [], [6]⟩),
       (2, ⟨some 8, .bin .lss (.t 7) (.c (.int .i64 (2))), none, [], [7]⟩)])
     (.cond (.t 8)
      (.seq
       (.kill [8])
       (.seq
        (.reg false [
          (0, ⟨some 9, .mv (.t 0), none, [], []⟩),
          (1, ⟨some 2, .mv (.t 9), none, [], [9]⟩)])
        .ret))
      (.seq
       (.kill [8])
       .skip)))
    (.seq
     (.seq
      (.reg false [
        (0, ⟨some 3, .mv (.c (.int .i64 (1))), none, [], []⟩)])
      (.block 0
       (.loop cptL0)))
     (.seq
      (.reg false [
        (0, ⟨some 60, .mv (.t 0), none, [], []⟩),
        (1, ⟨some 2, .mv (.t 60), none, [], [60]⟩)])
      .ret))))
/-- What the loops come to: the answer's place and number, and what the place holds. -/
def CR (l : List Int) (p : Nat) (H : Heap) (env' : Env) (H' : Heap) : Prop :=
  H'.sz = H.sz ∧ (∀ q, q ≠ p → H'.get q = H.get q) ∧ gt env' 2 = .sl p 0 (compactL l).length 1 false ∧ ∃ cs', holdsI H' p cs' ∧ cs'.take (compactL l).length = compactL l
theorem holdsI_wrs {H : Heap} {p i m : Nat} {cs : List Int} (h : holdsI H p cs) (hi : i + m = cs.length) : ∃ H', H.wr p i (List.replicate m [AV.int .i64 0]).flatten = some H' ∧ holdsI H' p (cs.take i ++ List.replicate m 0) ∧ H'.sz = H.sz ∧ ∀ q, q ≠ p → H'.get q = H.get q := by
  obtain ⟨h1, h2, h3⟩ := h
  have hf : (List.replicate m [AV.int .i64 0]).flatten = List.replicate m (AV.int .i64 0) := by rw [List.flatten_replicate_singleton]
  rw [hf]
  refine ⟨H.put p (splice (H.get p).cells i (List.replicate m (.int .i64 0))), ?_, ⟨h1, by simp [Heap.put], ?_⟩, rfl, fun q hq => by simp [Heap.put, hq]⟩
  · unfold Heap.wr
    rw [if_pos ⟨h2, h1, by rw [h3]; simp; omega, by simp [AV.one]⟩]
  · simp only [Heap.put, if_true, splice, h3]
    rw [List.drop_eq_nil_of_le (by simp; omega)]
    simp
theorem cpt_same {l : List Int} {k : Nat} (h : compactL (l.take k) = l.take k) (h1 : 1 ≤ k) (hk : k < l.length) (hne : l[k] ≠ l[k - 1]'(by omega)) : compactL (l.take (k + 1)) = l.take (k + 1) := by
  rw [compactL_take h1 hk, if_pos hne, h, List.take_succ_eq_append_getElem hk]
/-- The outer loop. -/
theorem cpt_outer {l : List Int} {p n : Nat} (hn : l.length = n) (hmax : n < 9223372036854775807) : ∀ (m : Nat) {H : Heap} {env : Env} {k : Nat}, k + m = n → env.length = 61 → gt env 0 = .sl p 0 n 1 false → gt env 3 = .int .i64 k → holdsI H p l → 1 ≤ k → compactL (l.take k) = l.take k →
    ∃ env' H', (J Tb X (.co (.loop cptL0) env H .ret env' H') ∧ CR l p H env' H') ∨ (J Tb X (.co (.loop cptL0) env H (.exit 0) env' H') ∧ H' = H ∧ env'.length = 61 ∧ gt env' 0 = .sl p 0 n 1 false ∧ compactL l = l)
  | 0, H, env, k, hm, hl, e0, e3, hc, h1, hcmp => by
    have hfull : l.take k = l := List.take_of_length_le (by omega)
    rw [hfull] at hcmp
    obtain ⟨env1, a1, a2, a3, a4⟩ : ∃ env1, evalJ [(0, ⟨some 10, .mv (.t 3), none, [], []⟩), (1, ⟨some 11, .mv (.t 0), none, [], []⟩), (2, ⟨some 12, .len (.t 11), none, [], [11]⟩), (3, ⟨some 13, .bin .lss (.t 10) (.t 12), none, [], [10, 12]⟩)] env H = some (env1, H) ∧ env1.length = 61 ∧ gt env1 0 = .sl p 0 n 1 false ∧ gt env1 13 = .bool false := by
      refine ⟨_, by simp [hl, e0, e3]; exact rfl, by simp [hl], by simp [hl, e0], ?_⟩
      simp [hl]; omega
    refine ⟨killT env1 [3, 13], H, .inr ⟨.loopX (by simp) (.seqX (by simp) (.seqN (J_regs (by simp) a1) (.condF (by rw [ev_t]; exact a4) (.seqN .kill .exit)))), rfl, by simp [killT, a2], by simp [killT, a2, a3], hcmp⟩⟩
  | m + 1, H, env, k, hm, hl, e0, e3, hc, h1, hcmp => by
    obtain ⟨env1, a1, a2, a3, a4, a5⟩ : ∃ env1, evalJ [(0, ⟨some 10, .mv (.t 3), none, [], []⟩), (1, ⟨some 11, .mv (.t 0), none, [], []⟩), (2, ⟨some 12, .len (.t 11), none, [], [11]⟩), (3, ⟨some 13, .bin .lss (.t 10) (.t 12), none, [], [10, 12]⟩)] env H = some (env1, H) ∧ env1.length = 61 ∧ gt env1 0 = .sl p 0 n 1 false ∧ gt env1 13 = .bool true ∧ gt env1 3 = .int .i64 k := by
      refine ⟨_, by simp [hl, e0, e3]; exact rfl, by simp [hl], by simp [hl, e0], ?_, by simp [hl, e3]⟩
      simp [hl]; omega
    have jA : J Tb X (.co (.seq (.reg false [(0, ⟨some 10, .mv (.t 3), none, [], []⟩), (1, ⟨some 11, .mv (.t 0), none, [], []⟩), (2, ⟨some 12, .len (.t 11), none, [], [11]⟩), (3, ⟨some 13, .bin .lss (.t 10) (.t 12), none, [], [10, 12]⟩)]) (.cond (.t 13) (.seq (.kill [13]) .skip) (.seq (.kill [3, 13]) (.exit 0)))) env H .normal (killT env1 [13]) H) :=
      .seqN (J_regs (by simp) a1) (.condT (by rw [ev_t]; exact a4) (.seqN .kill .skip))
    have b1 : (killT env1 [13]).length = 61 ∧ gt (killT env1 [13]) 0 = .sl p 0 n 1 false ∧ gt (killT env1 [13]) 3 = .int .i64 k := ⟨by simp [killT, a2], by simp [killT, a2, a3], by simp [killT, a2, a5]⟩
    generalize killT env1 [13] = env2 at b1 jA
    obtain ⟨hl2, b2, b3⟩ := b1
    have r1 := holdsI_rd hc (i := k) (by omega)
    have r2 := holdsI_rd hc (i := k - 1) (by omega)
    have hw1 : IntKind.i64.wrap ((k : Int) - 1) = ((k - 1 : Nat) : Int) := wrapm h1 (by omega)
    have f1 : (k : Int) < (n : Int) := by omega
    have f2 : ((k - 1 : Nat) : Int) < (n : Int) := by omega
    obtain ⟨env3, c1, c2, c3, c4, c5⟩ : ∃ env3, evalJ [(0, ⟨some 16, .mv (.t 0), none, [], []⟩), (1, ⟨some 17, .mv (.t 3), none, [], []⟩), (2, ⟨some 18, .ia 1 (.t 16) (.t 17), none, [], []⟩), (3, ⟨some 19, .ld 1 false (.t 18), none, [], [16, 17, 18]⟩), (4, ⟨some 20, .mv (.t 0), none, [], []⟩), (5, ⟨some 21, .mv (.t 3), none, [], []⟩), (6, ⟨some 22, .bin .sub (.t 21) (.c (.int .i64 (1))), none, [], [21]⟩), (7, ⟨some 23, .ia 1 (.t 20) (.t 22), none, [], []⟩), (8, ⟨some 24, .ld 1 false (.t 23), none, [], [20, 22, 23]⟩), (9, ⟨some 25, .bin .eql (.t 19) (.t 24), none, [], [19, 24]⟩)] env2 H = some (env3, H) ∧ env3.length = 61 ∧ gt env3 0 = .sl p 0 n 1 false ∧ gt env3 3 = .int .i64 k ∧ gt env3 25 = .bool (decide (l[k]'(by omega) = l[k - 1]'(by omega))) := by
      refine ⟨_, by simp [hl2, b2, b3, hw1, f1, f2, r1, r2]; exact rfl, by simp [hl2], by simp [hl2, b2], by simp [hl2, b3], by simp [hl2]⟩
    have d1 : (killT env3 [25]).length = 61 ∧ gt (killT env3 [25]) 0 = .sl p 0 n 1 false ∧ gt (killT env3 [25]) 3 = .int .i64 k := ⟨by simp [killT, c2], by simp [killT, c2, c3], by simp [killT, c2, c4]⟩
    by_cases heq : l[k]'(by omega) = l[k - 1]'(by omega)
    · have hev : Opd.ev env3 (.t 25) = .bool true := by rw [ev_t, c5]; simp [heq]
      generalize hk3 : killT env3 [25] = env4 at d1
      obtain ⟨hl4, d2, d3⟩ := d1
      obtain ⟨env5, g1, g2⟩ : ∃ env5, evalJ [(0, ⟨some 26, .mv (.t 0), none, [], []⟩), (1, ⟨some 27, .mv (.t 3), none, [], []⟩), (2, ⟨some 28, .sls 1 (.t 26) (some (.t 27)) none none, none, [], [26, 27]⟩), (3, ⟨some 4, .mv (.t 28), none, [], [28]⟩)] env4 H = some (env5, H) ∧ env5.length = 61 ∧ gt env5 0 = .sl p 0 n 1 false ∧ gt env5 3 = .int .i64 k ∧ gt env5 4 = .sl p (0 + k * 1) (n - k) 1 false := by
        have hb : k ≤ n := by omega
        refine ⟨_, by simp [hl4, d2, d3, obnd, hb]; exact rfl, by simp [hl4], by simp [hl4, d2], by simp [hl4, d3], by simp [hl4]⟩
      obtain ⟨hl5, g3, g4, g5⟩ := g2
      obtain ⟨env6, i1, i2⟩ : ∃ env6, evalJ [(0, ⟨some 5, .mv (.c (.int .i64 (1))), none, [], []⟩)] env5 H = some (env6, H) ∧ CS env6 p n k k 1 := by
        refine ⟨_, by simp [hl5]; exact rfl, ⟨by simp [hl5], by simp [hl5, g3], by simp [hl5, g4], by simp [hl5, g5], by simp [hl5]⟩⟩
      have hct := compactL_take (l := l) (j := k) (by omega) (by omega)
      rw [if_neg (by simpa using heq), hcmp] at hct
      obtain ⟨env7, H7, cs', q1, q2, q3, q4, q5, q6, q7, q8, q9, q10⟩ := cpt_inner (Tb := Tb) (X := X) hn hmax m (k := k) (by omega) i2 hc hn (Nat.le_refl _) (Nat.le_refl _) hct.symm (by rw [hct]; simp; omega) rfl
      have hb7 : (compactL l).length ≤ n := by omega
      obtain ⟨H8, w1, w2, w3, w4⟩ := holdsI_wrs (i := (compactL l).length) (m := n - (compactL l).length) q7 (by omega)
      obtain ⟨env8, s1, s2, s3, s4⟩ : ∃ env8, evalJ [(0, ⟨some 54, .mv (.t 0), none, [], []⟩), (1, ⟨some 55, .mv (.t 3), none, [], []⟩), (2, ⟨some 56, .sls 1 (.t 54) (some (.t 55)) none none, none, [], [54, 55]⟩), (3, ⟨none, .clr 1 [.int .i64 (0)] (.t 56), none, [], [56]⟩)] env7 H7 = some (env8, H8) ∧ env8.length = 61 ∧ gt env8 0 = .sl p 0 n 1 false ∧ gt env8 3 = .int .i64 (compactL l).length := by
        have hne : ¬ n - (compactL l).length = 0 := by omega
        have w1' : H7.wr p (compactL l).length (List.replicate (n - (compactL l).length) (AV.int .i64 0)) = some H8 := by rw [← w1, List.flatten_replicate_singleton]
        refine ⟨_, by simp [q4, q5, q6, obnd, hb7, hne, w1']; exact rfl, by simp [q4], by simp [q4, q5], by simp [q4, q6]⟩
      obtain ⟨env9, t1, t2⟩ : ∃ env9, evalJ [(0, ⟨some 57, .mv (.t 0), none, [], []⟩), (1, ⟨some 58, .mv (.t 3), none, [], [3]⟩), (2, ⟨some 59, .sls 1 (.t 57) none (some (.t 58)) none, none, [], [57, 58]⟩), (3, ⟨some 2, .mv (.t 59), none, [], [59]⟩)] env8 H8 = some (env9, H8) ∧ gt env9 2 = .sl p 0 (compactL l).length 1 false := by
        refine ⟨_, by simp [s2, s3, s4, obnd, hb7]; exact rfl, by simp [s2]⟩
      refine ⟨env9, H8, .inl ⟨?_, w3.trans q2, fun q hq => (w4 q hq).trans (q3 q hq), t2, _, w2, ?_⟩⟩
      · refine .loopX (by simp) (.seqN jA (.seqX (by simp) (.blockN (by simp) (.seqN (J_regs (by simp) c1) (.condT hev (.seqN .kill ?_))))))
        rw [hk3]
        exact .seqN (J_regs (by simp) g1) (.seqN (.seqN (J_regs (by simp) i1) (.blockE q1)) (.seqN (J_regs (by simp) s1) (.seqN (J_regs (by simp) t1) .ret)))
      · rw [List.take_append_of_le_length (by simp; omega), List.take_take, Nat.min_self]
        exact q9
    · have hev : Opd.ev env3 (.t 25) = .bool false := by rw [ev_t, c5]; simp [heq]
      generalize hk3 : killT env3 [25] = env4 at d1
      obtain ⟨hl4, d2, d3⟩ := d1
      obtain ⟨env5, g1, g2, g3, g4⟩ : ∃ env5, evalJ [(0, ⟨some 14, .mv (.t 3), none, [], [3]⟩), (1, ⟨some 15, .bin .add (.t 14) (.c (.int .i64 (1))), none, [], [14]⟩), (2, ⟨some 3, .mv (.t 15), none, [], [15]⟩)] env4 H = some (env5, H) ∧ env5.length = 61 ∧ gt env5 0 = .sl p 0 n 1 false ∧ gt env5 3 = .int .i64 ((k + 1 : Nat) : Int) := by
        refine ⟨_, by simp [hl4, d3]; exact rfl, by simp [hl4], by simp [hl4, d2], ?_⟩
        simp [hl4]
        exact_mod_cast wrapn (n := k) (by omega)
      have jB : J Tb X (.co cptL0 env H .normal env5 H) := by
        refine .seqN jA (.seqN (.blockN (by simp) (.seqN (J_regs (by simp) c1) (.condF hev (.seqN .kill .skip)))) ?_)
        rw [hk3]
        exact J_regs (by simp) g1
      obtain ⟨env6, H6, hres⟩ := cpt_outer hn hmax m (by omega) g2 g3 g4 hc (by omega) (cpt_same hcmp h1 (by omega) heq)
      refine ⟨env6, H6, hres.imp (fun ⟨a, b⟩ => ⟨.loopN jB a, b⟩) (fun ⟨a, b⟩ => ⟨.loopN jB a, b⟩)⟩
theorem dens_ints {H : Heap} {F : Nat → Prop} {b : Bool} : ∀ {l : List Int} {avs : List AV} {ls : List Nat}, Dens H F avs (arr eI b l) ls → avs = l.map (fun n => .int .i64 n) ∧ ls = []
  | [], avs, ls, h => by rw [arr_nil, Dens] at h; exact h
  | a :: l, avs, ls, h => by
    rw [arr_cons, eInt_c, List.singleton_append, Dens] at h
    obtain ⟨c, cs', l1, l2, rfl, rfl, h1, h2⟩ := h
    rw [Den] at h1
    obtain ⟨rfl, rfl⟩ := h1
    obtain ⟨rfl, rfl⟩ := dens_ints h2
    exact ⟨rfl, rfl⟩
theorem ints_dens {H : Heap} {F : Nat → Prop} {b : Bool} : ∀ {l : List Int}, Dens H F (l.map (fun n => AV.int .i64 n)) (arr eI b l) []
  | [] => by rw [arr_nil, Dens]; exact ⟨rfl, rfl⟩
  | a :: l => by
    rw [arr_cons, eInt_c, List.singleton_append, List.map_cons, Dens]
    exact ⟨_, _, [], [], rfl, rfl, by rw [Den]; exact ⟨rfl, rfl⟩, ints_dens⟩
def nOf : AV → Nat
  | .sl _ _ m _ _ => m
  | _ => 0
theorem compact_of {io : Nat → List Nat} {f : Nat} {l : List Int} (hT : Tb f = some ⟨61, 1, [.t 2], cptB⟩) (hio : io f = [0]) (hmax : l.length < 9223372036854775807) : CallOk Tb X io f [osl eI true l] (ssl eI (compactL l)) [.und] := by
  intro H F vs ls hd hnd hfz
  have hvl := hd.length
  match vs, hvl, hd with
  | [v], _, hd =>
  rw [dens_one] at hd
  have ev0 : gt ([v] ++ List.replicate 60 AV.und) 0 = v := by unfold gt; simp
  have hl0 : ([v] ++ List.replicate 60 AV.und).length = 61 := by simp
  generalize henv : [v] ++ List.replicate 60 AV.und = env0 at ev0 hl0
  obtain ⟨env1, a1, a2, a3⟩ : ∃ env1, evalJ [(0, ⟨some 2, .mv (.c (.nils)), none, [], [2]⟩)] env0 H = some (env1, H) ∧ env1.length = 61 ∧ gt env1 0 = v := ⟨_, by simp; exact rfl, by simp [hl0], by simp [hl0, ev0]⟩
  -- the answer is the argument itself
  have short : ∀ (n : Nat), nOf v = n → n < 2 → (∃ l o e x, v = .sl l o n e x) ∨ v = .nils → ∃ env' : Env, J Tb X (.ca f [v] H v H) ∧ List.length env' = 61 := by
    intro n hn h2 hv
    obtain ⟨env2, b1, b2, b3, b4⟩ : ∃ env2, evalJ [(0, ⟨some 6, .mv (.t 0), none, [], []⟩), (1, ⟨some 7, .len (.t 6), none, [], [6]⟩), (2, ⟨some 8, .bin .lss (.t 7) (.c (.int .i64 (2))), none, [], [7]⟩)] env1 H = some (env2, H) ∧ env2.length = 61 ∧ gt env2 0 = v ∧ gt env2 8 = .bool true := by
      rcases hv with ⟨l, o, e, x, hv⟩ | hv
      · refine ⟨_, by simp [a2, a3, hv]; exact rfl, by simp [a2], by simp [a2, a3], ?_⟩
        simp [a2]; omega
      · refine ⟨_, by simp [a2, a3, hv]; exact rfl, by simp [a2], by simp [a2, a3], ?_⟩
        simp [a2]
    have c1 : (killT env2 [8]).length = 61 ∧ gt (killT env2 [8]) 0 = v := ⟨by simp [killT, b2], by simp [killT, b2, b3]⟩
    generalize hk : killT env2 [8] = env3 at c1
    obtain ⟨c2, c3⟩ := c1
    obtain ⟨env4, d1, d2, d3⟩ : ∃ env4, evalJ [(0, ⟨some 9, .mv (.t 0), none, [], []⟩), (1, ⟨some 2, .mv (.t 9), none, [], [9]⟩)] env3 H = some (env4, H) ∧ env4.length = 61 ∧ gt env4 2 = v := ⟨_, by simp; exact rfl, by simp [c2], by simp [c2, c3]⟩
    refine ⟨env4, .call hT rfl (by decide) (env' := env4) (ex := .ret) ?_ (.inr rfl) ?_, d2⟩
    · show J Tb X (.co cptB ([v] ++ List.replicate 60 AV.und) H .ret _ H)
      rw [henv]
      refine .seqN (J_regs (by simp) a1) (.seqX (by simp) (.seqN (J_regs (by simp) b1) (.condT (by rw [ev_t]; exact b4) (.seqN .kill ?_))))
      rw [hk]
      exact .seqN (J_regs (by simp) d1) .ret
    · simp only [results, List.mapM_cons, List.mapM_nil, resOf]
      have : env4.getD 2 .und = v := by rw [← d3]; unfold gt; rfl
      rw [this]; rfl
  rw [Den] at hd
  rcases hd with ⟨_, hl, hv, rfl, he⟩ | ⟨p, o, n, avs, hv, he, hn, hp, hd⟩
  · have hnil : l = [] := by simpa using hl
    subst hnil
    obtain ⟨_, h1, _⟩ := short 0 (by rcases hv with rfl | ⟨_, _, rfl⟩ <;> rfl) (by omega) (by rcases hv with rfl | ⟨q, o, rfl⟩; exact .inr rfl; exact .inl ⟨q, o, _, _, rfl⟩)
    refine ⟨v, H, F, [], h1, hfz, ?_, List.nodup_nil, Tr.refl _ _ _⟩
    rw [hio]
    rw [Dens]
    refine ⟨v, [v], [], [], rfl, rfl, ?_, by rw [dens_one, Den]⟩
    rw [Den]
    exact .inl ⟨rfl, by simp [compactL], hv, rfl, he⟩
  · rcases hd with ⟨_, h3, h4, h5, ⟨rest, h6, h7⟩, l1, h8, h9⟩ | ⟨h1, _⟩
    · subst h3
      obtain ⟨rfl, rfl⟩ := dens_ints h9
      have hrest : rest = [] := List.eq_nil_of_length_eq_zero (by simpa using h7)
      subst hrest
      have hln : l.length = n := by simpa using hn
      have hc : holdsI H p l := ⟨hp, h4, by simpa using h6⟩
      have hv' : v = .sl p 0 n 1 false := by rw [hv]; simp
      subst h8
      -- what is left to show of an answer
      have fin : ∀ {H' : Heap} {m : Nat} {cs' : List Int}, J Tb X (.ca f [v] H (.sl p 0 m 1 false) H') → m = (compactL l).length → H'.sz = H.sz → (∀ q, q ≠ p → H'.get q = H.get q) → holdsI H' p cs' → cs'.take (compactL l).length = compactL l →
          ∃ w H'' F'' l2, J Tb X (.ca f [v] H w H'') ∧ Fz H'' F'' ∧ Dens H'' F'' (w :: ioSel (io f) 0 [v]) (ssl eI (compactL l) :: [.und]) l2 ∧ l2.Nodup ∧ Tr H F (fun k => k ∈ [p]) H'' F'' (fun k => k ∈ l2) := by
        intro H' m cs' hJ hm hsz hoth hh htk
        subst hm
        refine ⟨_, H', fun k => F k ∨ k = p, [], hJ, ?_, ?_, List.nodup_nil, ⟨by rw [hsz]; exact Nat.le_refl _, fun k hk hn => hoth k (by simpa using hn), by simp, fun k hk => .inl hk, fun k hk => hk.imp id fun e => .inl (by simp [e])⟩⟩
        · rintro k (hk | rfl)
          · have hkp : k ≠ p := fun e => by subst e; exact h5 hk
            rw [hoth k hkp, hsz]; exact hfz k hk
          · exact ⟨hh.1, by rw [hh.2.1]; simp⟩
        · rw [hio, Dens]
          refine ⟨_, [v], [], [], rfl, rfl, ?_, by rw [dens_one, Den]⟩
          rw [Den]
          refine .inr ⟨p, 0, _, (compactL l).map (fun n => .int .i64 n), rfl, by decide, by simp, hh.1, .inr ⟨rfl, by rw [hh.2.1]; simp, .inr rfl, ⟨[], (cs'.drop (compactL l).length).map (fun n => .int .i64 n), ?_, rfl⟩, rfl, ints_dens⟩⟩
          rw [hh.2.2, List.nil_append, ← htk, ← List.map_append]
          rw [htk, ← htk, List.length_take]
          rw [show min (compactL l).length cs'.length = (compactL l).length by
            have := congrArg List.length htk
            rw [List.length_take] at this; omega]
          rw [List.take_append_drop]
      by_cases h2 : n < 2
      · have hcl : compactL l = l := by
          match l, hln with
          | [], _ => rfl
          | [a], _ => rfl
          | a :: b :: r, hln => simp at hln; omega
        obtain ⟨_, h1, _⟩ := short n (by rw [hv']; rfl) h2 (.inl ⟨p, 0, _, _, hv'⟩)
        rw [hv'] at h1
        refine fin (m := n) (by rw [hv']; exact h1) (by rw [hcl, hln]) rfl (fun _ _ => rfl) hc (by rw [hcl]; simp)
      · rw [hv'] at a3
        obtain ⟨env2, b1, b2, b3, b4⟩ : ∃ env2, evalJ [(0, ⟨some 6, .mv (.t 0), none, [], []⟩), (1, ⟨some 7, .len (.t 6), none, [], [6]⟩), (2, ⟨some 8, .bin .lss (.t 7) (.c (.int .i64 (2))), none, [], [7]⟩)] env1 H = some (env2, H) ∧ env2.length = 61 ∧ gt env2 0 = .sl p 0 n 1 false ∧ gt env2 8 = .bool false := by
          refine ⟨_, by simp [a2, a3]; exact rfl, by simp [a2], by simp [a2, a3], ?_⟩
          simp [a2]; omega
        have c1 : (killT env2 [8]).length = 61 ∧ gt (killT env2 [8]) 0 = .sl p 0 n 1 false := ⟨by simp [killT, b2], by simp [killT, b2, b3]⟩
        generalize hk : killT env2 [8] = env3 at c1
        obtain ⟨c2, c3⟩ := c1
        obtain ⟨env4, d1, d2, d3, d4⟩ : ∃ env4, evalJ [(0, ⟨some 3, .mv (.c (.int .i64 (1))), none, [], []⟩)] env3 H = some (env4, H) ∧ env4.length = 61 ∧ gt env4 0 = .sl p 0 n 1 false ∧ gt env4 3 = .int .i64 ((1 : Nat) : Int) := ⟨_, by simp; exact rfl, by simp [c2], by simp [c2, c3], by simp [c2]⟩
        have h11 : compactL (l.take 1) = l.take 1 := by
          match l, hln with
          | [], _ => rfl
          | a :: r, _ => rfl
        have jA : J Tb X (.co (.seq (.reg false [(0, ⟨some 6, .mv (.t 0), none, [], []⟩), (1, ⟨some 7, .len (.t 6), none, [], [6]⟩), (2, ⟨some 8, .bin .lss (.t 7) (.c (.int .i64 (2))), none, [], [7]⟩)]) (.cond (.t 8) (.seq (.kill [8]) (.seq (.reg false [(0, ⟨some 9, .mv (.t 0), none, [], []⟩), (1, ⟨some 2, .mv (.t 9), none, [], [9]⟩)]) .ret)) (.seq (.kill [8]) .skip))) env1 H .normal env3 H) := by
          refine .seqN (J_regs (by simp) b1) (.condF (by rw [ev_t]; exact b4) (.seqN .kill ?_))
          rw [hk]; exact .skip
        have fres : ∀ {e9 : Env} {H9 : Heap} {m : Nat}, gt e9 2 = .sl p 0 m 1 false → results e9 H9 [.t 2] = some (.sl p 0 m 1 false) := by
          intro e9 H9 m h
          simp only [results, List.mapM_cons, List.mapM_nil, resOf]
          have : e9.getD 2 .und = .sl p 0 m 1 false := by rw [← h]; unfold gt; rfl
          rw [this]; rfl
        obtain ⟨env5, H5, hres⟩ := cpt_outer (Tb := Tb) (X := X) hln (by omega) (n - 1) (k := 1) (by omega) d2 d3 d4 hc (Nat.le_refl _) h11
        rcases hres with ⟨j1, r1, r2, r3, cs', r4, r5⟩ | ⟨j1, rfl, r2, r3, r4⟩
        · refine fin (m := (compactL l).length) (.call hT rfl (by decide) (env' := env5) (ex := .ret) ?_ (.inr rfl) (fres r3)) rfl r1 r2 r4 r5
          show J Tb X (.co cptB ([v] ++ List.replicate 60 AV.und) H .ret _ _)
          rw [henv]
          exact .seqN (J_regs (by simp) a1) (.seqN jA (.seqX (by simp) (.seqN (J_regs (by simp) d1) (.blockN (by simp) j1))))
        · obtain ⟨env6, g1, g2⟩ : ∃ env6, evalJ [(0, ⟨some 60, .mv (.t 0), none, [], []⟩), (1, ⟨some 2, .mv (.t 60), none, [], [60]⟩)] env5 H5 = some (env6, H5) ∧ gt env6 2 = .sl p 0 n 1 false := ⟨_, by simp; exact rfl, by simp [r2, r3]⟩
          refine fin (m := n) (.call hT rfl (by decide) (env' := env6) (ex := .ret) ?_ (.inr rfl) (fres g2)) (by rw [r4, hln]) rfl (fun _ _ => rfl) hc (by rw [r4]; simp)
          show J Tb X (.co cptB ([v] ++ List.replicate 60 AV.und) H5 .ret _ _)
          rw [henv]
          exact .seqN (J_regs (by simp) a1) (.seqN jA (.seqN (.seqN (J_regs (by simp) d1) (.blockE j1)) (.seqN (J_regs (by simp) g1) .ret)))
    · cases h1
end
/-- Compact, as a partial function. -/
def compactN (l : List Int) : Option (List Int) := if l.length < 9223372036854775807 then some (compactL l) else none
theorem ca_compact {x : Cx} {X : Ext} {f : Nat} {l r : List Int} (hx1 : ∀ f ts t outs, CallOk x.fns X x.io f ts t outs → x.X f ts t outs) (hf : x.fns f = some ⟨61, 1, [.t 2], cptB⟩) (hio : x.io f = [0]) (h : compactN l = some r) : VJx x (.ca f [osl eI true l] (ssl eI r) [.und]) := by
  unfold compactN at h
  split at h
  · rename_i hm
    simp only [Option.some.injEq] at h
    subst h
    exact VJ.ext (hx1 _ _ _ _ (compact_of hf hio hm))
  · simp at h
end Go.Proofs.YtabmomjfdondnaaH
