/- Plain laws: blocks of facts, and the repair that a set of facts picks. -/
import Derived.Test.YtabmomjfdondnaaTd1
import Derived.Test.YtabmomjfdondnaaPb11
set_option linter.unusedVariables false
set_option linter.unusedSimpArgs false
namespace Go.Proofs.YtabmomjfdondnaaH
open Go
variable {α ρ : Type}
theorem cmpL_trans : ∀ {a b c : List Int}, cmpL a b < 0 → cmpL b c < 0 → cmpL a c < 0
  | [], _, [], h1, h2 => by
    rename_i b
    cases b with
    | nil => simp [cmpL] at h1
    | cons y b => simp [cmpL] at h2
  | [], _, _ :: _, h1, h2 => by simp [cmpL]
  | _ :: _, [], _, h1, h2 => by simp [cmpL] at h1
  | _ :: _, _ :: _, [], h1, h2 => by simp [cmpL] at h2
  | x :: a, y :: b, z :: c, h1, h2 => by
    rw [cmpL] at h1 h2 ⊢
    by_cases c1 : x < y
    · by_cases c2 : y < z
      · rw [if_pos (by omega)]; omega
      · rw [if_neg c2] at h2
        by_cases c3 : y > z
        · rw [if_pos c3] at h2; omega
        · rw [if_pos (by omega)]; omega
    · rw [if_neg c1] at h1
      by_cases c3 : x > y
      · rw [if_pos c3] at h1; omega
      · rw [if_neg c3] at h1
        by_cases c2 : y < z
        · rw [if_pos (by omega)]; omega
        · rw [if_neg c2] at h2
          by_cases c4 : y > z
          · rw [if_pos c4] at h2; omega
          · rw [if_neg c4] at h2
            rw [if_neg (by omega), if_neg (by omega)]
            exact cmpL_trans h1 h2
theorem cmpL_conv : ∀ {m : Nat} {a b c : List Int}, cmpL a b < 0 → cmpL b c < 0 → m ≤ a.length → m ≤ b.length → m ≤ c.length → a.take m = c.take m → a.take m = b.take m
  | 0, _, _, _, _, _, _, _, _, _ => by simp
  | m + 1, [], _, _, _, _, h, _, _, _ => by simp at h
  | m + 1, _ :: _, [], _, _, _, _, h, _, _ => by simp at h
  | m + 1, _ :: _, _ :: _, [], _, _, _, _, h, _ => by simp at h
  | m + 1, x :: a, y :: b, z :: c, h1, h2, l1, l2, l3, h => by
    simp only [List.take_succ_cons, List.cons.injEq] at h ⊢
    obtain ⟨rfl, h⟩ := h
    simp only [List.length_cons] at l1 l2 l3
    rw [cmpL] at h1 h2
    have e : x = y := by
      by_cases c1 : x < y
      · rw [if_neg (by omega), if_pos (by omega)] at h2; omega
      · rw [if_neg c1] at h1
        by_cases c2 : x > y
        · rw [if_pos c2] at h1; omega
        · omega
    subst e
    rw [if_neg (by omega), if_neg (by omega)] at h1 h2
    exact ⟨rfl, cmpL_conv h1 h2 (by omega) (by omega) (by omega) h⟩
theorem cmpL_eq : ∀ {a b : List Int}, cmpL a b = 0 ↔ a = b
  | [], [] => by simp [cmpL]
  | [], _ :: _ => by simp [cmpL]
  | _ :: _, [] => by simp [cmpL]
  | x :: a, y :: b => by
    rw [cmpL]
    by_cases c1 : x < y
    · rw [if_pos c1]; simp; intro h; omega
    · rw [if_neg c1]
      by_cases c2 : x > y
      · rw [if_pos c2]; simp; intro h; omega
      · rw [if_neg c2, cmpL_eq]
        simp only [List.cons.injEq]
        exact ⟨fun h => ⟨by omega, h⟩, fun h => h.2⟩
theorem cmpF_trans {a b c : Fact} (h1 : cmpF a b < 0) (h2 : cmpF b c < 0) : cmpF a c < 0 := by
  unfold cmpF at h1 h2 ⊢
  by_cases c1 : a.Relation < b.Relation
  · by_cases c2 : b.Relation > c.Relation
    · rw [if_neg (by omega), if_pos c2] at h2; omega
    · rw [if_pos (by omega)]; omega
  · rw [if_neg c1] at h1
    by_cases c3 : a.Relation > b.Relation
    · rw [if_pos c3] at h1; omega
    · rw [if_neg c3] at h1
      by_cases c2 : b.Relation < c.Relation
      · rw [if_pos (by omega)]; omega
      · rw [if_neg c2] at h2
        by_cases c4 : b.Relation > c.Relation
        · rw [if_pos c4] at h2; omega
        · rw [if_neg c4] at h2
          rw [if_neg (by omega), if_neg (by omega)]
          exact cmpL_trans h1 h2
def keyOf (l : List Relation) (a : Fact) : List Int := a.Values.take (keyLen l a.Relation).toNat
/-- The same key. -/
def same (l : List Relation) (a b : Fact) : Bool := decide (a.Relation = b.Relation) && decide (keyOf l a = keyOf l b)
theorem vRel_mem {l : List Relation} (h : vRels l = true) {r : Relation} (hr : r ∈ l) : vRel r = true := by
  unfold vRels at h; simp only [Bool.and_eq_true] at h
  obtain ⟨i, hi, rfl⟩ := List.mem_iff_getElem.1 hr
  exact (good_of h.1 hi).1
theorem key_le {l : List Relation} {f : Fact} (h : vRels l = true) (hf : vFact l f = true) : ∃ x, ix l f.Relation = some x ∧ x.KeyLength = keyLen l f.Relation ∧ 0 ≤ keyLen l f.Relation ∧ keyLen l f.Relation ≤ f.Values.length := by
  unfold vFact at hf; simp only [Bool.and_eq_true, decide_eq_true_eq] at hf
  obtain ⟨x, h1, h2, h3, h4⟩ := ix_rel hf.1
  have := vRel_mem h h2
  unfold vRel btw at this
  simp only [Bool.and_eq_true, decide_eq_true_eq] at this
  exact ⟨x, h1, h4, by omega, by omega⟩
theorem specKey {l : List Relation} {f : Fact} (hl : Big l.length) (hv : f.Values.length ≤ 1048576) (h : vRels l = true) (hf : vFact l f = true) : f197 l f = some (keyOf l f) := by
  unfold f197
  rw [specFact hl (by omega), h, hf]
  obtain ⟨x, h1, h2, h3, h4⟩ := key_le h hf
  simp only [Bool.and_self, Option.bind_some, not_true_eq_false, if_false, h1]
  rw [h2, cutL_ok (by omega) h3 h4, Option.bind_some, app_fits (by simp; omega)]
  simp [keyOf]
theorem specSame {l : List Relation} {a b : Fact} (hl : Big l.length) (ha : a.Values.length ≤ 1048576) (hb : b.Values.length ≤ 1048576) (h : vRels l = true) (va : vFact l a = true) (vb : vFact l b = true) : f183 l a b = some (same l a b) := by
  unfold f183 same
  rw [specFact hl (by omega), specFact hl (by omega), h, va, vb, specKey hl ha h va, specKey hl hb h vb]
  have k1 : Big (keyOf l a).length := by unfold keyOf; simp; omega
  have k2 : Big (keyOf l b).length := by unfold keyOf; simp; omega
  by_cases c : a.Relation = b.Relation
  · simp only [Bool.and_self, Option.bind_some, if_true, c, specInts k1 k2, decide_true, Bool.true_and]
    by_cases e : keyOf l a = keyOf l b
    · rw [cmpL_eq.2 e]; simp [e]
    · have : ¬ cmpL (keyOf l a) (keyOf l b) = 0 := fun h => e (cmpL_eq.1 h)
      simp [this, e]
  · simp [c]
theorem eqSl {a b : List Int} (ha : Big a.length) : f182 a b = some (decide (a = b)) := by
  unfold f182
  by_cases hl : a.length = b.length
  · rw [if_neg (by omega)]
    rw [iter_ex (List.range a.length) (fun i => decide (a[i]? ≠ b[i]?)) false (fun i hi => by
      simp only [List.length_range] at hi
      simp only [f182_0, List.getElem_range]
      rw [if_pos (by omega), ix_nat hi, ix_nat (by omega : i < b.length), w64_succ (by omega), List.getElem?_eq_getElem hi, List.getElem?_eq_getElem (by omega : i < b.length)]
      by_cases c : a[i] = b[i]'(by omega)
      · simp [c]
      · simp [c]) (by
      simp only [f182_0]
      rw [if_neg (by simp)])]
    by_cases e : a = b
    · subst e; simp
    · have : ((List.range a.length).any fun i => decide (a[i]? ≠ b[i]?)) = true := by
        apply Classical.byContradiction
        intro hn
        apply e
        apply List.ext_getElem hl
        intro i h1 h2
        apply Classical.byContradiction
        intro hne
        exact hn (List.any_eq_true.2 ⟨i, List.mem_range.2 h1, by simp [List.getElem?_eq_getElem h1, List.getElem?_eq_getElem h2, hne]⟩)
      rw [if_pos this]; simp [e]
  · rw [if_pos (by omega)]
    have : a ≠ b := fun h => hl (by rw [h])
    simp [this]
theorem impSame {l : List Relation} {a b : Fact} (ha : a.Values.length ≤ 1048576) (hb : b.Values.length ≤ 1048576) (h : vRels l = true) (va : vFact l a = true) (vb : vFact l b = true) : f149 l a b = some (same l a b) := by
  unfold f149 same
  obtain ⟨x, h1, h2, h3, h4⟩ := key_le h va
  obtain ⟨x', h1', h2', h3', h4'⟩ := key_le h vb
  by_cases c : a.Relation = b.Relation
  · rw [if_neg (by simp [c]), h1, Option.bind_some, h2, cutL_ok (by omega) h3 h4, Option.bind_some, cutL_ok (by omega) h3 (by rw [c]; exact h4'), Option.bind_some, eqSl (by simp; omega)]
    simp [keyOf, c]
  · rw [if_pos c]; simp [c]

/-- Kinship among 0..n-1: kin lie side by side. -/
structure Kin (n : Nat) (sk : Nat → Nat → Bool) : Prop where
  refl : ∀ i, i < n → sk i i = true
  symm : ∀ i k, i < n → k < n → sk i k = sk k i
  trans : ∀ i j k, i < n → j < n → k < n → sk i j = true → sk j k = true → sk i k = true
  conv : ∀ i j k, i ≤ j → j ≤ k → k < n → sk i k = true → sk i j = true
variable {n : Nat} {sk : Nat → Nat → Bool}
def blk (sk : Nat → Nat → Bool) (i x : Nat) : List Int := (List.range x).flatMap fun k => if sk i k = true then [((k : Nat) : Int)] else []
def start (sk : Nat → Nat → Bool) (i : Nat) : Bool := (List.range i).all fun k => !sk k i
def blks (sk : Nat → Nat → Bool) (y x : Nat) : List (List Int) := (List.range y).flatMap fun i => if start sk i = true then [blk sk i x] else []
theorem blk_succ {i x : Nat} : blk sk i (x + 1) = blk sk i x ++ if sk i x = true then [((x : Nat) : Int)] else [] := by simp [blk, List.range_succ]
theorem blks_succ {y x : Nat} : blks sk (y + 1) x = blks sk y x ++ if start sk y = true then [blk sk y x] else [] := by simp [blks, List.range_succ]
theorem blk_len {i x : Nat} : (blk sk i x).length ≤ x := by
  induction x with
  | zero => simp [blk]
  | succ x ih => rw [blk_succ, List.length_append]; split <;> simp <;> omega
theorem blks_len {y x : Nat} : (blks sk y x).length ≤ y := by
  induction y with
  | zero => simp [blks]
  | succ y ih => rw [blks_succ, List.length_append]; split <;> simp <;> omega
theorem blk_none {i s : Nat} (h : ∀ k, k < s → sk i k = false) : blk sk i s = [] := by
  induction s with
  | zero => simp [blk]
  | succ s ih => rw [blk_succ, ih fun k hk => h k (by omega), h s (by omega)]; simp
theorem blk_first {i s x : Nat} (h : ∀ k, k < s → sk i k = false) (hs : sk i s = true) (hx : s < x) : ∃ t, blk sk i x = (s : Int) :: t := by
  induction x with
  | zero => omega
  | succ x ih =>
    rw [blk_succ]
    by_cases e : s = x
    · subst e; rw [blk_none h, if_pos hs]; exact ⟨[], rfl⟩
    · obtain ⟨t, ht⟩ := ih (by omega)
      rw [ht]; exact ⟨_, rfl⟩
theorem start_iff {i : Nat} : start sk i = true ↔ ∀ k, k < i → sk k i = false := by
  unfold start; rw [List.all_eq_true]
  simp only [List.mem_range, Bool.not_eq_true']
theorem not_start {i : Nat} (h : start sk i = false) : ∃ s, s < i ∧ sk s i = true ∧ ∀ k, k < s → sk k i = false := by
  have : ∃ s, s < i ∧ sk s i = true := by
    apply Classical.byContradiction
    intro hn
    have : start sk i = true := start_iff.2 fun k hk => by
      cases hb : sk k i
      · rfl
      · exact (hn ⟨k, hk, hb⟩).elim
    rw [h] at this; cases this
  obtain ⟨s, h1, h2⟩ := this
  induction s using Nat.strongRecOn with
  | _ s ih =>
    by_cases c : ∃ k, k < s ∧ sk k i = true
    · obtain ⟨k, hk, hc⟩ := c
      exact ih k hk (by omega) hc
    · refine ⟨s, h1, h2, fun k hk => ?_⟩
      cases hb : sk k i
      · rfl
      · exact (c ⟨k, hk, hb⟩).elim
theorem blk_head (K : Kin n sk) {i x : Nat} (hi : i < n) (hx : x ≤ n) (hix : i < x) : ∃ (s : Nat) (t : List Int), blk sk i x = (s : Int) :: t ∧ s ≤ i ∧ (s = i ↔ start sk i = true) := by
  cases hs : start sk i
  · obtain ⟨s, h1, h2, h3⟩ := not_start hs
    obtain ⟨t, ht⟩ := blk_first (sk := sk) (i := i) (s := s) (x := x) (fun k hk => by rw [K.symm i k hi (by omega)]; exact h3 k hk) (by rw [K.symm i s hi (by omega)]; exact h2) (by omega)
    refine ⟨s, t, ht, by omega, ?_⟩
    simp; omega
  · obtain ⟨t, ht⟩ := blk_first (sk := sk) (i := i) (s := i) (x := x) (fun k hk => by rw [K.symm i k hi (by omega)]; exact start_iff.1 hs k hk) (K.refl i hi) hix
    exact ⟨i, t, ht, by omega, by simp⟩
theorem blks_bnd {y x : Nat} (h : ∀ i, i < y → start sk i = true → sk i x = false) : blks sk y (x + 1) = blks sk y x := by
  induction y with
  | zero => simp [blks]
  | succ y ih =>
    rw [blks_succ, blks_succ, ih fun i hi => h i (by omega)]
    by_cases c : start sk y = true
    · rw [if_pos c, if_pos c, blk_succ, h y (by omega) c]; simp
    · rw [if_neg c, if_neg c]
theorem blks_nost {s y x : Nat} (hs : s ≤ y) (h : ∀ i, s ≤ i → i < y → start sk i = false) : blks sk y x = blks sk s x := by
  induction y with
  | zero => have : s = 0 := by omega
            subst this; rfl
  | succ y ih =>
    by_cases e : s = y + 1
    · subst e; rfl
    · rw [blks_succ, h y (by omega) (by omega)]
      simp [ih (by omega) fun i h1 h2 => h i h1 (by omega)]
theorem blks_start (K : Kin n sk) {x : Nat} (hx : x < n) (h : start sk x = true) : blks sk (x + 1) (x + 1) = blks sk x x ++ [[(x : Int)]] := by
  rw [blks_succ, if_pos h, blks_bnd fun i hi _ => start_iff.1 h i hi, blk_succ, K.refl x hx, if_pos rfl, blk_none fun k hk => by rw [K.symm x k hx (by omega)]; exact start_iff.1 h k hk]
  rfl
theorem blks_more (K : Kin n sk) {x : Nat} (hx : x < n) (h : start sk x = false) : ∃ P B, blks sk x x = P ++ [B] ∧ blks sk (x + 1) (x + 1) = P ++ [B ++ [(x : Int)]] ∧ B.length ≤ x ∧ ∃ s t, s < x ∧ B = ((s : Nat) : Int) :: t ∧ sk s x = true := by
  obtain ⟨s, h1, h2, h3⟩ := not_start h
  have hst : start sk s = true := start_iff.2 fun k hk => by
    cases hb : sk k s
    · rfl
    · have := K.trans k s x (by omega) (by omega) hx hb h2
      rw [h3 k hk] at this; cases this
  have hno : ∀ i, s + 1 ≤ i → i < x + 1 → start sk i = false := fun i a b => by
    cases hb : start sk i
    · rfl
    · have := start_iff.1 hb s (by omega)
      rw [K.conv s i x (by omega) (by omega) hx h2] at this; cases this
  refine ⟨blks sk s x, blk sk s x, ?_, ?_, blk_len, ?_⟩
  · rw [blks_nost (s := s + 1) (by omega) fun i a b => hno i a (by omega), blks_succ, if_pos hst]
  · rw [blks_nost (s := s + 1) (by omega) hno, blks_succ, if_pos hst, blks_bnd fun i hi _ => h3 i hi, blk_succ, if_pos h2]
  · obtain ⟨s', t, e1, e2, e3⟩ := blk_head K (i := s) (x := x) (by omega) (by omega) h1
    have := e3.2 hst
    subst this
    exact ⟨s', t, h1, e1, h2⟩
theorem blks_mem (K : Kin n sk) {y x : Nat} (hy : y ≤ x) (hx : x ≤ n) {B : List Int} (h : B ∈ blks sk y x) : B.length ≤ x ∧ ∃ s t, s < y ∧ B = ((s : Nat) : Int) :: t := by
  unfold blks at h
  rw [List.mem_flatMap] at h
  obtain ⟨i, hi, h⟩ := h
  rw [List.mem_range] at hi
  by_cases c : start sk i = true
  · rw [if_pos c, List.mem_singleton] at h
    subst h
    refine ⟨blk_len, ?_⟩
    obtain ⟨s', t, e1, e2, e3⟩ := blk_head K (i := i) (x := x) (by omega) (by omega) (by omega)
    exact ⟨s', t, by omega, e1⟩
  · rw [if_neg c] at h; cases h

/-- What a set picks from each block. -/
def pick (c : Int → Bool) (bs : List (List Int)) : List Int := bs.filterMap fun b => b.find? c
def picks (c : Int → Bool) (bs : List (List Int)) : List Int × Bool := if (bs.all fun b => (b.find? c).isSome) = true then (pick c bs, true) else ([], false)
theorem pick_up (K : Kin n sk) {c : Int → Bool} {y : Nat} (hy : y ≤ n) : (pick c (blks sk y n)).Pairwise (· < ·) ∧ ∀ v ∈ pick c (blks sk y n), ∃ k : Nat, k < n ∧ v = k ∧ ∀ t, y ≤ t → t < n → start sk t = true → k < t := by
  induction y with
  | zero => simp [blks, pick]
  | succ y ih =>
    obtain ⟨i1, i2⟩ := ih (by omega)
    rw [blks_succ]
    cases hs : start sk y
    · simp only [Bool.false_eq_true, if_false, List.append_nil]
      refine ⟨i1, fun v hv => ?_⟩
      obtain ⟨k, a, b, c⟩ := i2 v hv
      exact ⟨k, a, b, fun t ht => c t (by omega)⟩
    · simp only [if_true]
      have e : pick c (blks sk y n ++ [blk sk y n]) = pick c (blks sk y n) ++ ((blk sk y n).find? c).toList := by
        unfold pick
        rw [List.filterMap_append]
        cases hf : (blk sk y n).find? c <;> simp [hf]
      rw [e]
      have q : ∀ v ∈ ((blk sk y n).find? c).toList, ∃ k : Nat, k < n ∧ v = k ∧ y ≤ k ∧ sk y k = true := by
        intro v hv
        simp only [Option.mem_toList] at hv
        have hm := List.mem_of_find?_eq_some hv
        unfold blk at hm
        rw [List.mem_flatMap] at hm
        obtain ⟨k, hk, hm⟩ := hm
        rw [List.mem_range] at hk
        by_cases c1 : sk y k = true
        · rw [if_pos c1, List.mem_singleton] at hm
          refine ⟨k, hk, hm, ?_, c1⟩
          apply Classical.byContradiction
          intro hlt
          have := start_iff.1 hs k (by omega)
          rw [K.symm k y hk (by omega), c1] at this; cases this
        · rw [if_neg c1] at hm; cases hm
      refine ⟨List.pairwise_append.2 ⟨i1, ?_, fun a ha b hb => ?_⟩, fun v hv => ?_⟩
      · cases (blk sk y n).find? c <;> simp
      · obtain ⟨k, a1, rfl, a2⟩ := i2 a ha
        obtain ⟨k', b1, rfl, b2, b3⟩ := q b hb
        have := a2 y (by omega) (by omega) hs
        omega
      · rcases List.mem_append.1 hv with hv | hv
        · obtain ⟨k, a, b, c⟩ := i2 v hv
          exact ⟨k, a, b, fun t ht => c t (by omega)⟩
        · obtain ⟨k, a, b, c, d⟩ := q v hv
          refine ⟨k, a, b, fun t ht hn hst => ?_⟩
          apply Classical.byContradiction
          intro hlt
          have := start_iff.1 hst y (by omega)
          rw [K.conv y t k (by omega) (by omega) a d] at this; cases this
theorem pick_len {c : Int → Bool} {bs : List (List Int)} : (pick c bs).length ≤ bs.length := List.length_filterMap_le _ _
theorem picks_len {c : Int → Bool} {bs : List (List Int)} : (picks c bs).1.length ≤ bs.length := by
  unfold picks; split
  · exact pick_len
  · simp
theorem iter_pick {f : List Int × Int → Option ((List Int × Int) ⊕ (List Int ⊕ (List Int × Bool)))} (L : List (List Int)) (c : Int → Bool)
    (hs : ∀ (i : Nat) (h : i < L.length) out, out.length ≤ i → f (out, (i : Int)) = some (match L[i].find? c with | none => .inr (.inr ([], false)) | some v => .inl (out ++ [v], ((i + 1 : Nat) : Int))))
    (he : ∀ out, f (out, (L.length : Int)) = some (.inr (.inl out))) : iter f ([], 0) = some (if (L.all fun b => (b.find? c).isSome) = true then .inl (pick c L) else .inr ([], false)) := by
  obtain ⟨o, h1, h2⟩ := iter_up (f := f) L.length (fun i s => s = (pick c (L.take i), (i : Int)) ∧ ((L.take i).all fun b => (b.find? c).isSome) = true)
    (fun o => o = if (L.all fun b => (b.find? c).isSome) = true then .inl (pick c L) else .inr ([], false)) (fun i s hi ⟨h, hp⟩ => by
      subst h
      have hl := pick_len (c := c) (bs := L.take i)
      rw [List.length_take] at hl
      refine ⟨_, hs i hi _ (by omega), ?_⟩
      cases hf : L[i].find? c with
      | none =>
        dsimp only
        rw [if_neg]
        intro hall
        have := List.all_eq_true.1 hall _ (List.getElem_mem hi)
        rw [hf] at this; cases this
      | some v =>
        dsimp only
        refine ⟨?_, ?_⟩
        · rw [take_succ' hi]; unfold pick; rw [List.filterMap_append]; simp [hf]
        · rw [take_succ' hi, List.all_append, hp]; simp [hf]) (fun s ⟨h, hp⟩ => by
      subst h
      rw [List.take_of_length_le (Nat.le_refl _)] at hp ⊢
      exact ⟨_, he _, by rw [if_pos hp]⟩) ([], 0) ⟨by simp [pick], by simp⟩
  rw [h1, h2]
theorem sortUp {l : List Int} (h : l.length ≤ 1048576) (hp : l.Pairwise (· < ·)) : f99 l = some l := by
  unfold f99
  have := iter_steps (f := f99_0 l) (fun i => (l.take i, (i : Int))) l.length l (fun i hi => by
    have e : (l.take i).length = i := by simp; omega
    simp only [f99_0]
    have it : iter (f99_1 l (l.take i) i) ((l.take i).length : Int) = some (i : Int) := by
      refine iter_steps (fun _ => ((l.take i).length : Int)) 0 _ (fun i hi => by omega) ?_
      simp only [f99_1]
      rw [e]
      by_cases h0 : i = 0
      · subst h0; simp
      · rw [if_pos (by omega), w64_of (by omega), show (i : Int) - 1 = ((i - 1 : Nat) : Int) by omega, ix_nat (by omega), ix_nat hi]
        have : ¬ l[i] < l[i - 1]'(by omega) := by
          have := List.pairwise_iff_getElem.1 hp (i - 1) i (by omega) hi (by omega)
          omega
        simp [List.getElem_take, this]
    rw [if_pos (by omega), it, Option.bind_some, cutL_ok (by omega) (by omega) (by omega), Option.bind_some, ix_nat hi, Option.bind_some, cutL_ok (by omega) (by omega) (by omega), Option.bind_some]
    have d1 : ((l.take i).take ((i : Nat) : Int).toNat).drop (0 : Int).toNat = l.take i := by simp [List.take_take]
    have d2 : ((l.take i).take (((l.take i).length : Nat) : Int).toNat).drop ((i : Nat) : Int).toNat = [] := by rw [List.drop_eq_nil_iff]; simp; omega
    rw [d1, d2, app_fits (by simp; omega), Option.bind_some, app_fits (by simp; omega), Option.bind_some, app_fits (by simp; omega), Option.bind_some, w64_succ (by omega), take_succ' hi]
    simp) (by
    simp only [f99_0]
    rw [if_neg (by simp), List.take_of_length_le (Nat.le_refl _)])
  simp only [Int.natCast_zero, List.take_zero, Int.ofNat_zero] at this
  erw [this]
  rfl
theorem indexFst {s : List Int} {f : Int → Option Bool} {p : Int → Bool} (h : Big s.length) (hf : ∀ a ∈ s, f a = some (p a)) :
    Ens (f103 s f) fun o => match s.find? p with | none => o = -1 | some v => 0 ≤ o ∧ ix s o = some v := by
  unfold f103
  refine Ens.bind (Q := fun o => match o with | .inl _ => s.find? p = none | .inr x => ∃ v, s.find? p = some v ∧ 0 ≤ x ∧ ix s x = some v) ?_ fun o ho => ?_
  · refine iter_up (f := f103_0 s f) s.length (fun i x => x = (i : Int) ∧ (s.take i).find? p = none) _ (fun i x hi ⟨h, hp⟩ => ?_) (fun x ⟨h, hp⟩ => ?_) 0 ⟨rfl, by simp⟩
    · subst h
      simp only [f103_0]
      rw [if_pos (by omega), ix_nat hi, w64_succ (by omega)]
      simp only [Option.bind_some, hf _ (List.getElem_mem hi)]
      by_cases c : p s[i] = true
      · rw [if_pos c]
        refine ⟨_, rfl, s[i], ?_, by omega, ix_nat hi⟩
        have e := congrArg (List.find? p) (List.take_append_drop i s)
        rw [List.find?_append, hp, List.drop_eq_getElem_cons hi, List.find?_cons_of_pos c] at e
        rw [← e]; rfl
      · rw [if_neg c]
        refine ⟨_, rfl, rfl, ?_⟩
        rw [take_succ' hi, List.find?_append, hp, List.find?_cons_of_neg c]; simp
    · subst h
      simp only [f103_0]
      rw [if_neg (by omega)]
      rw [List.take_of_length_le (Nat.le_refl _)] at hp
      exact ⟨_, rfl, hp⟩
  · cases o with
    | inl _ => dsimp only at ho; exact Ens.of (by rw [ho])
    | inr x => dsimp only at ho; obtain ⟨v, e1, e2⟩ := ho; exact Ens.of (by rw [e1]; exact e2)
end Go.Proofs.YtabmomjfdondnaaH

