/- Plain laws: unit propagation. -/
import Derived.Test.YthfbkecnnllpkaaTd1
import Derived.Test.YthfbkecnnllpkaaPb3
set_option linter.unusedVariables false
set_option linter.unusedSimpArgs false
namespace Go.Proofs.YthfbkecnnllpkaaH
open Go

abbrev neg (v : Int) : Int := w64 (-v)
def negs (c : List Int) : List Int := c.map neg
theorem negSpec {l : List Int} (h : l.length ≤ 1048576) : f15 l = some (negs l) := by
  unfold f15
  rw [iter_flat l (fun v => [neg v]) id (fun i hi => by
    have hn := take_flat_le (l := l) (i := i) (g := fun v => [neg v]) (m := 1) (fun _ => by simp)
    simp only [f15_0]
    rw [if_pos (by omega), ix_nat hi, Option.bind_some, app_fits (by simp only [List.length_singleton]; omega), w64_succ (by omega)]; rfl) (by
    simp only [f15_0]
    rw [if_neg (by omega)]; rfl)]
  rw [Option.bind_some, negs, List.map_eq_flatMap]; rfl
theorem negImp {l : List Int} (h : l.length ≤ 1048576) : f17 l = some (negs l) := by
  unfold f17
  rw [iter_flat l (fun v => [neg v]) id (fun i hi => by
    have hn := take_flat_le (l := l) (i := i) (g := fun v => [neg v]) (m := 1) (fun _ => by simp)
    simp only [f17_0]
    rw [if_pos (by omega), ix_nat hi, Option.bind_some, app_fits (by simp only [List.length_singleton]; omega), w64_succ (by omega)]; rfl) (by
    simp only [f17_0]
    rw [if_neg (by omega)]; rfl)]
  rw [Option.bind_some, negs, List.map_eq_flatMap]; rfl
/-- What of a clause is not false yet. -/
def left (out c : List Int) : List Int := c.filter fun v => !out.contains (neg v)
def hit (out c : List Int) : Bool := c.any out.contains
theorem filter_flat {α : Type} {l : List α} {p : α → Bool} : l.flatMap (fun v => if p v = true then [v] else []) = l.filter p := by
  induction l with
  | nil => rfl
  | cons a l ih => rw [List.flatMap_cons, ih, List.filter_cons]; split <;> rfl
theorem leftSpec {c out : List Int} (h : c.length ≤ 1048576) (ho : Big out.length) : ∃ o, f79 c out = some o ∧ o.2 = hit out c ∧ (o.2 = false → o.1 = left out c) := by
  unfold f79
  obtain ⟨r, e1, e2⟩ := iter_up (f := f79_0 c out) c.length (fun i s => s = (left out (c.take i), (i : Int)) ∧ hit out (c.take i) = false) (fun r => match r with | .inl o => o = left out c ∧ hit out c = false | .inr (o, b) => b = true ∧ hit out c = true) (fun i s hi ⟨hs, hh⟩ => by
    subst hs
    have hl : (left out (c.take i)).length ≤ i := by
      refine Nat.le_trans (List.length_filter_le _ _) ?_
      rw [List.length_take]; omega
    simp only [f79_0]
    rw [if_pos (by omega), ix_nat hi, Option.bind_some, hasI ho, Option.bind_some]
    have et := take_succ' hi
    by_cases hc : out.contains c[i] = true
    · rw [if_pos hc]
      exact ⟨_, rfl, rfl, List.any_eq_true.2 ⟨_, List.getElem_mem hi, hc⟩⟩
    · rw [if_neg hc, hasI ho, Option.bind_some, w64_succ (by omega)]
      simp only [Bool.not_eq_true] at hc
      have h2 : hit out (c.take (i + 1)) = false := by
        unfold hit at hh ⊢; rw [et, List.any_append, hh]; simp [hc]; simpa using hc
      have h3 : left out (c.take (i + 1)) = left out (c.take i) ++ (if !out.contains (neg c[i]) then [c[i]] else []) := by
        unfold left; rw [et, List.filter_append, List.filter_cons]; rfl
      by_cases hn : out.contains (neg c[i]) = true
      · refine ⟨.inl (left out (c.take i), ((i + 1 : Nat) : Int)), ?_, ?_, h2⟩
        · rw [if_neg (by simpa using hn)]; rfl
        · rw [h3, hn]; simp
      · refine ⟨.inl (left out (c.take i) ++ [c[i]], ((i + 1 : Nat) : Int)), ?_, ?_, h2⟩
        · rw [if_pos (by simpa using hn), app_fits (by simp only [List.length_singleton]; omega)]; rfl
        · simp only [Bool.not_eq_true] at hn
          rw [h3, hn]; simp) (fun s ⟨hs, hh⟩ => by
    subst hs
    rw [List.take_of_length_le (Nat.le_refl _)] at hh ⊢
    simp only [f79_0]
    rw [if_neg (by omega)]
    exact ⟨_, rfl, rfl, hh⟩) ([], 0) ⟨by simp [left], by simp [hit]⟩
  rw [e1]
  cases r with
  | inl o => exact ⟨_, rfl, e2.2.symm, fun _ => e2.1⟩
  | inr r => obtain ⟨o, b⟩ := r; exact ⟨_, rfl, e2.1.trans e2.2.symm, fun h => by rw [e2.1] at h; cases h⟩
theorem withoutImp {c b : List Int} (h : c.length ≤ 1048576) (hb : Big b.length) : f78 c b = some (c.filter fun v => !b.contains v) := by
  unfold f78
  rw [iter_flat c (fun v => if (!b.contains v) = true then [v] else []) id (fun i hi => by
    have hn := take_flat_le (l := c) (i := i) (g := fun v => if (!b.contains v) = true then [v] else []) (m := 1) (fun a => by split <;> simp)
    generalize (c.take i).flatMap (fun v => if (!b.contains v) = true then [v] else []) = out at hn ⊢
    simp only [f78_0]
    rw [if_pos (by omega), ix_nat hi, Option.bind_some, containsI hb, Option.bind_some, w64_succ (by omega)]
    cases hc : b.contains c[i]
    · rw [if_pos (by simp), app_fits (by simp only [List.length_singleton]; omega)]; rfl
    · rw [if_neg (by simp)]; simp) (by
    simp only [f78_0]
    rw [if_neg (by omega)]; rfl)]
  rw [Option.bind_some, filter_flat]; rfl
/-- Literals of n variables. -/
def Lits (n : Int) (c : List Int) : Prop := ∀ v ∈ c, v ≠ 0 ∧ -n ≤ v ∧ v ≤ n
theorem neg_neg {n v : Int} (h : n ≤ 14) (hv : v ≠ 0 ∧ -n ≤ v ∧ v ≤ n) : neg v = -v := w64_of (by omega)
theorem left_eq {n : Int} {c out : List Int} (hn : n ≤ 14) (hc : Lits n c) (ho : Lits n out) : (c.filter fun v => !(negs out).contains v) = left out c := by
  unfold left
  apply List.filter_congr
  intro v hv
  have : (negs out).contains v = out.contains (neg v) := by
    rw [Bool.eq_iff_iff, List.contains_iff_mem, List.contains_iff_mem]
    unfold negs
    rw [List.mem_map]
    constructor
    · rintro ⟨a, ha, rfl⟩
      rw [neg_neg hn (ho a ha)]
      have := ho a ha
      rw [neg_neg hn (by omega), Int.neg_neg]; exact ha
    · intro h
      refine ⟨_, h, ?_⟩
      have h1 := hc v hv
      rw [neg_neg hn h1, neg_neg hn (by omega), Int.neg_neg]
  rw [this]
/-- The first clause that says something. -/
def scan (out : List Int) : List (List Int) → Option (Option Int)
  | [] => none
  | c :: l => if hit out c = true then scan out l else match left out c with
    | [] => some none
    | [v] => some (some v)
    | _ => scan out l
def round (out : List Int) (l : List (List Int)) : (List Int × Bool) ⊕ (List Int × Bool) := match scan out l with
  | none => .inl (out, false)
  | some none => .inr (out, true)
  | some (some v) => .inl (out ++ [v], true)
theorem roundImp {n : Int} {l : List (List Int)} {out : List Int} (hn : n ≤ 14) (h : l.length ≤ 1048576) (h' : ∀ c ∈ l, c.length ≤ 1048576) (hl : ∀ c ∈ l, Lits n c) (ho : Lits n out) (hz : out.length ≤ 1048576) :
    iter (f64_1 l out) 0 = some (round out l) := by
  obtain ⟨r, e1, e2⟩ := iter_up (f := f64_1 l out) l.length (fun i s => s = (i : Int) ∧ scan out (l.drop i) = scan out l) (fun r => r = round out l) (fun i s hi ⟨hs, hh⟩ => by
    subst hs
    simp only [f64_1]
    have hb := h' _ (List.getElem_mem hi)
    have hg : Big (negs out).length := by simp only [negs, List.length_map]; omega
    rw [if_pos (by omega), ix_nat hi, Option.bind_some, indexI (p := out.contains) (by omega) (fun x _ => by
      unfold f77
      rw [containsI (by omega)]; rfl), Option.bind_some, negImp hz, Option.bind_some, withoutImp hb hg, left_eq hn (hl _ (List.getElem_mem hi)) ho, w64_succ (by omega)]
    rw [List.drop_eq_getElem_cons hi] at hh
    rw [scan] at hh
    by_cases hc : hit out l[i] = true
    · rw [if_pos hc] at hh
      rw [if_pos (show l[i].any out.contains = true from hc)]
      exact ⟨_, rfl, rfl, hh⟩
    · rw [if_neg hc] at hh
      rw [if_neg (show ¬ l[i].any out.contains = true from hc)]
      cases hv : left out l[i] with
      | nil =>
        rw [hv] at hh
        exact ⟨.inr (.inr (out, true)), rfl, by unfold round; rw [← hh]⟩
      | cons v t =>
        rw [hv] at hh
        rw [Option.bind_some, if_neg (by simp only [List.length_cons]; omega)]
        cases t with
        | nil =>
          rw [if_pos (by simp), show ix [v] (0 : Int) = some v from rfl, Option.bind_some, app_fits (by simp only [List.length_singleton]; omega)]
          exact ⟨.inr (.inl (out ++ [v], true)), rfl, by unfold round; rw [← hh]⟩
        | cons w t =>
          rw [if_neg (by simp only [List.length_cons]; omega)]
          exact ⟨_, rfl, rfl, hh⟩) (fun s ⟨hs, hh⟩ => by
    subst hs
    simp only [f64_1]
    rw [if_neg (by omega)]
    rw [List.drop_of_length_le (Nat.le_refl _), scan] at hh
    refine ⟨_, rfl, ?_⟩
    unfold round
    rw [← hh]) 0 ⟨rfl, by simp⟩
  rw [e1, e2]
theorem roundSpec {l : List (List Int)} {out : List Int} (h : l.length ≤ 1048576) (h' : ∀ c ∈ l, c.length ≤ 1048576) (hz : out.length ≤ 1048576) :
    ∃ r, iter (f65_1 l) (out, false, 0) = some r ∧ (match r with | .inl (o, m) => round out l = .inl (o, m) | .inr (o, m) => m = true ∧ round out l = .inr (o, m)) := by
  refine iter_up (f := f65_1 l) l.length (fun i s => (s = (out, false, (i : Int)) ∧ scan out (l.drop i) = scan out l) ∨ ∃ v, s = (out ++ [v], true, (i : Int)) ∧ scan out l = some (some v)) (fun r => match r with | .inl (o, m) => round out l = .inl (o, m) | .inr (o, m) => m = true ∧ round out l = .inr (o, m)) (fun i s hi hs => ?_) (fun s hs => ?_) (out, false, 0) (.inl ⟨rfl, by simp⟩)
  · rcases hs with ⟨hs, hh⟩ | ⟨v, hs, hh⟩
    · subst hs
      have hb := h' _ (List.getElem_mem hi)
      obtain ⟨⟨o1, o2⟩, g1, g2, g3⟩ := leftSpec (c := l[i]) (out := out) hb (by omega)
      simp only [f65_1]
      rw [if_pos (by omega), Option.bind_some, if_pos (by simp), ix_nat hi, Option.bind_some, g1, Option.bind_some, w64_succ (by omega)]
      rw [List.drop_eq_getElem_cons hi, scan] at hh
      simp only at g2 g3 ⊢
      by_cases hc : hit out l[i] = true
      · rw [if_pos hc] at hh
        rw [if_pos (g2.trans hc)]
        exact ⟨_, rfl, .inl ⟨rfl, hh⟩⟩
      · rw [if_neg hc] at hh
        simp only [Bool.not_eq_true] at hc
        rw [if_neg (by rw [g2, hc]; simp), g3 (g2.trans hc)]
        cases hv : left out l[i] with
        | nil =>
          rw [hv] at hh
          exact ⟨.inr (.inr (out, true)), rfl, rfl, by unfold round; rw [← hh]⟩
        | cons v t =>
          rw [hv] at hh
          rw [if_neg (by simp only [List.length_cons]; omega)]
          cases t with
          | nil =>
            rw [if_pos (by simp), show ix [v] (0 : Int) = some v from rfl, Option.bind_some, app_fits (by simp only [List.length_singleton]; omega)]
            exact ⟨.inl (out ++ [v], true, ((i + 1 : Nat) : Int)), rfl, .inr ⟨v, rfl, hh.symm⟩⟩
          | cons w t =>
            rw [if_neg (by simp only [List.length_cons]; omega)]
            exact ⟨_, rfl, .inl ⟨rfl, hh⟩⟩
    · subst hs
      simp only [f65_1]
      rw [if_pos (by omega), Option.bind_some, if_neg (by simp)]
      exact ⟨_, rfl, by unfold round; rw [hh]⟩
  · rcases hs with ⟨hs, hh⟩ | ⟨v, hs, hh⟩
    · subst hs
      simp only [f65_1]
      rw [if_neg (by omega), Option.bind_some, if_neg (by simp)]
      rw [List.drop_of_length_le (Nat.le_refl _), scan] at hh
      exact ⟨_, rfl, by unfold round; rw [← hh]⟩
    · subst hs
      simp only [f65_1]
      rw [if_neg (by omega), Option.bind_some, if_neg (by simp)]
      exact ⟨_, rfl, by unfold round; rw [hh]⟩

/-- Literals of n variables, each once. -/
def Good (n : Int) (c : List Int) : Prop := Lits n c ∧ c.Pairwise fun a b => a ≠ b ∧ a ≠ -b
theorem pigeon : ∀ (n : Nat) (l : List Nat), l.Nodup → (∀ x ∈ l, x < n) → l.length ≤ n
  | 0, l, _, h => by
    cases l with
    | nil => simp
    | cons a l => exact absurd (h a (by simp)) (by omega)
  | n + 1, l, hd, h => by
    have h1 := pigeon n (l.erase n) (hd.erase n) (fun x hx => by
      have h2 := h x (List.mem_of_mem_erase hx)
      have h3 : x ≠ n := fun e => by subst e; exact hd.not_mem_erase hx
      omega)
    have h4 := List.length_erase (l := l) (a := n)
    split at h4 <;> omega
theorem Good.len {n : Int} {c : List Int} (h : Good n c) : (c.length : Int) ≤ n ∨ c = [] := by
  cases hc : c with
  | nil => exact .inr rfl
  | cons a t =>
    left
    rw [← hc]
    have h0 := h.1 a (by rw [hc]; simp)
    have := pigeon n.toNat (c.map fun v => v.natAbs - 1) (by
      unfold List.Nodup
      rw [List.pairwise_map]
      refine List.Pairwise.imp_of_mem ?_ h.2
      intro x y hx hy hxy
      have := h.1 x hx
      have := h.1 y hy
      omega) (by
      intro x hx
      rw [List.mem_map] at hx
      obtain ⟨v, hv, rfl⟩ := hx
      have := h.1 v hv
      omega)
    rw [List.length_map] at this
    omega
theorem Good.le14 {n : Int} {c : List Int} (hn : n ≤ 14) (h : Good n c) : c.length ≤ 14 := by
  rcases h.len with h | h
  · omega
  · subst h; simp
theorem scan_some {out : List Int} : ∀ {l : List (List Int)} {v : Int}, scan out l = some (some v) → ∃ c ∈ l, hit out c = false ∧ left out c = [v]
  | [], v, h => by simp [scan] at h
  | c :: l, v, h => by
    rw [scan] at h
    by_cases hc : hit out c = true
    · rw [if_pos hc] at h
      obtain ⟨d, hd, g⟩ := scan_some h
      exact ⟨d, by simp [hd], g⟩
    · rw [if_neg hc] at h
      simp only [Bool.not_eq_true] at hc
      split at h
      · cases h
      · rename_i w hw
        simp only [Option.some.injEq] at h
        subst h
        exact ⟨c, by simp, hc, hw⟩
      · obtain ⟨d, hd, g⟩ := scan_some h
        exact ⟨d, by simp [hd], g⟩
theorem scan_good {n : Int} {out : List Int} {l : List (List Int)} {v : Int} (hn : n ≤ 14) (hl : ∀ c ∈ l, Lits n c) (ho : Good n out) (h : scan out l = some (some v)) : Good n (out ++ [v]) := by
  obtain ⟨c, hc, h1, h2⟩ := scan_some h
  have hv : v ∈ left out c := by rw [h2]; simp
  unfold left at hv
  rw [List.mem_filter] at hv
  have hv1 := hl c hc v hv.1
  have hv2 : v ∉ out := fun hm => by
    have : hit out c = true := List.any_eq_true.2 ⟨v, hv.1, by simpa using hm⟩
    rw [this] at h1; cases h1
  have hv3 : -v ∉ out := fun hm => by
    rw [neg_neg hn hv1] at hv
    simp [hm] at hv
  refine ⟨fun x hx => ?_, ?_⟩
  · rw [List.mem_append, List.mem_singleton] at hx
    rcases hx with hx | hx
    · exact ho.1 x hx
    · rw [hx]; exact hv1
  · rw [List.pairwise_append]
    refine ⟨ho.2, by simp, fun a ha b hb => ?_⟩
    rw [List.mem_singleton] at hb
    subst hb
    exact ⟨fun e => hv2 (e ▸ ha), fun e => hv3 (e ▸ ha)⟩
/-- Propagation, with rounds to spare. -/
def prop (l : List (List Int)) : Nat → List Int → List Int × Bool
  | 0, out => (out, false)
  | k + 1, out => match round out l with
    | .inl (o, true) => prop l k o
    | .inl (o, false) => (o, false)
    | .inr r => r
theorem round_inl {out o : List Int} {l : List (List Int)} (h : round out l = .inl (o, true)) : ∃ v, o = out ++ [v] ∧ scan out l = some (some v) := by
  unfold round at h
  cases hs : scan out l with
  | none => rw [hs] at h; simp at h
  | some x => cases x with
    | none => rw [hs] at h; simp at h
    | some v => rw [hs] at h; simp at h; exact ⟨v, h.symm, rfl⟩
theorem propImp {n : Int} {l : List (List Int)} (hn : n ≤ 14) (h : l.length ≤ 1048576) (h' : ∀ c ∈ l, c.length ≤ 1048576) (hl : ∀ c ∈ l, Lits n c) : ∀ (k : Nat) (out : List Int), Good n out → 14 < k + out.length →
    iter (f64_0 l) out = some (prop l k out) := by
  intro k
  induction k with
  | zero => intro out ho hk; exact absurd (ho.le14 hn) (by omega)
  | succ k ih =>
    intro out ho hk
    have hz := ho.le14 hn
    rw [iter_eq]
    simp only [f64_0]
    rw [roundImp hn h h' hl ho.1 (by omega), Option.bind_some, prop]
    cases hr : round out l with
    | inl o => obtain ⟨o, b⟩ := o; cases b with
      | false => rfl
      | true =>
        obtain ⟨v, hv, hs⟩ := round_inl hr
        have := ih o (by rw [hv]; exact scan_good hn hl ho hs) (by rw [hv]; simp; omega)
        simpa using this
    | inr r => rfl
theorem propSpec {n : Int} {l : List (List Int)} (hn : n ≤ 14) (h : l.length ≤ 1048576) (h' : ∀ c ∈ l, c.length ≤ 1048576) (hl : ∀ c ∈ l, Lits n c) : ∀ (k : Nat) (out : List Int), Good n out → 14 < k + out.length →
    ∃ r, iter (f65_0 l) (out, true) = some r ∧ (match r with | .inl o => prop l k out = (o, false) | .inr x => prop l k out = x) := by
  intro k
  induction k with
  | zero => intro out ho hk; exact absurd (ho.le14 hn) (by omega)
  | succ k ih =>
    intro out ho hk
    have hz := ho.le14 hn
    rw [iter_eq]
    simp only [f65_0]
    obtain ⟨r, g1, g2⟩ := roundSpec (out := out) h h' (by omega)
    rw [if_pos trivial, g1, Option.bind_some, prop]
    cases r with
    | inl o => obtain ⟨o, b⟩ := o; cases b with
      | false =>
        simp only at g2
        rw [g2]
        refine ⟨.inl o, ?_, rfl⟩
        simp only
        rw [iter_eq]
        simp only [f65_0]
        rfl
      | true =>
        simp only at g2
        obtain ⟨v, hv, hs⟩ := round_inl g2
        rw [g2]
        obtain ⟨r, e1, e2⟩ := ih o (by rw [hv]; exact scan_good hn hl ho hs) (by rw [hv]; simp; omega)
        exact ⟨r, e1, e2⟩
    | inr r =>
      obtain ⟨o, b⟩ := r
      simp only at g2
      rw [g2.2]
      exact ⟨_, rfl, rfl⟩
theorem slit_ok {n v : Int} (h0 : 0 ≤ n) (h1 : n ≤ 14) : slit n v = true ↔ v ≠ 0 ∧ -n ≤ v ∧ v ≤ n := by
  rw [slit_ilit h0 h1]
  unfold ilit
  have e1 : w64 (-n) = -n := w64_of (by omega)
  rw [e1]; simp
theorem clS_good {n : Int} {c : List Int} (h0 : 0 ≤ n) (h1 : n ≤ 14) : clS n c = true ↔ Good n c := by
  unfold clS
  have eg : ∀ i (hi : i < c.length), c.getD i 0 = c[i] := fun i hi => by rw [List.getD_eq_getElem?_getD, List.getElem?_eq_getElem hi]; rfl
  have ek : ((!(List.range c.length).any fun i => !slit n (c.getD i 0) || bef c i) = true) ↔ ∀ i (hi : i < c.length), slit n c[i] = true ∧ bef c i = false := by
    rw [Bool.not_eq_true', List.any_eq_false]
    constructor
    · intro h i hi
      have := h i (by simpa using hi)
      rw [eg i hi] at this
      revert this
      cases slit n c[i] <;> cases bef c i <;> simp
    · intro h i hi
      rw [List.mem_range] at hi
      have := h i hi
      rw [eg i hi, this.1, this.2]; simp
  rw [ek]
  constructor
  · intro h
    have hl : Lits n c := fun v hv => by
      obtain ⟨i, hi, rfl⟩ := List.getElem_of_mem hv
      exact (slit_ok h0 h1).1 (h i hi).1
    refine ⟨hl, ?_⟩
    rw [List.pairwise_iff_getElem]
    intro i j hi hj hij
    have h2 := (h j hj).2
    unfold bef at h2
    rw [List.any_eq_false] at h2
    have h3 := h2 c[i] (by rw [List.mem_take_iff_getElem]; exact ⟨i, by omega, rfl⟩)
    rw [eg j hj] at h3
    have e2 : w64 (-c[j]) = -c[j] := neg_neg h1 (hl _ (List.getElem_mem hj))
    rw [e2] at h3
    simpa using h3
  · intro ⟨hl, hp⟩ i hi
    refine ⟨(slit_ok h0 h1).2 (hl _ (List.getElem_mem hi)), ?_⟩
    unfold bef
    rw [List.any_eq_false]
    intro a ha
    rw [List.mem_take_iff_getElem] at ha
    obtain ⟨k, hk, rfl⟩ := ha
    rw [eg i hi]
    have e2 : w64 (-c[i]) = -c[i] := neg_neg h1 (hl _ (List.getElem_mem hi))
    rw [e2]
    have := (List.pairwise_iff_getElem.1 hp) k i (by omega) hi (by omega)
    simpa using this
theorem negs_good {n : Int} {c : List Int} (h1 : n ≤ 14) (h : Good n c) : Good n (negs c) := by
  have e : negs c = c.map fun v => -v := by
    unfold negs
    apply List.map_congr_left
    intro v hv
    exact neg_neg h1 (h.1 v hv)
  rw [e]
  refine ⟨fun v hv => ?_, ?_⟩
  · rw [List.mem_map] at hv
    obtain ⟨a, ha, rfl⟩ := hv
    have := h.1 a ha
    omega
  · rw [List.pairwise_map]
    exact h.2.imp fun {a b} h => ⟨fun e => h.1 (by omega), fun e => h.2 (by omega)⟩
theorem valid_lits {n : Int} {l : List (List Int)} (h : valid n l = true) : 0 ≤ n ∧ n ≤ 14 ∧ l.length ≤ 400 ∧ ∀ c ∈ l, Good n c := by
  unfold valid at h
  simp only [Bool.and_eq_true, decide_eq_true_eq] at h
  refine ⟨h.2.1.1, h.2.1.2, by omega, fun c hc => ?_⟩
  exact (clS_good h.2.1.1 h.2.1.2).1 (List.all_eq_true.1 h.1 c hc)
/-- Unit propagation: what both sides give. -/
def up (n : Int) (l : List (List Int)) (s : List Int) : List Int × Bool := if valid n l = true ∧ clS n s = true then prop l 15 s else (s, false)
theorem upSpec {n : Int} {l : List (List Int)} {s : List Int} (h : Big l.length) (h' : ∀ c ∈ l, Big c.length) (hs : s.length ≤ 1048576) : f43 n l s = some (up n l s) := by
  unfold f43 up
  rw [specValid h h', Option.bind_some, specClause (by omega)]
  by_cases hv : valid n l = true
  · by_cases hc : clS n s = true
    · obtain ⟨h0, h1, h2, h3⟩ := valid_lits hv
      have hg := (clS_good h0 h1).1 hc
      rw [if_neg (by simp [hv]), if_pos ⟨hv, hc⟩]
      simp only [Option.bind_some, hc]
      rw [if_neg (by simp)]
      unfold f65
      rw [app_fits (by simp only [List.length_nil]; omega), List.nil_append, Option.bind_some]
      obtain ⟨r, e1, e2⟩ := propSpec h1 (l := l) (by omega) (fun c hc => by have := (h3 c hc).le14 h1; omega) (fun c hc => (h3 c hc).1) 15 s hg (by omega)
      rw [e1, Option.bind_some]
      cases r with
      | inl o => simp only at e2; rw [e2]; rfl
      | inr x => simp only at e2; rw [e2]; rfl
    · rw [if_neg (by simp [hv]), if_neg (fun h => hc h.2)]
      simp only [Option.bind_some]
      rw [if_pos (by simpa using hc), app_fits (by simp only [List.length_nil]; omega)]; rfl
  · rw [if_pos (by simpa using hv), if_neg (fun h => hv h.1)]
    simp only [Option.bind_some]
    rw [if_pos trivial, app_fits (by simp only [List.length_nil]; omega)]; rfl
/-- Reverse unit propagation. -/
def rup (n : Int) (l : List (List Int)) (c : List Int) : Bool := if valid n l = true ∧ clS n c = true then (prop l 15 (negs c)).2 else false
theorem rupSpec {n : Int} {l : List (List Int)} {c : List Int} (h : Big l.length) (h' : ∀ c ∈ l, Big c.length) (hs : c.length ≤ 1048576) : f41 n l c = some (rup n l c) := by
  unfold f41 rup
  rw [specValid h h', Option.bind_some, specClause (by omega), negSpec hs]
  simp only [Option.bind_some, upSpec (n := n) (s := negs c) h h' (by simp only [negs, List.length_map]; exact hs)]
  by_cases hv : valid n l = true
  · obtain ⟨h0, h1, h2, h3⟩ := valid_lits hv
    by_cases hc : clS n c = true
    · have hg := negs_good h1 ((clS_good h0 h1).1 hc)
      rw [if_neg (by simp [hv]), if_pos ⟨hv, hc⟩]
      simp only [Option.bind_some, hc]
      rw [if_neg (by simp)]
      unfold up
      rw [if_pos ⟨hv, (clS_good h0 h1).2 hg⟩]
    · rw [if_neg (by simp [hv]), if_neg (fun h => hc h.2)]
      simp only [Option.bind_some]
      rw [if_pos (by simpa using hc)]
  · rw [if_pos (by simpa using hv), if_neg (fun h => hv h.1)]; rfl
theorem rupImp {n : Int} {l : List (List Int)} {c : List Int} (h : Big l.length) (h' : ∀ c ∈ l, Big c.length) (hs : c.length ≤ 1048576) : f42 n l c = some (rup n l c) := by
  unfold f42 rup
  rw [implValid h h', Option.bind_some, implClause (by omega), negImp hs, Option.bind_some]
  by_cases hv : valid n l = true
  · obtain ⟨h0, h1, h2, h3⟩ := valid_lits hv
    rw [clS_clI h0 h1]
    by_cases hc : clS n c = true
    · have hg := negs_good h1 ((clS_good h0 h1).1 hc)
      rw [if_neg (by simp [hv]), if_pos ⟨hv, hc⟩]
      simp only [Option.bind_some, hc]
      rw [if_neg (by simp)]
      unfold f64
      rw [app_fits (by simp only [List.length_nil, negs, List.length_map]; omega), List.nil_append, Option.bind_some]
      rw [propImp h1 (l := l) (by omega) (fun c hc => by have := (h3 c hc).le14 h1; omega) (fun c hc => (h3 c hc).1) 15 (negs c) hg (by omega)]
      rfl
    · rw [if_neg (by simp [hv]), if_neg (fun h => hc h.2)]
      simp only [Option.bind_some]
      rw [if_pos (by simpa using hc)]
  · rw [if_pos (by simpa using hv), if_neg (fun h => hv h.1)]; rfl
end Go.Proofs.YthfbkecnnllpkaaH

