/- Plain laws: the blocks and the picked repair, in both programs. -/
import Derived.Test.YtabmomjfdondnaaTd1
import Derived.Test.YtabmomjfdondnaaPb12
set_option linter.unusedVariables false
set_option linter.unusedSimpArgs false
namespace Go.Proofs.YtabmomjfdondnaaH
open Go
variable {d : Database}
def skOf (d : Database) (i k : Nat) : Bool := same d.Relations (d.Facts.getD i default) (d.Facts.getD k default)
theorem sk_get {i k : Nat} (hi : i < d.Facts.length) (hk : k < d.Facts.length) : skOf d i k = same d.Relations d.Facts[i] d.Facts[k] := by
  unfold skOf
  rw [List.getD_eq_getElem?_getD, List.getD_eq_getElem?_getD, List.getElem?_eq_getElem hi, List.getElem?_eq_getElem hk]; rfl
theorem vDb_of (h : vDb d = true) : vRels d.Relations = true ∧ d.Facts.length ≤ 14 ∧ gFacts d = true := by
  unfold vDb at h; simp only [Bool.and_eq_true, decide_eq_true_eq] at h; exact h
theorem fact_ok (h : vDb d = true) {i : Nat} (hi : i < d.Facts.length) : vFact d.Relations d.Facts[i] = true := (good_of (vDb_of h).2.2 hi).1
theorem facts_up (h : vDb d = true) {i k : Nat} (hik : i < k) (hk : k < d.Facts.length) : cmpF (d.Facts[i]'(by omega)) d.Facts[k] < 0 := by
  induction k with
  | zero => omega
  | succ k ih =>
    have h1 := (good_of (vDb_of h).2.2 hk).2 (by omega)
    simp only [Nat.add_sub_cancel, decide_eq_true_eq] at h1
    by_cases e : i = k
    · subst e; exact h1
    · exact cmpF_trans (ih (by omega) (by omega)) h1
theorem kin (h : vDb d = true) : Kin d.Facts.length (skOf d) where
  refl i hi := by rw [sk_get hi hi]; simp [same]
  symm i k hi hk := by
    rw [sk_get hi hk, sk_get hk hi]; unfold same
    congr 1
    · exact decide_eq_decide.2 ⟨fun h => h.symm, fun h => h.symm⟩
    · exact decide_eq_decide.2 ⟨fun h => h.symm, fun h => h.symm⟩
  trans i j k hi hj hk h1 h2 := by
    rw [sk_get hi hj] at h1; rw [sk_get hj hk] at h2; rw [sk_get hi hk]
    unfold same at *
    simp only [Bool.and_eq_true, decide_eq_true_eq] at *
    exact ⟨h1.1.trans h2.1, h1.2.trans h2.2⟩
  conv i j k hij hjk hk hs := by
    by_cases e1 : i = j
    · subst e1
      rw [sk_get (by omega) (by omega)]; simp [same]
    by_cases e2 : j = k
    · subst e2; exact hs
    have hi : i < d.Facts.length := by omega
    have hj : j < d.Facts.length := by omega
    have c1 := facts_up h (i := i) (k := j) (by omega) hj
    have c2 := facts_up h (i := j) (k := k) (by omega) hk
    rw [sk_get hi hk] at hs; rw [sk_get hi hj]
    have b1 := key_le (vDb_of h).1 (fact_ok h hi)
    have b2 := key_le (vDb_of h).1 (fact_ok h hj)
    have b3 := key_le (vDb_of h).1 (fact_ok h hk)
    generalize d.Facts[i] = a at *
    generalize d.Facts[j] = b at *
    generalize d.Facts[k] = c at *
    obtain ⟨_, _, _, _, b1⟩ := b1
    obtain ⟨_, _, _, _, b2⟩ := b2
    obtain ⟨_, _, _, _, b3⟩ := b3
    unfold same keyOf at *
    simp only [Bool.and_eq_true, decide_eq_true_eq] at *
    obtain ⟨r, hk⟩ := hs
    unfold cmpF at c1 c2
    have r1 : a.Relation = b.Relation := by
      by_cases q1 : a.Relation < b.Relation
      · rw [if_neg (by omega), if_pos (by omega)] at c2; omega
      · rw [if_neg q1] at c1
        by_cases q2 : a.Relation > b.Relation
        · rw [if_pos q2] at c1; omega
        · omega
    rw [if_neg (by omega), if_neg (by omega)] at c1 c2
    rw [← r] at hk b3; rw [← r1] at b2
    refine ⟨r1, ?_⟩
    rw [← r1]
    exact cmpL_conv c1 c2 (by omega) (by omega) (by omega) hk
variable (h : vDb d = true) (hf : Fits d)
theorem fits_val {i : Nat} (hf : Fits d) (hi : i < d.Facts.length) : d.Facts[i].Values.length ≤ 1048576 := hf.2.2 _ (List.getElem_mem hi)
include h hf
theorem blockSpec {i : Nat} (hi : i < d.Facts.length) : f156 d i = some (blk (skOf d) i d.Facts.length) := by
  have hn := (vDb_of h).2.1
  unfold f156
  rw [iter_flat (List.range d.Facts.length) (fun k => if skOf d i k = true then [((k : Nat) : Int)] else []) id (fun k hk => by
    simp only [List.length_range] at hk
    have el : (((List.range d.Facts.length).take k).flatMap fun k => if skOf d i k = true then [((k : Nat) : Int)] else []).length ≤ k := by
      have := take_flat_le (l := List.range d.Facts.length) (i := k) (g := fun k => if skOf d i k = true then [((k : Nat) : Int)] else []) (m := 1) (fun a => by split <;> simp)
      omega
    generalize ((List.range d.Facts.length).take k).flatMap (fun k => if skOf d i k = true then [((k : Nat) : Int)] else []) = out at el ⊢
    simp only [List.getElem_range]
    simp only [f156_0]
    have eb : btw (i : Int) 0 (w64 ((d.Facts.length : Int) - 1)) = true := by rw [w64_of (by omega)]; unfold btw; simp; omega
    rw [if_pos (by omega), specDb (fits_room hf), h]
    simp only [Option.bind_some, if_true, specIn, eb]
    rw [ix_nat hi, ix_nat hk, w64_succ (by omega)]
    simp only [Option.bind_some, specSame (fits_room hf).1 (fits_val hf hi) (fits_val hf hk) (vDb_of h).1 (fact_ok h hi) (fact_ok h hk)]
    rw [← sk_get hi hk]
    cases skOf d i k
    · simp
    · simp only [if_true]
      rw [app_fits (by simp; omega)]; simp) (by
    simp only [f156_0]
    rw [if_neg (by simp)]; rfl)]
  rfl
theorem blocksSpec : f97 d = some (blks (skOf d) d.Facts.length d.Facts.length) := by
  have hn := (vDb_of h).2.1
  unfold f97
  rw [iter_flat (List.range d.Facts.length) (fun i => if start (skOf d) i = true then [blk (skOf d) i d.Facts.length] else []) id (fun i hi => by
    simp only [List.length_range] at hi
    have el : (((List.range d.Facts.length).take i).flatMap fun i => if start (skOf d) i = true then [blk (skOf d) i d.Facts.length] else []).length ≤ i := by
      have := take_flat_le (l := List.range d.Facts.length) (i := i) (g := fun i => if start (skOf d) i = true then [blk (skOf d) i d.Facts.length] else []) (m := 1) (fun a => by split <;> simp)
      omega
    generalize ((List.range d.Facts.length).take i).flatMap (fun i => if start (skOf d) i = true then [blk (skOf d) i d.Facts.length] else []) = out at el ⊢
    simp only [List.getElem_range]
    simp only [f97_0]
    obtain ⟨s, t, e1, e2, e3⟩ := blk_head (kin h) hi (Nat.le_refl _) hi
    have e0 : ix (blk (skOf d) i d.Facts.length) 0 = some ((s : Nat) : Int) := by rw [e1]; rfl
    rw [if_pos (by omega), specDb (fits_room hf), h]
    simp only [Option.bind_some, if_true, blockSpec h hf hi, e0]
    rw [w64_succ (by omega)]
    by_cases c : start (skOf d) i = true
    · rw [if_pos (by have := e3.2 c; omega), if_pos c, app_fits (by simp; omega)]; rfl
    · rw [if_neg (by intro q; exact c (e3.1 (by omega))), if_neg c]; simp) (by
    simp only [f97_0]
    rw [if_neg (by simp)]; rfl)]
  rfl
theorem blocksImp : f102 d = some (blks (skOf d) d.Facts.length d.Facts.length) := by
  have hn := (vDb_of h).2.1
  unfold f102
  have := iter_steps (f := f102_0 d) (fun i => (blks (skOf d) i i, (i : Int))) d.Facts.length (blks (skOf d) d.Facts.length d.Facts.length) (fun x hx => by
    have hl := blks_len (sk := skOf d) (y := x) (x := x)
    simp only [f102_0]
    rw [if_pos (by omega), ix_nat hx, Option.bind_some, w64_succ (by omega), w64_of (by omega)]
    cases hs : start (skOf d) x
    · obtain ⟨P, B, e1, e2, e3, s, t, h1, e4, h2⟩ := blks_more (kin h) hx hs
      rw [e1] at hl ⊢
      rw [e2]
      simp only [List.length_append, List.length_singleton] at hl ⊢
      have q : ((P.length + 1 : Nat) : Int) - 1 = ((P.length : Nat) : Int) := by omega
      rw [q, if_pos (by omega), ix_nat (by simp)]
      have e0 : ix B 0 = some ((s : Nat) : Int) := by rw [e4]; rfl
      simp only [List.getElem_concat_length, Option.bind_some, e0]
      rw [ix_nat (by omega : s < d.Facts.length), Option.bind_some, impSame (fits_val hf _) (fits_val hf hx) (vDb_of h).1 (fact_ok h _) (fact_ok h hx)]
      rw [← sk_get (by omega : s < d.Facts.length) hx, h2]
      simp only [Option.bind_some, if_true]
      rw [app_fits (by simp; omega)]
      simp
    · rw [blks_start (kin h) hx hs]
      by_cases c : blks (skOf d) x x = []
      · rw [c]
        simp only [List.length_nil]
        rw [if_neg (by omega)]
        simp only [Option.bind_some, Bool.false_eq_true, if_false]
        rw [app_fits (by simp)]; simp
      · obtain ⟨P, B, e1⟩ : ∃ P B, blks (skOf d) x x = P ++ [B] := ⟨_, _, (List.dropLast_concat_getLast c).symm⟩
        obtain ⟨_, s, t, h1, e4⟩ := blks_mem (kin h) (y := x) (x := x) (Nat.le_refl _) (by omega) (B := B) (by rw [e1]; simp)
        rw [e1] at hl ⊢
        simp only [List.length_append, List.length_singleton] at hl ⊢
        have q : ((P.length + 1 : Nat) : Int) - 1 = ((P.length : Nat) : Int) := by omega
        rw [q, if_pos (by omega), ix_nat (by simp)]
        have e0 : ix B 0 = some ((s : Nat) : Int) := by rw [e4]; rfl
        simp only [List.getElem_concat_length, Option.bind_some, e0]
        rw [ix_nat (by omega : s < d.Facts.length), Option.bind_some, impSame (fits_val hf _) (fits_val hf hx) (vDb_of h).1 (fact_ok h _) (fact_ok h hx)]
        rw [← sk_get (by omega : s < d.Facts.length) hx, start_iff.1 hs s h1]
        simp only [Option.bind_some, Bool.false_eq_true, if_false]
        rw [app_fits (by simp; omega)]; simp) (by
    simp only [f102_0]
    rw [if_neg (by omega)])
  erw [this]
  rfl
omit h hf
def rep (d : Database) (l : List Int) : List Int × Bool := if (vDb d && asc d.Facts.length l) = true then picks l.contains (blks (skOf d) d.Facts.length d.Facts.length) else ([], false)
theorem rep_len {l : List Int} : (rep d l).1.length ≤ 14 := by
  unfold rep
  split
  · rename_i h
    simp only [Bool.and_eq_true] at h
    have := picks_len (c := l.contains) (bs := blks (skOf d) d.Facts.length d.Facts.length)
    have := blks_len (sk := skOf d) (y := d.Facts.length) (x := d.Facts.length)
    have := (vDb_of h.1).2.1
    omega
  · simp
theorem repImp {l : List Int} (hf : Fits d) (hl : l.length ≤ 1048576) : f41 d l = some (rep d l) := by
  unfold f41 rep
  rw [impDb (fits_room hf), Option.bind_some]
  cases h : vDb d
  · simp
  · rw [impSet (fits_room hf).2.1 (by omega)]
    cases ha : asc d.Facts.length l
    · simp
    · have hn := (vDb_of h).2.1
      have hb := blks_len (sk := skOf d) (y := d.Facts.length) (x := d.Facts.length)
      simp only [not_true_eq_false, if_false, Option.bind_some, decide_false, Bool.false_eq_true, blocksImp h hf, Bool.and_self, if_true]
      rw [iter_pick _ l.contains (fun i hi out ho => by
        have hm := blks_mem (kin h) (Nat.le_refl _) (Nat.le_refl _) (List.getElem_mem hi)
        simp only [f41_0]
        rw [if_pos (by omega), ix_nat hi, Option.bind_some]
        obtain ⟨o, h1, h2⟩ := indexFst (s := (blks (skOf d) d.Facts.length d.Facts.length)[i]) (f := fun x0 => f104 x0 l) (p := l.contains) (by omega) (fun a _ => by
          unfold f104
          rw [containsI (by omega)]; rfl)
        rw [h1, Option.bind_some, w64_succ (by omega)]
        revert h2
        cases (blks (skOf d) d.Facts.length d.Facts.length)[i].find? l.contains with
        | none => intro h2; dsimp only at h2; subst h2; simp
        | some v =>
          intro h2; dsimp only at h2
          rw [if_neg (by omega), h2.2, Option.bind_some, app_fits (by simp; omega)]; rfl) (fun out => by
        simp only [f41_0]
        rw [if_neg (by omega)])]
      unfold picks
      split <;> rfl
theorem repSpec {l : List Int} (hf : Fits d) (hl : l.length ≤ 1048576) : f38 d l = some (rep d l) := by
  unfold f38 rep
  rw [specDb (fits_room hf), Option.bind_some]
  cases h : vDb d
  · simp
  · rw [specSet (fits_room hf).2.1 (by omega)]
    cases ha : asc d.Facts.length l
    · simp
    · have hn := (vDb_of h).2.1
      have hb := blks_len (sk := skOf d) (y := d.Facts.length) (x := d.Facts.length)
      simp only [not_true_eq_false, if_false, Option.bind_some, decide_false, Bool.false_eq_true, blocksSpec h hf, Bool.and_self, if_true]
      rw [iter_pick _ l.contains (fun i hi out ho => by
        have hm := (blks_mem (kin h) (Nat.le_refl _) (Nat.le_refl _) (List.getElem_mem hi)).1
        simp only [f38_0]
        rw [if_pos (by omega), w64_succ (by omega)]
        have key : iter (f38_1 l (blks (skOf d) d.Facts.length d.Facts.length) i) (out, false, 0) = some (match (blks (skOf d) d.Facts.length d.Facts.length)[i].find? l.contains with | none => (out, false) | some v => (out ++ [v], true)) := by
          generalize hB : (blks (skOf d) d.Facts.length d.Facts.length)[i] = B at hm
          have hix : ix (blks (skOf d) d.Facts.length d.Facts.length) (i : Int) = some B := by rw [ix_nat hi, hB]
          obtain ⟨r, q1, q2⟩ := iter_up (f := f38_1 l (blks (skOf d) d.Facts.length d.Facts.length) i) B.length
            (fun k s => s.2.2 = (k : Int) ∧ ((s.1 = out ∧ s.2.1 = false ∧ (B.take k).find? l.contains = none) ∨ (∃ v, s.1 = out ++ [v] ∧ s.2.1 = true ∧ B.find? l.contains = some v)))
            (fun r => r = (match B.find? l.contains with | none => (out, false) | some v => (out ++ [v], true))) (fun k s hk ⟨a, b⟩ => by
              obtain ⟨o, m, x⟩ := s
              dsimp only at a b
              subst a
              simp only [f38_1]
              rw [hix, Option.bind_some, if_pos (by omega), w64_succ (by omega)]
              rcases b with ⟨rfl, rfl, b⟩ | ⟨v, rfl, rfl, b⟩
              · simp only [Bool.false_eq_true, not_false_eq_true, decide_true, Option.bind_some, if_true]
                rw [ix_nat hk, Option.bind_some, hasI (by omega), Option.bind_some]
                by_cases c : l.contains B[k] = true
                · rw [if_pos c, app_fits (by simp; omega)]
                  refine ⟨_, rfl, rfl, .inr ⟨B[k], rfl, rfl, ?_⟩⟩
                  have e := congrArg (List.find? l.contains) (List.take_append_drop k B)
                  rw [List.find?_append, b, List.drop_eq_getElem_cons hk, List.find?_cons_of_pos c] at e
                  rw [← e]; rfl
                · rw [if_neg c]
                  refine ⟨_, rfl, rfl, .inl ⟨rfl, rfl, ?_⟩⟩
                  rw [take_succ' hk, List.find?_append, b, List.find?_cons_of_neg c]; simp
              · simp only [not_true_eq_false, decide_false, Option.bind_some, Bool.false_eq_true, if_false]
                exact ⟨_, rfl, by rw [b]⟩) (fun s ⟨a, b⟩ => by
              obtain ⟨o, m, x⟩ := s
              dsimp only at a b
              subst a
              simp only [f38_1]
              rw [hix, Option.bind_some, if_neg (by omega)]
              refine ⟨_, rfl, ?_⟩
              rcases b with ⟨rfl, rfl, b⟩ | ⟨v, rfl, rfl, b⟩
              · rw [List.take_of_length_le (Nat.le_refl _)] at b; rw [b]
              · rw [b]) (out, false, 0) ⟨rfl, .inl ⟨rfl, rfl, by simp⟩⟩
          rw [q1, q2]
        rw [key]
        cases (blks (skOf d) d.Facts.length d.Facts.length)[i].find? l.contains with
        | none => simp
        | some v => simp) (fun out => by
        simp only [f38_0]
        rw [if_neg (by omega)])]
      unfold picks
      have hp := (pick_up (kin h) (c := l.contains) (Nat.le_refl _)).1
      have hq := pick_len (c := l.contains) (bs := blks (skOf d) d.Facts.length d.Facts.length)
      split
      · simp only [Option.bind_some]
        rw [sortUp (by omega) hp]; rfl
      · rfl
end Go.Proofs.YtabmomjfdondnaaH

