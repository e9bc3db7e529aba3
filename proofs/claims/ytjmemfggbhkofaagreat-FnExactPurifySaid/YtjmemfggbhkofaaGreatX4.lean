import Derived.Test.YtjmemfggbhkofaaGreatX3
set_option linter.unusedVariables false
set_option linter.unusedSimpArgs false
set_option linter.defProp false
namespace Go.Proofs.YtjmemfggbhkofaaGreatH
open Go
section
def mark2B (g h : Nat) : CCode :=
 .seq (.reg false [(0, ⟨some 2, .box 2 (.t 0), none, [], []⟩), (1, ⟨some 4, .mv (.c (.int .i64 (0))), none, [], [4]⟩)])
  (.seq (.reg false [(0, ⟨some 5, .fa 0 (.t 2), none, [], []⟩), (1, ⟨some 6, .ld 1 false (.t 5), none, [], [5]⟩), (2, ⟨some 7, .mv (.t 1), none, [], [1]⟩), (3, ⟨some 8, .call g [(.t 6), (.t 7)], none, [], [6, 7]⟩), (4, ⟨some 1, .mv (.t 8), none, [], [8]⟩)])
   (.seq (.reg false [(0, ⟨some 9, .fa 1 (.t 2), none, [], []⟩), (1, ⟨some 10, .ld 1 false (.t 9), none, [], [9]⟩), (2, ⟨some 11, .mv (.t 1), none, [], [1]⟩), (3, ⟨some 12, .call h [(.t 10), (.t 11)], none, [], [2, 10, 11]⟩), (4, ⟨some 1, .mv (.t 12), none, [], [12]⟩)])
    (.seq (.reg false [(0, ⟨some 13, .mv (.t 1), none, [], [1]⟩), (1, ⟨some 4, .mv (.t 13), none, [], [13]⟩)]) .ret)))
theorem kept_nil {env : Env} {H H' : Heap} : Kept env [] H H' := fun s n h => by cases h
theorem mark2_of {Tb : Nat → Option CFn} {X : Ext} {io : Nat → List Nat} {f g h : Nat} {tr tf tr' tf' : T} {k r s : Int}
  (hT : Tb f = some ⟨14, 2, [.t 4], mark2B g h⟩) (hio : io f = [0]) (hig : io g = [0]) (hih : io h = [0]) (h1 : ([tr, tf].all T.one) = true)
  (hg : CallOk Tb X io g [tr, .int .i64 k] (.int .i64 r) [tr']) (hh : CallOk Tb X io h [tf, .int .i64 r] (.int .i64 s) [tf']) : CallOk Tb X io f [.agg [tr, tf], .int .i64 k] (.int .i64 s) [.agg [tr', tf']] := by
 intro H F vs ls hd hnd hfz
 rw [Dens] at hd
 obtain ⟨c, cs', l1, l2, rfl, rfl, hc, hk⟩ := hd
 rw [Dens] at hk
 obtain ⟨c2, cs3, n1, n2, rfl, rfl, hk, hk2⟩ := hk
 rw [Den] at hk
 rw [Dens] at hk2
 obtain ⟨rfl, rfl⟩ := hk
 obtain ⟨rfl, rfl⟩ := hk2
 have hcells := (Den.cells hc h1).2
 rw [Den] at hc
 obtain ⟨cs, rfl, hc⟩ := hc
 rw [Dens] at hc
 obtain ⟨a0, cs1, m0, m1', rfl, rfl, d0, hc⟩ := hc
 rw [Dens] at hc
 obtain ⟨a1, cs2, m1, m2, rfl, rfl, d1, hc⟩ := hc
 rw [Dens] at hc
 obtain ⟨rfl, rfl⟩ := hc
 simp only [List.append_nil] at hnd
 have o0 := Den.owned d0
 have o1 := Den.owned d1
 obtain ⟨nd0, nd1, hdis⟩ := List.nodup_append.1 hnd
 -- the box
 have hget : ∀ l, l < H.sz → (H.new [a0, a1]).get l = H.get l := fun l hl => by
  show (if l = H.sz then _ else _) = _
  rw [if_neg (by omega)]
 have hbox : (H.new [a0, a1]).get H.sz = ⟨[a0, a1], .own⟩ := by
  show (if H.sz = H.sz then _ else _) = _
  rw [if_pos rfl]
 have hsz : (H.new [a0, a1]).sz = H.sz + 1 := rfl
 have ag0 : Agree H (H.new [a0, a1]) F F m0 := ⟨by rw [hsz]; omega, fun l hl => ⟨hget l (hfz l hl).1, hl⟩, fun l hl => ⟨hget l (o0 l hl).1, (o0 l hl).2.2⟩⟩
 have fz1 : Fz (H.new [a0, a1]) F := fun l hl => ⟨by rw [hsz]; have := (hfz l hl).1; omega, by rw [hget l (hfz l hl).1]; exact (hfz l hl).2⟩
 have e0 : Dens (H.new [a0, a1]) F [a0, .int .i64 k] [tr, .int .i64 k] m0 := by
  have := (dens_one.2 (Den.agree ag0 d0)).append (show Dens (H.new [a0, a1]) F [.int .i64 k] [.int .i64 k] [] from dens_one.2 (by rw [Den]; exact ⟨rfl, rfl⟩))
  simpa using this
 obtain ⟨v1, H2, F2, q0, j1, fz2, e2, ndq0, t2⟩ := hg _ F _ m0 e0 nd0 fz1
 rw [hig] at e2
 have e2' : Dens H2 F2 [v1, a0] [.int .i64 r, tr'] q0 := e2
 rw [Dens] at e2'
 obtain ⟨w1, ws1, p1, p2, ew, rfl, g1, g2⟩ := e2'
 rw [Den] at g1
 obtain ⟨rfl, rfl⟩ := g1
 simp only [List.cons.injEq] at ew
 obtain ⟨rfl, rfl⟩ := ew
 rw [dens_one] at g2
 simp only [List.nil_append] at *
 have oq0 := Den.owned g2
 have hget2 : ∀ l, l < H.sz → l ∉ m0 → H2.get l = H.get l := fun l hl hn => by
  rw [t2.fr l (by rw [hsz]; omega) hn, hget l hl]
 have hbox2 : H2.get H.sz = ⟨[a0, a1], .own⟩ := by
  rw [t2.fr H.sz (by rw [hsz]; omega) (fun hl => by have := (o0 _ hl).1; omega), hbox]
 have hs2 : H.sz < H2.sz := by have := t2.sz; rw [hsz] at this; omega
 have nf2 : ∀ l ∈ m1, ¬ F2 l := fun l hl hf => by
  rcases t2.fp l hf with h | h | h
  ·exact (o1 l hl).2.2 h
  ·exact hdis l h l hl rfl
  ·rw [hsz] at h; have := (o1 l hl).1; omega
 have ag1 : Agree H H2 F F2 m1 := ⟨by omega, fun l hl => ⟨hget2 l (hfz l hl).1 (fun hm => (o0 l hm).2.2 hl), t2.fm l hl⟩, fun l hl => ⟨hget2 l (o1 l hl).1 (fun hm => hdis l hm l hl rfl), nf2 l hl⟩⟩
 have e3 : Dens H2 F2 [a1, .int .i64 r] [tf, .int .i64 r] m1 := by
  have := (dens_one.2 (Den.agree ag1 d1)).append (show Dens H2 F2 [.int .i64 r] [.int .i64 r] [] from dens_one.2 (by rw [Den]; exact ⟨rfl, rfl⟩))
  simpa using this
 obtain ⟨v2, H3, F3, q1, j2, fz3, e4, ndq1, t3⟩ := hh _ F2 _ m1 e3 nd1 fz2
 rw [hih] at e4
 have e4' : Dens H3 F3 [v2, a1] [.int .i64 s, tf'] q1 := e4
 rw [Dens] at e4'
 obtain ⟨w2, ws2, p3, p4, ew, rfl, g3, g4⟩ := e4'
 rw [Den] at g3
 obtain ⟨rfl, rfl⟩ := g3
 simp only [List.cons.injEq] at ew
 obtain ⟨rfl, rfl⟩ := ew
 rw [dens_one] at g4
 simp only [List.nil_append] at *
 have hq0 : ∀ l ∈ p2, l ∉ m1 := fun l hl hm => by
  rcases t2.pl l hl with h | h
  ·exact hdis l h l hm rfl
  ·rw [hsz] at h; have := (o1 l hm).1; omega
 have ag2 : Agree H2 H3 F2 F3 p2 := ⟨t3.sz, fun l hl => ⟨t3.fr l (fz2 l hl).1 (fun hm => nf2 l hm hl), t3.fm l hl⟩, fun l hl => ⟨t3.fr l (oq0 l hl).1 (hq0 l hl), fun hf => by
  rcases t3.fp l hf with h | h | h
  ·exact (oq0 l hl).2.2 h
  ·exact hq0 l hl h
  ·have := (oq0 l hl).1; omega⟩⟩
 have g2' := Den.agree ag2 g2
 have hrd : ∀ {K : Heap}, K.get H.sz = ⟨[a0, a1], .own⟩ → H.sz < K.sz → K.rd H.sz 0 1 = some [a0] ∧ K.rd H.sz 1 1 = some [a1] := fun {K} h1 h2 => by
  unfold Heap.rd
  rw [h1]
  exact ⟨if_pos ⟨by simp, h2, by simp⟩, if_pos ⟨by simp, h2, by simp⟩⟩
 have r1 := (hrd hbox (by rw [hsz]; omega)).1
 have r2 := (hrd hbox2 hs2).2
 refine ⟨.int .i64 s, H3, F3, p2 ++ p4, ?_, fz3, ?_, ?_, ?_⟩
 ·have ja : J Tb X (.co (.reg false [(0, ⟨some 2, .box 2 (.t 0), none, [], []⟩), (1, ⟨some 4, .mv (.c (.int .i64 (0))), none, [], [4]⟩)]) [.agg [a0, a1], .int .i64 k, .und, .und, .und, .und, .und, .und, .und, .und, .und, .und, .und, .und] H .normal [.agg [a0, a1], .int .i64 k, .ptr H.sz 0, .und, .int .i64 0, .und, .und, .und, .und, .und, .und, .und, .und, .und] (H.new [a0, a1])) := by
   refine .reg (.opDo (v := .ptr H.sz 0) (H1 := (H.new [a0, a1])) rfl rfl ?_ kept_nil (.opDo (v := .int .i64 0) (H1 := (H.new [a0, a1])) rfl rfl rfl kept_nil .opNil))
   show (allocOp _ _ _).map _ = _
   simp only [allocOp]
   rw [if_pos ⟨rfl, hcells⟩]; rfl
  have jb : J Tb X (.co (.reg false [(0, ⟨some 5, .fa 0 (.t 2), none, [], []⟩), (1, ⟨some 6, .ld 1 false (.t 5), none, [], [5]⟩), (2, ⟨some 7, .mv (.t 1), none, [], [1]⟩), (3, ⟨some 8, .call g [(.t 6), (.t 7)], none, [], [6, 7]⟩), (4, ⟨some 1, .mv (.t 8), none, [], [8]⟩)]) [.agg [a0, a1], .int .i64 k, .ptr H.sz 0, .und, .int .i64 0, .und, .und, .und, .und, .und, .und, .und, .und, .und] (H.new [a0, a1]) .normal [.agg [a0, a1], .int .i64 r, .ptr H.sz 0, .und, .int .i64 0, .ptr H.sz 0, a0, .int .i64 k, .int .i64 r, .und, .und, .und, .und, .und] H2) := by
   refine .reg (.opDo (v := .ptr H.sz 0) (H1 := (H.new [a0, a1])) rfl rfl rfl kept_nil (.opDo (v := a0) (H1 := (H.new [a0, a1])) rfl rfl ?_ kept_nil (.opDo (v := .int .i64 k) (H1 := (H.new [a0, a1])) rfl rfl rfl kept_nil (.opCall (v := .int .i64 r) (H1 := H2) (args := [a0, .int .i64 k]) rfl rfl rfl j1 kept_nil (.opDo (v := .int .i64 r) (H1 := H2) rfl rfl rfl kept_nil .opNil)))))
   show ((H.new [a0, a1]).rd H.sz 0 1).bind _ = _
   rw [r1]; rfl
  have jc : J Tb X (.co (.reg false [(0, ⟨some 9, .fa 1 (.t 2), none, [], []⟩), (1, ⟨some 10, .ld 1 false (.t 9), none, [], [9]⟩), (2, ⟨some 11, .mv (.t 1), none, [], [1]⟩), (3, ⟨some 12, .call h [(.t 10), (.t 11)], none, [], [2, 10, 11]⟩), (4, ⟨some 1, .mv (.t 12), none, [], [12]⟩)]) [.agg [a0, a1], .int .i64 r, .ptr H.sz 0, .und, .int .i64 0, .ptr H.sz 0, a0, .int .i64 k, .int .i64 r, .und, .und, .und, .und, .und] H2 .normal [.agg [a0, a1], .int .i64 s, .ptr H.sz 0, .und, .int .i64 0, .ptr H.sz 0, a0, .int .i64 k, .int .i64 r, .ptr H.sz 1, a1, .int .i64 r, .int .i64 s, .und] H3) := by
   refine .reg (.opDo (v := .ptr H.sz 1) (H1 := H2) rfl rfl rfl kept_nil (.opDo (v := a1) (H1 := H2) rfl rfl ?_ kept_nil (.opDo (v := .int .i64 r) (H1 := H2) rfl rfl rfl kept_nil (.opCall (v := .int .i64 s) (H1 := H3) (args := [a1, .int .i64 r]) rfl rfl rfl j2 kept_nil (.opDo (v := .int .i64 s) (H1 := H3) rfl rfl rfl kept_nil .opNil)))))
   show (H2.rd H.sz 1 1).bind _ = _
   rw [r2]; rfl
  have jd : J Tb X (.co (.reg false [(0, ⟨some 13, .mv (.t 1), none, [], [1]⟩), (1, ⟨some 4, .mv (.t 13), none, [], [13]⟩)]) [.agg [a0, a1], .int .i64 s, .ptr H.sz 0, .und, .int .i64 0, .ptr H.sz 0, a0, .int .i64 k, .int .i64 r, .ptr H.sz 1, a1, .int .i64 r, .int .i64 s, .und] H3 .normal [.agg [a0, a1], .int .i64 s, .ptr H.sz 0, .und, .int .i64 s, .ptr H.sz 0, a0, .int .i64 k, .int .i64 r, .ptr H.sz 1, a1, .int .i64 r, .int .i64 s, .int .i64 s] H3) := .reg (.opDo (v := .int .i64 s) (H1 := H3) rfl rfl rfl kept_nil (.opDo (v := .int .i64 s) (H1 := H3) rfl rfl rfl kept_nil .opNil))
  have je : J Tb X (.co (mark2B g h) [.agg [a0, a1], .int .i64 k, .und, .und, .und, .und, .und, .und, .und, .und, .und, .und, .und, .und] H .ret [.agg [a0, a1], .int .i64 s, .ptr H.sz 0, .und, .int .i64 s, .ptr H.sz 0, a0, .int .i64 k, .int .i64 r, .ptr H.sz 1, a1, .int .i64 r, .int .i64 s, .int .i64 s] H3) := .seqN ja (.seqN jb (.seqN jc (.seqN jd .ret)))
  exact .call hT rfl (show 2 ≤ 14 by decide) (ex := .ret) (env' := [.agg [a0, a1], .int .i64 s, .ptr H.sz 0, .und, .int .i64 s, .ptr H.sz 0, a0, .int .i64 k, .int .i64 r, .ptr H.sz 1, a1, .int .i64 r, .int .i64 s, .int .i64 s]) je (.inr rfl) rfl
 ·rw [hio]
  show Dens H3 F3 [.int .i64 s, .agg [a0, a1]] [.int .i64 s, .agg [tr', tf']] (p2 ++ p4)
  have x1 : Dens H3 F3 [.int .i64 s] [.int .i64 s] [] := dens_one.2 (by rw [Den]; exact ⟨rfl, rfl⟩)
  have x2 : Dens H3 F3 [.agg [a0, a1]] [.agg [tr', tf']] (p2 ++ p4) := dens_one.2 (by
   rw [Den]
   exact ⟨_, rfl, (dens_one.2 g2').append (dens_one.2 g4)⟩)
  simpa using x1.append x2
 ·refine List.nodup_append.2 ⟨ndq0, ndq1, fun a ha b hb e => ?_⟩
  subst e
  rcases t3.pl a hb with h | h
  ·exact hq0 a ha h
  ·have := (oq0 a ha).1; omega
 ·refine ⟨by have := t3.sz; omega, fun l hl hn => ?_, fun l hl => ?_, fun l hl => t3.fm l (t2.fm l hl), fun l hl => ?_⟩
  ·have hn0 : l ∉ m0 := fun h => hn (by simp [h])
   have hn1 : l ∉ m1 := fun h => hn (by simp [h])
   rw [t3.fr l (by omega) hn1, hget2 l hl hn0]
  ·rcases List.mem_append.1 hl with h | h
   ·rcases t2.pl l h with h | h
    ·exact .inl (by simp [h])
    ·rw [hsz] at h; exact .inr (by omega)
   ·rcases t3.pl l h with h | h
    ·exact .inl (by simp [h])
    ·exact .inr (by omega)
  ·rcases t3.fp l hl with h | h | h
   ·rcases t2.fp l h with h | h | h
    ·exact .inl h
    ·exact .inr (.inl (by simp [h]))
    ·rw [hsz] at h; exact .inr (.inr (by omega))
   ·exact .inr (.inl (by simp [h]))
   ·exact .inr (.inr (by omega))
end
section
variable {α β σ ρ : Type}
theorem ix_nat {l : List α} {i : Nat} (h : i < l.length) : ix l (i : Int) = some l[i] := by
 unfold ix
 rw [if_pos (by omega), Int.toNat_natCast, zE h]
theorem ix_cast {l : List α} {i : Nat} : ix l (i : Int) = l[i]? := by
 unfold ix
 rw [if_pos (by omega), Int.toNat_natCast]
theorem ix_of {l : List α} {j : Int} (h0 : 0 ≤ j) : ix l j = l[j.toNat]? := by
 unfold ix; rw [if_pos h0]
theorem app_fits {bs : Nat} {l l' : List α} (h : (l.length + l'.length) * bs ≤ 140737488355328) : app bs l l' = some (l ++ l') := by
 unfold app; rw [if_pos (.inr h)]
theorem mkl_ok {bs n : Int} {a : α} (h0 : 0 ≤ n) (h : bs * n ≤ 281474976710656) (hn : n ≤ 9223372036854775807) : mkl bs n a = some (List.replicate n.toNat a) := by
 unfold mkl; rw [if_pos ⟨h0, h, hn⟩]
theorem w64_of {n : Int} (h : -9223372036854775808 ≤ n ∧ n ≤ 9223372036854775807) : w64 n = n := by
 unfold w64; rw [IntKind.wrap_i64]; omega
theorem w64_succ {i : Nat} (h : i < 9223372036854775807) : w64 ((i : Int) + 1) = ((i + 1 : Nat) : Int) := by
 rw [w64_of (by omega)]; omega
theorem cutL_ok {l : List α} {lo hi : Int} (h0 : 0 ≤ lo) (h1 : lo ≤ hi) (h2 : hi ≤ l.length) : cutL l lo hi = some ((l.take hi.toNat).drop lo.toNat) := by
 unfold cutL; rw [if_pos ⟨h0, h1, h2⟩]
theorem cat_ok {a b : List UInt8} (h : a.length + b.length ≤ 9223372036854775807) : cat a b = some (a ++ b) := by
 unfold cat
 rw [if_pos]
 have : IntKind.i64.max = 9223372036854775807 := by decide
 rw [this]; omega
theorem iter_steps {f : σ → Option (σ ⊕ ρ)} (st : Nat → σ) (n : Nat) (r : ρ) (hs : ∀ i, i < n → f (st i) = some (.inl (st (i + 1)))) (he : f (st n) = some (.inr r)) : iter f (st 0) = some r := by
 have : ∀ k i, k = n - i → i ≤ n → iter f (st i) = some r := by
  intro k
  induction k with
  | zero =>
   intro i hk hi
   have : i = n := by omega
   subst this
   rw [iter_eq, he]
  | succ k ih =>
   intro i hk hi
   rw [iter_eq, hs i (by omega)]
   exact ih (i + 1) (by omega) (by omega)
 exact this n 0 (by omega) (by omega)
end
section
variable {α β σ ρ : Type}
theorem iter_up {f : σ → Option (σ ⊕ ρ)} (n : Nat) (I : Nat → σ → Prop) (Q : ρ → Prop)
  (hs : ∀ i s, i < n → I i s → ∃ o, f s = some o ∧ (match o with | .inl s' => I (i + 1) s' | .inr r => Q r)) (he : ∀ s, I n s → ∃ r, f s = some (.inr r) ∧ Q r) :
  ∀ (s : σ), I 0 s → ∃ r, iter f s = some r ∧ Q r := by
 have : ∀ k i s, k = n - i → i ≤ n → I i s → ∃ r, iter f s = some r ∧ Q r := by
  intro k
  induction k with
  | zero =>
   intro i s hk hi h
   have : i = n := by omega
   subst this
   obtain ⟨r, h1, h2⟩ := he s h
   exact ⟨r, by rw [iter_eq, h1], h2⟩
  | succ k ih =>
   intro i s hk hi h
   obtain ⟨o, h1, h2⟩ := hs i s (by omega) h
   rw [iter_eq, h1]
   cases o with
   | inl s' => exact ih (i + 1) s' (by omega) (by omega) h2
   | inr r => exact ⟨r, rfl, h2⟩
 exact fun s h => this n 0 s (by omega) (by omega) h
theorem take_succ' {l : List α} {i : Nat} (h : i < l.length) : l.take (i + 1) = l.take i ++ [l[i]] := by
 rw [List.take_add_one, zE h]; rfl
theorem set_copy {a L : List α} {i : Nat} (h : i < a.length) (hl : L.length = a.length) : (a.take i ++ L.drop i).set i a[i] = a.take (i + 1) ++ L.drop (i + 1) := by
 apply List.ext_getElem?
 intro j
 rw [List.getElem?_set]
 have e1 : (a.take i).length = i := by simp; omega
 have e2 : (a.take (i + 1)).length = i + 1 := by simp; omega
 by_cases hj : i = j
 ·subst hj
  rw [if_pos rfl, if_pos (by simp; omega), List.getElem?_append_left (by omega), List.getElem?_take, if_pos (by omega), zE h]
 ·rw [if_neg hj]
  by_cases hlt : j < i
  ·rw [List.getElem?_append_left (by omega), List.getElem?_append_left (by omega), List.getElem?_take, List.getElem?_take, if_pos hlt, if_pos (by omega)]
  ·rw [List.getElem?_append_right (by omega), List.getElem?_append_right (by omega), e1, e2, List.getElem?_drop, List.getElem?_drop]
   congr 1; omega
theorem iter_copy {f : List α × Int → Option ((List α × Int) ⊕ List α)} {a L : List α} (hl : L.length = a.length)
  (hs : ∀ (i : Nat) (h : i < a.length) out, i < out.length → f (out, (i : Int)) = some (.inl (out.set i a[i], ((i + 1 : Nat) : Int)))) (he : ∀ out, f (out, (a.length : Int)) = some (.inr out)) :
  iter f (L, 0) = some a := by
 have := iter_steps (f := f) (fun i => (a.take i ++ L.drop i, (i : Int))) a.length a (fun i hi => by rw [hs i hi _ (by simp; omega), set_copy hi hl]) (by
  rw [he, List.take_of_length_le (Nat.le_refl _), List.drop_of_length_le (by omega), List.append_nil])
 simpa using this
theorem iter_ex {f : Int → Option (Int ⊕ (Unit ⊕ ρ))} (L : List α) (p : α → Bool) (c : ρ)
  (hs : ∀ (i : Nat) (h : i < L.length), f (i : Int) = some (if p L[i] = true then .inr (.inr c) else .inl ((i + 1 : Nat) : Int))) (he : f (L.length : Int) = some (.inr (.inl ()))) :
  iter f 0 = some (if L.any p = true then .inr c else .inl ()) := by
 obtain ⟨r, h1, h2⟩ := iter_up (f := f) L.length (fun i s => s = (i : Int) ∧ (L.take i).any p = false) (fun r => r = if L.any p = true then .inr c else .inl ()) (fun i s hi ⟨h, hp⟩ => by
   subst h
   refine ⟨_, hs i hi, ?_⟩
   by_cases hc : p L[i] = true
   ·rw [if_pos hc]
    dsimp only
    rw [if_pos (List.any_eq_true.2 ⟨L[i], List.getElem_mem hi, hc⟩)]
   ·rw [if_neg hc]
    refine ⟨rfl, ?_⟩
    rw [take_succ' hi, List.any_append, hp]
    simpa using hc) (fun s ⟨h, hp⟩ => by
   subst h
   refine ⟨_, he, ?_⟩
   rw [List.take_of_length_le (Nat.le_refl _)] at hp
   rw [hp]; rfl) 0 ⟨rfl, by simp⟩
 rw [h1, h2]
theorem iter_idx {f : Int → Option (Int ⊕ (Unit ⊕ Int))} (L : List α) (p : α → Bool)
  (hs : ∀ (i : Nat) (h : i < L.length), f (i : Int) = some (if p L[i] = true then .inr (.inr (i : Int)) else .inl ((i + 1 : Nat) : Int))) (he : f (L.length : Int) = some (.inr (.inl ()))) :
  ∃ o, iter f 0 = some o ∧ (match o with | .inl _ => L.any p = false | .inr x => 0 ≤ x ∧ L.any p = true) := by
 refine iter_up (f := f) L.length (fun i s => s = (i : Int) ∧ (L.take i).any p = false) (fun o => match o with | .inl _ => L.any p = false | .inr x => 0 ≤ x ∧ L.any p = true) (fun i s hi ⟨h, hp⟩ => ?_) (fun s ⟨h, hp⟩ => ?_) 0 ⟨rfl, by simp⟩
 ·subst h
  refine ⟨_, hs i hi, ?_⟩
  by_cases hc : p L[i] = true
  ·rw [if_pos hc]
   exact ⟨by omega, List.any_eq_true.2 ⟨L[i], List.getElem_mem hi, hc⟩⟩
  ·rw [if_neg hc]
   refine ⟨rfl, ?_⟩
   rw [take_succ' hi, List.any_append, hp]
   simpa using hc
 ·subst h
  refine ⟨_, he, ?_⟩
  rw [List.take_of_length_le (Nat.le_refl _)] at hp
  exact hp
def lft (n : Int) (s : Nat) : Int := if (s : Int) ≤ n then n - s else -1
theorem lft_neg {n : Int} {s : Nat} : lft n s < 0 ↔ n < s := by unfold lft; split <;> omega
theorem lft_pos {n : Int} {s : Nat} (h : ¬ lft n s < 0) : lft n s = n - s ∧ (s : Int) ≤ n := by
 unfold lft at h ⊢
 by_cases hc : (s : Int) ≤ n
 ·rw [if_pos hc]; exact ⟨rfl, hc⟩
 ·rw [if_neg hc] at h; omega
theorem lft_bad {n : Int} {s : Nat} (h : lft n s < 0) : lft n s = -1 := by
 unfold lft at h ⊢
 by_cases hc : (s : Int) ≤ n
 ·rw [if_pos hc] at h; omega
 ·rw [if_neg hc]
theorem iter_sz {f : Int × Int → Option ((Int × Int) ⊕ (Int ⊕ Int))} (s : α → Nat) (L : List α) (b0 : Int) (h0 : 0 ≤ b0)
  (hs : ∀ (i : Nat) (h : i < L.length) (b : Int), 0 ≤ b → b ≤ b0 → f (b, (i : Int)) = some (if lft b (s L[i]) < 0 then .inr (.inr (-1)) else .inl (lft b (s L[i]), ((i + 1 : Nat) : Int))))
  (he : ∀ b, f (b, (L.length : Int)) = some (.inr (.inl b))) : iter f (b0, 0) = some (if lft b0 (L.map s).sum < 0 then .inr (-1) else .inl (lft b0 (L.map s).sum)) := by
 obtain ⟨r, h1, h2⟩ := iter_up (f := f) L.length (fun i x => x = (b0 - ((L.take i).map s).sum, (i : Int)) ∧ (((L.take i).map s).sum : Int) ≤ b0) (fun r => r = (if lft b0 (L.map s).sum < 0 then .inr (-1) else .inl (lft b0 (L.map s).sum))) (fun i x hi ⟨h, hp⟩ => by
   subst h
   refine ⟨_, hs i hi _ (by omega) (by omega), ?_⟩
   have e1 : ((L.take (i + 1)).map s).sum = ((L.take i).map s).sum + s L[i] := by
    rw [take_succ' hi, List.map_append, List.sum_append]; simp
   have e2 : ((L.take (i + 1)).map s).sum ≤ (L.map s).sum := by
    conv => rhs; rw [← List.take_append_drop (i + 1) L, List.map_append, List.sum_append]
    omega
   by_cases hc : lft (b0 - ((L.take i).map s).sum) (s L[i]) < 0
   ·rw [if_pos hc]
    dsimp only
    rw [if_pos]
    rw [lft_neg] at hc ⊢
    omega
   ·rw [if_neg hc]
    obtain ⟨g1, g2⟩ := lft_pos hc
    refine ⟨?_, by omega⟩
    rw [g1, e1]
    congr 1; omega) (fun x ⟨h, hp⟩ => by
   subst h
   refine ⟨_, he _, ?_⟩
   rw [List.take_of_length_le (Nat.le_refl _)] at hp ⊢
   have e3 : lft b0 (L.map s).sum = b0 - (L.map s).sum := by unfold lft; rw [if_pos hp]
   rw [e3, if_neg (by omega)]) (b0, 0) ⟨by simp, by simpa using h0⟩
 rw [h1, h2]
theorem mem_le_sum {s : α → Nat} {l : List α} {a : α} (h : a ∈ l) : s a ≤ (l.map s).sum := by
 induction l with
 | nil => simp at h
 | cons b l ih =>
  rw [List.map_cons, List.sum_cons]
  rcases List.mem_cons.1 h with rfl | h
  ·omega
  ·have := ih h; omega
end
section
variable {α β γ σ ρ : Type}
theorem iter_foldl {f : β × Int → Option ((β × Int) ⊕ ρ)} (L : List α) (g : β → α → β) (fin : β → ρ) {b0 : β}
  (hs : ∀ (i : Nat) (h : i < L.length) b, f (b, (i : Int)) = some (.inl (g b L[i], ((i + 1 : Nat) : Int)))) (he : ∀ b, f (b, (L.length : Int)) = some (.inr (fin b))) :
  iter f (b0, 0) = some (fin (L.foldl g b0)) := by
 obtain ⟨r, h1, h2⟩ := iter_up (f := f) L.length (fun i s => s = ((L.take i).foldl g b0, (i : Int))) (fun r => r = fin (L.foldl g b0)) (fun i s hi h => by
   subst h
   refine ⟨_, hs i hi _, ?_⟩
   dsimp only
   rw [take_succ' hi, List.foldl_append]; rfl) (fun s h => by
   subst h
   refine ⟨_, he _, ?_⟩
   rw [List.take_of_length_le (Nat.le_refl _)]) (b0, 0) (by simp)
 rw [h1, h2]
theorem iter_flat {f : List γ × Int → Option ((List γ × Int) ⊕ ρ)} (L : List α) (g : α → List γ) (fin : List γ → ρ)
  (hs : ∀ (i : Nat) (h : i < L.length), f ((L.take i).flatMap g, (i : Int)) = some (.inl ((L.take i).flatMap g ++ g L[i], ((i + 1 : Nat) : Int)))) (he : f (L.flatMap g, (L.length : Int)) = some (.inr (fin (L.flatMap g)))) :
  iter f ([], 0) = some (fin (L.flatMap g)) := by
 obtain ⟨r, h1, h2⟩ := iter_up (f := f) L.length (fun i s => s = ((L.take i).flatMap g, (i : Int))) (fun r => r = fin (L.flatMap g)) (fun i s hi h => by
   subst h
   refine ⟨_, hs i hi, ?_⟩
   dsimp only
   rw [take_succ' hi, List.flatMap_append]; simp) (fun s h => by
   subst h
   rw [List.take_of_length_le (Nat.le_refl _)]
   exact ⟨_, he, rfl⟩) ([], 0) (by simp)
 rw [h1, h2]
theorem foldl_any {l : List α} {p : α → Bool} {b : Bool} : l.foldl (fun b a => b || p a) b = (b || l.any p) := by
 induction l generalizing b with
 | nil => simp
 | cons a l ih => rw [List.foldl_cons, ih, List.any_cons, Bool.or_assoc]
theorem any_not {l : List α} {p : α → Bool} : (l.any fun a => !p a) = !l.all p := by
 induction l with
 | nil => rfl
 | cons a l ih => simp [ih, Bool.not_and]
theorem take_flat_le {l : List α} {i : Nat} {g : α → List γ} {m : Nat} (h : ∀ a, (g a).length ≤ m) : ((l.take i).flatMap g).length ≤ i * m := by
 have : ∀ l : List α, (l.flatMap g).length ≤ l.length * m := by
  intro l
  induction l with
  | nil => simp
  | cons a l ih => rw [List.flatMap_cons, List.length_append, List.length_cons, Nat.add_mul]; have := h a; omega
 refine Nat.le_trans (this _) (Nat.mul_le_mul_right _ ?_)
 simp; omega
end
section
variable {α β : Type}
def Ens (x : Option α) (Q : α → Prop) : Prop := ∃ a, x = some a ∧ Q a
theorem Ens.of {a : α} {Q : α → Prop} (h : Q a) : Ens (some a) Q := ⟨a, rfl, h⟩
theorem Ens.bind {x : Option α} {f : α → Option β} {Q : α → Prop} {R : β → Prop} (h : Ens x Q) (g : ∀ a, Q a → Ens (f a) R) : Ens (x.bind f) R := by
 obtain ⟨a, rfl, ha⟩ := h
 exact g a ha
theorem Ens.mono {x : Option α} {Q R : α → Prop} (h : Ens x Q) (g : ∀ a, Q a → R a) : Ens x R := by
 obtain ⟨a, h1, h2⟩ := h
 exact ⟨a, h1, g a h2⟩
theorem Ens.ite {c : Prop} [Decidable c] {x y : Option α} {Q : α → Prop} (h : c → Ens x Q) (g : ¬ c → Ens y Q) : Ens (if c then x else y) Q := by
 by_cases hc : c
 ·rw [if_pos hc]; exact h hc
 ·rw [if_neg hc]; exact g hc
theorem Ens.eq {x : Option α} {Q : α → Prop} (h : Ens x Q) (a : α) (g : ∀ b, Q b → b = a) : x = some a := by
 obtain ⟨b, h1, h2⟩ := h
 rw [h1, g b h2]
end
end Go.Proofs.YtjmemfggbhkofaaGreatH
