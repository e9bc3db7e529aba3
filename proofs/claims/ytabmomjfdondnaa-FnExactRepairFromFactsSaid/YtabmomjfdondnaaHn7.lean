/- Seeing a part of what is owned as shared. -/
import Derived.Test.YtabmomjfdondnaaHn6
set_option linter.unusedVariables false
set_option linter.unusedSimpArgs false
namespace Go.Proofs.YtabmomjfdondnaaH
open Go

/-- The one is seen as the other; some of what it owns is written no more. -/
def PF (t t1 : T) : Prop := ∀ H F v ls, Den H F v t ls → ls.Nodup → ∃ l1, List.Sublist l1 ls ∧ ∀ G : Nat → Prop, (∀ l, F l → G l) → (∀ l ∈ ls, l ∉ l1 → G l) → (∀ l ∈ l1, ¬ G l) → Den H G v t1 l1
def PFs (ts ts1 : List T) : Prop := ∀ H F vs ls, Dens H F vs ts ls → ls.Nodup → ∃ l1, List.Sublist l1 ls ∧ ∀ G : Nat → Prop, (∀ l, F l → G l) → (∀ l ∈ ls, l ∉ l1 → G l) → (∀ l ∈ l1, ¬ G l) → Dens H G vs ts1 l1
theorem PF.le {t t1 : T} (h : TLe t t1) : PF t t1 := fun H F v ls hd _ => ⟨ls, List.Sublist.refl _, fun G h1 _ h3 => h _ _ _ _ (Den.agree ⟨Nat.le_refl _, fun l hl => ⟨rfl, h1 l hl⟩, fun l hl => ⟨rfl, h3 l hl⟩⟩ hd)⟩
theorem PF.refl (t : T) : PF t t := .le (TLe.refl t)
theorem PF.frz (t : T) : PF t t.frz := fun H F v ls hd _ => ⟨[], List.nil_sublist _, fun G h1 h2 _ => Den.frz h1 (fun l hl => h2 l hl (by simp)) hd⟩
theorem PF.frze {t t1 : T} (h : t.frz = t1) : PF t t1 := h ▸ PF.frz t
theorem PFs.frzs (ts : List T) : PFs ts (frzs ts) := fun H F v ls hd _ => ⟨[], List.nil_sublist _, fun G h1 h2 _ => Dens.frz h1 (fun l hl => h2 l hl (by simp)) hd⟩
theorem PFs.nil : PFs [] [] := fun H F v ls hd _ => ⟨[], List.nil_sublist _, fun G _ _ _ => by rw [Dens] at hd ⊢; exact ⟨hd.1, rfl⟩⟩
theorem PFs.cons {t t1 : T} {ts ts1 : List T} (h : PF t t1) (h' : PFs ts ts1) : PFs (t :: ts) (t1 :: ts1) := by
  intro H F vs ls hd hnd
  rw [Dens] at hd
  obtain ⟨c, cs', a, b, rfl, rfl, h1, h2⟩ := hd
  obtain ⟨n1, n2, n3⟩ := List.nodup_append.1 hnd
  obtain ⟨a1, s1, f1⟩ := h _ _ _ _ h1 n1
  obtain ⟨b1, s2, f2⟩ := h' _ _ _ _ h2 n2
  refine ⟨a1 ++ b1, s1.append s2, fun G g1 g2 g3 => ?_⟩
  rw [Dens]
  refine ⟨c, cs', a1, b1, rfl, rfl, f1 G g1 (fun l hl hn => g2 l (by simp [hl]) ?_) (fun l hl => g3 l (by simp [hl])), f2 G g1 (fun l hl hn => g2 l (by simp [hl]) ?_) (fun l hl => g3 l (by simp [hl]))⟩
  · rw [List.mem_append]
    rintro (hm | hm)
    · exact hn hm
    · exact n3 l hl l (s2.subset hm) rfl
  · rw [List.mem_append]
    rintro (hm | hm)
    · exact n3 l (s1.subset hm) l hl rfl
    · exact hn hm
theorem PFs.len {ts ts1 : List T} (h : PFs ts ts1) (hd : ∃ H F vs ls, Dens H F vs ts ls ∧ ls.Nodup) : ts1.length = ts.length := by
  classical
  obtain ⟨H, F, vs, ls, hd, hnd⟩ := hd
  obtain ⟨l1, s1, f1⟩ := h _ _ _ _ hd hnd
  have hown := hd.owned
  have := f1 (fun l => F l ∨ (l ∈ ls ∧ l ∉ l1)) (fun l hl => .inl hl) (fun l hl hn => .inr ⟨hl, hn⟩) (fun l hl => by
    rintro (hf | ⟨_, hn⟩)
    · exact (hown l (s1.subset hl)).2.2 hf
    · exact hn hl)
  rw [← hd.length, ← this.length]
theorem PF.agg {ts ts1 : List T} (h : PFs ts ts1) : PF (.agg ts) (.agg ts1) := by
  intro H F v ls hd hnd
  rw [Den] at hd
  obtain ⟨cs, rfl, hd⟩ := hd
  obtain ⟨l1, s1, f1⟩ := h _ _ _ _ hd hnd
  exact ⟨l1, s1, fun G g1 g2 g3 => by rw [Den]; exact ⟨cs, rfl, f1 G g1 g2 g3⟩⟩
theorem PF.tup {ts ts1 : List T} (h : PFs ts ts1) : PF (.tup ts) (.tup ts1) := by
  intro H F v ls hd hnd
  rw [Den] at hd
  obtain ⟨cs, rfl, hd⟩ := hd
  obtain ⟨l1, s1, f1⟩ := h _ _ _ _ hd hnd
  exact ⟨l1, s1, fun G g1 g2 g3 => by rw [Den]; exact ⟨cs, rfl, f1 G g1 g2 g3⟩⟩
theorem PF.at {a : AV} {t t1 : T} (h : PF t t1) : PF (.at a t) (.at a t1) := by
  intro H F v ls hd hnd
  rw [Den] at hd
  obtain ⟨l1, s1, f1⟩ := h _ _ _ _ hd.2 hnd
  exact ⟨l1, s1, fun G g1 g2 g3 => by rw [Den]; exact ⟨hd.1, f1 G g1 g2 g3⟩⟩
theorem PF.ptr {ts ts1 : List T} (h : PFs ts ts1) : PF (.ptr true ts) (.ptr true ts1) := by
  intro H F v ls hd hnd
  rw [Den] at hd
  obtain ⟨l, o, cs, rfl, hl, hd⟩ := hd
  rcases hd with ⟨_, h3, h4, h5, h6, lc, rfl, h8⟩ | ⟨h1, _⟩
  · obtain ⟨l1, s1, f1⟩ := h _ _ _ _ h8 (List.nodup_cons.1 hnd).2
    refine ⟨l :: l1, s1.cons_cons _, fun G g1 g2 g3 => ?_⟩
    rw [Den]
    refine ⟨l, o, cs, rfl, hl, .inl ⟨rfl, h3, h4, g3 l (by simp), h6, l1, rfl, f1 G g1 (fun k hk hn => g2 k (by simp [hk]) ?_) (fun k hk => g3 k (by simp [hk]))⟩⟩
    rw [List.mem_cons]
    rintro (rfl | hm)
    · exact (List.nodup_cons.1 hnd).1 hk
    · exact hn hm
  · cases h1
theorem PF.sl {y : Bool} {e sk : Nat} {ts ts1 : List T} (h : PFs ts ts1) (hlen : ts1.length = ts.length) : PF (.sl true y e sk ts) (.sl true y e sk ts1) := by
  intro H F v ls hd hnd
  rw [Den] at hd
  rcases hd with ⟨h1, rfl, h3, rfl, h5⟩ | ⟨l, o, n, cs, rfl, he, hcs, hl, hd⟩
  · refine ⟨[], List.Sublist.refl _, fun G _ _ _ => ?_⟩
    rw [Den]
    exact .inl ⟨h1, List.eq_nil_of_length_eq_zero (by simpa using hlen), h3, rfl, h5⟩
  · rcases hd with ⟨_, h3, h4, h5, h6, lc, rfl, h8⟩ | ⟨h1, _⟩
    · obtain ⟨l1, s1, f1⟩ := h _ _ _ _ h8 (List.nodup_cons.1 hnd).2
      refine ⟨l :: l1, s1.cons_cons _, fun G g1 g2 g3 => ?_⟩
      rw [Den]
      refine .inr ⟨l, o, n, cs, rfl, he, hcs, hl, .inl ⟨rfl, h3, h4, g3 l (by simp), h6, l1, rfl, f1 G g1 (fun k hk hn => g2 k (by simp [hk]) ?_) (fun k hk => g3 k (by simp [hk]))⟩⟩
      rw [List.mem_cons]
      rintro (rfl | hm)
      · exact (List.nodup_cons.1 hnd).1 hk
      · exact hn hm
    · cases h1
/-- The elements of a list are written no more. -/
theorem PF.inner {α : Type} {E : En α} {y : Bool} {sk : Nat} (l : List α) : PF (.sl true y E.w sk (arr E true l)) (.sl true y E.w sk (arr E false l)) := by
  refine PF.sl (ts1 := arr E false l) ?_ (by rw [arr_len, arr_len])
  rw [← arr_frz (E := E) (b := true) (l := l)]
  exact PFs.frzs _
theorem vle_pf {V V1 : VEnv} {s : Nat} {t t1 : T} (hs : V.get s = .v t) (hu : t ≠ .und) (h : PF t t1) (hv : (unroot s V).set s (.v t1) = V1) : VLe V V1 := by
  subst hv
  intro H F env Lf hst
  obtain ⟨l1, s1, f1⟩ := h _ _ _ _ (hst.den hs) (hst.nd s)
  have hd := f1 (fun l => F l ∨ (l ∈ Lf s ∧ l ∉ l1)) (fun l hl => .inl hl) (fun l hl hn => .inr ⟨hl, hn⟩) (fun l hl => by
    rintro (hf | ⟨_, hn⟩)
    · exact (Den.owned (hst.den hs) l (s1.subset hl)).2.2 hf
    · exact hn hl)
  refine ⟨fun l => F l ∨ (l ∈ Lf s ∧ l ∉ l1), _, hst.see (l1 := l1) hs hu (fun _ h => .inl h) (fun l h => h.imp id And.left) (fun l hl => s1.subset hl) (s1.nodup (hst.nd s)) hd, ?_⟩
  refine ⟨Nat.le_refl _, fun _ _ _ => rfl, fun l hl => .inl ?_, fun _ h => .inl h, fun l hl => hl.elim .inl fun h => .inr (.inl ⟨s, h.1⟩)⟩
  obtain ⟨q, hl⟩ := hl
  unfold upL at hl
  split at hl
  · exact ⟨s, s1.subset hl⟩
  · exact ⟨q, hl⟩
/-- Behind a run, its last state may be seen as another. -/
theorem Wc.monoG {x : Cx} {n : Nat} {c : CCode} {V : VEnv} {Q Q' : Ex → VEnv → Prop} (h : Wc x n c V (fun ex V => ∃ V2, VLe V V2 ∧ Q ex V2)) (hq : ∀ ex V, Q ex V → Q' ex V) : Wc x n c V Q' := by
  obtain ⟨ex, V', h1, V2, h2, h3⟩ := h
  exact ⟨ex, V2, .ghE h1 h2, hq _ _ h3⟩
theorem Wo.monoG {x : Cx} {n : Nat} {ops : List (Nat × COper)} {V : VEnv} {Q Q' : VEnv → Prop} (h : Wo x n ops V (fun V => ∃ V2, VLe V V2 ∧ Q V2)) (hq : ∀ V, Q V → Q' V) : Wo x n ops V Q' := by
  obtain ⟨V', h1, V2, h2, h3⟩ := h
  exact ⟨V2, .ghEO h1 h2, hq _ h3⟩
theorem Wc.postG {x : Cx} {n : Nat} {c : CCode} {V : VEnv} {Q : Ex → VEnv → Prop} (h : Wc x n c V (fun ex V => ∃ V2, VLe V V2 ∧ Q ex V2)) : Wc x n c V Q := h.monoG fun _ _ h => h
theorem vle_of {V V1 V2 : VEnv} (h : VLe V V1) (h' : VLe V1 V2) : VLe V V2 := h.trans h'
end Go.Proofs.YtabmomjfdondnaaH
