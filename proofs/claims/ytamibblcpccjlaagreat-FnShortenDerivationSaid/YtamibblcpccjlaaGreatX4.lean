import Derived.Test.YtamibblcpccjlaaGreatX3
set_option linter.unusedVariables false
set_option linter.unusedSimpArgs false
set_option linter.defProp false
namespace Go.Proofs.YtamibblcpccjlaaGreatH
open Go
section
variable {α β γ σ ρ : Type}
theorem iter_foldl {f : β × Int -> Option ((β × Int) ⊕ ρ)} (L : List α) (g : β -> α -> β) (fin : β -> ρ) {b0 : β}
  (hs : ∀ (i : Nat) (h : i < L.length) b, f (b, (i : Int)) = some (.inl (g b L[i], ((i + 1 : Nat) : Int)))) (he : ∀ b, f (b, (L.length : Int)) = some (.inr (fin b))) :
  iter f (b0, 0) = some (fin (L.foldl g b0)) := by
 obtain ⟨r, h1, h2⟩ := iter_up (f := f) L.length (fun i s => s = ((L.take i).foldl g b0, (i : Int))) (fun r => r = fin (L.foldl g b0)) (fun i s hi h => by
   subst h
   refine ⟨_, hs i hi _, ?_⟩
   dsimp only
   rw [take_succ' hi, List.foldl_append]; rfl) (fun s h => by
   subst h
   refine ⟨_, he _, ?_⟩
   rw [List.take_of_length_le (Nat.le_refl _)]) (b0, 0) (by simp)
 rw [h1, h2]
theorem iter_flat {f : List γ × Int -> Option ((List γ × Int) ⊕ ρ)} (L : List α) (g : α -> List γ) (fin : List γ -> ρ)
  (hs : ∀ (i : Nat) (h : i < L.length), f ((L.take i).flatMap g, (i : Int)) = some (.inl ((L.take i).flatMap g ++ g L[i], ((i + 1 : Nat) : Int)))) (he : f (L.flatMap g, (L.length : Int)) = some (.inr (fin (L.flatMap g)))) :
  iter f ([], 0) = some (fin (L.flatMap g)) := by
 obtain ⟨r, h1, h2⟩ := iter_up (f := f) L.length (fun i s => s = ((L.take i).flatMap g, (i : Int))) (fun r => r = fin (L.flatMap g)) (fun i s hi h => by
   subst h
   refine ⟨_, hs i hi, ?_⟩
   dsimp only
   rw [take_succ' hi, List.flatMap_append]; simp) (fun s h => by
   subst h
   rw [List.take_of_length_le (Nat.le_refl _)]
   exact ⟨_, he, rfl⟩) ([], 0) (by simp)
 rw [h1, h2]
theorem foldl_all {l : List α} {p : α -> Bool} {b : Bool} : l.foldl (fun b a => b && p a) b = (b && l.all p) := by
 induction l generalizing b with
 | nil => simp
 | cons a l ih => rw [List.foldl_cons, ih, List.all_cons, Bool.and_assoc]
theorem any_mem_congr {l : List α} {p q : α -> Bool} (h : ∀ a ∈ l, p a = q a) : l.any p = l.any q := by
 induction l with
 | nil => rfl
 | cons a l ih => rw [List.any_cons, List.any_cons, h a (by simp), ih fun b hb => h b (by simp [hb])]
theorem all_mem_congr {l : List α} {p q : α -> Bool} (h : ∀ a ∈ l, p a = q a) : l.all p = l.all q := by
 induction l with
 | nil => rfl
 | cons a l ih => rw [List.all_cons, List.all_cons, h a (by simp), ih fun b hb => h b (by simp [hb])]
theorem any_not {l : List α} {p : α -> Bool} : (l.any fun a => !p a) = !l.all p := by
 induction l with
 | nil => rfl
 | cons a l ih => simp [ih, Bool.not_and]
theorem take_flat_le {l : List α} {i : Nat} {g : α -> List γ} {m : Nat} (h : ∀ a, (g a).length <= m) : ((l.take i).flatMap g).length <= i * m := by
 have : ∀ l : List α, (l.flatMap g).length <= l.length * m := by
  intro l
  induction l with
  | nil => simp
  | cons a l ih => rw [List.flatMap_cons, List.length_append, List.length_cons, Nat.add_mul]; have := h a; omega
 refine Nat.le_trans (this _) (Nat.mul_le_mul_right _ ?_)
 simp; omega
end
section
variable {α β : Type}
theorem ix_getD {l : List α} {j : Int} {d : α} (h0 : 0 <= j) (h : j < l.length) : ix l j = some (l[j.toNat]?.getD d) := by
 rw [ix_of h0, zE (by omega)]; rfl
def Ens (x : Option α) (Q : α -> Prop) : Prop := ∃ a, x = some a /\ Q a
theorem Ens.of {a : α} {Q : α -> Prop} (h : Q a) : Ens (some a) Q := ⟨a, rfl, h⟩
theorem Ens.bind {x : Option α} {f : α -> Option β} {Q : α -> Prop} {R : β -> Prop} (h : Ens x Q) (g : ∀ a, Q a -> Ens (f a) R) : Ens (x.bind f) R := by
 obtain ⟨a, rfl, ha⟩ := h
 exact g a ha
theorem Ens.ite {c : Prop} [Decidable c] {x y : Option α} {Q : α -> Prop} (h : c -> Ens x Q) (g : ¬ c -> Ens y Q) : Ens (if c then x else y) Q := by
 by_cases hc : c
 ·rw [if_pos hc]; exact h hc
 ·rw [if_neg hc]; exact g hc
theorem Ens.eq {x : Option α} {Q : α -> Prop} (h : Ens x Q) (a : α) (g : ∀ b, Q b -> b = a) : x = some a := by
 obtain ⟨b, h1, h2⟩ := h
 rw [h1, g b h2]
theorem band_255 {x : Int} : 0 <= band .i64 x 255 /\ band .i64 x 255 <= 255 := by
 unfold band
 have h : (BitVec.ofInt IntKind.i64.bits x &&& BitVec.ofInt IntKind.i64.bits 255).toNat <= 255 := by
  rw [BitVec.toNat_and]
  refine Nat.le_trans Nat.and_le_right ?_
  decide
 have e : IntKind.i64.wrap (((BitVec.ofInt IntKind.i64.bits x &&& BitVec.ofInt IntKind.i64.bits 255).toNat : Nat) : Int) = (((BitVec.ofInt IntKind.i64.bits x &&& BitVec.ofInt IntKind.i64.bits 255).toNat : Nat) : Int) := w64_of (by omega)
 rw [e]; omega
theorem tmod_lt {a n : Int} (h0 : 0 <= a) (hn : 0 < n) : 0 <= a.tmod n /\ a.tmod n < n := ⟨Int.tmod_nonneg _ h0, Int.tmod_lt_of_pos _ hn⟩
theorem nz_ok {n : Int} (h : n ≠ 0) : nz n = some () := by unfold nz; rw [if_neg h]
end
end Go.Proofs.YtamibblcpccjlaaGreatH
