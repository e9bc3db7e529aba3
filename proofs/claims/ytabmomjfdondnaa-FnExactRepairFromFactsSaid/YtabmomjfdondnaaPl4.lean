/- Plain laws: calls that end well; bytes. -/
import Derived.Test.YtabmomjfdondnaaPl3
set_option linter.unusedVariables false
set_option linter.unusedSimpArgs false
namespace Go.Proofs.YtabmomjfdondnaaH
open Go
variable {α β : Type}
theorem ix_getD {l : List α} {j : Int} {d : α} (h0 : 0 ≤ j) (h : j < l.length) : ix l j = some (l[j.toNat]?.getD d) := by
  rw [ix_of h0, List.getElem?_eq_getElem (by omega)]; rfl
/-- It ends, and what it gives is so. -/
def Ens (x : Option α) (Q : α → Prop) : Prop := ∃ a, x = some a ∧ Q a
theorem Ens.of {a : α} {Q : α → Prop} (h : Q a) : Ens (some a) Q := ⟨a, rfl, h⟩
theorem Ens.bind {x : Option α} {f : α → Option β} {Q : α → Prop} {R : β → Prop} (h : Ens x Q) (g : ∀ a, Q a → Ens (f a) R) : Ens (x.bind f) R := by
  obtain ⟨a, rfl, ha⟩ := h
  exact g a ha
theorem Ens.mono {x : Option α} {Q R : α → Prop} (h : Ens x Q) (g : ∀ a, Q a → R a) : Ens x R := by
  obtain ⟨a, h1, h2⟩ := h
  exact ⟨a, h1, g a h2⟩
theorem Ens.ite {c : Prop} [Decidable c] {x y : Option α} {Q : α → Prop} (h : c → Ens x Q) (g : ¬ c → Ens y Q) : Ens (if c then x else y) Q := by
  by_cases hc : c
  · rw [if_pos hc]; exact h hc
  · rw [if_neg hc]; exact g hc
theorem Ens.eq {x : Option α} {Q : α → Prop} (h : Ens x Q) (a : α) (g : ∀ b, Q b → b = a) : x = some a := by
  obtain ⟨b, h1, h2⟩ := h
  rw [h1, g b h2]
theorem band_255 {x : Int} : 0 ≤ band .i64 x 255 ∧ band .i64 x 255 ≤ 255 := by
  unfold band
  have h : (BitVec.ofInt IntKind.i64.bits x &&& BitVec.ofInt IntKind.i64.bits 255).toNat ≤ 255 := by
    rw [BitVec.toNat_and]
    refine Nat.le_trans Nat.and_le_right ?_
    decide
  have e : IntKind.i64.wrap (((BitVec.ofInt IntKind.i64.bits x &&& BitVec.ofInt IntKind.i64.bits 255).toNat : Nat) : Int) = (((BitVec.ofInt IntKind.i64.bits x &&& BitVec.ofInt IntKind.i64.bits 255).toNat : Nat) : Int) := w64_of (by omega)
  rw [e]; omega
theorem tmod_lt {a n : Int} (h0 : 0 ≤ a) (hn : 0 < n) : 0 ≤ a.tmod n ∧ a.tmod n < n := ⟨Int.tmod_nonneg _ h0, Int.tmod_lt_of_pos _ hn⟩
theorem nz_ok {n : Int} (h : n ≠ 0) : nz n = some () := by unfold nz; rw [if_neg h]
theorem w64_range {n : Int} : -9223372036854775808 ≤ w64 n ∧ w64 n ≤ 9223372036854775807 := by
  unfold w64; rw [IntKind.wrap_i64]; omega
end Go.Proofs.YtabmomjfdondnaaH
