import Derived.Test.YtbhadkbchkjdiaaGreatX3
import Derived.Test.YtbhadkbchkjdiaaGreatProg
import Derived.Shelf.Sort.Plain
import Derived.Shelf.Slices.In.SortNone
import Derived.Shelf.Slices.CompactI
import Derived.Lib.SlicesCompact
set_option linter.unusedVariables false
namespace Go.Proofs.YtbhadkbchkjdiaaGreatH
open Go Go.Shelf Go.RowKit
def ren189 : Ren := ⟨fun | 189 => 69 | 125 => 108 | 257 => 107 | 128 => 143 | 129 => 144 | 294 => 134 | 295 => 135 | 296 => 136 | 297 => 137 | 298 => 138 | 299 => 139 | 216 => 140 | 300 => 141 | 301 => 142 | 328 => 157 | 329 => 158 | 330 => 159 | 331 => 160 | 332 => 161 | 215 => 162 | 343 => 168 | n => n, fun | 28 => 29 | 3 => 3 | 46 => 118 | 0 => 0 | 51 => 147 | 53 => 149 | 4 => 4 | 183 => 139 | 182 => 138 | 131 => 144 | 5 => 5 | 9 => 9 | 218 => 161 | 222 => 165 | 228 => 174 | 229 => 175 | n => n, fun  | n => n⟩
theorem lays189 : Lays.n189 Tryz.prog ren189 := {
  mixed := by kernel_rfl,
  f125 := Tryz.func108.trans (congrArg some (by kernel_rfl)),
  f128 := Tryz.func143.trans (congrArg some (by kernel_rfl)),
  f129 := Tryz.func144.trans (congrArg some (by kernel_rfl)),
  f189 := Tryz.func69.trans (congrArg some (by kernel_rfl)),
  f215 := Tryz.func162.trans (congrArg some (by kernel_rfl)),
  f216 := Tryz.func140.trans (congrArg some (by kernel_rfl)),
  f257 := Tryz.func107.trans (congrArg some (by kernel_rfl)),
  f294 := Tryz.func134.trans (congrArg some (by kernel_rfl)),
  f295 := Tryz.func135.trans (congrArg some (by kernel_rfl)),
  f296 := Tryz.func136.trans (congrArg some (by kernel_rfl)),
  f297 := Tryz.func137.trans (congrArg some (by kernel_rfl)),
  f298 := Tryz.func138.trans (congrArg some (by kernel_rfl)),
  f299 := Tryz.func139.trans (congrArg some (by kernel_rfl)),
  f300 := Tryz.func141.trans (congrArg some (by kernel_rfl)),
  f301 := Tryz.func142.trans (congrArg some (by kernel_rfl)),
  f328 := Tryz.func157.trans (congrArg some (by kernel_rfl)),
  f329 := Tryz.func158.trans (congrArg some (by kernel_rfl)),
  f330 := Tryz.func159.trans (congrArg some (by kernel_rfl)),
  f331 := Tryz.func160.trans (congrArg some (by kernel_rfl)),
  f332 := Tryz.func161.trans (congrArg some (by kernel_rfl)),
  f343 := Tryz.func168.trans (congrArg some (by kernel_rfl)),
  t0 := Tryz.underlying0,
  a0 := Tryz.isAgg0,
  z0 := Tryz.sizeOf0,
  v0 := Tryz.zeroValue0,
  t3 := Tryz.underlying3,
  a3 := Tryz.isAgg3,
  z3 := Tryz.sizeOf3,
  v3 := Tryz.zeroValue3,
  t4 := Tryz.underlying4,
  a4 := Tryz.isAgg4,
  z4 := Tryz.sizeOf4,
  v4 := Tryz.zeroValue4,
  t5 := Tryz.underlying5,
  a5 := Tryz.isAgg5,
  z5 := Tryz.sizeOf5,
  v5 := Tryz.zeroValue5,
  t9 := Tryz.underlying9,
  a9 := Tryz.isAgg9,
  z9 := Tryz.sizeOf9,
  v9 := Tryz.zeroValue9,
  t28 := Tryz.underlying29,
  a28 := Tryz.isAgg29,
  z28 := Tryz.sizeOf29,
  v28 := Tryz.zeroValue29,
  t46 := Tryz.underlying118,
  a46 := Tryz.isAgg118,
  z46 := Tryz.sizeOf118,
  v46 := Tryz.zeroValue118,
  t51 := Tryz.underlying147,
  a51 := Tryz.isAgg147,
  z51 := Tryz.sizeOf147,
  v51 := Tryz.zeroValue147,
  t53 := Tryz.underlying149,
  a53 := Tryz.isAgg149,
  z53 := Tryz.sizeOf149,
  v53 := Tryz.zeroValue149,
  t131 := Tryz.underlying144,
  a131 := Tryz.isAgg144,
  z131 := Tryz.sizeOf144,
  v131 := Tryz.zeroValue144,
  t182 := Tryz.underlying138,
  a182 := Tryz.isAgg138,
  z182 := Tryz.sizeOf138,
  v182 := Tryz.zeroValue138,
  t183 := Tryz.underlying139,
  a183 := Tryz.isAgg139,
  z183 := Tryz.sizeOf139,
  v183 := Tryz.zeroValue139,
  t218 := Tryz.underlying161,
  a218 := Tryz.isAgg161,
  z218 := Tryz.sizeOf161,
  v218 := Tryz.zeroValue161,
  t222 := Tryz.underlying165,
  a222 := Tryz.isAgg165,
  z222 := Tryz.sizeOf165,
  v222 := Tryz.zeroValue165,
  t228 := Tryz.underlying174,
  a228 := Tryz.isAgg174,
  z228 := Tryz.sizeOf174,
  v228 := Tryz.zeroValue174,
  t229 := Tryz.underlying175,
  a229 := Tryz.isAgg175,
  z229 := Tryz.sizeOf175,
  v229 := Tryz.zeroValue175 }
def ren20 : Ren := ⟨fun | 20 => 130 | n => n, fun | 22 => 29 | 3 => 3 | 4 => 4 | 0 => 0 | n => n, fun  | n => n⟩
theorem lays20 : Lays2.n20 Tryz.prog ren20 := {
  mixed := by kernel_rfl,
  f20 := Tryz.func130.trans (congrArg some (by kernel_rfl)),
  t0 := Tryz.underlying0,
  a0 := Tryz.isAgg0,
  z0 := Tryz.sizeOf0,
  v0 := Tryz.zeroValue0,
  t3 := Tryz.underlying3,
  a3 := Tryz.isAgg3,
  z3 := Tryz.sizeOf3,
  v3 := Tryz.zeroValue3,
  t4 := Tryz.underlying4,
  a4 := Tryz.isAgg4,
  z4 := Tryz.sizeOf4,
  v4 := Tryz.zeroValue4,
  t22 := Tryz.underlying29,
  a22 := Tryz.isAgg29,
  z22 := Tryz.sizeOf29,
  v22 := Tryz.zeroValue29,
  i3 := by kernel_rfl }
def kf (a : Int) : List Int → List Int
  | [] => []
  | x :: r => if x ≠ a then x :: kf x r else kf x r
theorem kf_compactL : ∀ (r : List Int) (a : Int), compactL (a :: r) = a :: kf a r
  | [], a => rfl
  | b :: r, a => by
    rw [compactL, kf_compactL r b, kf]
    by_cases h : a = b
    · rw [if_pos h, if_neg (by simp [h]), h]
    · rw [if_neg h, if_pos (Ne.symm h)]
theorem kf_range : ∀ (r : List Int) (a : Int), (((List.range r.length).filter fun j => decide (r[j]! ≠ (a :: r)[j]!)).map fun j => r[j]!) = kf a r
  | [], a => rfl
  | x :: r, a => by
    rw [List.length_cons, List.range_succ_eq_map, List.filter_cons, kf]
    have e : (((List.map Nat.succ (List.range r.length)).filter fun j => decide ((x :: r)[j]! ≠ (a :: x :: r)[j]!)).map fun j => (x :: r)[j]!) = kf x r := by
      rw [List.filter_map, List.map_map, ← kf_range r x]
      rfl
    by_cases h : x = a
    · rw [if_neg (by simp [h]), if_neg (by simp [h]), e]
    · rw [if_pos (by simpa using h), if_pos h, List.map_cons, e]; rfl
theorem compact_eq : ∀ zs : List Int, Lib.compact zs = compactL zs
  | [] => rfl
  | a :: r => by
    rw [kf_compactL, ← kf_range r a]
    unfold Lib.compact Lib.compactUpTo Lib.keeps
    rw [List.length_cons, List.range_succ_eq_map, List.filter_cons, if_pos (by simp), List.map_cons, List.filter_map, List.map_map]
    refine congr (congrArg _ (by simp)) ?_
    have : ((fun j => decide (j = 0 ∨ (a :: r).toArray[j]! ≠ (a :: r).toArray[j - 1]!)) ∘ Nat.succ) = fun j => decide (r[j]! ≠ (a :: r)[j]!) := by
      funext j; simp
    rw [this]
    refine List.map_congr_left fun j _ => ?_
    simp
theorem extOk : ExtOk Tryz.prog X0 := (orX_ok (sortX_ok (fun a c w => (Any.slices_Sort_int_none lays189 a c w).mono fun e w' ⟨he, hw⟩ => ⟨he, hw ▸ Below.refl _ _⟩) (fun b o c zs w h1 h2 h3 => Any.slices_Sort_int lays189 b o c zs w h1 h2 h3) ⟨Tryz.f69, Tryz.func69, by kernel_rfl, by kernel_rfl⟩)
  (compX_ok (fun a c w => (Any.slices_Compact_int_empty lays20 a c w).mono fun e w' ⟨he, hw⟩ => ⟨he, hw ▸ Below.refl _ _⟩) (fun b o c zs w h1 h2 h3 => compact_eq zs ▸ Any.slices_Compact_int lays20 b o c zs w h1 h2 h3) ⟨Tryz.f130, Tryz.func130, by kernel_rfl, by kernel_rfl⟩))
end Go.Proofs.YtbhadkbchkjdiaaGreatH
