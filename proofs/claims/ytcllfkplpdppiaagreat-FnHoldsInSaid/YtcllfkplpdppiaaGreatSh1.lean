import Derived.Test.YtcllfkplpdppiaaGreatX3
import Derived.Test.YtcllfkplpdppiaaGreatProg
import Derived.Shelf.Sort.Plain
import Derived.Shelf.Slices.In.SortNone
import Derived.Shelf.Slices.CompactI
import Derived.Lib.SlicesCompact
set_option linter.unusedVariables false
namespace Go.Proofs.YtcllfkplpdppiaaGreatH
open Go Go.Shelf Go.RowKit
def ren189 : Ren := ⟨fun | 189 => 140 | 125 => 197 | 257 => 196 | 128 => 239 | 129 => 240 | 294 => 230 | 295 => 231 | 296 => 232 | 297 => 233 | 298 => 234 | 299 => 235 | 216 => 236 | 300 => 237 | 301 => 238 | 328 => 257 | 329 => 258 | 330 => 259 | 331 => 260 | 332 => 261 | 215 => 262 | 343 => 271 | n => n, fun | 28 => 27 | 3 => 3 | 46 => 196 | 0 => 0 | 51 => 229 | 53 => 231 | 4 => 4 | 183 => 221 | 182 => 220 | 131 => 226 | 5 => 5 | 9 => 9 | 218 => 244 | 222 => 248 | 228 => 256 | 229 => 257 | n => n, fun  | n => n⟩
theorem lays189 : Lays.n189 Tryz.prog ren189 := {
  mixed := by kernel_rfl,
  f125 := Tryz.func197.trans (congrArg some (by kernel_rfl)),
  f128 := Tryz.func239.trans (congrArg some (by kernel_rfl)),
  f129 := Tryz.func240.trans (congrArg some (by kernel_rfl)),
  f189 := Tryz.func140.trans (congrArg some (by kernel_rfl)),
  f215 := Tryz.func262.trans (congrArg some (by kernel_rfl)),
  f216 := Tryz.func236.trans (congrArg some (by kernel_rfl)),
  f257 := Tryz.func196.trans (congrArg some (by kernel_rfl)),
  f294 := Tryz.func230.trans (congrArg some (by kernel_rfl)),
  f295 := Tryz.func231.trans (congrArg some (by kernel_rfl)),
  f296 := Tryz.func232.trans (congrArg some (by kernel_rfl)),
  f297 := Tryz.func233.trans (congrArg some (by kernel_rfl)),
  f298 := Tryz.func234.trans (congrArg some (by kernel_rfl)),
  f299 := Tryz.func235.trans (congrArg some (by kernel_rfl)),
  f300 := Tryz.func237.trans (congrArg some (by kernel_rfl)),
  f301 := Tryz.func238.trans (congrArg some (by kernel_rfl)),
  f328 := Tryz.func257.trans (congrArg some (by kernel_rfl)),
  f329 := Tryz.func258.trans (congrArg some (by kernel_rfl)),
  f330 := Tryz.func259.trans (congrArg some (by kernel_rfl)),
  f331 := Tryz.func260.trans (congrArg some (by kernel_rfl)),
  f332 := Tryz.func261.trans (congrArg some (by kernel_rfl)),
  f343 := Tryz.func271.trans (congrArg some (by kernel_rfl)),
  t0 := Tryz.underlying0,
  a0 := Tryz.isAgg0,
  z0 := Tryz.sizeOf0,
  v0 := Tryz.zeroValue0,
  t3 := Tryz.underlying3,
  a3 := Tryz.isAgg3,
  z3 := Tryz.sizeOf3,
  v3 := Tryz.zeroValue3,
  t4 := Tryz.underlying4,
  a4 := Tryz.isAgg4,
  z4 := Tryz.sizeOf4,
  v4 := Tryz.zeroValue4,
  t5 := Tryz.underlying5,
  a5 := Tryz.isAgg5,
  z5 := Tryz.sizeOf5,
  v5 := Tryz.zeroValue5,
  t9 := Tryz.underlying9,
  a9 := Tryz.isAgg9,
  z9 := Tryz.sizeOf9,
  v9 := Tryz.zeroValue9,
  t28 := Tryz.underlying27,
  a28 := Tryz.isAgg27,
  z28 := Tryz.sizeOf27,
  v28 := Tryz.zeroValue27,
  t46 := Tryz.underlying196,
  a46 := Tryz.isAgg196,
  z46 := Tryz.sizeOf196,
  v46 := Tryz.zeroValue196,
  t51 := Tryz.underlying229,
  a51 := Tryz.isAgg229,
  z51 := Tryz.sizeOf229,
  v51 := Tryz.zeroValue229,
  t53 := Tryz.underlying231,
  a53 := Tryz.isAgg231,
  z53 := Tryz.sizeOf231,
  v53 := Tryz.zeroValue231,
  t131 := Tryz.underlying226,
  a131 := Tryz.isAgg226,
  z131 := Tryz.sizeOf226,
  v131 := Tryz.zeroValue226,
  t182 := Tryz.underlying220,
  a182 := Tryz.isAgg220,
  z182 := Tryz.sizeOf220,
  v182 := Tryz.zeroValue220,
  t183 := Tryz.underlying221,
  a183 := Tryz.isAgg221,
  z183 := Tryz.sizeOf221,
  v183 := Tryz.zeroValue221,
  t218 := Tryz.underlying244,
  a218 := Tryz.isAgg244,
  z218 := Tryz.sizeOf244,
  v218 := Tryz.zeroValue244,
  t222 := Tryz.underlying248,
  a222 := Tryz.isAgg248,
  z222 := Tryz.sizeOf248,
  v222 := Tryz.zeroValue248,
  t228 := Tryz.underlying256,
  a228 := Tryz.isAgg256,
  z228 := Tryz.sizeOf256,
  v228 := Tryz.zeroValue256,
  t229 := Tryz.underlying257,
  a229 := Tryz.isAgg257,
  z229 := Tryz.sizeOf257,
  v229 := Tryz.zeroValue257 }
def ren20 : Ren := ⟨fun | 20 => 170 | n => n, fun | 22 => 27 | 3 => 3 | 4 => 4 | 0 => 0 | n => n, fun  | n => n⟩
theorem lays20 : Lays2.n20 Tryz.prog ren20 := {
  mixed := by kernel_rfl,
  f20 := Tryz.func170.trans (congrArg some (by kernel_rfl)),
  t0 := Tryz.underlying0,
  a0 := Tryz.isAgg0,
  z0 := Tryz.sizeOf0,
  v0 := Tryz.zeroValue0,
  t3 := Tryz.underlying3,
  a3 := Tryz.isAgg3,
  z3 := Tryz.sizeOf3,
  v3 := Tryz.zeroValue3,
  t4 := Tryz.underlying4,
  a4 := Tryz.isAgg4,
  z4 := Tryz.sizeOf4,
  v4 := Tryz.zeroValue4,
  t22 := Tryz.underlying27,
  a22 := Tryz.isAgg27,
  z22 := Tryz.sizeOf27,
  v22 := Tryz.zeroValue27,
  i3 := by kernel_rfl }
def kf (a : Int) : List Int → List Int
  | [] => []
  | x :: r => if x ≠ a then x :: kf x r else kf x r
theorem kf_compactL : ∀ (r : List Int) (a : Int), compactL (a :: r) = a :: kf a r
  | [], a => rfl
  | b :: r, a => by
    rw [compactL, kf_compactL r b, kf]
    by_cases h : a = b
    · rw [if_pos h, if_neg (by simp [h]), h]
    · rw [if_neg h, if_pos (Ne.symm h)]
theorem kf_range : ∀ (r : List Int) (a : Int), (((List.range r.length).filter fun j => decide (r[j]! ≠ (a :: r)[j]!)).map fun j => r[j]!) = kf a r
  | [], a => rfl
  | x :: r, a => by
    rw [List.length_cons, List.range_succ_eq_map, List.filter_cons, kf]
    have e : (((List.map Nat.succ (List.range r.length)).filter fun j => decide ((x :: r)[j]! ≠ (a :: x :: r)[j]!)).map fun j => (x :: r)[j]!) = kf x r := by
      rw [List.filter_map, List.map_map, ← kf_range r x]
      rfl
    by_cases h : x = a
    · rw [if_neg (by simp [h]), if_neg (by simp [h]), e]
    · rw [if_pos (by simpa using h), if_pos h, List.map_cons, e]; rfl
theorem compact_eq : ∀ zs : List Int, Lib.compact zs = compactL zs
  | [] => rfl
  | a :: r => by
    rw [kf_compactL, ← kf_range r a]
    unfold Lib.compact Lib.compactUpTo Lib.keeps
    rw [List.length_cons, List.range_succ_eq_map, List.filter_cons, if_pos (by simp), List.map_cons, List.filter_map, List.map_map]
    refine congr (congrArg _ (by simp)) ?_
    have : ((fun j => decide (j = 0 ∨ (a :: r).toArray[j]! ≠ (a :: r).toArray[j - 1]!)) ∘ Nat.succ) = fun j => decide (r[j]! ≠ (a :: r)[j]!) := by
      funext j; simp
    rw [this]
    refine List.map_congr_left fun j _ => ?_
    simp
theorem extOk : ExtOk Tryz.prog X0 := (orX_ok (sortX_ok (fun a c w => (Any.slices_Sort_int_none lays189 a c w).mono fun e w' ⟨he, hw⟩ => ⟨he, hw ▸ Below.refl _ _⟩) (fun b o c zs w h1 h2 h3 => Any.slices_Sort_int lays189 b o c zs w h1 h2 h3) ⟨Tryz.f140, Tryz.func140, by kernel_rfl, by kernel_rfl⟩)
  (compX_ok (fun a c w => (Any.slices_Compact_int_empty lays20 a c w).mono fun e w' ⟨he, hw⟩ => ⟨he, hw ▸ Below.refl _ _⟩) (fun b o c zs w h1 h2 h3 => compact_eq zs ▸ Any.slices_Compact_int lays20 b o c zs w h1 h2 h3) ⟨Tryz.f170, Tryz.func170, by kernel_rfl, by kernel_rfl⟩))
end Go.Proofs.YtcllfkplpdppiaaGreatH
