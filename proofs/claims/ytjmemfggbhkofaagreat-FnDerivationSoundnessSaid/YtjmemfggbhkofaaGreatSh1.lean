import Derived.Test.YtjmemfggbhkofaaGreatX3
import Derived.Test.YtjmemfggbhkofaaGreatProg
import Derived.Shelf.Sort.Plain
import Derived.Shelf.Slices.In.SortNone
import Derived.Shelf.Slices.CompactI
import Derived.Lib.SlicesCompact
set_option linter.unusedVariables false
namespace Go.Proofs.YtjmemfggbhkofaaGreatH
open Go Go.Shelf Go.RowKit
def ren189 : Ren := ⟨fun | 189 => 107 | 125 => 160 | 257 => 159 | 128 => 195 | 129 => 196 | 294 => 186 | 295 => 187 | 296 => 188 | 297 => 189 | 298 => 190 | 299 => 191 | 216 => 192 | 300 => 193 | 301 => 194 | 328 => 205 | 329 => 206 | 330 => 207 | 331 => 208 | 332 => 209 | 215 => 210 | 343 => 219 | n => n, fun | 28 => 29 | 3 => 3 | 46 => 165 | 0 => 0 | 51 => 193 | 53 => 195 | 4 => 4 | 183 => 185 | 182 => 184 | 131 => 190 | 5 => 5 | 9 => 9 | 218 => 206 | 222 => 210 | 228 => 221 | 229 => 222 | n => n, fun  | n => n⟩
theorem lays189 : Lays.n189 Tryz.prog ren189 := {
  mixed := by kernel_rfl,
  f125 := Tryz.func160.trans (congrArg some (by kernel_rfl)),
  f128 := Tryz.func195.trans (congrArg some (by kernel_rfl)),
  f129 := Tryz.func196.trans (congrArg some (by kernel_rfl)),
  f189 := Tryz.func107.trans (congrArg some (by kernel_rfl)),
  f215 := Tryz.func210.trans (congrArg some (by kernel_rfl)),
  f216 := Tryz.func192.trans (congrArg some (by kernel_rfl)),
  f257 := Tryz.func159.trans (congrArg some (by kernel_rfl)),
  f294 := Tryz.func186.trans (congrArg some (by kernel_rfl)),
  f295 := Tryz.func187.trans (congrArg some (by kernel_rfl)),
  f296 := Tryz.func188.trans (congrArg some (by kernel_rfl)),
  f297 := Tryz.func189.trans (congrArg some (by kernel_rfl)),
  f298 := Tryz.func190.trans (congrArg some (by kernel_rfl)),
  f299 := Tryz.func191.trans (congrArg some (by kernel_rfl)),
  f300 := Tryz.func193.trans (congrArg some (by kernel_rfl)),
  f301 := Tryz.func194.trans (congrArg some (by kernel_rfl)),
  f328 := Tryz.func205.trans (congrArg some (by kernel_rfl)),
  f329 := Tryz.func206.trans (congrArg some (by kernel_rfl)),
  f330 := Tryz.func207.trans (congrArg some (by kernel_rfl)),
  f331 := Tryz.func208.trans (congrArg some (by kernel_rfl)),
  f332 := Tryz.func209.trans (congrArg some (by kernel_rfl)),
  f343 := Tryz.func219.trans (congrArg some (by kernel_rfl)),
  t0 := Tryz.underlying0,
  a0 := Tryz.isAgg0,
  z0 := Tryz.sizeOf0,
  v0 := Tryz.zeroValue0,
  t3 := Tryz.underlying3,
  a3 := Tryz.isAgg3,
  z3 := Tryz.sizeOf3,
  v3 := Tryz.zeroValue3,
  t4 := Tryz.underlying4,
  a4 := Tryz.isAgg4,
  z4 := Tryz.sizeOf4,
  v4 := Tryz.zeroValue4,
  t5 := Tryz.underlying5,
  a5 := Tryz.isAgg5,
  z5 := Tryz.sizeOf5,
  v5 := Tryz.zeroValue5,
  t9 := Tryz.underlying9,
  a9 := Tryz.isAgg9,
  z9 := Tryz.sizeOf9,
  v9 := Tryz.zeroValue9,
  t28 := Tryz.underlying29,
  a28 := Tryz.isAgg29,
  z28 := Tryz.sizeOf29,
  v28 := Tryz.zeroValue29,
  t46 := Tryz.underlying165,
  a46 := Tryz.isAgg165,
  z46 := Tryz.sizeOf165,
  v46 := Tryz.zeroValue165,
  t51 := Tryz.underlying193,
  a51 := Tryz.isAgg193,
  z51 := Tryz.sizeOf193,
  v51 := Tryz.zeroValue193,
  t53 := Tryz.underlying195,
  a53 := Tryz.isAgg195,
  z53 := Tryz.sizeOf195,
  v53 := Tryz.zeroValue195,
  t131 := Tryz.underlying190,
  a131 := Tryz.isAgg190,
  z131 := Tryz.sizeOf190,
  v131 := Tryz.zeroValue190,
  t182 := Tryz.underlying184,
  a182 := Tryz.isAgg184,
  z182 := Tryz.sizeOf184,
  v182 := Tryz.zeroValue184,
  t183 := Tryz.underlying185,
  a183 := Tryz.isAgg185,
  z183 := Tryz.sizeOf185,
  v183 := Tryz.zeroValue185,
  t218 := Tryz.underlying206,
  a218 := Tryz.isAgg206,
  z218 := Tryz.sizeOf206,
  v218 := Tryz.zeroValue206,
  t222 := Tryz.underlying210,
  a222 := Tryz.isAgg210,
  z222 := Tryz.sizeOf210,
  v222 := Tryz.zeroValue210,
  t228 := Tryz.underlying221,
  a228 := Tryz.isAgg221,
  z228 := Tryz.sizeOf221,
  v228 := Tryz.zeroValue221,
  t229 := Tryz.underlying222,
  a229 := Tryz.isAgg222,
  z229 := Tryz.sizeOf222,
  v229 := Tryz.zeroValue222 }
def ren20 : Ren := ⟨fun | 20 => 140 | n => n, fun | 22 => 29 | 3 => 3 | 4 => 4 | 0 => 0 | n => n, fun  | n => n⟩
theorem lays20 : Lays2.n20 Tryz.prog ren20 := {
  mixed := by kernel_rfl,
  f20 := Tryz.func140.trans (congrArg some (by kernel_rfl)),
  t0 := Tryz.underlying0,
  a0 := Tryz.isAgg0,
  z0 := Tryz.sizeOf0,
  v0 := Tryz.zeroValue0,
  t3 := Tryz.underlying3,
  a3 := Tryz.isAgg3,
  z3 := Tryz.sizeOf3,
  v3 := Tryz.zeroValue3,
  t4 := Tryz.underlying4,
  a4 := Tryz.isAgg4,
  z4 := Tryz.sizeOf4,
  v4 := Tryz.zeroValue4,
  t22 := Tryz.underlying29,
  a22 := Tryz.isAgg29,
  z22 := Tryz.sizeOf29,
  v22 := Tryz.zeroValue29,
  i3 := by kernel_rfl }
def kf (a : Int) : List Int -> List Int
  | [] => []
  | x :: r => if x ≠ a then x :: kf x r else kf x r
theorem kf_compactL : ∀ (r : List Int) (a : Int), compactL (a :: r) = a :: kf a r
  | [], a => rfl
  | b :: r, a => by
    rw [compactL, kf_compactL r b, kf]
    by_cases h : a = b
    · rw [if_pos h, if_neg (by simp [h]), h]
    · rw [if_neg h, if_pos (Ne.symm h)]
theorem kf_range : ∀ (r : List Int) (a : Int), (((List.range r.length).filter fun j => decide (r[j]! ≠ (a :: r)[j]!)).map fun j => r[j]!) = kf a r
  | [], a => rfl
  | x :: r, a => by
    rw [List.length_cons, List.range_succ_eq_map, List.filter_cons, kf]
    have e : (((List.map Nat.succ (List.range r.length)).filter fun j => decide ((x :: r)[j]! ≠ (a :: x :: r)[j]!)).map fun j => (x :: r)[j]!) = kf x r := by
      rw [List.filter_map, List.map_map, <- kf_range r x]
      rfl
    by_cases h : x = a
    · rw [if_neg (by simp [h]), if_neg (by simp [h]), e]
    · rw [if_pos (by simpa using h), if_pos h, List.map_cons, e]; rfl
theorem compact_eq : ∀ zs : List Int, Lib.compact zs = compactL zs
  | [] => rfl
  | a :: r => by
    rw [kf_compactL, <- kf_range r a]
    unfold Lib.compact Lib.compactUpTo Lib.keeps
    rw [List.length_cons, List.range_succ_eq_map, List.filter_cons, if_pos (by simp), List.map_cons, List.filter_map, List.map_map]
    refine congr (congrArg _ (by simp)) ?_
    have : ((fun j => decide (j = 0 \/ (a :: r).toArray[j]! ≠ (a :: r).toArray[j - 1]!)) ∘ Nat.succ) = fun j => decide (r[j]! ≠ (a :: r)[j]!) := by
      funext j; simp
    rw [this]
    refine List.map_congr_left fun j _ => ?_
    simp
theorem extOk : ExtOk Tryz.prog X0 := (orX_ok (sortX_ok (fun a c w => (Any.slices_Sort_int_none lays189 a c w).mono fun e w' ⟨he, hw⟩ => ⟨he, hw ▸ Below.refl _ _⟩) (fun b o c zs w h1 h2 h3 => Any.slices_Sort_int lays189 b o c zs w h1 h2 h3) ⟨Tryz.f107, Tryz.func107, by kernel_rfl, by kernel_rfl⟩)
  (compX_ok (fun a c w => (Any.slices_Compact_int_empty lays20 a c w).mono fun e w' ⟨he, hw⟩ => ⟨he, hw ▸ Below.refl _ _⟩) (fun b o c zs w h1 h2 h3 => compact_eq zs ▸ Any.slices_Compact_int lays20 b o c zs w h1 h2 h3) ⟨Tryz.f140, Tryz.func140, by kernel_rfl, by kernel_rfl⟩))
end Go.Proofs.YtjmemfggbhkofaaGreatH
