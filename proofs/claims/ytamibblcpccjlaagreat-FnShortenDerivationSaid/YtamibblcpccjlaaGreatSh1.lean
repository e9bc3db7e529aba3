import Derived.Test.YtamibblcpccjlaaGreatX4
import Derived.Test.YtamibblcpccjlaaGreatProg
import Derived.Shelf.Sort.Plain
import Derived.Shelf.Slices.In.SortNone
import Derived.Shelf.Slices.CompactI
import Derived.Lib.SlicesCompact
set_option linter.unusedVariables false
namespace Go.Proofs.YtamibblcpccjlaaGreatH
open Go Go.Shelf Go.RowKit
def ren189 : Ren := ⟨fun | 189 => 87 | 125 => 134 | 257 => 133 | 128 => 171 | 129 => 172 | 294 => 162 | 295 => 163 | 296 => 164 | 297 => 165 | 298 => 166 | 299 => 167 | 216 => 168 | 300 => 169 | 301 => 170 | 328 => 182 | 329 => 183 | 330 => 184 | 331 => 185 | 332 => 186 | 215 => 181 | 343 => 189 | n => n, fun | 28 => 29 | 3 => 3 | 46 => 126 | 0 => 0 | 51 => 158 | 53 => 161 | 4 => 4 | 183 => 169 | 182 => 168 | 131 => 132 | 5 => 5 | 9 => 9 | 218 => 185 | 222 => 189 | 228 => 192 | 229 => 193 | n => n, fun  | n => n⟩
theorem lays189 : Lays.n189 Tryz.prog ren189 := {
  mixed := by kernel_rfl,
  f125 := Tryz.func134.trans (congrArg some (by kernel_rfl)),
  f128 := Tryz.func171.trans (congrArg some (by kernel_rfl)),
  f129 := Tryz.func172.trans (congrArg some (by kernel_rfl)),
  f189 := Tryz.func87.trans (congrArg some (by kernel_rfl)),
  f215 := Tryz.func181.trans (congrArg some (by kernel_rfl)),
  f216 := Tryz.func168.trans (congrArg some (by kernel_rfl)),
  f257 := Tryz.func133.trans (congrArg some (by kernel_rfl)),
  f294 := Tryz.func162.trans (congrArg some (by kernel_rfl)),
  f295 := Tryz.func163.trans (congrArg some (by kernel_rfl)),
  f296 := Tryz.func164.trans (congrArg some (by kernel_rfl)),
  f297 := Tryz.func165.trans (congrArg some (by kernel_rfl)),
  f298 := Tryz.func166.trans (congrArg some (by kernel_rfl)),
  f299 := Tryz.func167.trans (congrArg some (by kernel_rfl)),
  f300 := Tryz.func169.trans (congrArg some (by kernel_rfl)),
  f301 := Tryz.func170.trans (congrArg some (by kernel_rfl)),
  f328 := Tryz.func182.trans (congrArg some (by kernel_rfl)),
  f329 := Tryz.func183.trans (congrArg some (by kernel_rfl)),
  f330 := Tryz.func184.trans (congrArg some (by kernel_rfl)),
  f331 := Tryz.func185.trans (congrArg some (by kernel_rfl)),
  f332 := Tryz.func186.trans (congrArg some (by kernel_rfl)),
  f343 := Tryz.func189.trans (congrArg some (by kernel_rfl)),
  t0 := Tryz.underlying0,
  a0 := Tryz.isAgg0,
  z0 := Tryz.sizeOf0,
  v0 := Tryz.zeroValue0,
  t3 := Tryz.underlying3,
  a3 := Tryz.isAgg3,
  z3 := Tryz.sizeOf3,
  v3 := Tryz.zeroValue3,
  t4 := Tryz.underlying4,
  a4 := Tryz.isAgg4,
  z4 := Tryz.sizeOf4,
  v4 := Tryz.zeroValue4,
  t5 := Tryz.underlying5,
  a5 := Tryz.isAgg5,
  z5 := Tryz.sizeOf5,
  v5 := Tryz.zeroValue5,
  t9 := Tryz.underlying9,
  a9 := Tryz.isAgg9,
  z9 := Tryz.sizeOf9,
  v9 := Tryz.zeroValue9,
  t28 := Tryz.underlying29,
  a28 := Tryz.isAgg29,
  z28 := Tryz.sizeOf29,
  v28 := Tryz.zeroValue29,
  t46 := Tryz.underlying126,
  a46 := Tryz.isAgg126,
  z46 := Tryz.sizeOf126,
  v46 := Tryz.zeroValue126,
  t51 := Tryz.underlying158,
  a51 := Tryz.isAgg158,
  z51 := Tryz.sizeOf158,
  v51 := Tryz.zeroValue158,
  t53 := Tryz.underlying161,
  a53 := Tryz.isAgg161,
  z53 := Tryz.sizeOf161,
  v53 := Tryz.zeroValue161,
  t131 := Tryz.underlying132,
  a131 := Tryz.isAgg132,
  z131 := Tryz.sizeOf132,
  v131 := Tryz.zeroValue132,
  t182 := Tryz.underlying168,
  a182 := Tryz.isAgg168,
  z182 := Tryz.sizeOf168,
  v182 := Tryz.zeroValue168,
  t183 := Tryz.underlying169,
  a183 := Tryz.isAgg169,
  z183 := Tryz.sizeOf169,
  v183 := Tryz.zeroValue169,
  t218 := Tryz.underlying185,
  a218 := Tryz.isAgg185,
  z218 := Tryz.sizeOf185,
  v218 := Tryz.zeroValue185,
  t222 := Tryz.underlying189,
  a222 := Tryz.isAgg189,
  z222 := Tryz.sizeOf189,
  v222 := Tryz.zeroValue189,
  t228 := Tryz.underlying192,
  a228 := Tryz.isAgg192,
  z228 := Tryz.sizeOf192,
  v228 := Tryz.zeroValue192,
  t229 := Tryz.underlying193,
  a229 := Tryz.isAgg193,
  z229 := Tryz.sizeOf193,
  v229 := Tryz.zeroValue193 }
def ren20 : Ren := ⟨fun | 20 => 122 | n => n, fun | 22 => 29 | 3 => 3 | 4 => 4 | 0 => 0 | n => n, fun  | n => n⟩
theorem lays20 : Lays2.n20 Tryz.prog ren20 := {
  mixed := by kernel_rfl,
  f20 := Tryz.func122.trans (congrArg some (by kernel_rfl)),
  t0 := Tryz.underlying0,
  a0 := Tryz.isAgg0,
  z0 := Tryz.sizeOf0,
  v0 := Tryz.zeroValue0,
  t3 := Tryz.underlying3,
  a3 := Tryz.isAgg3,
  z3 := Tryz.sizeOf3,
  v3 := Tryz.zeroValue3,
  t4 := Tryz.underlying4,
  a4 := Tryz.isAgg4,
  z4 := Tryz.sizeOf4,
  v4 := Tryz.zeroValue4,
  t22 := Tryz.underlying29,
  a22 := Tryz.isAgg29,
  z22 := Tryz.sizeOf29,
  v22 := Tryz.zeroValue29,
  i3 := by kernel_rfl }
def kf (a : Int) : List Int -> List Int
  | [] => []
  | x :: r => if x ≠ a then x :: kf x r else kf x r
theorem kf_compactL : ∀ (r : List Int) (a : Int), compactL (a :: r) = a :: kf a r
  | [], a => rfl
  | b :: r, a => by
    rw [compactL, kf_compactL r b, kf]
    by_cases h : a = b
    · rw [if_pos h, if_neg (by simp [h]), h]
    · rw [if_neg h, if_pos (Ne.symm h)]
theorem kf_range : ∀ (r : List Int) (a : Int), (((List.range r.length).filter fun j => decide (r[j]! ≠ (a :: r)[j]!)).map fun j => r[j]!) = kf a r
  | [], a => rfl
  | x :: r, a => by
    rw [List.length_cons, List.range_succ_eq_map, List.filter_cons, kf]
    have e : (((List.map Nat.succ (List.range r.length)).filter fun j => decide ((x :: r)[j]! ≠ (a :: x :: r)[j]!)).map fun j => (x :: r)[j]!) = kf x r := by
      rw [List.filter_map, List.map_map, <- kf_range r x]
      rfl
    by_cases h : x = a
    · rw [if_neg (by simp [h]), if_neg (by simp [h]), e]
    · rw [if_pos (by simpa using h), if_pos h, List.map_cons, e]; rfl
theorem compact_eq : ∀ zs : List Int, Lib.compact zs = compactL zs
  | [] => rfl
  | a :: r => by
    rw [kf_compactL, <- kf_range r a]
    unfold Lib.compact Lib.compactUpTo Lib.keeps
    rw [List.length_cons, List.range_succ_eq_map, List.filter_cons, if_pos (by simp), List.map_cons, List.filter_map, List.map_map]
    refine congr (congrArg _ (by simp)) ?_
    have : ((fun j => decide (j = 0 \/ (a :: r).toArray[j]! ≠ (a :: r).toArray[j - 1]!)) ∘ Nat.succ) = fun j => decide (r[j]! ≠ (a :: r)[j]!) := by
      funext j; simp
    rw [this]
    refine List.map_congr_left fun j _ => ?_
    simp
theorem extOk : ExtOk Tryz.prog X0 := (orX_ok (sortX_ok (fun a c w => (Any.slices_Sort_int_none lays189 a c w).mono fun e w' ⟨he, hw⟩ => ⟨he, hw ▸ Below.refl _ _⟩) (fun b o c zs w h1 h2 h3 => Any.slices_Sort_int lays189 b o c zs w h1 h2 h3) ⟨Tryz.f87, Tryz.func87, by kernel_rfl, by kernel_rfl⟩)
  (compX_ok (fun a c w => (Any.slices_Compact_int_empty lays20 a c w).mono fun e w' ⟨he, hw⟩ => ⟨he, hw ▸ Below.refl _ _⟩) (fun b o c zs w h1 h2 h3 => compact_eq zs ▸ Any.slices_Compact_int lays20 b o c zs w h1 h2 h3) ⟨Tryz.f122, Tryz.func122, by kernel_rfl, by kernel_rfl⟩))
end Go.Proofs.YtamibblcpccjlaaGreatH
