import Derived.Test.YtbpdhmbdpjafeaaGreatX3
import Derived.Test.YtbpdhmbdpjafeaaGreatProg
import Derived.Shelf.Sort.Plain
import Derived.Shelf.Slices.In.SortNone
import Derived.Shelf.Slices.CompactI
import Derived.Lib.SlicesCompact
set_option linter.unusedVariables false
namespace Go.Proofs.YtbpdhmbdpjafeaaGreatH
open Go Go.Shelf Go.RowKit
def ren189 : Ren := ⟨fun | 189 => 86 | 125 => 115 | 257 => 114 | 128 => 145 | 129 => 146 | 294 => 136 | 295 => 137 | 296 => 138 | 297 => 139 | 298 => 140 | 299 => 141 | 216 => 142 | 300 => 143 | 301 => 144 | 328 => 152 | 329 => 153 | 330 => 154 | 331 => 155 | 332 => 156 | 215 => 157 | 343 => 160 | n => n, fun | 28 => 27 | 3 => 3 | 46 => 140 | 0 => 0 | 51 => 162 | 53 => 164 | 4 => 4 | 183 => 154 | 182 => 153 | 131 => 159 | 5 => 5 | 9 => 9 | 218 => 168 | 222 => 172 | 228 => 178 | 229 => 179 | n => n, fun  | n => n⟩
theorem lays189 : Lays.n189 Tryz.prog ren189 := {
  mixed := by kernel_rfl,
  f125 := Tryz.func115.trans (congrArg some (by kernel_rfl)),
  f128 := Tryz.func145.trans (congrArg some (by kernel_rfl)),
  f129 := Tryz.func146.trans (congrArg some (by kernel_rfl)),
  f189 := Tryz.func86.trans (congrArg some (by kernel_rfl)),
  f215 := Tryz.func157.trans (congrArg some (by kernel_rfl)),
  f216 := Tryz.func142.trans (congrArg some (by kernel_rfl)),
  f257 := Tryz.func114.trans (congrArg some (by kernel_rfl)),
  f294 := Tryz.func136.trans (congrArg some (by kernel_rfl)),
  f295 := Tryz.func137.trans (congrArg some (by kernel_rfl)),
  f296 := Tryz.func138.trans (congrArg some (by kernel_rfl)),
  f297 := Tryz.func139.trans (congrArg some (by kernel_rfl)),
  f298 := Tryz.func140.trans (congrArg some (by kernel_rfl)),
  f299 := Tryz.func141.trans (congrArg some (by kernel_rfl)),
  f300 := Tryz.func143.trans (congrArg some (by kernel_rfl)),
  f301 := Tryz.func144.trans (congrArg some (by kernel_rfl)),
  f328 := Tryz.func152.trans (congrArg some (by kernel_rfl)),
  f329 := Tryz.func153.trans (congrArg some (by kernel_rfl)),
  f330 := Tryz.func154.trans (congrArg some (by kernel_rfl)),
  f331 := Tryz.func155.trans (congrArg some (by kernel_rfl)),
  f332 := Tryz.func156.trans (congrArg some (by kernel_rfl)),
  f343 := Tryz.func160.trans (congrArg some (by kernel_rfl)),
  t0 := Tryz.underlying0,
  a0 := Tryz.isAgg0,
  z0 := Tryz.sizeOf0,
  v0 := Tryz.zeroValue0,
  t3 := Tryz.underlying3,
  a3 := Tryz.isAgg3,
  z3 := Tryz.sizeOf3,
  v3 := Tryz.zeroValue3,
  t4 := Tryz.underlying4,
  a4 := Tryz.isAgg4,
  z4 := Tryz.sizeOf4,
  v4 := Tryz.zeroValue4,
  t5 := Tryz.underlying5,
  a5 := Tryz.isAgg5,
  z5 := Tryz.sizeOf5,
  v5 := Tryz.zeroValue5,
  t9 := Tryz.underlying9,
  a9 := Tryz.isAgg9,
  z9 := Tryz.sizeOf9,
  v9 := Tryz.zeroValue9,
  t28 := Tryz.underlying27,
  a28 := Tryz.isAgg27,
  z28 := Tryz.sizeOf27,
  v28 := Tryz.zeroValue27,
  t46 := Tryz.underlying140,
  a46 := Tryz.isAgg140,
  z46 := Tryz.sizeOf140,
  v46 := Tryz.zeroValue140,
  t51 := Tryz.underlying162,
  a51 := Tryz.isAgg162,
  z51 := Tryz.sizeOf162,
  v51 := Tryz.zeroValue162,
  t53 := Tryz.underlying164,
  a53 := Tryz.isAgg164,
  z53 := Tryz.sizeOf164,
  v53 := Tryz.zeroValue164,
  t131 := Tryz.underlying159,
  a131 := Tryz.isAgg159,
  z131 := Tryz.sizeOf159,
  v131 := Tryz.zeroValue159,
  t182 := Tryz.underlying153,
  a182 := Tryz.isAgg153,
  z182 := Tryz.sizeOf153,
  v182 := Tryz.zeroValue153,
  t183 := Tryz.underlying154,
  a183 := Tryz.isAgg154,
  z183 := Tryz.sizeOf154,
  v183 := Tryz.zeroValue154,
  t218 := Tryz.underlying168,
  a218 := Tryz.isAgg168,
  z218 := Tryz.sizeOf168,
  v218 := Tryz.zeroValue168,
  t222 := Tryz.underlying172,
  a222 := Tryz.isAgg172,
  z222 := Tryz.sizeOf172,
  v222 := Tryz.zeroValue172,
  t228 := Tryz.underlying178,
  a228 := Tryz.isAgg178,
  z228 := Tryz.sizeOf178,
  v228 := Tryz.zeroValue178,
  t229 := Tryz.underlying179,
  a229 := Tryz.isAgg179,
  z229 := Tryz.sizeOf179,
  v229 := Tryz.zeroValue179 }
def ren20 : Ren := ⟨fun | 20 => 122 | n => n, fun | 22 => 27 | 3 => 3 | 4 => 4 | 0 => 0 | n => n, fun  | n => n⟩
theorem lays20 : Lays2.n20 Tryz.prog ren20 := {
  mixed := by kernel_rfl,
  f20 := Tryz.func122.trans (congrArg some (by kernel_rfl)),
  t0 := Tryz.underlying0,
  a0 := Tryz.isAgg0,
  z0 := Tryz.sizeOf0,
  v0 := Tryz.zeroValue0,
  t3 := Tryz.underlying3,
  a3 := Tryz.isAgg3,
  z3 := Tryz.sizeOf3,
  v3 := Tryz.zeroValue3,
  t4 := Tryz.underlying4,
  a4 := Tryz.isAgg4,
  z4 := Tryz.sizeOf4,
  v4 := Tryz.zeroValue4,
  t22 := Tryz.underlying27,
  a22 := Tryz.isAgg27,
  z22 := Tryz.sizeOf27,
  v22 := Tryz.zeroValue27,
  i3 := by kernel_rfl }
def kf (a : Int) : List Int -> List Int
  | [] => []
  | x :: r => if x ≠ a then x :: kf x r else kf x r
theorem kf_compactL : ∀ (r : List Int) (a : Int), compactL (a :: r) = a :: kf a r
  | [], a => rfl
  | b :: r, a => by
    rw [compactL, kf_compactL r b, kf]
    by_cases h : a = b
    · rw [if_pos h, if_neg (by simp [h]), h]
    · rw [if_neg h, if_pos (Ne.symm h)]
theorem kf_range : ∀ (r : List Int) (a : Int), (((List.range r.length).filter fun j => decide (r[j]! ≠ (a :: r)[j]!)).map fun j => r[j]!) = kf a r
  | [], a => rfl
  | x :: r, a => by
    rw [List.length_cons, List.range_succ_eq_map, List.filter_cons, kf]
    have e : (((List.map Nat.succ (List.range r.length)).filter fun j => decide ((x :: r)[j]! ≠ (a :: x :: r)[j]!)).map fun j => (x :: r)[j]!) = kf x r := by
      rw [List.filter_map, List.map_map, <- kf_range r x]
      rfl
    by_cases h : x = a
    · rw [if_neg (by simp [h]), if_neg (by simp [h]), e]
    · rw [if_pos (by simpa using h), if_pos h, List.map_cons, e]; rfl
theorem compact_eq : ∀ zs : List Int, Lib.compact zs = compactL zs
  | [] => rfl
  | a :: r => by
    rw [kf_compactL, <- kf_range r a]
    unfold Lib.compact Lib.compactUpTo Lib.keeps
    rw [List.length_cons, List.range_succ_eq_map, List.filter_cons, if_pos (by simp), List.map_cons, List.filter_map, List.map_map]
    refine congr (congrArg _ (by simp)) ?_
    have : ((fun j => decide (j = 0 \/ (a :: r).toArray[j]! ≠ (a :: r).toArray[j - 1]!)) ∘ Nat.succ) = fun j => decide (r[j]! ≠ (a :: r)[j]!) := by
      funext j; simp
    rw [this]
    refine List.map_congr_left fun j _ => ?_
    simp
theorem extOk : ExtOk Tryz.prog X0 := (orX_ok (sortX_ok (fun a c w => (Any.slices_Sort_int_none lays189 a c w).mono fun e w' ⟨he, hw⟩ => ⟨he, hw ▸ Below.refl _ _⟩) (fun b o c zs w h1 h2 h3 => Any.slices_Sort_int lays189 b o c zs w h1 h2 h3) ⟨Tryz.f86, Tryz.func86, by kernel_rfl, by kernel_rfl⟩)
  (compX_ok (fun a c w => (Any.slices_Compact_int_empty lays20 a c w).mono fun e w' ⟨he, hw⟩ => ⟨he, hw ▸ Below.refl _ _⟩) (fun b o c zs w h1 h2 h3 => compact_eq zs ▸ Any.slices_Compact_int lays20 b o c zs w h1 h2 h3) ⟨Tryz.f122, Tryz.func122, by kernel_rfl, by kernel_rfl⟩))
end Go.Proofs.YtbpdhmbdpjafeaaGreatH
