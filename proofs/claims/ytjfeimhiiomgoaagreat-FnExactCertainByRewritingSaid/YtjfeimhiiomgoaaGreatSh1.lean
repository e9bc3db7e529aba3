import Derived.Test.YtjfeimhiiomgoaaGreatX4
import Derived.Test.YtjfeimhiiomgoaaGreatProg
import Derived.Shelf.Sort.Plain
import Derived.Shelf.Slices.In.SortNone
import Derived.Shelf.Slices.CompactI
import Derived.Lib.SlicesCompact
set_option linter.unusedVariables false
namespace Go.Proofs.YtjfeimhiiomgoaaGreatH
open Go Go.Shelf Go.RowKit
def ren189 : Ren := ⟨fun | 189 => 123 | 125 => 171 | 257 => 170 | 128 => 218 | 129 => 219 | 294 => 209 | 295 => 210 | 296 => 211 | 297 => 212 | 298 => 213 | 299 => 214 | 216 => 215 | 300 => 216 | 301 => 217 | 328 => 239 | 329 => 240 | 330 => 241 | 331 => 242 | 332 => 243 | 215 => 244 | 343 => 253 | n => n, fun | 28 => 24 | 3 => 3 | 46 => 178 | 0 => 0 | 51 => 212 | 53 => 214 | 4 => 4 | 183 => 204 | 182 => 203 | 131 => 209 | 5 => 5 | 9 => 9 | 218 => 227 | 222 => 231 | 228 => 243 | 229 => 244 | n => n, fun  | n => n⟩
theorem lays189 : Lays.n189 Tryz.prog ren189 := {
  mixed := by kernel_rfl,
  f125 := Tryz.func171.trans (congrArg some (by kernel_rfl)),
  f128 := Tryz.func218.trans (congrArg some (by kernel_rfl)),
  f129 := Tryz.func219.trans (congrArg some (by kernel_rfl)),
  f189 := Tryz.func123.trans (congrArg some (by kernel_rfl)),
  f215 := Tryz.func244.trans (congrArg some (by kernel_rfl)),
  f216 := Tryz.func215.trans (congrArg some (by kernel_rfl)),
  f257 := Tryz.func170.trans (congrArg some (by kernel_rfl)),
  f294 := Tryz.func209.trans (congrArg some (by kernel_rfl)),
  f295 := Tryz.func210.trans (congrArg some (by kernel_rfl)),
  f296 := Tryz.func211.trans (congrArg some (by kernel_rfl)),
  f297 := Tryz.func212.trans (congrArg some (by kernel_rfl)),
  f298 := Tryz.func213.trans (congrArg some (by kernel_rfl)),
  f299 := Tryz.func214.trans (congrArg some (by kernel_rfl)),
  f300 := Tryz.func216.trans (congrArg some (by kernel_rfl)),
  f301 := Tryz.func217.trans (congrArg some (by kernel_rfl)),
  f328 := Tryz.func239.trans (congrArg some (by kernel_rfl)),
  f329 := Tryz.func240.trans (congrArg some (by kernel_rfl)),
  f330 := Tryz.func241.trans (congrArg some (by kernel_rfl)),
  f331 := Tryz.func242.trans (congrArg some (by kernel_rfl)),
  f332 := Tryz.func243.trans (congrArg some (by kernel_rfl)),
  f343 := Tryz.func253.trans (congrArg some (by kernel_rfl)),
  t0 := Tryz.underlying0,
  a0 := Tryz.isAgg0,
  z0 := Tryz.sizeOf0,
  v0 := Tryz.zeroValue0,
  t3 := Tryz.underlying3,
  a3 := Tryz.isAgg3,
  z3 := Tryz.sizeOf3,
  v3 := Tryz.zeroValue3,
  t4 := Tryz.underlying4,
  a4 := Tryz.isAgg4,
  z4 := Tryz.sizeOf4,
  v4 := Tryz.zeroValue4,
  t5 := Tryz.underlying5,
  a5 := Tryz.isAgg5,
  z5 := Tryz.sizeOf5,
  v5 := Tryz.zeroValue5,
  t9 := Tryz.underlying9,
  a9 := Tryz.isAgg9,
  z9 := Tryz.sizeOf9,
  v9 := Tryz.zeroValue9,
  t28 := Tryz.underlying24,
  a28 := Tryz.isAgg24,
  z28 := Tryz.sizeOf24,
  v28 := Tryz.zeroValue24,
  t46 := Tryz.underlying178,
  a46 := Tryz.isAgg178,
  z46 := Tryz.sizeOf178,
  v46 := Tryz.zeroValue178,
  t51 := Tryz.underlying212,
  a51 := Tryz.isAgg212,
  z51 := Tryz.sizeOf212,
  v51 := Tryz.zeroValue212,
  t53 := Tryz.underlying214,
  a53 := Tryz.isAgg214,
  z53 := Tryz.sizeOf214,
  v53 := Tryz.zeroValue214,
  t131 := Tryz.underlying209,
  a131 := Tryz.isAgg209,
  z131 := Tryz.sizeOf209,
  v131 := Tryz.zeroValue209,
  t182 := Tryz.underlying203,
  a182 := Tryz.isAgg203,
  z182 := Tryz.sizeOf203,
  v182 := Tryz.zeroValue203,
  t183 := Tryz.underlying204,
  a183 := Tryz.isAgg204,
  z183 := Tryz.sizeOf204,
  v183 := Tryz.zeroValue204,
  t218 := Tryz.underlying227,
  a218 := Tryz.isAgg227,
  z218 := Tryz.sizeOf227,
  v218 := Tryz.zeroValue227,
  t222 := Tryz.underlying231,
  a222 := Tryz.isAgg231,
  z222 := Tryz.sizeOf231,
  v222 := Tryz.zeroValue231,
  t228 := Tryz.underlying243,
  a228 := Tryz.isAgg243,
  z228 := Tryz.sizeOf243,
  v228 := Tryz.zeroValue243,
  t229 := Tryz.underlying244,
  a229 := Tryz.isAgg244,
  z229 := Tryz.sizeOf244,
  v229 := Tryz.zeroValue244 }
def ren20 : Ren := ⟨fun | 20 => 124 | n => n, fun | 22 => 24 | 3 => 3 | 4 => 4 | 0 => 0 | n => n, fun  | n => n⟩
theorem lays20 : Lays2.n20 Tryz.prog ren20 := {
  mixed := by kernel_rfl,
  f20 := Tryz.func124.trans (congrArg some (by kernel_rfl)),
  t0 := Tryz.underlying0,
  a0 := Tryz.isAgg0,
  z0 := Tryz.sizeOf0,
  v0 := Tryz.zeroValue0,
  t3 := Tryz.underlying3,
  a3 := Tryz.isAgg3,
  z3 := Tryz.sizeOf3,
  v3 := Tryz.zeroValue3,
  t4 := Tryz.underlying4,
  a4 := Tryz.isAgg4,
  z4 := Tryz.sizeOf4,
  v4 := Tryz.zeroValue4,
  t22 := Tryz.underlying24,
  a22 := Tryz.isAgg24,
  z22 := Tryz.sizeOf24,
  v22 := Tryz.zeroValue24,
  i3 := by kernel_rfl }
def kf (a : Int) : List Int -> List Int
  | [] => []
  | x :: r => if x ≠ a then x :: kf x r else kf x r
theorem kf_compactL : ∀ (r : List Int) (a : Int), compactL (a :: r) = a :: kf a r
  | [], a => rfl
  | b :: r, a => by
    rw [compactL, kf_compactL r b, kf]
    by_cases h : a = b
    · rw [if_pos h, if_neg (by simp [h]), h]
    · rw [if_neg h, if_pos (Ne.symm h)]
theorem kf_range : ∀ (r : List Int) (a : Int), (((List.range r.length).filter fun j => decide (r[j]! ≠ (a :: r)[j]!)).map fun j => r[j]!) = kf a r
  | [], a => rfl
  | x :: r, a => by
    rw [List.length_cons, List.range_succ_eq_map, List.filter_cons, kf]
    have e : (((List.map Nat.succ (List.range r.length)).filter fun j => decide ((x :: r)[j]! ≠ (a :: x :: r)[j]!)).map fun j => (x :: r)[j]!) = kf x r := by
      rw [List.filter_map, List.map_map, <- kf_range r x]
      rfl
    by_cases h : x = a
    · rw [if_neg (by simp [h]), if_neg (by simp [h]), e]
    · rw [if_pos (by simpa using h), if_pos h, List.map_cons, e]; rfl
theorem compact_eq : ∀ zs : List Int, Lib.compact zs = compactL zs
  | [] => rfl
  | a :: r => by
    rw [kf_compactL, <- kf_range r a]
    unfold Lib.compact Lib.compactUpTo Lib.keeps
    rw [List.length_cons, List.range_succ_eq_map, List.filter_cons, if_pos (by simp), List.map_cons, List.filter_map, List.map_map]
    refine congr (congrArg _ (by simp)) ?_
    have : ((fun j => decide (j = 0 \/ (a :: r).toArray[j]! ≠ (a :: r).toArray[j - 1]!)) ∘ Nat.succ) = fun j => decide (r[j]! ≠ (a :: r)[j]!) := by
      funext j; simp
    rw [this]
    refine List.map_congr_left fun j _ => ?_
    simp
theorem extOk : ExtOk Tryz.prog X0 := (orX_ok (sortX_ok (fun a c w => (Any.slices_Sort_int_none lays189 a c w).mono fun e w' ⟨he, hw⟩ => ⟨he, hw ▸ Below.refl _ _⟩) (fun b o c zs w h1 h2 h3 => Any.slices_Sort_int lays189 b o c zs w h1 h2 h3) ⟨Tryz.f123, Tryz.func123, by kernel_rfl, by kernel_rfl⟩)
  (compX_ok (fun a c w => (Any.slices_Compact_int_empty lays20 a c w).mono fun e w' ⟨he, hw⟩ => ⟨he, hw ▸ Below.refl _ _⟩) (fun b o c zs w h1 h2 h3 => compact_eq zs ▸ Any.slices_Compact_int lays20 b o c zs w h1 h2 h3) ⟨Tryz.f124, Tryz.func124, by kernel_rfl, by kernel_rfl⟩))
end Go.Proofs.YtjfeimhiiomgoaaGreatH
