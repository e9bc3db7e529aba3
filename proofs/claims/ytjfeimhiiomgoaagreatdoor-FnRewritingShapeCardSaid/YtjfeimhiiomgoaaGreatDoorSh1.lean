import Derived.Test.YtjfeimhiiomgoaaGreatDoorX3
import Derived.Test.YtjfeimhiiomgoaaGreatDoorProg
import Derived.Shelf.Strconv.Itoa3
import Derived.Shelf.Strings.OnBuilder
import Derived.Shelf.Sort.Plain
import Derived.Shelf.Slices.In.SortNone
import Derived.Shelf.Slices.CompactI
import Derived.Lib.SlicesCompact
set_option linter.unusedVariables false
namespace Go.Proofs.YtjfeimhiiomgoaaGreatDoorH
open Go Go.Shelf Go.RowKit
def ren171 : Ren := ⟨fun | 171 => 114 | 243 => 126 | 246 => 131 | 283 => 136 | 284 => 137 | 285 => 138 | 286 => 139 | 129 => 111 | 317 => 140 | 318 => 141 | 319 => 142 | 320 => 143 | 337 => 144 | 338 => 145 | n => n, fun | 3 => 3 | 9 => 9 | 2 => 2 | 4 => 4 | 171 => 146 | 0 => 0 | 53 => 122 | 37 => 22 | 5 => 5 | 173 => 148 | 212 => 152 | 51 => 120 | 20 => 20 | 213 => 153 | 46 => 99 | 232 => 154 | 233 => 155 | n => n, fun | 17 => 1 | 18 => 2 | 19 => 3 | n => n⟩
theorem lays171 : LaysM.n171 Tryz.prog ren171 := {
  mixed := by kernel_rfl,
  f129 := Tryz.func111.trans (congrArg some (by kernel_rfl)),
  f171 := Tryz.func114.trans (congrArg some (by kernel_rfl)),
  f243 := Tryz.func126.trans (congrArg some (by kernel_rfl)),
  f246 := Tryz.func131.trans (congrArg some (by kernel_rfl)),
  f283 := Tryz.func136.trans (congrArg some (by kernel_rfl)),
  f284 := Tryz.func137.trans (congrArg some (by kernel_rfl)),
  f285 := Tryz.func138.trans (congrArg some (by kernel_rfl)),
  f286 := Tryz.func139.trans (congrArg some (by kernel_rfl)),
  f317 := Tryz.func140.trans (congrArg some (by kernel_rfl)),
  f318 := Tryz.func141.trans (congrArg some (by kernel_rfl)),
  f319 := Tryz.func142.trans (congrArg some (by kernel_rfl)),
  f320 := Tryz.func143.trans (congrArg some (by kernel_rfl)),
  f337 := Tryz.func144.trans (congrArg some (by kernel_rfl)),
  f338 := Tryz.func145.trans (congrArg some (by kernel_rfl)),
  t0 := Tryz.underlying0,
  a0 := Tryz.isAgg0,
  z0 := Tryz.sizeOf0,
  v0 := Tryz.zeroValue0,
  t2 := Tryz.underlying2,
  a2 := Tryz.isAgg2,
  z2 := Tryz.sizeOf2,
  v2 := Tryz.zeroValue2,
  t3 := Tryz.underlying3,
  a3 := Tryz.isAgg3,
  z3 := Tryz.sizeOf3,
  v3 := Tryz.zeroValue3,
  t4 := Tryz.underlying4,
  a4 := Tryz.isAgg4,
  z4 := Tryz.sizeOf4,
  v4 := Tryz.zeroValue4,
  t5 := Tryz.underlying5,
  a5 := Tryz.isAgg5,
  z5 := Tryz.sizeOf5,
  v5 := Tryz.zeroValue5,
  t9 := Tryz.underlying9,
  a9 := Tryz.isAgg9,
  z9 := Tryz.sizeOf9,
  v9 := Tryz.zeroValue9,
  t20 := Tryz.underlying20,
  a20 := Tryz.isAgg20,
  z20 := Tryz.sizeOf20,
  v20 := Tryz.zeroValue20,
  t37 := Tryz.underlying22,
  a37 := Tryz.isAgg22,
  z37 := Tryz.sizeOf22,
  v37 := Tryz.zeroValue22,
  t46 := Tryz.underlying99,
  a46 := Tryz.isAgg99,
  z46 := Tryz.sizeOf99,
  v46 := Tryz.zeroValue99,
  t51 := Tryz.underlying120,
  a51 := Tryz.isAgg120,
  z51 := Tryz.sizeOf120,
  v51 := Tryz.zeroValue120,
  t53 := Tryz.underlying122,
  a53 := Tryz.isAgg122,
  z53 := Tryz.sizeOf122,
  v53 := Tryz.zeroValue122,
  t171 := Tryz.underlying146,
  a171 := Tryz.isAgg146,
  z171 := Tryz.sizeOf146,
  v171 := Tryz.zeroValue146,
  t173 := Tryz.underlying148,
  a173 := Tryz.isAgg148,
  z173 := Tryz.sizeOf148,
  v173 := Tryz.zeroValue148,
  t212 := Tryz.underlying152,
  a212 := Tryz.isAgg152,
  z212 := Tryz.sizeOf152,
  v212 := Tryz.zeroValue152,
  t213 := Tryz.underlying153,
  a213 := Tryz.isAgg153,
  z213 := Tryz.sizeOf153,
  t232 := Tryz.underlying154,
  a232 := Tryz.isAgg154,
  z232 := Tryz.sizeOf154,
  v232 := Tryz.zeroValue154,
  t233 := Tryz.underlying155,
  a233 := Tryz.isAgg155,
  z233 := Tryz.sizeOf155,
  v233 := Tryz.zeroValue155,
  g17 := by kernel_rfl,
  g18 := by kernel_rfl,
  g19 := by kernel_rfl,
  i0 := by kernel_rfl,
  i2 := by kernel_rfl,
  i3 := by kernel_rfl,
  i4 := by kernel_rfl,
  i5 := by kernel_rfl,
  i9 := by kernel_rfl,
  i20 := by kernel_rfl,
  i37 := by kernel_rfl,
  i46 := by kernel_rfl,
  i51 := by kernel_rfl,
  i53 := by kernel_rfl,
  i171 := by kernel_rfl,
  i173 := by kernel_rfl,
  i212 := by kernel_rfl,
  i232 := by kernel_rfl,
  i233 := by kernel_rfl,
  m17 := by kernel_rfl,
  m18 := by kernel_rfl,
  m19 := by kernel_rfl }
theorem drewN_heap : ∀ (k : Nat) (w : World), (w.drewN k).heap = w.heap /\ (w.drewN k).os = w.os /\ (w.drewN k).tape = w.tape /\ (w.drewN k).output = w.output
  | 0, w => ⟨rfl, rfl, rfl, rfl⟩
  | k + 1, w => drewN_heap k w
theorem below_grow (w : World) (k : Nat) (os : Array Obj) : Below w.heap.size w (Sort.grow (w.drewN k) os) := by
  obtain ⟨h1, h2, h3, h4⟩ := drewN_heap k w
  refine ⟨h2, h3, h4, ?_, fun b hb => ?_⟩
  · show w.heap.size <= ((w.drewN k).heap ++ os).size
    rw [h1, Array.size_append]; omega
  · show ((w.drewN k).heap ++ os)[b]? = w.heap[b]?
    rw [h1, Array.getElem?_append_left hb]
def ren156 : Ren := ⟨fun | 156 => 34 | 165 => 64 | 166 => 65 | 169 => 66 | 240 => 89 | 241 => 90 | 276 => 112 | 277 => 113 | n => n, fun | 31 => 53 | 9 => 9 | 3 => 3 | 4 => 4 | 0 => 0 | 20 => 20 | 72 => 77 | 76 => 81 | 70 => 75 | 37 => 22 | 75 => 80 | 127 => 102 | 164 => 123 | 5 => 5 | 80 => 83 | n => n, fun  | n => n⟩
theorem lays156 : Lays.n156 Tryz.prog ren156 := {
  mixed := by kernel_rfl,
  f156 := Tryz.func34.trans (congrArg some (by kernel_rfl)),
  f165 := Tryz.func64.trans (congrArg some (by kernel_rfl)),
  f166 := Tryz.func65.trans (congrArg some (by kernel_rfl)),
  f169 := Tryz.func66.trans (congrArg some (by kernel_rfl)),
  f240 := Tryz.func89.trans (congrArg some (by kernel_rfl)),
  f241 := Tryz.func90.trans (congrArg some (by kernel_rfl)),
  f276 := Tryz.func112.trans (congrArg some (by kernel_rfl)),
  f277 := Tryz.func113.trans (congrArg some (by kernel_rfl)),
  t0 := Tryz.underlying0,
  a0 := Tryz.isAgg0,
  z0 := Tryz.sizeOf0,
  v0 := Tryz.zeroValue0,
  t3 := Tryz.underlying3,
  a3 := Tryz.isAgg3,
  z3 := Tryz.sizeOf3,
  v3 := Tryz.zeroValue3,
  t4 := Tryz.underlying4,
  a4 := Tryz.isAgg4,
  z4 := Tryz.sizeOf4,
  v4 := Tryz.zeroValue4,
  t9 := Tryz.underlying9,
  a9 := Tryz.isAgg9,
  z9 := Tryz.sizeOf9,
  v9 := Tryz.zeroValue9,
  t20 := Tryz.underlying20,
  a20 := Tryz.isAgg20,
  z20 := Tryz.sizeOf20,
  v20 := Tryz.zeroValue20,
  t31 := Tryz.underlying53,
  a31 := Tryz.isAgg53,
  z31 := Tryz.sizeOf53,
  v31 := Tryz.zeroValue53,
  t37 := Tryz.underlying22,
  a37 := Tryz.isAgg22,
  z37 := Tryz.sizeOf22,
  v37 := Tryz.zeroValue22,
  t70 := Tryz.underlying75,
  a70 := Tryz.isAgg75,
  z70 := Tryz.sizeOf75,
  v70 := Tryz.zeroValue75,
  t72 := Tryz.underlying77,
  a72 := Tryz.isAgg77,
  z72 := Tryz.sizeOf77,
  v72 := Tryz.zeroValue77,
  t75 := Tryz.underlying80,
  a75 := Tryz.isAgg80,
  z75 := Tryz.sizeOf80,
  v75 := Tryz.zeroValue80,
  t76 := Tryz.underlying81,
  a76 := Tryz.isAgg81,
  z76 := Tryz.sizeOf81,
  v76 := Tryz.zeroValue81,
  t127 := Tryz.underlying102,
  a127 := Tryz.isAgg102,
  z127 := Tryz.sizeOf102,
  v127 := Tryz.zeroValue102,
  t164 := Tryz.underlying123,
  a164 := Tryz.isAgg123,
  z164 := Tryz.sizeOf123,
  v164 := Tryz.zeroValue123 }
theorem ext156 : Builder.Extra Tryz.prog ren156 := { sizeBuilder := by kernel_rfl, liesBuilder := by kernel_rfl, t5 := by kernel_rfl, a5 := fun w => by kernel_rfl, z5 := fun w => by kernel_rfl, v5 := fun w => by kernel_rfl, infoByte := by kernel_rfl, cellsByte := by kernel_rfl, sizeByte := by kernel_rfl, neB5 := by decide }
def ren189 : Ren := ⟨fun | 189 => 57 | 125 => 85 | 257 => 84 | 128 => 110 | 129 => 111 | 294 => 101 | 295 => 102 | 296 => 103 | 297 => 104 | 298 => 105 | 299 => 106 | 216 => 107 | 300 => 108 | 301 => 109 | 328 => 120 | 329 => 121 | 330 => 122 | 331 => 123 | 332 => 124 | 215 => 125 | 343 => 130 | n => n, fun | 28 => 26 | 3 => 3 | 46 => 99 | 0 => 0 | 51 => 120 | 53 => 122 | 4 => 4 | 183 => 113 | 182 => 112 | 131 => 103 | 5 => 5 | 9 => 9 | 218 => 129 | 222 => 133 | 228 => 138 | 229 => 139 | n => n, fun  | n => n⟩
theorem lays189 : Lays.n189 Tryz.prog ren189 := {
  mixed := by kernel_rfl,
  f125 := Tryz.func85.trans (congrArg some (by kernel_rfl)),
  f128 := Tryz.func110.trans (congrArg some (by kernel_rfl)),
  f129 := Tryz.func111.trans (congrArg some (by kernel_rfl)),
  f189 := Tryz.func57.trans (congrArg some (by kernel_rfl)),
  f215 := Tryz.func125.trans (congrArg some (by kernel_rfl)),
  f216 := Tryz.func107.trans (congrArg some (by kernel_rfl)),
  f257 := Tryz.func84.trans (congrArg some (by kernel_rfl)),
  f294 := Tryz.func101.trans (congrArg some (by kernel_rfl)),
  f295 := Tryz.func102.trans (congrArg some (by kernel_rfl)),
  f296 := Tryz.func103.trans (congrArg some (by kernel_rfl)),
  f297 := Tryz.func104.trans (congrArg some (by kernel_rfl)),
  f298 := Tryz.func105.trans (congrArg some (by kernel_rfl)),
  f299 := Tryz.func106.trans (congrArg some (by kernel_rfl)),
  f300 := Tryz.func108.trans (congrArg some (by kernel_rfl)),
  f301 := Tryz.func109.trans (congrArg some (by kernel_rfl)),
  f328 := Tryz.func120.trans (congrArg some (by kernel_rfl)),
  f329 := Tryz.func121.trans (congrArg some (by kernel_rfl)),
  f330 := Tryz.func122.trans (congrArg some (by kernel_rfl)),
  f331 := Tryz.func123.trans (congrArg some (by kernel_rfl)),
  f332 := Tryz.func124.trans (congrArg some (by kernel_rfl)),
  f343 := Tryz.func130.trans (congrArg some (by kernel_rfl)),
  t0 := Tryz.underlying0,
  a0 := Tryz.isAgg0,
  z0 := Tryz.sizeOf0,
  v0 := Tryz.zeroValue0,
  t3 := Tryz.underlying3,
  a3 := Tryz.isAgg3,
  z3 := Tryz.sizeOf3,
  v3 := Tryz.zeroValue3,
  t4 := Tryz.underlying4,
  a4 := Tryz.isAgg4,
  z4 := Tryz.sizeOf4,
  v4 := Tryz.zeroValue4,
  t5 := Tryz.underlying5,
  a5 := Tryz.isAgg5,
  z5 := Tryz.sizeOf5,
  v5 := Tryz.zeroValue5,
  t9 := Tryz.underlying9,
  a9 := Tryz.isAgg9,
  z9 := Tryz.sizeOf9,
  v9 := Tryz.zeroValue9,
  t28 := Tryz.underlying26,
  a28 := Tryz.isAgg26,
  z28 := Tryz.sizeOf26,
  v28 := Tryz.zeroValue26,
  t46 := Tryz.underlying99,
  a46 := Tryz.isAgg99,
  z46 := Tryz.sizeOf99,
  v46 := Tryz.zeroValue99,
  t51 := Tryz.underlying120,
  a51 := Tryz.isAgg120,
  z51 := Tryz.sizeOf120,
  v51 := Tryz.zeroValue120,
  t53 := Tryz.underlying122,
  a53 := Tryz.isAgg122,
  z53 := Tryz.sizeOf122,
  v53 := Tryz.zeroValue122,
  t131 := Tryz.underlying103,
  a131 := Tryz.isAgg103,
  z131 := Tryz.sizeOf103,
  v131 := Tryz.zeroValue103,
  t182 := Tryz.underlying112,
  a182 := Tryz.isAgg112,
  z182 := Tryz.sizeOf112,
  v182 := Tryz.zeroValue112,
  t183 := Tryz.underlying113,
  a183 := Tryz.isAgg113,
  z183 := Tryz.sizeOf113,
  v183 := Tryz.zeroValue113,
  t218 := Tryz.underlying129,
  a218 := Tryz.isAgg129,
  z218 := Tryz.sizeOf129,
  v218 := Tryz.zeroValue129,
  t222 := Tryz.underlying133,
  a222 := Tryz.isAgg133,
  z222 := Tryz.sizeOf133,
  v222 := Tryz.zeroValue133,
  t228 := Tryz.underlying138,
  a228 := Tryz.isAgg138,
  z228 := Tryz.sizeOf138,
  v228 := Tryz.zeroValue138,
  t229 := Tryz.underlying139,
  a229 := Tryz.isAgg139,
  z229 := Tryz.sizeOf139,
  v229 := Tryz.zeroValue139 }
def ren20 : Ren := ⟨fun | 20 => 58 | n => n, fun | 22 => 26 | 3 => 3 | 4 => 4 | 0 => 0 | n => n, fun  | n => n⟩
theorem lays20 : Lays2.n20 Tryz.prog ren20 := {
  mixed := by kernel_rfl,
  f20 := Tryz.func58.trans (congrArg some (by kernel_rfl)),
  t0 := Tryz.underlying0,
  a0 := Tryz.isAgg0,
  z0 := Tryz.sizeOf0,
  v0 := Tryz.zeroValue0,
  t3 := Tryz.underlying3,
  a3 := Tryz.isAgg3,
  z3 := Tryz.sizeOf3,
  v3 := Tryz.zeroValue3,
  t4 := Tryz.underlying4,
  a4 := Tryz.isAgg4,
  z4 := Tryz.sizeOf4,
  v4 := Tryz.zeroValue4,
  t22 := Tryz.underlying26,
  a22 := Tryz.isAgg26,
  z22 := Tryz.sizeOf26,
  v22 := Tryz.zeroValue26,
  i3 := by kernel_rfl }
def kf (a : Int) : List Int -> List Int
  | [] => []
  | x :: r => if x ≠ a then x :: kf x r else kf x r
theorem kf_compactL : ∀ (r : List Int) (a : Int), compactL (a :: r) = a :: kf a r
  | [], a => rfl
  | b :: r, a => by
    rw [compactL, kf_compactL r b, kf]
    by_cases h : a = b
    · rw [if_pos h, if_neg (by simp [h]), h]
    · rw [if_neg h, if_pos (Ne.symm h)]
theorem kf_range : ∀ (r : List Int) (a : Int), (((List.range r.length).filter fun j => decide (r[j]! ≠ (a :: r)[j]!)).map fun j => r[j]!) = kf a r
  | [], a => rfl
  | x :: r, a => by
    rw [List.length_cons, List.range_succ_eq_map, List.filter_cons, kf]
    have e : (((List.map Nat.succ (List.range r.length)).filter fun j => decide ((x :: r)[j]! ≠ (a :: x :: r)[j]!)).map fun j => (x :: r)[j]!) = kf x r := by
      rw [List.filter_map, List.map_map, <- kf_range r x]
      rfl
    by_cases h : x = a
    · rw [if_neg (by simp [h]), if_neg (by simp [h]), e]
    · rw [if_pos (by simpa using h), if_pos h, List.map_cons, e]; rfl
theorem compact_eq : ∀ zs : List Int, Lib.compact zs = compactL zs
  | [] => rfl
  | a :: r => by
    rw [kf_compactL, <- kf_range r a]
    unfold Lib.compact Lib.compactUpTo Lib.keeps
    rw [List.length_cons, List.range_succ_eq_map, List.filter_cons, if_pos (by simp), List.map_cons, List.filter_map, List.map_map]
    refine congr (congrArg _ (by simp)) ?_
    have : ((fun j => decide (j = 0 \/ (a :: r).toArray[j]! ≠ (a :: r).toArray[j - 1]!)) ∘ Nat.succ) = fun j => decide (r[j]! ≠ (a :: r)[j]!) := by
      funext j; simp
    rw [this]
    refine List.map_congr_left fun j _ => ?_
    simp
theorem extOk : ExtOk Tryz.prog X0 := (orX_ok (itoaX_ok (fun n w base ht h0 h1 => (Any.strconv_Itoa lays171 n h0 h1 w (ht w fun _ _ => rfl)).mono fun e w' ⟨he, k, os, hw⟩ => ⟨he, hw ▸ below_grow w k os⟩) ⟨Tryz.f114, Tryz.func114, by kernel_rfl, by kernel_rfl⟩)
  (orX_ok (joinX_ok (fun a c sep w => (Any.strings_Join_none lays156 ext156 a c sep w).mono fun e w' ⟨he, hw⟩ => ⟨he, hw ▸ Below.refl _ _⟩) (fun bk o c xs sep w h1 h2 h3 h4 h5 => Any.strings_Join lays156 ext156 bk o c xs sep w h1 h2 h3 h4 h5) ⟨Tryz.f34, Tryz.func34, by kernel_rfl, by kernel_rfl⟩)
  (orX_ok (sortX_ok (fun a c w => (Any.slices_Sort_int_none lays189 a c w).mono fun e w' ⟨he, hw⟩ => ⟨he, hw ▸ Below.refl _ _⟩) (fun b o c zs w h1 h2 h3 => Any.slices_Sort_int lays189 b o c zs w h1 h2 h3) ⟨Tryz.f57, Tryz.func57, by kernel_rfl, by kernel_rfl⟩)
  (compX_ok (fun a c w => (Any.slices_Compact_int_empty lays20 a c w).mono fun e w' ⟨he, hw⟩ => ⟨he, hw ▸ Below.refl _ _⟩) (fun b o c zs w h1 h2 h3 => compact_eq zs ▸ Any.slices_Compact_int lays20 b o c zs w h1 h2 h3) ⟨Tryz.f58, Tryz.func58, by kernel_rfl, by kernel_rfl⟩))))
end Go.Proofs.YtjfeimhiiomgoaaGreatDoorH
