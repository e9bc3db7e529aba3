import Derived.Test.YtcllfkplpdppiaaGreatTg1a
set_option maxHeartbeats 2000000
set_option linter.unusedVariables false
set_option linter.unusedSimpArgs false
set_option linter.defProp false
set_option linter.unusedSectionVars false
set_option maxRecDepth 100000
namespace Go.Proofs.YtcllfkplpdppiaaGreatH
open Go
noncomputable section
instance i211_0 {s1 : (List Int)} {s2 : (List Int)} : Lp cx (f211_0 s1 s2) 36 L211_0 (fun (zs : Int) => [(0, .v (ssl eI s1)), (1, .v (ssl eI s2)), (9, .v (ssl eI s1)), (10, .v (iT (s1.length : Int))), (11, .v (iT zs))]) (QO (QX 0 (fun (y : Unit) => [(0, .v (ssl eI s1)), (1, .v (ssl eI s2))])) (QR (fun (y : Int) => [(4, .v (iT y))]))) := by
 refine Lp.of ?_; unfold f211_0; exact go
instance i211 {s1 : (List Int)} {s2 : (List Int)} : Rn cx (f211 s1 s2) 211 [(ssl eI s1), (ssl eI s2)] (fun (r : Int) => (iT r)) (fun r => []) := by
 refine Rn.of rfl rfl (by decide) rfl ?_; unfold f211; exact go
instance : Io0 cx 211 := ⟨rfl⟩
instance i158 {a : Fact} {b : Fact} : Rn cx (f158 a b) 158 [(.agg [(iT a.Relation), (ssl eI a.Values)]), (.agg [(iT b.Relation), (ssl eI b.Values)])] (fun (r : Int) => (iT r)) (fun r => []) := by
 refine Rn.of rfl rfl (by decide) rfl ?_; unfold f158; exact go
instance : Io0 cx 158 := ⟨rfl⟩
instance i79_0 {db : Database} : Lp cx (f79_0 db) 44 L79_0 (fun (zs : Int) => [(1, .v (.ptr true [(ssl eRelation db.Relations), (ssl eFact db.Facts)])), (16, .v (ssl eFact db.Facts)), (17, .v (iT (db.Facts.length : Int))), (18, .v (iT zs))]) (QO (QX 0 (fun (y : Unit) => [])) (QR (fun (y : Bool) => [(2, .v (.bool y))]))) := by
 refine Lp.of (f := (fun
 | x_7 =>
  if x_7 < (db.Facts.length : Int) then
  (ix db.Facts x_7).bind fun v_9 =>
  (f157 db.Relations v_9).bind fun o11 =>
  (jn (QN (fun (y : Bool) => [(1, .v (.ptr true [(ssl eRelation db.Relations), (ssl eFact db.Facts)])), (16, .v (ssl eFact db.Facts)), (17, .v (iT (db.Facts.length : Int))), (18, .v (iT x_7)), (42, .v (.bool y))])) ((if ¬ (o11 = true) then
  some true
  else
  (jn (QN (fun (y : Bool) => [(1, .v (.ptr true [(ssl eRelation db.Relations), (ssl eFact db.Facts)])), (16, .v (ssl eFact db.Facts)), (17, .v (iT (db.Facts.length : Int))), (18, .v (iT x_7)), (42, .v (.bool y))])) ((if x_7 > 0 then
  (ix db.Facts (w64 (x_7 - 1))).bind fun v_19 =>
  (f158 v_19 v_9).bind fun o21 =>
  some (decide (o21 ≥ 0))
  else
  some false) : Option (Bool))).bind fun x_16 =>
  some x_16) : Option (Bool))).bind fun x_13 =>
  if x_13 = true then
  some (.inr (.inr false))
  else
  some (.inl (w64 (x_7 + 1)))
  else
  some (.inr (.inl ())) : Int → Option (Int ⊕ (Unit ⊕ Bool)))) ?_
 exact go
instance i79 {db : Database} : Rn cx (f79 db) 79 [(.agg [(ssl eRelation db.Relations), (ssl eFact db.Facts)])] (fun (r : Bool) => (.bool r)) (fun r => []) := by
 refine Rn.of (e := (
  (f156 db.Relations).bind fun o1 =>
  (jn (QN (fun (y : Bool) => [(1, .v (.ptr true [(ssl eRelation db.Relations), (ssl eFact db.Facts)])), (14, .v (.bool y))])) ((if ¬ (o1 = true) then
  some true
  else
  some (decide ((db.Facts.length : Int) > 14))) : Option (Bool))).bind fun x_3 =>
  if x_3 = true then
  some false
  else
  (iter (f79_0 db) 0).bind fun o => match o with
  | .inl _ =>
  some true
  | .inr x_26 =>
  some x_26 : Option Bool)) rfl rfl (by decide) rfl ?_
 exact go
instance : Io0 cx 79 := ⟨rfl⟩
instance i160 {t : Int} : Rn cx (f160 t) 160 [(iT t)] (fun (r : Bool) => (.bool r)) (fun r => []) := by
 refine Rn.of rfl rfl (by decide) rfl ?_; unfold f160; exact go
instance : Io0 cx 160 := ⟨rfl⟩
theorem r217 {n : Int} {r : Nat} (h : f217 n = some r) : VJx cx (.ca 217 [.nils, .int .i64 n] (.sl true true 1 r []) []) := by
 exact ca_grow (zs := [.int .i64 (0)]) (zt := [(iT 0)]) rfl rfl rfl rfl (by decide) (by decide) h
instance i217 {n : Int} : Rn cx (f217 n) 217 [.nils, .int .i64 n] (fun r => .sl true true 1 r []) (fun _ => []) := ⟨fun _ h => r217 h⟩
instance i169_0 {slices : (List (List Int))} : Lp cx (f169_0 slices) 36 L169_0 (fun (zs : Int × Int) => [(0, .v (ssl (eL eI) slices)), (3, .v (iT zs.1)), (9, .v (ssl (eL eI) slices)), (10, .v (iT (slices.length : Int))), (11, .v (iT zs.2))]) (QX 0 (fun (y : Int) => [(0, .v (ssl (eL eI) slices)), (3, .v (iT y))])) := by
 refine Lp.of (f := (fun
 | (size_1, x_2) =>
  if x_2 < (slices.length : Int) then
  (ix slices x_2).bind fun v_4 =>
  (jn (QN (fun (y : Unit) => [(0, .v (ssl (eL eI) slices)), (3, .v (iT (w64 (size_1 + (v_4.length : Int))))), (9, .v (ssl (eL eI) slices)), (10, .v (iT (slices.length : Int))), (11, .v (iT x_2))])) ((if (w64 (size_1 + (v_4.length : Int))) < 0 then
  none
  else
  some ()) : Option Unit)).bind fun _ =>
  some (.inl (w64 (size_1 + (v_4.length : Int)), w64 (x_2 + 1)))
  else
  some (.inr size_1) : Int × Int → Option ((Int × Int) ⊕ Int))) ?_
 exact go
instance i169_1 {slices : (List (List Int))} : Lp cx (f169_1 slices) 36 L169_1 (fun (zs : Nat × (List Int) × Int) => [(6, .v (.sl true true 1 zs.1 (arr eI true zs.2.1))), (25, .v (ssl (eL eI) slices)), (26, .v (iT (slices.length : Int))), (27, .v (iT zs.2.2))]) (QX 2 (fun (y : Nat × (List Int)) => [(6, .v (.sl true true 1 y.1 (arr eI true y.2)))])) := by
 refine Lp.of ?_; unfold f169_1; exact go
instance i169 {slices : (List (List Int))} : Rn cx (f169 slices) 169 [(ssl (eL eI) slices)] (fun (r : (List Int)) => (osl eI true r)) (fun r => []) := by
 refine Rn.of rfl rfl (by decide) rfl ?_; unfold f169; exact go
instance : Io0 cx 169 := ⟨rfl⟩
instance i240 {x : Int} : Rn cx (f240 x) 240 [(.int .u64 x)] (fun (r : Int) => (iT r)) (fun r => []) := by
 refine Rn.of (e := (
  (jn (QN (fun (y : Int × Int) => [(0, .v (.int .u64 y.1)), (2, .v (iT y.2))])) ((if x ≥ 4294967296 then
  some (sshr .u64 x 32, 32)
  else
  some (x, 0)) : Option (Int × Int))).bind fun (x_4, n_5) =>
  (jn (QN (fun (y : Int × Int) => [(0, .v (.int .u64 y.1)), (2, .v (iT y.2))])) ((if x_4 ≥ 65536 then
  some (sshr .u64 x_4 16, w64 (n_5 + 16))
  else
  some (x_4, n_5)) : Option (Int × Int))).bind fun (x_9, n_10) =>
  (jn (QN (fun (y : Int × Int) => [(0, .v (.int .u64 y.1)), (2, .v (iT y.2))])) ((if x_9 ≥ 256 then
  some (sshr .u64 x_9 8, w64 (n_10 + 8))
  else
  some (x_9, n_10)) : Option (Int × Int))).bind fun (x_14, n_15) =>
  (ix ([0, 1, 2, 2, 3, 3, 3, 3, 4, 4, 4, 4, 4, 4, 4, 4, 5, 5, 5, 5, 5, 5, 5, 5, 5, 5, 5, 5, 5, 5, 5, 5, 6, 6, 6, 6, 6, 6, 6, 6, 6, 6, 6, 6, 6, 6, 6, 6, 6, 6, 6, 6, 6, 6, 6, 6, 6, 6, 6, 6, 6, 6, 6, 6, 7, 7, 7, 7, 7, 7, 7, 7, 7, 7, 7, 7, 7, 7, 7, 7, 7, 7, 7, 7, 7, 7, 7, 7, 7, 7, 7, 7, 7, 7, 7, 7, 7, 7, 7, 7, 7, 7, 7, 7, 7, 7, 7, 7, 7, 7, 7, 7, 7, 7, 7, 7, 7, 7, 7, 7, 7, 7, 7, 7, 7, 7, 7, 7, 8, 8, 8, 8, 8, 8, 8, 8, 8, 8, 8, 8, 8, 8, 8, 8, 8, 8, 8, 8, 8, 8, 8, 8, 8, 8, 8, 8, 8, 8, 8, 8, 8, 8, 8, 8, 8, 8, 8, 8, 8, 8, 8, 8, 8, 8, 8, 8, 8, 8, 8, 8, 8, 8, 8, 8, 8, 8, 8, 8, 8, 8, 8, 8, 8, 8, 8, 8, 8, 8, 8, 8, 8, 8, 8, 8, 8, 8, 8, 8, 8, 8, 8, 8, 8, 8, 8, 8, 8, 8, 8, 8, 8, 8, 8, 8, 8, 8, 8, 8, 8, 8, 8, 8, 8, 8, 8, 8, 8, 8, 8, 8, 8, 8, 8, 8, 8, 8, 8, 8, 8, 8, 8, 8, 8, 8, 8, 8] : List UInt8) (w8 x_14)).bind fun c_16 =>
  some (w64 (n_15 + (w64 (c_16.toNat : Int)))) : Option Int)) rfl rfl (by decide) rfl ?_
 exact go
instance : Io0 cx 240 := ⟨rfl⟩
instance i197 {x : Int} : Rn cx (f197 x) 197 [(.int .u64 x)] (fun (r : Int) => (iT r)) (fun r => []) := by
 refine Rn.of rfl rfl (by decide) rfl ?_; unfold f197; exact go
instance : Io0 cx 197 := ⟨rfl⟩
instance i236 {x : Int} {y : Int} : Rn cx (f236 x y) 236 [(iT x), (iT y)] (fun (r : Bool) => (.bool r)) (fun r => []) := by
 refine Rn.of (e := (
  (f262 x).bind fun o1 =>
  (jn (QN (fun (y : Bool) => [(4, .v (.bool y))])) ((if o1 = true then
  (f262 y).bind fun o6 =>
  (jn (QN (fun (y : Bool) => [(4, .v (.bool y))])) ((if ¬ (o6 = true) then
  some true
  else
  some (decide (x < y))) : Option (Bool))).bind fun x_8 =>
  some x_8
  else
  some (decide (x < y))) : Option (Bool))).bind fun x_3 =>
  some x_3 : Option Bool)) rfl rfl (by decide) rfl ?_
 exact go
instance : Io0 cx 236 := ⟨rfl⟩
instance i230_1 {a : Int} {b : Int} {i_2 : Int} : Lp cx (lw (b, i_2) (f230_1 a)) 49 L230_1 (fun (zs : (List Int) × Int) => [(0, .v (osl eI true zs.1)), (1, .v (iT a)), (2, .v (iT b)), (6, .v (iT i_2)), (7, .v (iT zs.2))]) (QX 2 (fun (y : (List Int)) => [(0, .v (osl eI true y)), (1, .v (iT a)), (2, .v (iT b)), (6, .v (iT i_2))])) := by
 refine Lp.of (f := (fun
 | (data_4, j_5) =>
  (jn (QN (fun (y : Bool) => [(0, .v (osl eI true data_4)), (1, .v (iT a)), (2, .v (iT b)), (6, .v (iT i_2)), (7, .v (iT j_5)), (30, .v (.bool y))])) ((if j_5 > a then
  (ix data_4 j_5).bind fun v_9 =>
  (ix data_4 (w64 (j_5 - 1))).bind fun v_11 =>
  (f236 v_9 v_11).bind fun o13 =>
  some o13
  else
  some false) : Option (Bool))).bind fun x_6 =>
  if x_6 = true then
  (ix data_4 (w64 (j_5 - 1))).bind fun v_16 =>
  (ix data_4 j_5).bind fun v_18 =>
  (ix (data_4.set j_5.toNat v_16) (w64 (j_5 - 1))).bind fun v_21 =>
  some (.inl (((data_4.set j_5.toNat v_16).set (w64 (j_5 - 1)).toNat v_18), w64 (j_5 - 1)))
  else
  some (.inr data_4) : (List Int) × Int → Option (((List Int) × Int) ⊕ (List Int)))) ?_
 exact go
instance i230_0 {a : Int} {b : Int} : Lp cx (f230_0 a b) 49 L230_0 (fun (zs : (List Int) × Int) => [(0, .v (osl eI true zs.1)), (1, .v (iT a)), (2, .v (iT b)), (6, .v (iT zs.2))]) (QX 0 (fun (y : (List Int)) => [(0, .v (osl eI true y))])) := by
 refine Lp.of (f := (fun
 | (data_1, i_2) =>
  if i_2 < b then
  (iter (lw (b, i_2)  (f230_1 a)) (data_1, i_2)).bind fun data_26 =>
  some (.inl (data_26, w64 (i_2 + 1)))
  else
  some (.inr data_1) : (List Int) × Int → Option (((List Int) × Int) ⊕ (List Int)))) ?_
 exact go
instance i230 {data : (List Int)} {a : Int} {b : Int} : Rn cx (f230 data a b) 230 [(osl eI true data), (iT a), (iT b)] (fun (r : (List Int)) => (.tup [])) (fun r => [(osl eI true r)]) := by
 refine Rn.of rfl rfl (by decide) rfl ?_; unfold f230; exact go
instance i257_0 {hi : Int} {first : Int} : Lp cx (f257_0 hi first) 76 L257_0 (fun (zs : (List Int) × Int) => [(0, .v (osl eI true zs.1)), (2, .v (iT hi)), (3, .v (iT first)), (8, .v (iT zs.2))]) (QO (QX 0 (fun (y : (List Int)) => [(0, .v (osl eI true y))])) (QR (fun (y : (List Int)) => [(0, .v (osl eI true y))]))) := by
 refine Lp.of (f := (fun
 | (data_1, root_2) =>
  if (w64 ((w64 (2 * root_2)) + 1)) ≥ hi then
  some (.inr (.inl data_1))
  else
  (jn (QN (fun (y : Bool) => [(0, .v (osl eI true data_1)), (2, .v (iT hi)), (3, .v (iT first)), (8, .v (iT root_2)), (9, .v (iT (w64 ((w64 (2 * root_2)) + 1)))), (36, .v (.bool y))])) ((if (w64 ((w64 ((w64 (2 * root_2)) + 1)) + 1)) < hi then
  (ix data_1 (w64 (first + (w64 ((w64 (2 * root_2)) + 1))))).bind fun v_7 =>
  (ix data_1 (w64 ((w64 (first + (w64 ((w64 (2 * root_2)) + 1)))) + 1))).bind fun v_9 =>
  (f236 v_7 v_9).bind fun o11 =>
  some o11
  else
  some false) : Option (Bool))).bind fun x_4 =>
  (jn (QN (fun (y : Int) => [(0, .v (osl eI true data_1)), (2, .v (iT hi)), (3, .v (iT first)), (8, .v (iT root_2)), (9, .v (iT y))])) ((if x_4 = true then
  some (w64 ((w64 ((w64 (2 * root_2)) + 1)) + 1))
  else
  some (w64 ((w64 (2 * root_2)) + 1))) : Option Int)).bind fun child_16 =>
  (ix data_1 (w64 (first + root_2))).bind fun v_17 =>
  (ix data_1 (w64 (first + child_16))).bind fun v_19 =>
  (f236 v_17 v_19).bind fun o21 =>
  if ¬ (o21 = true) then
  some (.inr (.inr data_1))
  else
  (ix (data_1.set (w64 (first + root_2)).toNat v_19) (w64 (first + child_16))).bind fun v_25 =>
  some (.inl (((data_1.set (w64 (first + root_2)).toNat v_19).set (w64 (first + child_16)).toNat v_17), child_16)) : (List Int) × Int → Option (((List Int) × Int) ⊕ ((List Int) ⊕ (List Int))))) ?_
 exact go
instance i257 {data : (List Int)} {lo : Int} {hi : Int} {first : Int} : Rn cx (f257 data lo hi first) 257 [(osl eI true data), (iT lo), (iT hi), (iT first)] (fun (r : (List Int)) => (.tup [])) (fun r => [(osl eI true r)]) := by
 refine Rn.of rfl rfl (by decide) rfl ?_; unfold f257; exact go
instance i231_0 {a : Int} {b : Int} : Lp cx (f231_0 a b) 56 L231_0 (fun (zs : (List Int) × Int) => [(0, .v (osl eI true zs.1)), (6, .v (iT a)), (7, .v (iT 0)), (8, .v (iT (w64 (b - a)))), (9, .v (iT zs.2))]) (QX 0 (fun (y : (List Int)) => [(0, .v (osl eI true y)), (6, .v (iT a)), (7, .v (iT 0)), (8, .v (iT (w64 (b - a))))])) := by
 refine Lp.of ?_; unfold f231_0; exact go
instance i231_1 {a : Int} : Lp cx (f231_1 a) 56 L231_1 (fun (zs : (List Int) × Int) => [(0, .v (osl eI true zs.1)), (6, .v (iT a)), (7, .v (iT 0)), (10, .v (iT zs.2))]) (QX 2 (fun (y : (List Int)) => [(0, .v (osl eI true y))])) := by
 refine Lp.of ?_; unfold f231_1; exact go
instance i231 {data : (List Int)} {a : Int} {b : Int} : Rn cx (f231 data a b) 231 [(osl eI true data), (iT a), (iT b)] (fun (r : (List Int)) => (.tup [])) (fun r => [(osl eI true r)]) := by
 refine Rn.of rfl rfl (by decide) rfl ?_; unfold f231; exact go
instance i258 {length : Int} : Rn cx (f258 length) 258 [(iT length)] (fun (r : Int) => (.int .u64 r)) (fun r => []) := by
 refine Rn.of rfl rfl (by decide) rfl ?_; unfold f258; exact go
instance : Io0 cx 258 := ⟨rfl⟩
instance i259 {r0 : Int} : Rn cx (f259 r0) 259 [(.ptr true [(.int .u64 r0)])] (fun (r : Int × Int) => (.int .u64 r.1)) (fun r => [(.ptr true [(.int .u64 r.2)])]) := by
 refine Rn.of rfl rfl (by decide) rfl ?_; unfold f259; exact go
instance i232_0 {a : Int} {b : Int} {o4 : Int} : Lp cx (f232_0 a b o4) 65 L232_0 (fun (zs : (List Int) × Int × Int) => [(0, .v (osl eI true zs.1)), (1, .v (iT a)), (6, .v (iT (w64 (b - a)))), (7, .v (.ptr true [(.int .u64 zs.2.1)])), (8, .v (.int .u64 o4)), (9, .v (iT zs.2.2))]) (QX 0 (fun (y : (List Int)) => [(0, .v (osl eI true y))])) := by
 refine Lp.of (f := (fun
 | (data_6, random_7, idx_8) =>
  if idx_8 ≤ (w64 ((w64 (a + (w64 ((w64 ((w64 (b - a)).tdiv 4)) * 2)))) + 1)) then
  (f259 random_7).bind fun o10 =>
  (jn (QN (fun (y : Int) => [(0, .v (osl eI true data_6)), (1, .v (iT a)), (6, .v (iT (w64 (b - a)))), (7, .v (.ptr true [(.int .u64 o10.2)])), (8, .v (.int .u64 o4)), (9, .v (iT idx_8)), (10, .v (iT y))])) ((if (w64 (band .u64 o10.1 (IntKind.u64.wrap (o4 - 1)))) ≥ (w64 (b - a)) then
  some (w64 ((w64 (band .u64 o10.1 (IntKind.u64.wrap (o4 - 1)))) - (w64 (b - a))))
  else
  some (w64 (band .u64 o10.1 (IntKind.u64.wrap (o4 - 1))))) : Option Int)).bind fun other_15 =>
  (ix data_6 (w64 (a + other_15))).bind fun v_16 =>
  (ix data_6 idx_8).bind fun v_18 =>
  (ix (data_6.set idx_8.toNat v_16) (w64 (a + other_15))).bind fun v_21 =>
  some (.inl (((data_6.set idx_8.toNat v_16).set (w64 (a + other_15)).toNat v_18), o10.2, w64 (idx_8 + 1)))
  else
  some (.inr data_6) : (List Int) × Int × Int → Option (((List Int) × Int × Int) ⊕ (List Int)))) ?_
 exact go
instance i232 {data : (List Int)} {a : Int} {b : Int} : Rn cx (f232 data a b) 232 [(osl eI true data), (iT a), (iT b)] (fun (r : (List Int)) => (.tup [])) (fun r => [(osl eI true r)]) := by
 refine Rn.of (e := (
  (jn (QN (fun (y : (List Int)) => [(0, .v (osl eI true y))])) ((if (w64 (b - a)) ≥ 8 then
  (f258 (w64 (b - a))).bind fun o4 =>
  (iter (f232_0 a b o4) (data, IntKind.u64.wrap (w64 (b - a)), w64 ((w64 (a + (w64 ((w64 ((w64 (b - a)).tdiv 4)) * 2)))) - 1))).bind fun data_26 =>
  some data_26
  else
  some data) : Option (List Int))).bind fun data_27 =>
  some data_27 : Option (List Int))) rfl rfl (by decide) rfl ?_
 exact go
instance i271 {data : (List Int)} {a : Int} {b : Int} {swaps : Int} : Rn cx (f271 data a b swaps) 271 [(ssl eI data), (iT a), (iT b), (.ptr true [(iT swaps)])] (fun (r : Int × Int × Int) => (.tup [(iT r.1), (iT r.2.1)])) (fun r => [(.ptr true [(iT r.2.2)])]) := by
 refine Rn.of rfl rfl (by decide) rfl ?_; unfold f271; exact go
instance i261 {data : (List Int)} {a : Int} {b : Int} {c : Int} {swaps : Int} : Rn cx (f261 data a b c swaps) 261 [(ssl eI data), (iT a), (iT b), (iT c), (.ptr true [(iT swaps)])] (fun (r : Int × Int) => (iT r.1)) (fun r => [(.ptr true [(iT r.2)])]) := by
 refine Rn.of rfl rfl (by decide) rfl ?_; unfold f261; exact go
instance i260 {data : (List Int)} {a : Int} {swaps : Int} : Rn cx (f260 data a swaps) 260 [(ssl eI data), (iT a), (.ptr true [(iT swaps)])] (fun (r : Int × Int) => (iT r.1)) (fun r => [(.ptr true [(iT r.2)])]) := by
 refine Rn.of rfl rfl (by decide) rfl ?_; unfold f260; exact go
instance i233 {data : (List Int)} {a : Int} {b : Int} : Rn cx (f233 data a b) 233 [(ssl eI data), (iT a), (iT b)] (fun (r : Int × Int) => (.tup [(iT r.1), (iT r.2)])) (fun r => []) := by
 refine Rn.of (e := (
  (jn (QN (fun (y : Int × Int) => [(9, .v (.ptr true [(iT y.1)])), (11, .v (iT y.2))])) ((if (w64 (b - a)) ≥ 8 then
  (jn (QN (fun (y : Int × Int × Int × Int) => [(0, .v (ssl eI data)), (9, .v (.ptr true [(iT y.1)])), (10, .v (iT y.2.1)), (11, .v (iT y.2.2.1)), (12, .v (iT y.2.2.2))])) ((if (w64 (b - a)) ≥ 50 then
  (f260 data (w64 (a + (w64 (w64 ((w64 (b - a)).tdiv 4))))) 0).bind fun o7 =>
  (f260 data (w64 (a + (w64 ((w64 ((w64 (b - a)).tdiv 4)) * 2)))) o7.2).bind fun o9 =>
  (f260 data (w64 (a + (w64 ((w64 ((w64 (b - a)).tdiv 4)) * 3)))) o9.2).bind fun o11 =>
  some (o11.2, o7.1, o9.1, o11.1)
  else
  some (0, w64 (a + (w64 (w64 ((w64 (b - a)).tdiv 4)))), w64 (a + (w64 ((w64 ((w64 (b - a)).tdiv 4)) * 2))), w64 (a + (w64 ((w64 ((w64 (b - a)).tdiv 4)) * 3))))) : Option (Int × Int × Int × Int))).bind fun (swaps_13, i_14, j_15, k_16) =>
  (f261 data i_14 j_15 k_16 swaps_13).bind fun o17 =>
  some (o17.2, o17.1)
  else
  some (0, w64 (a + (w64 ((w64 ((w64 (b - a)).tdiv 4)) * 2))))) : Option (Int × Int))).bind fun (swaps_19, j_20) =>
  if swaps_19 = 0 then
  some (j_20, 1)
  else
  if swaps_19 = 12 then
  some (j_20, 2)
  else
  some (j_20, 0) : Option (Int × Int))) rfl rfl (by decide) rfl ?_
 exact go
instance : Io0 cx 233 := ⟨rfl⟩
instance i234_0 : Lp cx f234_0 32 L234_0 (fun (zs : (List Int) × Int × Int) => [(0, .v (osl eI true zs.1)), (6, .v (iT zs.2.1)), (7, .v (iT zs.2.2))]) (QX 0 (fun (y : (List Int)) => [(0, .v (osl eI true y))])) := by
 refine Lp.of ?_; unfold f234_0; exact go
instance i234 {data : (List Int)} {a : Int} {b : Int} : Rn cx (f234 data a b) 234 [(osl eI true data), (iT a), (iT b)] (fun (r : (List Int)) => (.tup [])) (fun r => [(osl eI true r)]) := by
 refine Rn.of rfl rfl (by decide) rfl ?_; unfold f234; exact go
instance i235_1 {a : Int} {b : Int} {data_1 : (List Int)} {j_3 : Int} : Lp cx (lw (a, j_3) (f235_1 b data_1)) 133 L235_1 (fun (zs : Int) => [(0, .v (osl eI true data_1)), (1, .v (iT a)), (2, .v (iT b)), (7, .v (iT zs)), (8, .v (iT j_3))]) (QX 2 (fun (y : Int) => [(0, .v (osl eI true data_1)), (1, .v (iT a)), (2, .v (iT b)), (7, .v (iT y)), (8, .v (iT j_3))])) := by
 refine Lp.of (f := (fun
 | i_5 =>
  (jn (QN (fun (y : Bool) => [(0, .v (osl eI true data_1)), (1, .v (iT a)), (2, .v (iT b)), (7, .v (iT i_5)), (8, .v (iT j_3)), (32, .v (.bool y))])) ((if i_5 < b then
  (ix data_1 i_5).bind fun v_9 =>
  (ix data_1 (w64 (i_5 - 1))).bind fun v_11 =>
  (f236 v_9 v_11).bind fun o13 =>
  some (decide (¬ (o13 = true)))
  else
  some false) : Option (Bool))).bind fun x_6 =>
  if x_6 = true then
  some (.inl (w64 (i_5 + 1)))
  else
  some (.inr i_5) : Int → Option (Int ⊕ Int))) ?_
 exact go
instance i235_2 {a : Int} {b : Int} {j_3 : Int} {i_18 : Int} : Lp cx (lw (a, b, j_3, i_18) f235_2) 133 L235_2 (fun (zs : (List Int) × Int) => [(0, .v (osl eI true zs.1)), (1, .v (iT a)), (2, .v (iT b)), (7, .v (iT i_18)), (8, .v (iT j_3)), (9, .v (iT zs.2))]) (QX 4 (fun (y : (List Int)) => [(0, .v (osl eI true y)), (1, .v (iT a)), (2, .v (iT b)), (7, .v (iT i_18)), (8, .v (iT j_3))])) := by
 refine Lp.of ?_; unfold lw f235_2; exact go
instance i235_3 {a : Int} {b : Int} {j_3 : Int} {i_18 : Int} : Lp cx (lw (a, j_3, i_18) (f235_3 b)) 133 L235_3 (fun (zs : (List Int) × Int) => [(0, .v (osl eI true zs.1)), (1, .v (iT a)), (2, .v (iT b)), (7, .v (iT i_18)), (8, .v (iT j_3)), (10, .v (iT zs.2))]) (QX 6 (fun (y : (List Int)) => [(0, .v (osl eI true y)), (1, .v (iT a)), (2, .v (iT b)), (7, .v (iT i_18)), (8, .v (iT j_3))])) := by
 refine Lp.of ?_; unfold lw f235_3; exact go
instance i235_0 {a : Int} {b : Int} : Lp cx (f235_0 a b) 133 L235_0 (fun (zs : (List Int) × Int × Int) => [(0, .v (osl eI true zs.1)), (1, .v (iT a)), (2, .v (iT b)), (7, .v (iT zs.2.1)), (8, .v (iT zs.2.2))]) (QO (QX 0 (fun (y : (List Int)) => [(0, .v (osl eI true y))])) (QR (fun (y : (List Int) × Bool) => [(0, .v (osl eI true y.1)), (6, .v (.bool y.2))]))) := by
 refine Lp.of (f := (fun
 | (data_1, i_2, j_3) =>
  if j_3 < 5 then
  (iter (lw (a, j_3)  (f235_1 b data_1)) i_2).bind fun i_18 =>
  if i_18 = b then
  some (.inr (.inr (data_1, true)))
  else
  if (w64 (b - a)) < 50 then
  some (.inr (.inr (data_1, false)))
  else
  (ix data_1 (w64 (i_18 - 1))).bind fun v_21 =>
  (ix data_1 i_18).bind fun v_23 =>
  (ix (data_1.set i_18.toNat v_21) (w64 (i_18 - 1))).bind fun v_26 =>
  (jn (QN (fun (y : (List Int)) => [(0, .v (osl eI true y)), (1, .v (iT a)), (2, .v (iT b)), (7, .v (iT i_18)), (8, .v (iT j_3))])) ((if (w64 (i_18 - a)) ≥ 2 then
  (iter (lw (a, b, j_3, i_18)  f235_2) (((data_1.set i_18.toNat v_21).set (w64 (i_18 - 1)).toNat v_23), w64 (i_18 - 1))).bind fun data_48 =>
  some data_48
  else
  some ((data_1.set i_18.toNat v_21).set (w64 (i_18 - 1)).toNat v_23)) : Option (List Int))).bind fun data_49 =>
  (jn (QN (fun (y : (List Int)) => [(0, .v (osl eI true y)), (1, .v (iT a)), (2, .v (iT b)), (7, .v (iT i_18)), (8, .v (iT j_3))])) ((if (w64 (b - i_18)) ≥ 2 then
  (iter (lw (a, j_3, i_18)  (f235_3 b)) (data_49, w64 (i_18 + 1))).bind fun data_69 =>
  some data_69
  else
  some data_49) : Option (List Int))).bind fun data_70 =>
  some (.inl (data_70, i_18, w64 (j_3 + 1)))
  else
  some (.inr (.inl data_1)) : (List Int) × Int × Int → Option (((List Int) × Int × Int) ⊕ ((List Int) ⊕ ((List Int) × Bool))))) ?_
 exact go
instance i235 {data : (List Int)} {a : Int} {b : Int} : Rn cx (f235 data a b) 235 [(osl eI true data), (iT a), (iT b)] (fun (r : Bool × (List Int)) => (.bool r.1)) (fun r => [(osl eI true r.2)]) := by
 refine Rn.of rfl rfl (by decide) rfl ?_; unfold f235; exact go
instance i237_1 {a : Int} {data_9 : (List Int)} {j_11 : Int} : Lp cx (f237_1 a data_9 j_11) 84 L237_1 (fun (zs : Int) => [(0, .v (osl eI true data_9)), (1, .v (iT a)), (9, .v (iT zs)), (10, .v (iT j_11))]) (QX 2 (fun (y : Int) => [(0, .v (osl eI true data_9)), (1, .v (iT a)), (9, .v (iT y)), (10, .v (iT j_11))])) := by
 refine Lp.of (f := (fun
 | i_12 =>
  (jn (QN (fun (y : Bool) => [(0, .v (osl eI true data_9)), (1, .v (iT a)), (9, .v (iT i_12)), (10, .v (iT j_11)), (43, .v (.bool y))])) ((if i_12 ≤ j_11 then
  (ix data_9 a).bind fun v_16 =>
  (ix data_9 i_12).bind fun v_18 =>
  (f236 v_16 v_18).bind fun o20 =>
  some (decide (¬ (o20 = true)))
  else
  some false) : Option (Bool))).bind fun x_13 =>
  if x_13 = true then
  some (.inl (w64 (i_12 + 1)))
  else
  some (.inr i_12) : Int → Option (Int ⊕ Int))) ?_
 exact go
instance i237_2 {a : Int} {data_9 : (List Int)} {i_25 : Int} : Lp cx (f237_2 a data_9 i_25) 84 L237_2 (fun (zs : Int) => [(0, .v (osl eI true data_9)), (1, .v (iT a)), (9, .v (iT i_25)), (10, .v (iT zs))]) (QX 4 (fun (y : Int) => [(0, .v (osl eI true data_9)), (1, .v (iT a)), (9, .v (iT i_25)), (10, .v (iT y))])) := by
 refine Lp.of (f := (fun
 | j_26 =>
  (jn (QN (fun (y : Bool) => [(0, .v (osl eI true data_9)), (1, .v (iT a)), (9, .v (iT i_25)), (10, .v (iT j_26)), (59, .v (.bool y))])) ((if i_25 ≤ j_26 then
  (ix data_9 a).bind fun v_30 =>
  (ix data_9 j_26).bind fun v_32 =>
  (f236 v_30 v_32).bind fun o34 =>
  some o34
  else
  some false) : Option (Bool))).bind fun x_27 =>
  if x_27 = true then
  some (.inl (w64 (j_26 - 1)))
  else
  some (.inr j_26) : Int → Option (Int ⊕ Int))) ?_
 exact go
instance i237_0 {a : Int} : Lp cx (f237_0 a) 84 L237_0 (fun (zs : (List Int) × Int × Int) => [(0, .v (osl eI true zs.1)), (1, .v (iT a)), (9, .v (iT zs.2.1)), (10, .v (iT zs.2.2))]) (QX 0 (fun (y : (List Int) × Int) => [(0, .v (osl eI true y.1)), (9, .v (iT y.2))])) := by
 refine Lp.of ?_; unfold f237_0; exact go
instance i237 {data : (List Int)} {a : Int} {b : Int} {pivot : Int} : Rn cx (f237 data a b pivot) 237 [(osl eI true data), (iT a), (iT b), (iT pivot)] (fun (r : Int × (List Int)) => (iT r.1)) (fun r => [(osl eI true r.2)]) := by
 refine Rn.of rfl rfl (by decide) rfl ?_; unfold f237; exact go
instance i238_0 {data : (List Int)} {a : Int} {b : Int} {pivot : Int} {v_1 : Int} {v_3 : Int} : Lp cx (f238_0 data a b pivot v_1 v_3) 168 L238_0 (fun (zs : Int) => [(0, .v (osl eI true ((data.set a.toNat v_1).set pivot.toNat v_3))), (1, .v (iT a)), (10, .v (iT zs)), (11, .v (iT (w64 (b - 1))))]) (QX 0 (fun (y : Int) => [(0, .v (osl eI true ((data.set a.toNat v_1).set pivot.toNat v_3))), (1, .v (iT a)), (10, .v (iT y)), (11, .v (iT (w64 (b - 1))))])) := by
 refine Lp.of (f := (fun
 | i_9 =>
  (jn (QN (fun (y : Bool) => [(0, .v (osl eI true ((data.set a.toNat v_1).set pivot.toNat v_3))), (1, .v (iT a)), (10, .v (iT i_9)), (11, .v (iT (w64 (b - 1)))), (43, .v (.bool y))])) ((if i_9 ≤ (w64 (b - 1)) then
  (ix ((data.set a.toNat v_1).set pivot.toNat v_3) i_9).bind fun v_13 =>
  (ix ((data.set a.toNat v_1).set pivot.toNat v_3) a).bind fun v_15 =>
  (f236 v_13 v_15).bind fun o17 =>
  some o17
  else
  some false) : Option (Bool))).bind fun x_10 =>
  if x_10 = true then
  some (.inl (w64 (i_9 + 1)))
  else
  some (.inr i_9) : Int → Option (Int ⊕ Int))) ?_
 exact go
instance i238_1 {data : (List Int)} {a : Int} {pivot : Int} {v_1 : Int} {v_3 : Int} {i_22 : Int} : Lp cx (f238_1 data a pivot v_1 v_3 i_22) 168 L238_1 (fun (zs : Int) => [(0, .v (osl eI true ((data.set a.toNat v_1).set pivot.toNat v_3))), (1, .v (iT a)), (10, .v (iT i_22)), (11, .v (iT zs))]) (QX 2 (fun (y : Int) => [(0, .v (osl eI true ((data.set a.toNat v_1).set pivot.toNat v_3))), (1, .v (iT a)), (10, .v (iT i_22)), (11, .v (iT y))])) := by
 refine Lp.of (f := (fun
 | j_23 =>
  (jn (QN (fun (y : Bool) => [(0, .v (osl eI true ((data.set a.toNat v_1).set pivot.toNat v_3))), (1, .v (iT a)), (10, .v (iT i_22)), (11, .v (iT j_23)), (60, .v (.bool y))])) ((if i_22 ≤ j_23 then
  (ix ((data.set a.toNat v_1).set pivot.toNat v_3) j_23).bind fun v_27 =>
  (ix ((data.set a.toNat v_1).set pivot.toNat v_3) a).bind fun v_29 =>
  (f236 v_27 v_29).bind fun o31 =>
  some (decide (¬ (o31 = true)))
  else
  some false) : Option (Bool))).bind fun x_24 =>
  if x_24 = true then
  some (.inl (w64 (j_23 - 1)))
  else
  some (.inr j_23) : Int → Option (Int ⊕ Int))) ?_
 exact go
instance i238_3 {a : Int} {data_54 : (List Int)} {j_56 : Int} : Lp cx (f238_3 a data_54 j_56) 168 L238_3 (fun (zs : Int) => [(0, .v (osl eI true data_54)), (1, .v (iT a)), (10, .v (iT zs)), (11, .v (iT j_56))]) (QX 6 (fun (y : Int) => [(0, .v (osl eI true data_54)), (1, .v (iT a)), (10, .v (iT y)), (11, .v (iT j_56))])) := by
 refine Lp.of (f := (fun
 | i_57 =>
  (jn (QN (fun (y : Bool) => [(0, .v (osl eI true data_54)), (1, .v (iT a)), (10, .v (iT i_57)), (11, .v (iT j_56)), (112, .v (.bool y))])) ((if i_57 ≤ j_56 then
  (ix data_54 i_57).bind fun v_61 =>
  (ix data_54 a).bind fun v_63 =>
  (f236 v_61 v_63).bind fun o65 =>
  some o65
  else
  some false) : Option (Bool))).bind fun x_58 =>
  if x_58 = true then
  some (.inl (w64 (i_57 + 1)))
  else
  some (.inr i_57) : Int → Option (Int ⊕ Int))) ?_
 exact go
instance i238_4 {a : Int} {data_54 : (List Int)} {i_70 : Int} : Lp cx (f238_4 a data_54 i_70) 168 L238_4 (fun (zs : Int) => [(0, .v (osl eI true data_54)), (1, .v (iT a)), (10, .v (iT i_70)), (11, .v (iT zs))]) (QX 8 (fun (y : Int) => [(0, .v (osl eI true data_54)), (1, .v (iT a)), (10, .v (iT i_70)), (11, .v (iT y))])) := by
 refine Lp.of (f := (fun
 | j_71 =>
  (jn (QN (fun (y : Bool) => [(0, .v (osl eI true data_54)), (1, .v (iT a)), (10, .v (iT i_70)), (11, .v (iT j_71)), (129, .v (.bool y))])) ((if i_70 ≤ j_71 then
  (ix data_54 j_71).bind fun v_75 =>
  (ix data_54 a).bind fun v_77 =>
  (f236 v_75 v_77).bind fun o79 =>
  some (decide (¬ (o79 = true)))
  else
  some false) : Option (Bool))).bind fun x_72 =>
  if x_72 = true then
  some (.inl (w64 (j_71 - 1)))
  else
  some (.inr j_71) : Int → Option (Int ⊕ Int))) ?_
 exact go
instance i238_2 {a : Int} : Lp cx (f238_2 a) 168 L238_2 (fun (zs : (List Int) × Int × Int) => [(0, .v (osl eI true zs.1)), (1, .v (iT a)), (10, .v (iT zs.2.1)), (11, .v (iT zs.2.2))]) (QX 4 (fun (y : (List Int) × Int) => [(0, .v (osl eI true y.1)), (1, .v (iT a)), (11, .v (iT y.2))])) := by
 refine Lp.of ?_; unfold f238_2; exact go
instance i238 {data : (List Int)} {a : Int} {b : Int} {pivot : Int} : Rn cx (f238 data a b pivot) 238 [(osl eI true data), (iT a), (iT b), (iT pivot)] (fun (r : Int × Bool × (List Int)) => (.tup [(iT r.1), (.bool r.2.1)])) (fun r => [(osl eI true r.2.2)]) := by
 refine Rn.of rfl rfl (by decide) rfl ?_; unfold f238; exact go
instance i196_0 {rec : (List Int) → Int → Int → Int → Option (List Int)} [hrec : ∀ data a b limit, Rn cx (rec data a b limit) 196 [(osl eI true data), (iT a), (iT b), (iT limit)] (fun o => (.tup [])) (fun o => [(osl eI true o)])] : Lp cx (f196_0 rec) 134 L196_0 (fun (zs : (List Int) × Int × Int × Int × Bool × Bool) => [(0, .v (osl eI true zs.1)), (1, .v (iT zs.2.1)), (2, .v (iT zs.2.2.1)), (3, .v (iT zs.2.2.2.1)), (8, .v (.bool zs.2.2.2.2.1)), (9, .v (.bool zs.2.2.2.2.2))]) (QR (fun (y : (List Int)) => [(0, .v (osl eI true y))])) := by
 refine Lp.of (f := (fun
 | (data_1, a_2, b_3, limit_4, wasBalanced_5, wasPartitioned_6) =>
  (jb 1 (QO (QN (fun (y : (List Int) × Int × Int × Int × Bool × Bool) => [(0, .v (osl eI true y.1)), (1, .v (iT y.2.1)), (2, .v (iT y.2.2.1)), (3, .v (iT y.2.2.2.1)), (8, .v (.bool y.2.2.2.2.1)), (9, .v (.bool y.2.2.2.2.2))])) (QR (fun (y : (List Int)) => [(0, .v (osl eI true y))]))) ((if (w64 (b_3 - a_2)) ≤ 12 then
  (f230 data_1 a_2 b_3).bind fun o10 =>
  some (.inr o10)
  else
  if limit_4 = 0 then
  (f231 data_1 a_2 b_3).bind fun o13 =>
  some (.inr o13)
  else
  (jn (QN (fun (y : (List Int) × Int) => [(0, .v (osl eI true y.1)), (1, .v (iT a_2)), (2, .v (iT b_3)), (3, .v (iT y.2)), (8, .v (.bool wasBalanced_5)), (9, .v (.bool wasPartitioned_6)), (10, .v (iT (w64 (b_3 - a_2))))])) ((if ¬ (wasBalanced_5 = true) then
  (f232 data_1 a_2 b_3).bind fun o18 =>
  some (o18, w64 (limit_4 - 1))
  else
  some (data_1, limit_4)) : Option ((List Int) × Int))).bind fun (data_20, limit_21) =>
  (f233 data_20 a_2 b_3).bind fun o22 =>
  (jn (QN (fun (y : (List Int) × Int × Int) => [(0, .v (osl eI true y.1)), (1, .v (iT a_2)), (2, .v (iT b_3)), (3, .v (iT limit_21)), (8, .v (.bool wasBalanced_5)), (9, .v (.bool wasPartitioned_6)), (10, .v (iT (w64 (b_3 - a_2)))), (11, .v (iT y.2.1)), (12, .v (iT y.2.2))])) ((if o22.2 = 2 then
  (f234 data_20 a_2 b_3).bind fun o27 =>
  some (o27, w64 ((w64 (b_3 - 1)) - (w64 (o22.1 - a_2))), 1)
  else
  some (data_20, o22.1, o22.2)) : Option ((List Int) × Int × Int))).bind fun (data_29, pivot_30, hint_31) =>
  (jn (QN (fun (y : Bool) => [(0, .v (osl eI true data_29)), (1, .v (iT a_2)), (2, .v (iT b_3)), (3, .v (iT limit_21)), (8, .v (.bool wasBalanced_5)), (9, .v (.bool wasPartitioned_6)), (10, .v (iT (w64 (b_3 - a_2)))), (11, .v (iT pivot_30)), (68, .v (.bool y))])) ((if wasBalanced_5 = true then
  (jn (QN (fun (y : Bool) => [(0, .v (osl eI true data_29)), (1, .v (iT a_2)), (2, .v (iT b_3)), (3, .v (iT limit_21)), (8, .v (.bool wasBalanced_5)), (9, .v (.bool wasPartitioned_6)), (10, .v (iT (w64 (b_3 - a_2)))), (11, .v (iT pivot_30)), (68, .v (.bool y))])) ((if wasPartitioned_6 = true then
  some (decide (hint_31 = 1))
  else
  some false) : Option (Bool))).bind fun x_35 =>
  some x_35
  else
  some false) : Option (Bool))).bind fun x_32 =>
  (jn (QO (QN (fun (y : (List Int)) => [(0, .v (osl eI true y)), (1, .v (iT a_2)), (2, .v (iT b_3)), (3, .v (iT limit_21)), (8, .v (.bool wasBalanced_5)), (9, .v (.bool wasPartitioned_6)), (10, .v (iT (w64 (b_3 - a_2)))), (11, .v (iT pivot_30))])) (QR (fun (y : (List Int)) => [(0, .v (osl eI true y))]))) ((if x_32 = true then
  (f235 data_29 a_2 b_3).bind fun o41 =>
  if o41.1 = true then
  some (.inr o41.2)
  else
  some (.inl o41.2)
  else
  some (.inl data_29)) : Option ((List Int) ⊕ (List Int)))).bind fun o => match o with
  | .inl data_44 =>
  (jn (QN (fun (y : Bool) => [(0, .v (osl eI true data_44)), (1, .v (iT a_2)), (2, .v (iT b_3)), (3, .v (iT limit_21)), (8, .v (.bool wasBalanced_5)), (9, .v (.bool wasPartitioned_6)), (10, .v (iT (w64 (b_3 - a_2)))), (11, .v (iT pivot_30)), (87, .v (.bool y))])) ((if a_2 > 0 then
  (ix data_44 (w64 (a_2 - 1))).bind fun v_49 =>
  (ix data_44 pivot_30).bind fun v_51 =>
  (f236 v_49 v_51).bind fun o53 =>
  some (decide (¬ (o53 = true)))
  else
  some false) : Option (Bool))).bind fun x_46 =>
  if x_46 = true then
  (f237 data_44 a_2 b_3 pivot_30).bind fun o56 =>
  some (.inl (o56.2, o56.1, b_3, limit_21, wasBalanced_5, wasPartitioned_6))
  else
  (f238 data_44 a_2 b_3 pivot_30).bind fun o58 =>
  (jn (QN (fun (y : (List Int) × Int × Int × Bool) => [(0, .v (osl eI true y.1)), (1, .v (iT y.2.1)), (2, .v (iT y.2.2.1)), (3, .v (iT limit_21)), (8, .v (.bool y.2.2.2)), (9, .v (.bool o58.2.1))])) ((if (w64 (o58.1 - a_2)) < (w64 (b_3 - o58.1)) then
  (rec o58.2.2 a_2 o58.1 limit_21).bind fun o63 =>
  some (o63, w64 (o58.1 + 1), b_3, (decide ((w64 (o58.1 - a_2)) ≥ (w64 ((w64 (b_3 - a_2)).tdiv 8)))))
  else
  (rec o58.2.2 (w64 (o58.1 + 1)) b_3 limit_21).bind fun o65 =>
  some (o65, a_2, o58.1, (decide ((w64 (b_3 - o58.1)) ≥ (w64 ((w64 (b_3 - a_2)).tdiv 8)))))) : Option ((List Int) × Int × Int × Bool))).bind fun (data_67, a_68, b_69, wasBalanced_70) =>
  some (.inl (data_67, a_68, b_69, limit_21, wasBalanced_70, o58.2.1))
  | .inr data_45 =>
  some (.inr data_45)) : Option (((List Int) × Int × Int × Int × Bool × Bool) ⊕ (List Int)))).bind fun o => match o with
  | .inl (data_71, a_72, b_73, limit_74, wasBalanced_75, wasPartitioned_76) =>
  some (.inl (data_71, a_72, b_73, limit_74, wasBalanced_75, wasPartitioned_76))
  | .inr data_77 =>
  some (.inr data_77) : (List Int) × Int × Int × Int × Bool × Bool → Option (((List Int) × Int × Int × Int × Bool × Bool) ⊕ (List Int)))) ?_
 exact go
instance i196 : ∀ (n : Nat) data a b limit, Rn cx (f196 n data a b limit) 196 [(osl eI true data), (iT a), (iT b), (iT limit)] (fun (r : (List Int)) => (.tup [])) (fun r => [(osl eI true r)]) := by
 intro n
 induction n with
 | zero => intro data a b limit; exact ⟨fun r h => by simp [f196] at h⟩
 | succ n ih =>
  intro data a b limit
  refine Rn.of rfl rfl (by decide) rfl ?_
  simp only [f196]
  exact go
instance i140 {x : (List Int)} : Rn cx (f140 x) 140 [(osl eI true x)] (fun (r : (List Int)) => (.tup [])) (fun r => [(osl eI true r)]) := by
 refine Rn.of rfl rfl (by decide) rfl ?_; unfold f140; exact go
theorem r170 {l r : List Int} (h : f170 l = some r) : VJx cx (.ca 170 [osl eI true l] (ssl eI r) [.und]) := by
 exact ca_compact (X := noExt) (fun _ _ _ _ h => h) rfl rfl h
instance i170 {l : List Int} : Rn cx (f170 l) 170 [osl eI true l] (fun r => ssl eI r) (fun _ => [.und]) := ⟨fun _ h => r170 h⟩
instance i104 {a : (List Int)} {b : (List Int)} : Rn cx (f104 a b) 104 [(ssl eI a), (ssl eI b)] (fun (r : (List Int)) => (ssl eI r)) (fun r => []) := by
 refine Rn.of (e := (
  sn 4 8 (osl (eL eI) false ([a, b])) <| 
  (f169 ([a, b])).bind fun o1 =>
  (f140 o1).bind fun o3 =>
  (f170 o3).bind fun o5 =>
  some o5 : Option (List Int))) rfl rfl (by decide) rfl ?_
 exact go
instance : Io0 cx 104 := ⟨rfl⟩
instance i102_0 {atom : Atom} : Lp cx (f102_0 atom) 23 L102_0 (fun (zs : (List Int) × Int) => [(1, .v (.ptr true [(iT atom.Relation), (ssl eI atom.Terms)])), (3, .v (osl eI true zs.1)), (8, .v (ssl eI atom.Terms)), (9, .v (iT (atom.Terms.length : Int))), (10, .v (iT zs.2))]) (QX 0 (fun (y : (List Int)) => [(3, .v (osl eI true y))])) := by
 refine Lp.of (f := (fun
 | (out_1, x_2) =>
  if x_2 < (atom.Terms.length : Int) then
  (ix atom.Terms x_2).bind fun v_4 =>
  (f122 v_4 0 3).bind fun o6 =>
  (jn (QN (fun (y : (List Int)) => [(1, .v (.ptr true [(iT atom.Relation), (ssl eI atom.Terms)])), (3, .v (osl eI true y)), (8, .v (ssl eI atom.Terms)), (9, .v (iT (atom.Terms.length : Int))), (10, .v (iT x_2))])) ((if o6 = true then
  (app 8 out_1 ([v_4])).bind fun l_11 =>
  some l_11
  else
  some out_1) : Option (List Int))).bind fun out_13 =>
  some (.inl (out_13, w64 (x_2 + 1)))
  else
  some (.inr out_1) : (List Int) × Int → Option (((List Int) × Int) ⊕ (List Int)))) ?_
 exact go
instance i102 {atom : Atom} : Rn cx (f102 atom) 102 [(.agg [(iT atom.Relation), (ssl eI atom.Terms)])] (fun (r : (List Int)) => (ssl eI r)) (fun r => []) := by
 refine Rn.of (e := (
  sn 4 3 (osl eI true ([])) <| 
  (iter (f102_0 atom) ([], 0)).bind fun out_16 =>
  sn 1 21 (ssl eI out_16) <| 
  (f104 out_16 ([] : (List Int))).bind fun o17 =>
  some o17 : Option (List Int))) rfl rfl (by decide) rfl ?_
 exact go
instance : Io0 cx 102 := ⟨rfl⟩
instance i101 {relations : (List Relation)} {atom : Atom} : Rn cx (f101 relations atom) 101 [(ssl eRelation relations), (.agg [(iT atom.Relation), (ssl eI atom.Terms)])] (fun (r : (List Int)) => (ssl eI r)) (fun r => []) := by
 refine Rn.of (e := (
  (f122 atom.Relation 0 (w64 ((relations.length : Int) - 1))).bind fun o1 =>
  (jn (QN (fun (y : Bool) => [(0, .v (ssl eRelation relations)), (3, .v (.ptr true [(iT atom.Relation), (ssl eI atom.Terms)])), (24, .v (.bool y))])) ((if ¬ (o1 = true) then
  some true
  else
  (ix relations atom.Relation).bind fun v_6 =>
  (f122 v_6.KeyLength 0 (atom.Terms.length : Int)).bind fun o8 =>
  some (decide (¬ (o8 = true)))) : Option (Bool))).bind fun x_3 =>
  if x_3 = true then
  sn 1 4 (osl eI true ([])) <| 
  some ([])
  else
  (ix relations atom.Relation).bind fun v_11 =>
  (cutL atom.Terms 0 v_11.KeyLength).bind fun l_13 =>
  (f102 ({ Relation := 0, Terms := l_13 } : Atom)).bind fun o15 =>
  some o15 : Option (List Int))) rfl rfl (by decide) rfl ?_
 exact go
instance : Io0 cx 101 := ⟨rfl⟩
instance i182_0 {s0 : (List Int)} {v : Int} : Lp cx (f182_0 s0 v) 19 L182_0 (fun (zs : Int) => [(0, .v (ssl eI s0)), (1, .v (iT v)), (7, .v (iT (s0.length : Int))), (8, .v (iT zs))]) (QO (QX 0 (fun (y : Unit) => [])) (QR (fun (y : Int) => [(4, .v (iT y))]))) := by
 refine Lp.of ?_; unfold f182_0; exact go
instance i182 {s0 : (List Int)} {v : Int} : Rn cx (f182 s0 v) 182 [(ssl eI s0), (iT v)] (fun (r : Int) => (iT r)) (fun r => []) := by
 refine Rn.of rfl rfl (by decide) rfl ?_; unfold f182; exact go
instance : Io0 cx 182 := ⟨rfl⟩
instance i125 {s0 : (List Int)} {v : Int} : Rn cx (f125 s0 v) 125 [(ssl eI s0), (iT v)] (fun (r : Bool) => (.bool r)) (fun r => []) := by
 refine Rn.of rfl rfl (by decide) rfl ?_; unfold f125; exact go
instance : Io0 cx 125 := ⟨rfl⟩
instance i195 {n0 : Int} {c : (List Int)} : Rn cx (f195 n0 c) 195 [(iT n0), (.ptr false [(ssl eI c)])] (fun (r : Bool) => (.bool r)) (fun r => []) := by
 refine Rn.of rfl rfl (by decide) rfl ?_; unfold f195; exact go
instance : Io0 cx 195 := ⟨rfl⟩
instance i139 {a : (List Int)} {b : (List Int)} : Rn cx (f139 a b) 139 [(ssl eI a), (ssl eI b)] (fun (r : Bool) => (.bool r)) (fun r => []) := by
 refine Rn.of rfl rfl (by decide) rfl ?_; unfold f139; exact go
instance : Io0 cx 139 := ⟨rfl⟩
instance i80_0 {relations : (List Relation)} {rewriting : (List RewritingStep)} : Lp cx (f80_0 relations rewriting) 64 L80_0 (fun (zs : Int) => [(0, .v (ssl eRelation relations)), (8, .v (ssl eRewritingStep rewriting)), (9, .v (iT (rewriting.length : Int))), (10, .v (iT zs))]) (QO (QX 0 (fun (y : Unit) => [])) (QR (fun (y : Bool) => [(4, .v (.bool y))]))) := by
 refine Lp.of (f := (fun
 | x_1 =>
  if x_1 < (rewriting.length : Int) then
  (ix rewriting x_1).bind fun v_3 =>
  (jn (QN (fun (y : Bool) => [(0, .v (ssl eRelation relations)), (6, .v (.ptr true [(iT v_3.Atom.Relation), (ssl eI v_3.Atom.Terms), (ssl eI v_3.Existential), (ssl eI v_3.Universal)])), (7, .v (.ptr true [(iT v_3.Atom.Relation), (ssl eI v_3.Atom.Terms)])), (8, .v (ssl eRewritingStep rewriting)), (9, .v (iT (rewriting.length : Int))), (10, .v (iT x_1)), (44, .v (.bool y))])) ((if x_1 ≥ 3 then
  some true
  else
  (f156 relations).bind fun o8 =>
  (jn (QN (fun (y : Bool) => [(0, .v (ssl eRelation relations)), (6, .v (.ptr true [(iT v_3.Atom.Relation), (ssl eI v_3.Atom.Terms), (ssl eI v_3.Existential), (ssl eI v_3.Universal)])), (7, .v (.ptr true [(iT v_3.Atom.Relation), (ssl eI v_3.Atom.Terms)])), (8, .v (ssl eRewritingStep rewriting)), (9, .v (iT (rewriting.length : Int))), (10, .v (iT x_1)), (44, .v (.bool y))])) ((if ¬ (o8 = true) then
  some true
  else
  (f122 v_3.Atom.Relation 0 (w64 ((relations.length : Int) - 1))).bind fun o13 =>
  (jn (QN (fun (y : Bool) => [(0, .v (ssl eRelation relations)), (6, .v (.ptr true [(iT v_3.Atom.Relation), (ssl eI v_3.Atom.Terms), (ssl eI v_3.Existential), (ssl eI v_3.Universal)])), (7, .v (.ptr true [(iT v_3.Atom.Relation), (ssl eI v_3.Atom.Terms)])), (8, .v (ssl eRewritingStep rewriting)), (9, .v (iT (rewriting.length : Int))), (10, .v (iT x_1)), (44, .v (.bool y))])) ((if ¬ (o13 = true) then
  some true
  else
  (ix relations v_3.Atom.Relation).bind fun v_18 =>
  some (decide ((v_3.Atom.Terms.length : Int) ≠ v_18.Arity))) : Option (Bool))).bind fun x_15 =>
  some x_15) : Option (Bool))).bind fun x_10 =>
  some x_10) : Option (Bool))).bind fun x_5 =>
  if x_5 = true then
  some (.inr (.inr false))
  else
  (f159 v_3.Atom.Terms (fun x0 => f160 x0)).bind fun o21 =>
  if o21 = true then
  some (.inr (.inr false))
  else
  (f101 relations v_3.Atom).bind fun o24 =>
  (f139 v_3.Existential o24).bind fun o26 =>
  (jn (QN (fun (y : Bool) => [(0, .v (ssl eRelation relations)), (8, .v (ssl eRewritingStep rewriting)), (9, .v (iT (rewriting.length : Int))), (10, .v (iT x_1)), (62, .v (.bool y))])) ((if ¬ (o26 = true) then
  some true
  else
  (f102 v_3.Atom).bind fun o31 =>
  (f139 v_3.Universal o31).bind fun o33 =>
  some (decide (¬ (o33 = true)))) : Option (Bool))).bind fun x_28 =>
  if x_28 = true then
  some (.inr (.inr false))
  else
  some (.inl (w64 (x_1 + 1)))
  else
  some (.inr (.inl ())) : Int → Option (Int ⊕ (Unit ⊕ Bool)))) ?_
 exact go
instance i80 {relations : (List Relation)} {rewriting : (List RewritingStep)} : Rn cx (f80 relations rewriting) 80 [(ssl eRelation relations), (ssl eRewritingStep rewriting)] (fun (r : Bool) => (.bool r)) (fun r => []) := by
 refine Rn.of rfl rfl (by decide) rfl ?_; unfold f80; exact go
instance : Io0 cx 80 := ⟨rfl⟩
instance i248 {x : Int} {y : Int} : Rn cx (f248 x y) 248 [(.int .u64 x), (.int .u64 y)] (fun (r : Int × Int) => (.tup [(.int .u64 r.1), (.int .u64 r.2)])) (fun r => []) := by
 refine Rn.of rfl rfl (by decide) rfl ?_; unfold f248; exact go
instance : Io0 cx 248 := ⟨rfl⟩
instance i213 {x : Int} {y : Int} : Rn cx (f213 x y) 213 [(.int .u64 x), (.int .u64 y)] (fun (r : Int × Int) => (.tup [(.int .u64 r.1), (.int .u64 r.2)])) (fun r => []) := by
 refine Rn.of rfl rfl (by decide) rfl ?_; unfold f213; exact go
instance : Io0 cx 213 := ⟨rfl⟩
instance i161_0 : Lp cx f161_0 48 L161_0 (fun (zs : (List Int) × Int) => [(7, .v (.sl true false 1 0 (arr eI true zs.1))), (8, .v (iT zs.2))]) (QX 0 (fun (y : (List Int)) => [(7, .v (.sl true false 1 0 (arr eI true y)))])) := by
 refine Lp.of (f := (fun
 | (newslice_14, n_15) =>
  if n_15 < (newslice_14.length : Int) then
  (cutL newslice_14 0 n_15).bind fun z_17 =>
  cs 3 <| 
  some (.inl ((csL newslice_14 n_15.toNat), w64 (n_15 + (min n_15 ((newslice_14.length : Int) - n_15)))))
  else
  some (.inr newslice_14) : (List Int) × Int → Option (((List Int) × Int) ⊕ (List Int)))) ?_
 exact go
instance i161 {x : (List Int)} {count : Int} : Rn cx (f161 x count) 161 [(ssl eI x), (iT count)] (fun (r : (List Int)) => (osl eI true r)) (fun r => []) := by
 refine Rn.of (e := (
  (jn (QN (fun (y : Unit) => [(0, .v (ssl eI x)), (1, .v (iT count))])) ((if count < 0 then
  none
  else
  some ()) : Option Unit)).bind fun _ =>
  (f213 (IntKind.u64.wrap (x.length : Int)) (IntKind.u64.wrap count)).bind fun o4 =>
  (jn (QN (fun (y : Bool) => [(0, .v (ssl eI x)), (6, .v (.int .u64 o4.2)), (26, .v (.bool y))])) ((if o4.1 > 0 then
  some true
  else
  some (decide (o4.2 > 9223372036854775807))) : Option (Bool))).bind fun x_6 =>
  (jn (QN (fun (y : Unit) => [(0, .v (ssl eI x)), (6, .v (.int .u64 o4.2))])) ((if x_6 = true then
  none
  else
  some ()) : Option Unit)).bind fun _ =>
  (mkl 8 (w64 o4.2) 0).bind fun l_12 =>
  cp 6 <| 
  (iter f161_0 ((cpL l_12 x), ((min x.length l_12.length : Nat) : Int))).bind fun newslice_21 =>
  sn 2 4 (osl eI true newslice_21) <| 
  some newslice_21 : Option (List Int))) rfl rfl (by decide) rfl ?_
 exact go
instance : Io0 cx 161 := ⟨rfl⟩
instance i81 {n0 : Int} : Rn cx (f81 n0) 81 [(iT n0)] (fun (r : (List Int)) => (osl eI true r)) (fun r => []) := by
 refine Rn.of (e := (
  sn 3 3 (osl eI true ([-1])) <| 
  (f161 ([-1]) n0).bind fun o1 =>
  some o1 : Option (List Int))) rfl rfl (by decide) rfl ?_
 exact go
instance : Io0 cx 81 := ⟨rfl⟩
end
end Go.Proofs.YtcllfkplpdppiaaGreatH
