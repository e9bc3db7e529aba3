import Derived.Test.YtghodmmaepcjkaaDoorCx1
import Derived.Test.YtghodmmaepcjkaaDoorX3
import Derived.Test.YtghodmmaepcjkaaDoorTd1
set_option maxHeartbeats 2000000
set_option linter.unusedVariables false
set_option linter.unusedSimpArgs false
set_option linter.defProp false
set_option linter.unusedSectionVars false
set_option maxRecDepth 100000
namespace Go.Proofs.YtghodmmaepcjkaaDoorH
open Go
noncomputable section
abbrev iT (n : Int) : T := .int .i64 n
instance : Cl cx := ⟨fun j h => vsound (fun _ _ _ _ h => h) h, fun f ts t outs h => .ext h⟩
@[simp high] theorem ioz {f : Nat} [h : Io0 cx f] : ioTab f = [] := h.io
instance i7_0 {a : (List Int)} : Lp cx (f7_0 a) 22 L7_0 (fun (zs : (List Int) × Int) => [(0, .v (ssl eI a)), (3, .v (osl eI true zs.1)), (4, .v (iT zs.2))]) (QX 0 (fun (y : (List Int)) => [(3, .v (osl eI true y))])) := by
 refine Lp.of ?_; unfold f7_0; exact go
instance i7 {a : (List Int)} : Rn cx (f7 a) 7 [(ssl eI a)] (fun (r : (List Int)) => (osl eI true r)) (fun r => []) := by
 refine Rn.of (e := (
  (mkl 8 (a.length : Int) 0).bind fun l_1 =>
  sn 5 3 (osl eI true l_1) <| 
  (iter (f7_0 a) (l_1, 0)).bind fun out_13 =>
  some out_13 : Option (List Int))) rfl rfl (by decide) rfl ?_
 exact go
instance : Io0 cx 7 := ⟨rfl⟩
instance i22_0 {n0 : Int} : Lp cx (lw n0 f22_0) 31 L22_0 (fun (zs : Int × (List UInt8)) => [(0, .v (iT zs.1)), (3, .v (.str zs.2)), (4, .v (.bool (decide (n0 < 0))))]) (QX 0 (fun (y : (List UInt8)) => [(3, .v (.str y)), (4, .v (.bool (decide (n0 < 0))))])) := by
 refine Lp.of (f := (fun
 | (n_2, out_3) =>
  if n_2 ≠ 0 then
  (jn (QN (fun (y : Int) => [(0, .v (iT n_2)), (3, .v (.str out_3)), (4, .v (.bool (decide (n0 < 0)))), (5, .v (iT y))])) ((if (n_2.tmod 10) < 0 then
  some (w64 (-(n_2.tmod 10)))
  else
  some (n_2.tmod 10)) : Option Int)).bind fun d_8 =>
  (cat ([UInt8.ofNat (w8 (w64 (48 + d_8))).toNat]) out_3).bind fun s_9 =>
  some (.inl (w64 (n_2.tdiv 10), s_9))
  else
  some (.inr out_3) : Int × (List UInt8) → Option ((Int × (List UInt8)) ⊕ (List UInt8)))) ?_
 exact go
instance i22 {n0 : Int} : Rn cx (f22 n0) 22 [(iT n0)] (fun (r : (List UInt8)) => (.str r)) (fun r => []) := by
 refine Rn.of (e := (
  if n0 = 0 then
  some ([48])
  else
  (iter (lw n0  f22_0) (n0, [])).bind fun out_13 =>
  if n0 < 0 then
  (cat ([45]) out_13).bind fun s_15 =>
  some s_15
  else
  some out_13 : Option (List UInt8))) rfl rfl (by decide) rfl ?_
 exact go
instance : Io0 cx 22 := ⟨rfl⟩
instance i6_0 {c : (List Int)} : Lp cx (f6_0 c) 24 L6_0 (fun (zs : (List UInt8) × Int) => [(0, .v (ssl eI c)), (3, .v (.str zs.1)), (4, .v (iT zs.2))]) (QX 0 (fun (y : (List UInt8)) => [(3, .v (.str y))])) := by
 refine Lp.of (f := (fun
 | (s_1, i_2) =>
  if i_2 < (c.length : Int) then
  (jn (QN (fun (y : (List UInt8)) => [(0, .v (ssl eI c)), (3, .v (.str y)), (4, .v (iT i_2))])) ((if i_2 > 0 then
  (cat s_1 ([32])).bind fun s_7 =>
  some s_7
  else
  some s_1) : Option (List UInt8))).bind fun s_9 =>
  (ix c i_2).bind fun v_10 =>
  (f22 v_10).bind fun o12 =>
  (cat s_9 o12).bind fun s_14 =>
  some (.inl (s_14, w64 (i_2 + 1)))
  else
  some (.inr s_1) : (List UInt8) × Int → Option (((List UInt8) × Int) ⊕ (List UInt8)))) ?_
 exact go
instance i6 {c : (List Int)} : Rn cx (f6 c) 6 [(ssl eI c)] (fun (r : (List UInt8)) => (.str r)) (fun r => []) := by
 refine Rn.of rfl rfl (by decide) rfl ?_; unfold f6; exact go
instance : Io0 cx 6 := ⟨rfl⟩
theorem r43 {n : Int} {r : List UInt8} (h : f43 n = some r) : VJx cx (.ca 43 [.int .i64 n] (.str r) []) := by
 exact ca_itoa (X := X0) (fun _ _ _ _ _ h => .inl h) (fun _ _ _ _ h => h) rfl h
instance i43 {n : Int} : Rn cx (f43 n) 43 [.int .i64 n] (fun r => .str r) (fun _ => []) := ⟨fun _ h => r43 h⟩
instance : Io0 cx 43 := ⟨rfl⟩
instance i23 {n0 : Int} : Rn cx (f23 n0) 23 [(iT n0)] (fun (r : (List UInt8)) => (.str r)) (fun r => []) := by
 refine Rn.of rfl rfl (by decide) rfl ?_; unfold f23; exact go
instance : Io0 cx 23 := ⟨rfl⟩
theorem r24 {xs : List (List UInt8)} {sep : List UInt8} {r : List UInt8} (h : f24 xs sep = some r) : VJx cx (.ca 24 [ssl eS xs, .str sep] (.str r) []) := by
 exact ca_join (X := X0) (fun _ _ _ _ _ h => .inr (h)) (fun _ _ _ _ h => h) rfl h
instance i24 {xs : List (List UInt8)} {sep : List UInt8} : Rn cx (f24 xs sep) 24 [ssl eS xs, .str sep] (fun r => .str r) (fun _ => []) := ⟨fun _ h => r24 h⟩
instance : Io0 cx 24 := ⟨rfl⟩
instance i8_0 {clause : (List Int)} : Lp cx (f8_0 clause) 23 L8_0 (fun (zs : (List (List UInt8)) × Int) => [(3, .v (osl eS true zs.1)), (7, .v (ssl eI clause)), (8, .v (iT (clause.length : Int))), (9, .v (iT zs.2))]) (QX 0 (fun (y : (List (List UInt8))) => [(3, .v (osl eS true y))])) := by
 refine Lp.of ?_; unfold f8_0; exact go
instance i8 {clause : (List Int)} : Rn cx (f8 clause) 8 [(ssl eI clause)] (fun (r : (List UInt8)) => (.str r)) (fun r => []) := by
 refine Rn.of (e := (
  sn 3 3 (osl eS true ([])) <| 
  (iter (f8_0 clause) ([], 0)).bind fun out_12 =>
  (f24 out_12 ([32])).bind fun o13 =>
  (cat ([40]) o13).bind fun s_15 =>
  (cat s_15 ([41])).bind fun s_17 =>
  some s_17 : Option (List UInt8))) rfl rfl (by decide) rfl ?_
 exact go
instance : Io0 cx 8 := ⟨rfl⟩
instance i9_0 {a : (List Int)} {b : (List Int)} : Lp cx (f9_0 a b) 26 L9_0 (fun (zs : Int) => [(0, .v (ssl eI a)), (1, .v (ssl eI b)), (5, .v (iT zs))]) (QO (QX 0 (fun (y : Unit) => [])) (QR (fun (y : Bool) => [(4, .v (.bool y))]))) := by
 refine Lp.of ?_; unfold f9_0; exact go
instance i9 {a : (List Int)} {b : (List Int)} : Rn cx (f9 a b) 9 [(ssl eI a), (ssl eI b)] (fun (r : Bool) => (.bool r)) (fun r => []) := by
 refine Rn.of rfl rfl (by decide) rfl ?_; unfold f9; exact go
instance : Io0 cx 9 := ⟨rfl⟩
instance i3 {aClause : (List Int)} : Rn cx (f3 aClause) 3 [(ssl eI aClause)] (fun (r : Bool) => (.bool r)) (fun r => []) := by
 refine Rn.of rfl rfl (by decide) rfl ?_; unfold f3; exact go
instance : Io0 cx 3 := ⟨rfl⟩
end
end Go.Proofs.YtghodmmaepcjkaaDoorH
