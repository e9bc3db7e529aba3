import Derived.Test.YtghodmmaepcjkaaDoorCx1
import Derived.Test.YtghodmmaepcjkaaDoorX3
import Derived.Test.YtghodmmaepcjkaaDoorTd1
set_option maxHeartbeats 2000000
set_option linter.unusedVariables false
set_option linter.unusedSimpArgs false
set_option linter.defProp false
set_option linter.unusedSectionVars false
set_option maxRecDepth 100000
namespace Go.Proofs.YtghodmmaepcjkaaDoorH
open Go
noncomputable section
abbrev iT (n : Int) : T := .int .i64 n
instance : Cl cx := ⟨fun j h => vsound (fun _ _ _ _ h => h) h, fun f ts t outs h => .ext h⟩
@[simp high] theorem ioz {f : Nat} [h : Io0 cx f] : ioTab f = [] := h.io
instance i25 {a : (List Int)} {left : Int} : Rn cx (f25 a left) 25 [(ssl eI a), (iT left)] (fun (r : Int) => (iT r)) (fun r => []) := by
 refine Rn.of rfl rfl (by decide) rfl ?_; unfold f25; exact go
instance : Io0 cx 25 := ⟨rfl⟩
instance i10_0 {a : (List (List Int))} : Lp cx (f10_0 a) 27 L10_0 (fun (zs : Int × Int) => [(0, .v (ssl (eL eI) a)), (1, .v (iT zs.1)), (5, .v (iT zs.2))]) (QO (QX 0 (fun (y : Int) => [(1, .v (iT y))])) (QR (fun (y : Int) => [(4, .v (iT y))]))) := by
 refine Lp.of ?_; unfold f10_0; exact go
instance i10 {a : (List (List Int))} {left : Int} : Rn cx (f10 a left) 10 [(ssl (eL eI) a), (iT left)] (fun (r : Int) => (iT r)) (fun r => []) := by
 refine Rn.of rfl rfl (by decide) rfl ?_; unfold f10; exact go
instance : Io0 cx 10 := ⟨rfl⟩
instance i7_0 {a : (List Int)} : Lp cx (f7_0 a) 22 L7_0 (fun (zs : (List Int) × Int) => [(0, .v (ssl eI a)), (3, .v (osl eI true zs.1)), (4, .v (iT zs.2))]) (QX 0 (fun (y : (List Int)) => [(3, .v (osl eI true y))])) := by
 refine Lp.of ?_; unfold f7_0; exact go
instance i7 {a : (List Int)} : Rn cx (f7 a) 7 [(ssl eI a)] (fun (r : (List Int)) => (osl eI true r)) (fun r => []) := by
 refine Rn.of (e := (
  (mkl 8 (a.length : Int) 0).bind fun l_1 =>
  sn 5 3 (osl eI true l_1) <| 
  (iter (f7_0 a) (l_1, 0)).bind fun out_13 =>
  some out_13 : Option (List Int))) rfl rfl (by decide) rfl ?_
 exact go
instance : Io0 cx 7 := ⟨rfl⟩
instance i12_0 {a : (List (List Int))} : Lp cx (f12_0 a) 23 L12_0 (fun (zs : (List (List Int)) × Int) => [(0, .v (ssl (eL eI) a)), (3, .v (osl (eL eI) true zs.1)), (4, .v (iT zs.2))]) (QX 0 (fun (y : (List (List Int))) => [(3, .v (osl (eL eI) true y))])) := by
 refine Lp.of ?_; unfold f12_0; exact go
instance i12 {a : (List (List Int))} : Rn cx (f12 a) 12 [(ssl (eL eI) a)] (fun (r : (List (List Int))) => (osl (eL eI) true r)) (fun r => []) := by
 refine Rn.of (e := (
  (mkl 24 (a.length : Int) ([] : (List Int))).bind fun l_1 =>
  sn 5 3 (osl (eL eI) true l_1) <| 
  (iter (f12_0 a) (l_1, 0)).bind fun out_15 =>
  some out_15 : Option (List (List Int)))) rfl rfl (by decide) rfl ?_
 exact go
instance : Io0 cx 12 := ⟨rfl⟩
instance i47 {x : Int} {low : Int} {high : Int} : Rn cx (f47 x low high) 47 [(iT x), (iT low), (iT high)] (fun (r : Bool) => (.bool r)) (fun r => []) := by
 refine Rn.of (e := (
  (jn (QN (fun (y : Bool) => [(6, .v (.bool y))])) ((if x ≥ low then
  some (decide (x ≤ high))
  else
  some false) : Option (Bool))).bind fun x_1 =>
  some x_1 : Option Bool)) rfl rfl (by decide) rfl ?_
 exact go
instance : Io0 cx 47 := ⟨rfl⟩
instance i39_1 {n0 : Int} {c : (List Int)} {i_1 : Int} : Lp cx (lw n0 (f39_1 c i_1)) 68 L39_1 (fun (zs : Int) => [(0, .v (iT n0)), (1, .v (ssl eI c)), (5, .v (iT i_1)), (7, .v (iT zs))]) (QO (QX 2 (fun (y : Unit) => [(0, .v (iT n0)), (1, .v (ssl eI c)), (5, .v (iT i_1))])) (QR (fun (y : Bool) => [(4, .v (.bool y))]))) := by
 refine Lp.of (f := (fun
 | k_15 =>
  if k_15 < i_1 then
  (ix c k_15).bind fun v_17 =>
  (ix c i_1).bind fun v_19 =>
  (jn (QN (fun (y : Bool) => [(0, .v (iT n0)), (1, .v (ssl eI c)), (5, .v (iT i_1)), (7, .v (iT k_15)), (67, .v (.bool y))])) ((if v_17 = v_19 then
  some true
  else
  some (decide (v_17 = (w64 (-v_19))))) : Option (Bool))).bind fun x_21 =>
  if x_21 = true then
  some (.inr (.inr false))
  else
  some (.inl (w64 (k_15 + 1)))
  else
  some (.inr (.inl ())) : Int → Option (Int ⊕ (Unit ⊕ Bool)))) ?_
 exact go
instance i39_0 {n0 : Int} {c : (List Int)} : Lp cx (f39_0 n0 c) 68 L39_0 (fun (zs : Int) => [(0, .v (iT n0)), (1, .v (ssl eI c)), (5, .v (iT zs))]) (QO (QX 0 (fun (y : Unit) => [])) (QR (fun (y : Bool) => [(4, .v (.bool y))]))) := by
 refine Lp.of (f := (fun
 | i_1 =>
  if i_1 < (c.length : Int) then
  (ix c i_1).bind fun v_3 =>
  (jn (QN (fun (y : Bool) => [(0, .v (iT n0)), (1, .v (ssl eI c)), (5, .v (iT i_1)), (6, .v (iT (if 0 > v_3 then 0 else v_3))), (32, .v (.bool y))])) ((if v_3 < 0 then
  some (decide (v_3 ≥ (w64 (-n0))))
  else
  some false) : Option (Bool))).bind fun x_5 =>
  (jn (QN (fun (y : Int) => [(0, .v (iT n0)), (1, .v (ssl eI c)), (5, .v (iT i_1)), (6, .v (iT y))])) ((if x_5 = true then
  some (w64 (-v_3))
  else
  some (if 0 > v_3 then 0 else v_3)) : Option Int)).bind fun v_11 =>
  (f47 v_11 1 n0).bind fun o12 =>
  if ¬ (o12 = true) then
  some (.inr (.inr false))
  else
  (iter (lw n0  (f39_1 c i_1)) 0).bind fun o => match o with
  | .inl _ =>
  some (.inl (w64 (i_1 + 1)))
  | .inr x_27 =>
  some (.inr (.inr x_27))
  else
  some (.inr (.inl ())) : Int → Option (Int ⊕ (Unit ⊕ Bool)))) ?_
 exact go
instance i39 {n0 : Int} {c : (List Int)} : Rn cx (f39 n0 c) 39 [(iT n0), (ssl eI c)] (fun (r : Bool) => (.bool r)) (fun r => []) := by
 refine Rn.of rfl rfl (by decide) rfl ?_; unfold f39; exact go
instance : Io0 cx 39 := ⟨rfl⟩
instance i26_0 {n0 : Int} {l : (List (List Int))} : Lp cx (f26_0 n0 l) 26 L26_0 (fun (zs : Int) => [(0, .v (iT n0)), (1, .v (ssl (eL eI) l)), (5, .v (iT zs))]) (QO (QX 0 (fun (y : Unit) => [(0, .v (iT n0)), (1, .v (ssl (eL eI) l))])) (QR (fun (y : Bool) => [(4, .v (.bool y))]))) := by
 refine Lp.of ?_; unfold f26_0; exact go
instance i26 {n0 : Int} {l : (List (List Int))} : Rn cx (f26 n0 l) 26 [(iT n0), (ssl (eL eI) l)] (fun (r : Bool) => (.bool r)) (fun r => []) := by
 refine Rn.of (e := (
  (iter (f26_0 n0 l) 0).bind fun o => match o with
  | .inl _ =>
  (f47 n0 0 14).bind fun o11 =>
  (jn (QN (fun (y : Bool) => [(4, .v (.bool y))])) ((if o11 = true then
  some (decide ((l.length : Int) ≤ 400))
  else
  some false) : Option (Bool))).bind fun x_13 =>
  some x_13
  | .inr x_10 =>
  some x_10 : Option Bool)) rfl rfl (by decide) rfl ?_
 exact go
instance : Io0 cx 26 := ⟨rfl⟩
instance i22_0 {n0 : Int} : Lp cx (lw n0 f22_0) 31 L22_0 (fun (zs : Int × (List UInt8)) => [(0, .v (iT zs.1)), (3, .v (.str zs.2)), (4, .v (.bool (decide (n0 < 0))))]) (QX 0 (fun (y : (List UInt8)) => [(3, .v (.str y)), (4, .v (.bool (decide (n0 < 0))))])) := by
 refine Lp.of (f := (fun
 | (n_2, out_3) =>
  if n_2 ≠ 0 then
  (jn (QN (fun (y : Int) => [(0, .v (iT n_2)), (3, .v (.str out_3)), (4, .v (.bool (decide (n0 < 0)))), (5, .v (iT y))])) ((if (n_2.tmod 10) < 0 then
  some (w64 (-(n_2.tmod 10)))
  else
  some (n_2.tmod 10)) : Option Int)).bind fun d_8 =>
  (cat ([UInt8.ofNat (w8 (w64 (48 + d_8))).toNat]) out_3).bind fun s_9 =>
  some (.inl (w64 (n_2.tdiv 10), s_9))
  else
  some (.inr out_3) : Int × (List UInt8) → Option ((Int × (List UInt8)) ⊕ (List UInt8)))) ?_
 exact go
instance i22 {n0 : Int} : Rn cx (f22 n0) 22 [(iT n0)] (fun (r : (List UInt8)) => (.str r)) (fun r => []) := by
 refine Rn.of (e := (
  if n0 = 0 then
  some ([48])
  else
  (iter (lw n0  f22_0) (n0, [])).bind fun out_13 =>
  if n0 < 0 then
  (cat ([45]) out_13).bind fun s_15 =>
  some s_15
  else
  some out_13 : Option (List UInt8))) rfl rfl (by decide) rfl ?_
 exact go
instance : Io0 cx 22 := ⟨rfl⟩
instance i6_0 {c : (List Int)} : Lp cx (f6_0 c) 24 L6_0 (fun (zs : (List UInt8) × Int) => [(0, .v (ssl eI c)), (3, .v (.str zs.1)), (4, .v (iT zs.2))]) (QX 0 (fun (y : (List UInt8)) => [(3, .v (.str y))])) := by
 refine Lp.of (f := (fun
 | (s_1, i_2) =>
  if i_2 < (c.length : Int) then
  (jn (QN (fun (y : (List UInt8)) => [(0, .v (ssl eI c)), (3, .v (.str y)), (4, .v (iT i_2))])) ((if i_2 > 0 then
  (cat s_1 ([32])).bind fun s_7 =>
  some s_7
  else
  some s_1) : Option (List UInt8))).bind fun s_9 =>
  (ix c i_2).bind fun v_10 =>
  (f22 v_10).bind fun o12 =>
  (cat s_9 o12).bind fun s_14 =>
  some (.inl (s_14, w64 (i_2 + 1)))
  else
  some (.inr s_1) : (List UInt8) × Int → Option (((List UInt8) × Int) ⊕ (List UInt8)))) ?_
 exact go
instance i6 {c : (List Int)} : Rn cx (f6 c) 6 [(ssl eI c)] (fun (r : (List UInt8)) => (.str r)) (fun r => []) := by
 refine Rn.of rfl rfl (by decide) rfl ?_; unfold f6; exact go
instance : Io0 cx 6 := ⟨rfl⟩
instance i11_0 {l : (List (List Int))} : Lp cx (f11_0 l) 28 L11_0 (fun (zs : (List UInt8) × Int) => [(1, .v (ssl (eL eI) l)), (5, .v (.str zs.1)), (6, .v (iT zs.2))]) (QX 0 (fun (y : (List UInt8)) => [(5, .v (.str y))])) := by
 refine Lp.of ?_; unfold f11_0; exact go
instance i11 {n0 : Int} {l : (List (List Int))} : Rn cx (f11 n0 l) 11 [(iT n0), (ssl (eL eI) l)] (fun (r : (List UInt8)) => (.str r)) (fun r => []) := by
 refine Rn.of rfl rfl (by decide) rfl ?_; unfold f11; exact go
instance : Io0 cx 11 := ⟨rfl⟩
instance i51 {n0 : Int} {low : Int} {high : Int} : Rn cx (f51 n0 low high) 51 [(iT n0), (iT low), (iT high)] (fun (r : Bool) => (.bool r)) (fun r => []) := by
 refine Rn.of (e := (
  (jn (QN (fun (y : Bool) => [(6, .v (.bool y))])) ((if low ≤ n0 then
  some (decide (n0 ≤ high))
  else
  some false) : Option (Bool))).bind fun x_1 =>
  some x_1 : Option Bool)) rfl rfl (by decide) rfl ?_
 exact go
instance : Io0 cx 51 := ⟨rfl⟩
instance i68_0 {s0 : (List (List Int))} {g_f : Nat} {cp_f : List T} {f : (List Int) → Option Bool} [hp_f : ∀ x0, Rn cx (f x0) g_f ((ssl eI x0) :: cp_f) (fun o => (.bool o)) (fun _ => [])] [Io0 cx g_f] : Lp cx (f68_0 s0 f) 19 L68_0 (fun (zs : Int) => [(0, .v (ssl (eL eI) s0)), (1, .v (.fn g_f cp_f)), (7, .v (iT (s0.length : Int))), (8, .v (iT zs))]) (QO (QX 0 (fun (y : Unit) => [])) (QR (fun (y : Int) => [(4, .v (iT y))]))) := by
 refine Lp.of ?_; unfold f68_0; exact go
instance i68 {s0 : (List (List Int))} {g_f : Nat} {cp_f : List T} {f : (List Int) → Option Bool} [hp_f : ∀ x0, Rn cx (f x0) g_f ((ssl eI x0) :: cp_f) (fun o => (.bool o)) (fun _ => [])] [Io0 cx g_f] : Rn cx (f68 s0 f) 68 [(ssl (eL eI) s0), (.fn g_f cp_f)] (fun (r : Int) => (iT r)) (fun r => []) := by
 refine Rn.of rfl rfl (by decide) rfl ?_; unfold f68; exact go
instance : Io0 cx 68 := ⟨rfl⟩
instance i52 {s0 : (List (List Int))} {g_f : Nat} {cp_f : List T} {f : (List Int) → Option Bool} [hp_f : ∀ x0, Rn cx (f x0) g_f ((ssl eI x0) :: cp_f) (fun o => (.bool o)) (fun _ => [])] [Io0 cx g_f] : Rn cx (f52 s0 f) 52 [(ssl (eL eI) s0), (.fn g_f cp_f)] (fun (r : Bool) => (.bool r)) (fun r => []) := by
 refine Rn.of rfl rfl (by decide) rfl ?_; unfold f52; exact go
instance : Io0 cx 52 := ⟨rfl⟩
instance i70_0 {s0 : (List Int)} {v : Int} : Lp cx (f70_0 s0 v) 19 L70_0 (fun (zs : Int) => [(0, .v (ssl eI s0)), (1, .v (iT v)), (7, .v (iT (s0.length : Int))), (8, .v (iT zs))]) (QO (QX 0 (fun (y : Unit) => [])) (QR (fun (y : Int) => [(4, .v (iT y))]))) := by
 refine Lp.of ?_; unfold f70_0; exact go
instance i70 {s0 : (List Int)} {v : Int} : Rn cx (f70 s0 v) 70 [(ssl eI s0), (iT v)] (fun (r : Int) => (iT r)) (fun r => []) := by
 refine Rn.of rfl rfl (by decide) rfl ?_; unfold f70; exact go
instance : Io0 cx 70 := ⟨rfl⟩
instance i57 {s0 : (List Int)} {v : Int} : Rn cx (f57 s0 v) 57 [(ssl eI s0), (iT v)] (fun (r : Bool) => (.bool r)) (fun r => []) := by
 refine Rn.of rfl rfl (by decide) rfl ?_; unfold f57; exact go
instance : Io0 cx 57 := ⟨rfl⟩
instance i54_0 {n0 : Int} {clause : (List Int)} : Lp cx (f54_0 n0 clause) 40 L54_0 (fun (zs : Int) => [(0, .v (iT n0)), (1, .v (ssl eI clause)), (7, .v (ssl eI clause)), (8, .v (iT (clause.length : Int))), (9, .v (iT zs))]) (QO (QX 0 (fun (y : Unit) => [])) (QR (fun (y : Bool) => [(4, .v (.bool y))]))) := by
 refine Lp.of (f := (fun
 | x_1 =>
  if x_1 < (clause.length : Int) then
  (ix clause x_1).bind fun v_3 =>
  (jn (QN (fun (y : Bool) => [(0, .v (iT n0)), (1, .v (ssl eI clause)), (7, .v (ssl eI clause)), (8, .v (iT (clause.length : Int))), (9, .v (iT x_1)), (38, .v (.bool y))])) ((if v_3 = 0 then
  some true
  else
  (f51 v_3 (w64 (-n0)) n0).bind fun o8 =>
  (jn (QN (fun (y : Bool) => [(0, .v (iT n0)), (1, .v (ssl eI clause)), (7, .v (ssl eI clause)), (8, .v (iT (clause.length : Int))), (9, .v (iT x_1)), (38, .v (.bool y))])) ((if ¬ (o8 = true) then
  some true
  else
  (cutL clause 0 x_1).bind fun l_13 =>
  (f57 l_13 v_3).bind fun o15 =>
  (jn (QN (fun (y : Bool) => [(0, .v (iT n0)), (1, .v (ssl eI clause)), (7, .v (ssl eI clause)), (8, .v (iT (clause.length : Int))), (9, .v (iT x_1)), (38, .v (.bool y))])) ((if o15 = true then
  some true
  else
  (f57 l_13 (w64 (-v_3))).bind fun o20 =>
  some o20) : Option (Bool))).bind fun x_17 =>
  some x_17) : Option (Bool))).bind fun x_10 =>
  some x_10) : Option (Bool))).bind fun x_5 =>
  if x_5 = true then
  some (.inr (.inr false))
  else
  some (.inl (w64 (x_1 + 1)))
  else
  some (.inr (.inl ())) : Int → Option (Int ⊕ (Unit ⊕ Bool)))) ?_
 exact go
instance i54 {n0 : Int} {clause : (List Int)} : Rn cx (f54 n0 clause) 54 [(iT n0), (ssl eI clause)] (fun (r : Bool) => (.bool r)) (fun r => []) := by
 refine Rn.of rfl rfl (by decide) rfl ?_; unfold f54; exact go
instance : Io0 cx 54 := ⟨rfl⟩
instance i53 {clause : (List Int)} {c : Int} : Rn cx (f53 clause c) 53 [(ssl eI clause), (.ptr false [(iT c)])] (fun (r : Bool) => (.bool r)) (fun r => []) := by
 refine Rn.of rfl rfl (by decide) rfl ?_; unfold f53; exact go
instance : Io0 cx 53 := ⟨rfl⟩
instance i34 {n0 : Int} {clauses : (List (List Int))} : Rn cx (f34 n0 clauses) 34 [(iT n0), (ssl (eL eI) clauses)] (fun (r : Bool) => (.bool r)) (fun r => []) := by
 refine Rn.of (e := (
  (f51 n0 0 14).bind fun o1 =>
  (jn (QN (fun (y : Bool) => [(4, .v (.bool y))])) ((if o1 = true then
  (f52 clauses (fun x0 => f53 x0 n0)).bind fun o6 =>
  some (decide (¬ (o6 = true)))
  else
  some false) : Option (Bool))).bind fun x_3 =>
  some x_3 : Option Bool)) rfl rfl (by decide) rfl ?_
 exact go
instance : Io0 cx 34 := ⟨rfl⟩
instance i27 {n0 : Int} {clauses : (List (List Int))} : Rn cx (f27 n0 clauses) 27 [(iT n0), (ssl (eL eI) clauses)] (fun (r : Bool) => (.bool r)) (fun r => []) := by
 refine Rn.of (e := (
  (jn (QN (fun (y : Bool) => [(4, .v (.bool y))])) ((if (clauses.length : Int) ≤ 400 then
  (f34 n0 clauses).bind fun o4 =>
  some o4
  else
  some false) : Option (Bool))).bind fun x_1 =>
  some x_1 : Option Bool)) rfl rfl (by decide) rfl ?_
 exact go
instance : Io0 cx 27 := ⟨rfl⟩
theorem r43 {n : Int} {r : List UInt8} (h : f43 n = some r) : VJx cx (.ca 43 [.int .i64 n] (.str r) []) := by
 exact ca_itoa (X := X0) (fun _ _ _ _ _ h => .inl h) (fun _ _ _ _ h => h) rfl h
instance i43 {n : Int} : Rn cx (f43 n) 43 [.int .i64 n] (fun r => .str r) (fun _ => []) := ⟨fun _ h => r43 h⟩
instance : Io0 cx 43 := ⟨rfl⟩
instance i23 {n0 : Int} : Rn cx (f23 n0) 23 [(iT n0)] (fun (r : (List UInt8)) => (.str r)) (fun r => []) := by
 refine Rn.of rfl rfl (by decide) rfl ?_; unfold f23; exact go
instance : Io0 cx 23 := ⟨rfl⟩
theorem r24 {xs : List (List UInt8)} {sep : List UInt8} {r : List UInt8} (h : f24 xs sep = some r) : VJx cx (.ca 24 [ssl eS xs, .str sep] (.str r) []) := by
 exact ca_join (X := X0) (fun _ _ _ _ _ h => .inr (h)) (fun _ _ _ _ h => h) rfl h
instance i24 {xs : List (List UInt8)} {sep : List UInt8} : Rn cx (f24 xs sep) 24 [ssl eS xs, .str sep] (fun r => .str r) (fun _ => []) := ⟨fun _ h => r24 h⟩
instance : Io0 cx 24 := ⟨rfl⟩
instance i8_0 {clause : (List Int)} : Lp cx (f8_0 clause) 23 L8_0 (fun (zs : (List (List UInt8)) × Int) => [(3, .v (osl eS true zs.1)), (7, .v (ssl eI clause)), (8, .v (iT (clause.length : Int))), (9, .v (iT zs.2))]) (QX 0 (fun (y : (List (List UInt8))) => [(3, .v (osl eS true y))])) := by
 refine Lp.of ?_; unfold f8_0; exact go
instance i8 {clause : (List Int)} : Rn cx (f8 clause) 8 [(ssl eI clause)] (fun (r : (List UInt8)) => (.str r)) (fun r => []) := by
 refine Rn.of (e := (
  sn 3 3 (osl eS true ([])) <| 
  (iter (f8_0 clause) ([], 0)).bind fun out_12 =>
  (f24 out_12 ([32])).bind fun o13 =>
  (cat ([40]) o13).bind fun s_15 =>
  (cat s_15 ([41])).bind fun s_17 =>
  some s_17 : Option (List UInt8))) rfl rfl (by decide) rfl ?_
 exact go
instance : Io0 cx 8 := ⟨rfl⟩
instance i13_0 {clauses : (List (List Int))} : Lp cx (f13_0 clauses) 27 L13_0 (fun (zs : (List UInt8) × Int) => [(5, .v (.str zs.1)), (15, .v (ssl (eL eI) clauses)), (16, .v (iT (clauses.length : Int))), (17, .v (iT zs.2))]) (QX 0 (fun (y : (List UInt8)) => [(5, .v (.str y))])) := by
 refine Lp.of ?_; unfold f13_0; exact go
instance i13 {n0 : Int} {clauses : (List (List Int))} : Rn cx (f13 n0 clauses) 13 [(iT n0), (ssl (eL eI) clauses)] (fun (r : (List UInt8)) => (.str r)) (fun r => []) := by
 refine Rn.of rfl rfl (by decide) rfl ?_; unfold f13; exact go
instance : Io0 cx 13 := ⟨rfl⟩
instance i9_0 {a : (List Int)} {b : (List Int)} : Lp cx (f9_0 a b) 26 L9_0 (fun (zs : Int) => [(0, .v (ssl eI a)), (1, .v (ssl eI b)), (5, .v (iT zs))]) (QO (QX 0 (fun (y : Unit) => [])) (QR (fun (y : Bool) => [(4, .v (.bool y))]))) := by
 refine Lp.of ?_; unfold f9_0; exact go
instance i9 {a : (List Int)} {b : (List Int)} : Rn cx (f9 a b) 9 [(ssl eI a), (ssl eI b)] (fun (r : Bool) => (.bool r)) (fun r => []) := by
 refine Rn.of rfl rfl (by decide) rfl ?_; unfold f9; exact go
instance : Io0 cx 9 := ⟨rfl⟩
instance i14_0 {a : (List (List Int))} {b : (List (List Int))} : Lp cx (f14_0 a b) 27 L14_0 (fun (zs : Int) => [(0, .v (ssl (eL eI) a)), (1, .v (ssl (eL eI) b)), (5, .v (iT zs))]) (QO (QX 0 (fun (y : Unit) => [])) (QR (fun (y : Bool) => [(4, .v (.bool y))]))) := by
 refine Lp.of ?_; unfold f14_0; exact go
instance i14 {a : (List (List Int))} {b : (List (List Int))} : Rn cx (f14 a b) 14 [(ssl (eL eI) a), (ssl (eL eI) b)] (fun (r : Bool) => (.bool r)) (fun r => []) := by
 refine Rn.of rfl rfl (by decide) rfl ?_; unfold f14; exact go
instance : Io0 cx 14 := ⟨rfl⟩
instance i4 {aN : Int} {aClauses : (List (List Int))} : Rn cx (f4 aN aClauses) 4 [(iT aN), (ssl (eL eI) aClauses)] (fun (r : Bool) => (.bool r)) (fun r => []) := by
 refine Rn.of rfl rfl (by decide) rfl ?_; unfold f4; exact go
instance : Io0 cx 4 := ⟨rfl⟩
end
end Go.Proofs.YtghodmmaepcjkaaDoorH
