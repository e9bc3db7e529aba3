import Derived.Test.YtjfeimhiiomgoaaTg1a
set_option maxHeartbeats 2000000
set_option linter.unusedVariables false
set_option linter.unusedSimpArgs false
set_option linter.defProp false
set_option linter.unusedSectionVars false
set_option maxRecDepth 100000
namespace Go.Proofs.YtjfeimhiiomgoaaH
open Go
noncomputable section
variable {slices : (List (List (List Int)))} {clauses l : (List (List Int))} {a b c clause literals s0 set1 : (List Int)} {high k left low n0 v x : Int}
theorem r53 {s0 : (List Int)} {r : (List Int)} (h : f53 s0 = some r) : VJx cx (.ca 53 [(ssl eI s0)] (osl eI true r) []) := by
 unfold f53 at h
 refine ca_clone (X := noExt) (fun _ _ _ _ h => h) (fun _ _ _ _ h => h) rfl (by decide) rfl (cl_eq h) ?_
 refine Wc.start (V1 := [(0, .v (ssl eI s0))]) (by simp) ?_
 refine Wc.seq ?_
 obtain ⟨l_1, h2, h⟩ := bind_some h
 have gx2 := appT_arr2 (E := eI) (b := true) (b' := false) (y := false) h2 (by decide) (arr_sc rfl _)
 simp [-aI_app1, -aI_app0, -aB_app0, -aS_app0, -aL_app0, -aLt_app1I, -aLf_app1I, -aLt_app10I, -aLf_app10I] at gx2
 refine Wc.evs (by conv => lhs; simp [-aI_app1, -aI_app0, -aB_app0, -aS_app0, -aL_app0, -aI_app10, -aB_app10, -aS_app10, -aLt_app10I, -aLf_app10I, -aLt_app1I, -aLf_app1I, gx2]) ?_
 refine Wo.gh (vle_co (s := 2) (t1 := (osl eI true l_1)) rfl (by simp) (tle_own rfl) (by conv => lhs; simp)) ?_
 refine Wo.nil ?_
 refine Wc.ret (res_of (.inr rfl) ?_)
 cases h
 exact ⟨_, _, _, by conv => lhs; simp, by (conv => lhs; simp [cx, ioTab, List.range, List.range.loop]) <;> rfl, by first | rfl | simp [-aI_app1, -aI_app0, -aB_app0, -aS_app0, -aL_app0, -aI_app10, -aB_app10, -aS_app10, -aLt_app10I, -aLf_app10I, -aLt_app1I, -aLf_app1I, gx2]⟩
instance i53 : Rn cx (f53 s0) 53 [(ssl eI s0)] (fun (r : (List Int)) => (osl eI true r)) (fun r => []) := ⟨fun _ h => r53 h⟩
instance : Io0 cx 53 := ⟨rfl⟩
instance i27_1 {assumed : (List Int)} {two : (List Int)} {rec : Solver -> (List Int) -> Option (Option (List Int) × Solver)} [hrec : ∀ s0 assumed, Rn cx (rec s0 assumed) 27 [(.ptr true [(iT s0.n), (ssl (eL eI) s0.clauses), (osl (eL eI) true s0.learned)]), (ssl eI assumed)] (fun o => optT o.1) (fun o => [(.ptr true [(iT o.2.n), (ssl (eL eI) o.2.clauses), (osl (eL eI) true o.2.learned)])])] : Lp cx (f27_1 assumed rec two) 71 L27_1 (fun (zs : Solver × Int) => [(0, .v (.ptr true [(iT zs.1.n), (ssl (eL eI) zs.1.clauses), (osl (eL eI) true zs.1.learned)])), (1, .v (ssl eI assumed)), (50, .v (osl eI true two)), (51, .v (iT (two.length : Int))), (52, .v (iT zs.2))]) (QO (QX 2 (fun (y : Solver) => [(0, .v (.ptr true [(iT y.n), (ssl (eL eI) y.clauses), (osl (eL eI) true y.learned)])), (1, .v (ssl eI assumed))])) (QR (fun (y : (List Int) × Solver) => [(0, .v (.ptr true [(iT y.2.n), (ssl (eL eI) y.2.clauses), (osl (eL eI) true y.2.learned)])), (4, .v (.sl true false 1 0 (arr eI true y.1)))]))) := Lp.of (f := (fun
 | (s1, x) =>
  if x < (two.length : Int) then
  (ix two x).bind fun v_9 =>
  (f53 assumed).bind fun o58 =>
  (app 8 o58 ([v_9])).bind fun l_61 =>
  sn 3 61 (osl eI true l_61) <|
  sn 0 61 (ssl eI l_61) <|
  (rec s1 l_61).bind fun o62 =>
  om o62.1 fun m => match m with
  | none =>
  some (.inl (o62.2, w64 (x + 1)))
  | some r =>
  some (.inr (.inr (r, o62.2)))
  else
  some (.inr (.inl s1)) : Solver × Int -> Option ((Solver × Int) ⊕ (Solver ⊕ ((List Int) × Solver))))) (by exact go)
instance i27_0 {s0 : Solver} {assumed : (List Int)} {o23 : (List Int) × Bool} {rec : Solver -> (List Int) -> Option (Option (List Int) × Solver)} [hrec : ∀ s0 assumed, Rn cx (rec s0 assumed) 27 [(.ptr true [(iT s0.n), (ssl (eL eI) s0.clauses), (osl (eL eI) true s0.learned)]), (ssl eI assumed)] (fun o => optT o.1) (fun o => [(.ptr true [(iT o.2.n), (ssl (eL eI) o.2.clauses), (osl (eL eI) true o.2.learned)])])] : Lp cx (f27_0 s0 assumed rec o23) 71 L27_0 (fun (zs : Int) => [(0, .v (.ptr true [(iT s0.n), (ssl (eL eI) s0.clauses), (osl (eL eI) true s0.learned)])), (1, .v (ssl eI assumed)), (5, .v (.sl true false 1 0 (arr eI true o23.1))), (7, .v (iT zs))]) (QO (QX 0 (fun (y : Unit) => [(0, .v (.ptr true [(iT s0.n), (ssl (eL eI) s0.clauses), (osl (eL eI) true s0.learned)])), (5, .v (.sl true false 1 0 (arr eI true o23.1)))])) (QR (fun (y : Option (List Int) × Solver) => [(0, .v (.ptr true [(iT y.2.n), (ssl (eL eI) y.2.clauses), (osl (eL eI) true y.2.learned)])), (4, .v (optT y.1))]))) := Lp.of (f := (fun
 | v_7 =>
  if v_7 <= s0.n then
  (f52 o23.1 v_7).bind fun o40 =>
  (jn (QN (fun (y : Bool) => [(0, .v (.ptr true [(iT s0.n), (ssl (eL eI) s0.clauses), (osl (eL eI) true s0.learned)])), (1, .v (ssl eI assumed)), (5, .v (.sl true false 1 0 (arr eI true o23.1))), (7, .v (iT v_7)), (46, .v (.bool y))])) (((if o40 = true then
  some true
  else
  (f52 o23.1 (w64 (-v_7))).bind fun o45 =>
  some o45) : Option (Bool)))).bind fun x_46 =>
  if x_46 = true then
  some (.inl (w64 (v_7 + 1)))
  else
  (iter (f27_1 assumed rec ([v_7, w64 (-v_7)])) (s0, 0)).bind fun o => match o with
  | .inl s1 =>
  (f51 s1 assumed).bind fun o69 =>
  some (.inr (.inr (none, o69.2)))
  | .inr (r, s1) =>
  some (.inr (.inr (some r, s1)))
  else
  some (.inr (.inl ())) : Int -> Option (Int ⊕ (Unit ⊕ (Option (List Int) × Solver))))) (by exact go)
instance i27 : ∀ (n : Nat) s0 assumed, Rn cx (f27 n s0 assumed) 27 [(.ptr true [(iT s0.n), (ssl (eL eI) s0.clauses), (osl (eL eI) true s0.learned)]), (ssl eI assumed)] (fun (r : Option (List Int) × Solver) => optT r.1) (fun r => [(.ptr true [(iT r.2.n), (ssl (eL eI) r.2.clauses), (osl (eL eI) true r.2.learned)])]) := by
 intro n
 induction n with
 | zero => intro s0 assumed; exact ⟨fun r h => by simp [f27] at h⟩
 | succ n ih =>
  intro s0 assumed
  refine Rn.of (e := (
  (lb 1 12 0 [] (fun (w : (List Int) × Bool) => [(0, .v (.ptr true [(iT s0.n), (ssl (eL eI) s0.clauses), (osl (eL eI) true s0.learned)])), (1, .v (ssl eI assumed)), (23, .v (.tup [(.sl true false 1 0 (arr eI true w.1)), .bool w.2]))]) ((sn 9 20 (osl (eL (eL eI)) false ([s0.clauses, s0.learned])) <|
  sn 0 20 (ssl (eL (eL eI)) ([s0.clauses, s0.learned])) <|
  (f50 ([s0.clauses, s0.learned])).bind fun o21 =>
  (f39 o21 assumed).bind fun o23 =>
  some o23) : Option ((List Int) × Bool))).bind fun o23 =>
  if o23.2 = true then
  (f51 s0 assumed).bind fun o29 =>
  some (none, o29.2)
  else
  (iter (f27_0 s0 assumed (f27 n) o23) 1).bind fun o => match o with
  | .inl _ =>
  some (some o23.1, s0)
  | .inr (r, s1) =>
  om r fun r => match r with
  | none =>
  some (none, s1)
  | some l =>
  some (some l, s1) : Option (Option (List Int) × Solver))) rfl rfl (by decide) rfl ?_
  exact go
instance i7_0 {res : (List Int)} : Lp cx (f7_0 res) 44 L7_0 (fun (zs : (List Bool) × Int) => [(9, .v (osl eB true zs.1)), (30, .v (.sl true false 1 0 (arr eI true res))), (31, .v (iT (res.length : Int))), (32, .v (iT zs.2))]) (QX 0 (fun (y : (List Bool)) => [(9, .v (osl eB true y))])) := Lp.of (f := (fun
 | (model, x) =>
  if x < (res.length : Int) then
  (ix res x).bind fun v_35 =>
  (jn (QN (fun (y : (List Bool)) => [(9, .v (osl eB true y)), (30, .v (.sl true false 1 0 (arr eI true res))), (31, .v (iT (res.length : Int))), (32, .v (iT x))])) (((if v_35 > 0 then
  (ix model (w64 (v_35 - 1))).bind fun _ =>
  some (model.set (w64 (v_35 - 1)).toNat true)
  else
  some model) : Option (List Bool)))).bind fun m =>
  some (.inl (m, w64 (x + 1)))
  else
  some (.inr model) : (List Bool) × Int -> Option (((List Bool) × Int) ⊕ (List Bool)))) (by exact go)
instance i7 : Rn cx (f7 n0 l) 7 [(iT n0), (ssl (eL eI) l)] (fun (r : (List Bool) × (List (List Int)) × Bool) => (.tup [(osl eB true r.1), (osl (eL eI) true r.2.1), (.bool r.2.2)])) (fun r => []) := Rn.o (e := (
 (f26 n0 l).bind fun o14 =>
 if ¬ (o14 = true) then
 sn 5 4 (osl eB true ([])) <|
 sn 0 5 (osl (eL eI) true ([])) <|
 some ([], [], false)
 else
 (f27 64 ({ n := n0, clauses := l, learned := [] } : Solver) ([])).bind fun o21 =>
 om o21.1 fun m => match m with
 | none =>
 some ([], o21.2.learned, false)
 | some res =>
 (mkl 1 n0 false).bind fun l_29 =>
 (iter (f7_0 res) (l_29, 0)).bind fun m =>
 some (m, [], true) : Option ((List Bool) × (List (List Int)) × Bool))) rfl (by exact go)
instance : Io0 cx 7 := ⟨rfl⟩
instance i19_0 {a : (List Bool)} {b : (List Bool)} : Lp cx (f19_0 a b) 26 L19_0 (fun (zs : Int) => [(0, .v (ssl eB a)), (1, .v (ssl eB b)), (5, .v (iT zs))]) (QO (QX 0 (fun (y : Unit) => [])) (QR (fun (y : Bool) => [(4, .v (.bool y))]))) := Lp.of (by unfold f19_0; exact go)
instance i19 {a : (List Bool)} {b : (List Bool)} : Rn cx (f19 a b) 19 [(ssl eB a), (ssl eB b)] (fun (r : Bool) => (.bool r)) (fun r => []) := Rn.o rfl (by unfold f19; exact go)
instance : Io0 cx 19 := ⟨rfl⟩
instance i45_0 : Lp cx (f45_0 a b) 26 L45_0 (fun (zs : Int) => [(0, .v (ssl eI a)), (1, .v (ssl eI b)), (5, .v (iT zs))]) (QO (QX 0 (fun (y : Unit) => [])) (QR (fun (y : Bool) => [(4, .v (.bool y))]))) := Lp.of (by unfold f45_0; exact go)
instance i45 : Rn cx (f45 a b) 45 [(ssl eI a), (ssl eI b)] (fun (r : Bool) => (.bool r)) (fun r => []) := Rn.o rfl (by unfold f45; exact go)
instance : Io0 cx 45 := ⟨rfl⟩
instance i20_0 {a : (List (List Int))} {b : (List (List Int))} : Lp cx (f20_0 a b) 27 L20_0 (fun (zs : Int) => [(0, .v (ssl (eL eI) a)), (1, .v (ssl (eL eI) b)), (5, .v (iT zs))]) (QO (QX 0 (fun (y : Unit) => [])) (QR (fun (y : Bool) => [(4, .v (.bool y))]))) := Lp.of (by unfold f20_0; exact go)
instance i20 {a : (List (List Int))} {b : (List (List Int))} : Rn cx (f20 a b) 20 [(ssl (eL eI) a), (ssl (eL eI) b)] (fun (r : Bool) => (.bool r)) (fun r => []) := Rn.o rfl (by unfold f20; exact go)
instance : Io0 cx 20 := ⟨rfl⟩
instance i46_0 : Lp cx f46_0 19 L46_0 (fun (zs : (List Int) × Int × Int) => [(0, .v (osl eI true zs.1)), (1, .v (iT zs.2.1)), (5, .v (iT zs.2.2))]) (QX 0 (fun (y : (List Int) × Int) => [(0, .v (osl eI true y.1)), (1, .v (iT y.2))])) := Lp.of (by unfold f46_0; exact go)
instance i46 : Rn cx (f46 a k) 46 [(osl eI true a), (iT k)] (fun (r : Int × (List Int)) => (iT r.1)) (fun r => [(osl eI true r.2)]) := Rn.o rfl (by unfold f46; exact go)
instance i21_0 : Lp cx f21_0 19 L21_0 (fun (zs : (List (List Int)) × Int × Int) => [(0, .v (osl (eL eI) true zs.1)), (1, .v (iT zs.2.1)), (5, .v (iT zs.2.2))]) (QX 0 (fun (y : (List (List Int)) × Int) => [(0, .v (osl (eL eI) true y.1)), (1, .v (iT y.2))])) := Lp.of (by unfold f21_0; exact go)
instance i21 {a : (List (List Int))} : Rn cx (f21 a k) 21 [(osl (eL eI) true a), (iT k)] (fun (r : Int × (List (List Int))) => (iT r.1)) (fun r => [(osl (eL eI) true r.2)]) := Rn.o rfl (by unfold f21; exact go)
instance i22_0 : Lp cx f22_0 21 L22_0 (fun (zs : (List Bool) × Int × Int) => [(0, .v (osl eB true zs.1)), (1, .v (iT zs.2.1)), (5, .v (iT zs.2.2))]) (QX 0 (fun (y : (List Bool) × Int) => [(0, .v (osl eB true y.1)), (1, .v (iT y.2))])) := Lp.of (by unfold f22_0; exact go)
instance i22 {a : (List Bool)} : Rn cx (f22 a k) 22 [(osl eB true a), (iT k)] (fun (r : Int × (List Bool)) => (iT r.1)) (fun r => [(osl eB true r.2)]) := Rn.o rfl (by unfold f22; exact go)
instance i23_0 {a : (List Bool)} : Lp cx (f23_0 a) 23 L23_0 (fun (zs : Int × Int) => [(0, .v (ssl eB a)), (1, .v (iT zs.1)), (5, .v (iT zs.2))]) (QO (QX 0 (fun (y : Int) => [(1, .v (iT y))])) (QR (fun (y : Int) => [(4, .v (iT y))]))) := Lp.of (by unfold f23_0; exact go)
instance i23 {a : (List Bool)} : Rn cx (f23 a k) 23 [(ssl eB a), (iT k)] (fun (r : Int) => (iT r)) (fun r => []) := Rn.o rfl (by unfold f23; exact go)
instance : Io0 cx 23 := ⟨rfl⟩
instance i47_0 : Lp cx (f47_0 a) 21 L47_0 (fun (zs : Int × Int) => [(0, .v (ssl eI a)), (1, .v (iT zs.1)), (5, .v (iT zs.2))]) (QO (QX 0 (fun (y : Int) => [(1, .v (iT y))])) (QR (fun (y : Int) => [(4, .v (iT y))]))) := Lp.of (by unfold f47_0; exact go)
instance i47 : Rn cx (f47 a k) 47 [(ssl eI a), (iT k)] (fun (r : Int) => (iT r)) (fun r => []) := Rn.o rfl (by unfold f47; exact go)
instance : Io0 cx 47 := ⟨rfl⟩
instance i24_0 {a : (List (List Int))} : Lp cx (f24_0 a) 21 L24_0 (fun (zs : Int × Int) => [(0, .v (ssl (eL eI) a)), (1, .v (iT zs.1)), (5, .v (iT zs.2))]) (QO (QX 0 (fun (y : Int) => [(1, .v (iT y))])) (QR (fun (y : Int) => [(4, .v (iT y))]))) := Lp.of (by unfold f24_0; exact go)
instance i24 {a : (List (List Int))} : Rn cx (f24 a k) 24 [(ssl (eL eI) a), (iT k)] (fun (r : Int) => (iT r)) (fun r => []) := Rn.o rfl (by unfold f24; exact go)
instance : Io0 cx 24 := ⟨rfl⟩
instance i4 {aN : Int} {aClauses : (List (List Int))} : Rn cx (f4 aN aClauses) 4 [(iT aN), (ssl (eL eI) aClauses)] (fun (r : Bool) => (.bool r)) (fun r => []) := Rn.o (e := (
  (f17 aClauses 1048576).bind fun o1 =>
  if o1 < 0 then
  some true
  else
  (f18 aClauses).bind fun o4 =>
  sn 0 27 (ssl (eL eI) o4) <| 
  (f8 aN o4).bind fun o6 =>
  (f18 aClauses).bind fun o8 =>
  (f7 aN o8).bind fun o10 =>
  (f19 o10.1 o6.1).bind fun o12 =>
  (jn (QN (fun (y : Bool) => [(0, .v (iT aN)), (1, .v (ssl (eL eI) aClauses)), (6, .v (osl eB true o6.1)), (7, .v (osl (eL eI) false o6.2.1)), (8, .v (.bool o6.2.2)), (9, .v (osl (eL eI) true o8)), (10, .v (osl eB true o10.1)), (11, .v (osl (eL eI) true o10.2.1)), (12, .v (.bool o10.2.2)), (55, .v (.bool y))])) ((if ¬ (o12 = true) then
  some true
  else
  (f20 o10.2.1 o6.2.1).bind fun o17 =>
  (jn (QN (fun (y : Bool) => [(0, .v (iT aN)), (1, .v (ssl (eL eI) aClauses)), (6, .v (osl eB true o6.1)), (7, .v (osl (eL eI) false o6.2.1)), (8, .v (.bool o6.2.2)), (9, .v (osl (eL eI) true o8)), (10, .v (osl eB true o10.1)), (11, .v (osl (eL eI) true o10.2.1)), (12, .v (.bool o10.2.2)), (55, .v (.bool y))])) ((if ¬ (o17 = true) then
  some true
  else
  some (o10.2.2 != o6.2.2)) : Option (Bool))).bind fun x_19 =>
  some x_19) : Option (Bool))).bind fun x_14 =>
  if x_14 = true then
  some false
  else
  (f18 aClauses).bind fun o23 =>
  (f20 o8 o23).bind fun o25 =>
  if ¬ (o25 = true) then
  some false
  else
  (f21 o8 1).bind fun o28 =>
  (jn (QN (fun (y : Bool) => [(0, .v (iT aN)), (1, .v (ssl (eL eI) aClauses)), (6, .v (osl eB true o6.1)), (7, .v (osl (eL eI) false o6.2.1)), (8, .v (.bool o6.2.2)), (10, .v (osl eB true o10.1)), (11, .v (osl (eL eI) true o10.2.1)), (82, .v (.bool y))])) ((if o28.1 < 0 then
  some true
  else
  (f19 o10.1 o6.1).bind fun o33 =>
  (jn (QN (fun (y : Bool) => [(0, .v (iT aN)), (1, .v (ssl (eL eI) aClauses)), (6, .v (osl eB true o6.1)), (7, .v (osl (eL eI) false o6.2.1)), (8, .v (.bool o6.2.2)), (10, .v (osl eB true o10.1)), (11, .v (osl (eL eI) true o10.2.1)), (82, .v (.bool y))])) ((if ¬ (o33 = true) then
  some true
  else
  (f20 o10.2.1 o6.2.1).bind fun o38 =>
  (jn (QN (fun (y : Bool) => [(0, .v (iT aN)), (1, .v (ssl (eL eI) aClauses)), (6, .v (osl eB true o6.1)), (7, .v (osl (eL eI) false o6.2.1)), (8, .v (.bool o6.2.2)), (10, .v (osl eB true o10.1)), (11, .v (osl (eL eI) true o10.2.1)), (82, .v (.bool y))])) ((if ¬ (o38 = true) then
  some true
  else
  some (o10.2.2 != o6.2.2)) : Option (Bool))).bind fun x_40 =>
  some x_40) : Option (Bool))).bind fun x_35 =>
  some x_35) : Option (Bool))).bind fun x_30 =>
  if x_30 = true then
  some false
  else
  (f22 o10.1 1).bind fun o44 =>
  (f21 o10.2.1 o44.1).bind fun o46 =>
  (f23 o44.2 1).bind fun o48 =>
  if o48 < 0 then
  some false
  else
  (f24 o46.2 o48).bind fun o51 =>
  if o51 < 0 then
  some false
  else
  if o51 ≠ o46.1 then
  some false
  else
  (f18 aClauses).bind fun o55 =>
  (f7 aN o55).bind fun o57 =>
  (f19 o57.1 o6.1).bind fun o59 =>
  (jn (QN (fun (y : Bool) => [(10, .v (osl eB true o44.2)), (11, .v (osl (eL eI) true o46.2)), (14, .v (iT o46.1)), (124, .v (.bool y))])) ((if ¬ (o59 = true) then
  some true
  else
  (f20 o57.2.1 o6.2.1).bind fun o64 =>
  (jn (QN (fun (y : Bool) => [(10, .v (osl eB true o44.2)), (11, .v (osl (eL eI) true o46.2)), (14, .v (iT o46.1)), (124, .v (.bool y))])) ((if ¬ (o64 = true) then
  some true
  else
  some (o57.2.2 != o6.2.2)) : Option (Bool))).bind fun x_66 =>
  some x_66) : Option (Bool))).bind fun x_61 =>
  if x_61 = true then
  some false
  else
  (f23 o44.2 1).bind fun o70 =>
  if o70 < 0 then
  some false
  else
  (f24 o46.2 o70).bind fun o73 =>
  if o73 < 0 then
  some false
  else
  if o73 ≠ o46.1 then
  some false
  else
  some true : Option Bool)) rfl (by exact go)
instance : Io0 cx 4 := ⟨rfl⟩
end
end Go.Proofs.YtjfeimhiiomgoaaH
