import Derived.Test.YtbpdhmbdpjafeaaGreatTg1c
set_option maxHeartbeats 2000000
set_option linter.unusedVariables false
set_option linter.unusedSimpArgs false
set_option linter.defProp false
set_option linter.unusedSectionVars false
set_option maxRecDepth 100000
namespace Go.Proofs.YtbpdhmbdpjafeaaGreatH
open Go
noncomputable section
variable {clauses o26 o4 o9 slices : (List (List Int))} {m model : (List Bool)} {a b c clause facts from2 indices l literals s0 s1 s2 set1 terms : (List Int)} {relations : (List Relation)} {atom v_19 : Atom} {d db : Database} {f : Fact} {high i i_17 k left low n n0 n1 sign v x y : Int} {q query : Query}
instance i65 : ∀ (n : Nat) s0 assumed, Rn cx (f65 n s0 assumed) 65 [(.ptr true [(iT s0.n), (ssl (eL eI) s0.clauses), (osl (eL eI) true s0.learned)]), (ssl eI assumed)] (fun (r : Option (List Int) × Solver) => optT r.1) (fun r => [(.ptr true [(iT r.2.n), (ssl (eL eI) r.2.clauses), (osl (eL eI) true r.2.learned)])]) := by
 intro n
 induction n with
 | zero => intro s0 assumed; exact ⟨fun r h => by simp [f65] at h⟩
 | succ n ih =>
  intro s0 assumed
  refine Rn.of (e := (
  (lb 1 12 0 [] (fun (w : (List Int) × Bool) => [(0, .v (.ptr true [(iT s0.n), (ssl (eL eI) s0.clauses), (osl (eL eI) true s0.learned)])), (1, .v (ssl eI assumed)), (23, .v (.tup [(.sl true false 1 0 (arr eI true w.1)), .bool w.2]))]) ((sn 9 20 (osl (eL (eL eI)) false ([s0.clauses, s0.learned])) <|
  sn 0 20 (ssl (eL (eL eI)) ([s0.clauses, s0.learned])) <|
  (f97 ([s0.clauses, s0.learned])).bind fun o21 =>
  (f96 o21 assumed).bind fun o23 =>
  some o23) : Option ((List Int) × Bool))).bind fun o23 =>
  if o23.2 = true then
  (f98 s0 assumed).bind fun o29 =>
  some (none, o29.2)
  else
  (iter (f65_0 s0 assumed (f65 n) o23) 1).bind fun o => match o with
  | .inl _ =>
  some (some o23.1, s0)
  | .inr (r, s1) =>
  om r fun r => match r with
  | none =>
  some (none, s1)
  | some l =>
  some (some l, s1) : Option (Option (List Int) × Solver))) rfl rfl (by decide) rfl ?_
  exact go
instance i35_0 {res : (List Int)} : Lp cx (f35_0 res) 44 L35_0 (fun (zs : (List Bool) × Int) => [(9, .v (osl eB true zs.1)), (30, .v (.sl true false 1 0 (arr eI true res))), (31, .v (iT (res.length : Int))), (32, .v (iT zs.2))]) (QX 0 (fun (y : (List Bool)) => [(9, .v (osl eB true y))])) := Lp.of (f := (fun
 | (model, x) =>
  if x < (res.length : Int) then
  (ix res x).bind fun v_35 =>
  (jn (QN (fun (y : (List Bool)) => [(9, .v (osl eB true y)), (30, .v (.sl true false 1 0 (arr eI true res))), (31, .v (iT (res.length : Int))), (32, .v (iT x))])) (((if v_35 > 0 then
  (ix model (w64 (v_35 - 1))).bind fun _ =>
  some (model.set (w64 (v_35 - 1)).toNat true)
  else
  some model) : Option (List Bool)))).bind fun m =>
  some (.inl (m, w64 (x + 1)))
  else
  some (.inr model) : (List Bool) × Int -> Option (((List Bool) × Int) ⊕ (List Bool)))) (by exact go)
instance i35 {l : (List (List Int))} : Rn cx (f35 n0 l) 35 [(iT n0), (ssl (eL eI) l)] (fun (r : (List Bool) × (List (List Int)) × Bool) => (.tup [(osl eB true r.1), (osl (eL eI) true r.2.1), (.bool r.2.2)])) (fun r => []) := Rn.o (e := (
 (f64 n0 l).bind fun o14 =>
 if ¬ (o14 = true) then
 sn 5 4 (osl eB true ([])) <|
 sn 0 5 (osl (eL eI) true ([])) <|
 some ([], [], false)
 else
 (f65 64 ({ n := n0, clauses := l, learned := [] } : Solver) ([])).bind fun o21 =>
 om o21.1 fun m => match m with
 | none =>
 some ([], o21.2.learned, false)
 | some res =>
 (mkl 1 n0 false).bind fun l_29 =>
 (iter (f35_0 res) (l_29, 0)).bind fun m =>
 some (m, [], true) : Option ((List Bool) × (List (List Int)) × Bool))) rfl (by exact go)
instance : Io0 cx 35 := ⟨rfl⟩
instance i37_0 : Lp cx (f37_0 model) 21 L37_0 (fun (zs : (List Int) × Int) => [(3, .v (osl eI true zs.1)), (7, .v (ssl eB model)), (8, .v (iT (model.length : Int))), (9, .v (iT zs.2))]) (QX 0 (fun (y : (List Int)) => [(3, .v (osl eI true y))])) := Lp.of (f := (fun
 | (out_1, x_2) =>
  if x_2 < (model.length : Int) then
  (ix model x_2).bind fun v_4 =>
  (jn (QN (fun (y : (List Int)) => [(3, .v (osl eI true y)), (7, .v (ssl eB model)), (8, .v (iT (model.length : Int))), (9, .v (iT x_2))])) ((if v_4 = true then
  (app 8 out_1 ([x_2])).bind fun l_9 =>
  some l_9
  else
  some out_1) : Option (List Int))).bind fun out_11 =>
  some (.inl (out_11, w64 (x_2 + 1)))
  else
  some (.inr out_1) : (List Int) × Int -> Option (((List Int) × Int) ⊕ (List Int)))) (by exact go)
instance i37 : Rn cx (f37 model) 37 [(ssl eB model)] (fun (r : (List Int)) => (osl eI true r)) (fun r => []) := Rn.o (e := (
  sn 3 3 (osl eI true ([])) <| 
  (iter (f37_0 model) ([], 0)).bind fun out_14 =>
  some out_14 : Option (List Int))) rfl (by exact go)
instance : Io0 cx 37 := ⟨rfl⟩
instance i68 {fact : Int} : Rn cx (f68 fact c) 68 [(iT fact), (.ptr false [(ssl eI c)])] (fun (r : Bool) => (.bool r)) (fun r => []) := Rn.o rfl (by unfold f68; exact go)
instance : Io0 cx 68 := ⟨rfl⟩
instance i36_0 : Lp cx (f36_0 indices o9) 43 L36_0 (fun (zs : (List Int) × Int) => [(3, .v (.ptr true [(ssl eI indices)])), (6, .v (osl eI true zs.1)), (23, .v (osl (eL eI) true o9)), (24, .v (iT (o9.length : Int))), (25, .v (iT zs.2))]) (QO (QX 0 (fun (y : (List Int)) => [(6, .v (osl eI true y))])) (QR (fun (y : (List Int) × Bool) => [(4, .v (osl eI true y.1)), (5, .v (.bool y.2))]))) := Lp.of (f := (fun
 | (out_11, x_12) =>
  if x_12 < (o9.length : Int) then
  (ix o9 x_12).bind fun v_14 =>
  (f67 v_14 (fun x0 => f68 x0 indices)).bind fun o16 =>
  if o16 < 0 then
  sn 2 4 (osl eI true ([])) <| 
  some (.inr (.inr ([], false)))
  else
  (ix v_14 o16).bind fun v_19 =>
  (app 8 out_11 ([v_19])).bind fun l_21 =>
  some (.inl (l_21, w64 (x_12 + 1)))
  else
  some (.inr (.inl out_11)) : (List Int) × Int -> Option (((List Int) × Int) ⊕ ((List Int) ⊕ ((List Int) × Bool))))) (by exact go)
instance i36 : Rn cx (f36 db indices) 36 [(.agg [(ssl eRelation db.Relations), (ssl eFact db.Facts)]), (ssl eI indices)] (fun (r : (List Int) × Bool) => (.tup [(osl eI true r.1), (.bool r.2)])) (fun r => []) := Rn.o (e := (
  (f62 db).bind fun o1 =>
  (jn (QN (fun (y : Bool) => [(2, .v (.ptr true [(ssl eRelation db.Relations), (ssl eFact db.Facts)])), (3, .v (.ptr true [(ssl eI indices)])), (20, .v (.bool y))])) ((if ¬ (o1 = true) then
  some true
  else
  (f66 indices (db.Facts.length : Int)).bind fun o6 =>
  some (decide (¬ (o6 = true)))) : Option (Bool))).bind fun x_3 =>
  if x_3 = true then
  sn 2 4 (osl eI true ([])) <| 
  some ([], false)
  else
  sn 2 6 (osl eI true ([])) <| 
  (f59 db).bind fun o9 =>
  (iter (f36_0 indices o9) ([], 0)).bind fun o => match o with
  | .inl out_25 =>
  some (out_25, true)
  | .inr (x_26, x_27) =>
  some (x_26, x_27) : Option ((List Int) × Bool))) rfl (by exact go)
instance : Io0 cx 36 := ⟨rfl⟩
instance i9 : Rn cx (f9 db query) 9 [(.agg [(ssl eRelation db.Relations), (ssl eFact db.Facts)]), (.agg [(iT query.VariableCount), (ssl eAtom query.Atoms), (ssl eI query.Free)])] (fun (r : (List Int) × (List (List Int)) × Bool) => (.tup [(osl eI true r.1), (osl (eL eI) true r.2.1), (.bool r.2.2)])) (fun r => []) := Rn.o (e := (
  (f33 db query).bind fun o1 =>
  (f34 db query).bind fun o3 =>
  (jn (QN (fun (y : Bool) => [(2, .v (.ptr true [(ssl eRelation db.Relations), (ssl eFact db.Facts)])), (7, .v (osl (eL eI) true o1)), (24, .v (.bool y))])) ((if ¬ (o3 = true) then
  some true
  else
  some (decide ((o1.length : Int) > 400))) : Option (Bool))).bind fun x_5 =>
  if x_5 = true then
  sn 3 4 (osl eI true ([])) <| 
  sn 0 5 (osl (eL eI) true ([])) <| 
  some ([], [], false)
  else
  (f35 (db.Facts.length : Int) o1).bind fun o9 =>
  if o9.2.2 = true then
  (f37 o9.1).bind fun o12 =>
  (f36 db o12).bind fun o14 =>
  sn 9 5 (osl (eL eI) true ([])) <| 
  some (o14.1, [], false)
  else
  sn 4 4 (osl eI true ([])) <| 
  some ([], o9.2.1, true) : Option ((List Int) × (List (List Int)) × Bool))) rfl (by exact go)
instance : Io0 cx 9 := ⟨rfl⟩
instance i10_0 : Lp cx (f10_0 a b) 26 L10_0 (fun (zs : Int) => [(0, .v (ssl eI a)), (1, .v (ssl eI b)), (5, .v (iT zs))]) (QO (QX 0 (fun (y : Unit) => [])) (QR (fun (y : Bool) => [(4, .v (.bool y))]))) := Lp.of (by unfold f10_0; exact go)
instance i10 : Rn cx (f10 a b) 10 [(ssl eI a), (ssl eI b)] (fun (r : Bool) => (.bool r)) (fun r => []) := Rn.o rfl (by unfold f10; exact go)
instance : Io0 cx 10 := ⟨rfl⟩
instance i11_0 {a : (List (List Int))} {b : (List (List Int))} : Lp cx (f11_0 a b) 27 L11_0 (fun (zs : Int) => [(0, .v (ssl (eL eI) a)), (1, .v (ssl (eL eI) b)), (5, .v (iT zs))]) (QO (QX 0 (fun (y : Unit) => [])) (QR (fun (y : Bool) => [(4, .v (.bool y))]))) := Lp.of (by unfold f11_0; exact go)
instance i11 {a : (List (List Int))} {b : (List (List Int))} : Rn cx (f11 a b) 11 [(ssl (eL eI) a), (ssl (eL eI) b)] (fun (r : Bool) => (.bool r)) (fun r => []) := Rn.o rfl (by unfold f11; exact go)
instance : Io0 cx 11 := ⟨rfl⟩
instance i70 {a : Relation} {b : Relation} : Rn cx (f70 a b) 70 [(.agg [(.str a.Name), (iT a.Arity), (iT a.KeyLength)]), (.agg [(.str b.Name), (iT b.Arity), (iT b.KeyLength)])] (fun (r : Bool) => (.bool r)) (fun r => []) := Rn.o rfl (by unfold f70; exact go)
instance : Io0 cx 70 := ⟨rfl⟩
instance i38_0 {a : (List Relation)} {b : (List Relation)} : Lp cx (f38_0 a b) 27 L38_0 (fun (zs : Int) => [(0, .v (ssl eRelation a)), (1, .v (ssl eRelation b)), (5, .v (iT zs))]) (QO (QX 0 (fun (y : Unit) => [])) (QR (fun (y : Bool) => [(4, .v (.bool y))]))) := Lp.of (by unfold f38_0; exact go)
instance i38 {a : (List Relation)} {b : (List Relation)} : Rn cx (f38 a b) 38 [(ssl eRelation a), (ssl eRelation b)] (fun (r : Bool) => (.bool r)) (fun r => []) := Rn.o rfl (by unfold f38; exact go)
instance : Io0 cx 38 := ⟨rfl⟩
instance i71 {a : Fact} {b : Fact} : Rn cx (f71 a b) 71 [(.agg [(iT a.Relation), (ssl eI a.Values)]), (.agg [(iT b.Relation), (ssl eI b.Values)])] (fun (r : Bool) => (.bool r)) (fun r => []) := Rn.o rfl (by unfold f71; exact go)
instance : Io0 cx 71 := ⟨rfl⟩
instance i39_0 {a : (List Fact)} {b : (List Fact)} : Lp cx (f39_0 a b) 27 L39_0 (fun (zs : Int) => [(0, .v (ssl eFact a)), (1, .v (ssl eFact b)), (5, .v (iT zs))]) (QO (QX 0 (fun (y : Unit) => [])) (QR (fun (y : Bool) => [(4, .v (.bool y))]))) := Lp.of (by unfold f39_0; exact go)
instance i39 {a : (List Fact)} {b : (List Fact)} : Rn cx (f39 a b) 39 [(ssl eFact a), (ssl eFact b)] (fun (r : Bool) => (.bool r)) (fun r => []) := Rn.o rfl (by unfold f39; exact go)
instance : Io0 cx 39 := ⟨rfl⟩
instance i12 {a : Database} {b : Database} : Rn cx (f12 a b) 12 [(.agg [(ssl eRelation a.Relations), (ssl eFact a.Facts)]), (.agg [(ssl eRelation b.Relations), (ssl eFact b.Facts)])] (fun (r : Bool) => (.bool r)) (fun r => []) := Rn.o rfl (by unfold f12; exact go)
instance : Io0 cx 12 := ⟨rfl⟩
instance i72 {a : Atom} {b : Atom} : Rn cx (f72 a b) 72 [(.agg [(iT a.Relation), (ssl eI a.Terms)]), (.agg [(iT b.Relation), (ssl eI b.Terms)])] (fun (r : Bool) => (.bool r)) (fun r => []) := Rn.o rfl (by unfold f72; exact go)
instance : Io0 cx 72 := ⟨rfl⟩
instance i40_0 {a : (List Atom)} {b : (List Atom)} : Lp cx (f40_0 a b) 27 L40_0 (fun (zs : Int) => [(0, .v (ssl eAtom a)), (1, .v (ssl eAtom b)), (5, .v (iT zs))]) (QO (QX 0 (fun (y : Unit) => [])) (QR (fun (y : Bool) => [(4, .v (.bool y))]))) := Lp.of (by unfold f40_0; exact go)
instance i40 {a : (List Atom)} {b : (List Atom)} : Rn cx (f40 a b) 40 [(ssl eAtom a), (ssl eAtom b)] (fun (r : Bool) => (.bool r)) (fun r => []) := Rn.o rfl (by unfold f40; exact go)
instance : Io0 cx 40 := ⟨rfl⟩
instance i13 {a : Query} {b : Query} : Rn cx (f13 a b) 13 [(.agg [(iT a.VariableCount), (ssl eAtom a.Atoms), (ssl eI a.Free)]), (.agg [(iT b.VariableCount), (ssl eAtom b.Atoms), (ssl eI b.Free)])] (fun (r : Bool) => (.bool r)) (fun r => []) := Rn.o rfl (by unfold f13; exact go)
instance : Io0 cx 13 := ⟨rfl⟩
instance i73_0 : Lp cx f73_0 20 L73_0 (fun (zs : Int × (List UInt8)) => [(0, .v (iT zs.1)), (3, .v (.str zs.2))]) (QX 0 (fun (y : (List UInt8)) => [(3, .v (.str y))])) := Lp.of (by unfold f73_0; exact go)
instance i73 : Rn cx (f73 k) 73 [(iT k)] (fun (r : (List UInt8)) => (.str r)) (fun r => []) := Rn.o rfl (by unfold f73; exact go)
instance : Io0 cx 73 := ⟨rfl⟩
instance i41_0 : Lp cx f41_0 35 L41_0 (fun (zs : (List Relation) × Int × Int) => [(0, .v (osl eRelation true zs.1)), (1, .v (iT zs.2.1)), (5, .v (iT zs.2.2))]) (QX 0 (fun (y : (List Relation) × Int) => [(0, .v (osl eRelation true y.1)), (1, .v (iT y.2))])) := Lp.of (by unfold f41_0; exact go)
instance i41 {a : (List Relation)} : Rn cx (f41 a k) 41 [(osl eRelation true a), (iT k)] (fun (r : Int × (List Relation)) => (iT r.1)) (fun r => [(osl eRelation true r.2)]) := Rn.o rfl (by unfold f41; exact go)
instance i16_0 : Lp cx f16_0 19 L16_0 (fun (zs : (List Int) × Int × Int) => [(0, .v (osl eI true zs.1)), (1, .v (iT zs.2.1)), (5, .v (iT zs.2.2))]) (QX 0 (fun (y : (List Int) × Int) => [(0, .v (osl eI true y.1)), (1, .v (iT y.2))])) := Lp.of (by unfold f16_0; exact go)
instance i16 : Rn cx (f16 a k) 16 [(osl eI true a), (iT k)] (fun (r : Int × (List Int)) => (iT r.1)) (fun r => [(osl eI true r.2)]) := Rn.o rfl (by unfold f16; exact go)
instance i42_0 : Lp cx f42_0 27 L42_0 (fun (zs : (List Fact) × Int × Int) => [(0, .v (osl eFact true zs.1)), (1, .v (iT zs.2.1)), (5, .v (iT zs.2.2))]) (QX 0 (fun (y : (List Fact) × Int) => [(0, .v (osl eFact true y.1)), (1, .v (iT y.2))])) := Lp.of (by unfold f42_0; exact go)
instance i42 {a : (List Fact)} : Rn cx (f42 a k) 42 [(osl eFact true a), (iT k)] (fun (r : Int × (List Fact)) => (iT r.1)) (fun r => [(osl eFact true r.2)]) := Rn.o rfl (by unfold f42; exact go)
instance i14 {a : Database} : Rn cx (f14 a k) 14 [(.agg [(osl eRelation true a.Relations), (osl eFact true a.Facts)]), (iT k)] (fun (r : Int) => (iT r)) (fun r => [.und]) := Rn.o rfl (by unfold f14; exact go)
instance i43_0 : Lp cx f43_0 27 L43_0 (fun (zs : (List Atom) × Int × Int) => [(0, .v (osl eAtom true zs.1)), (1, .v (iT zs.2.1)), (5, .v (iT zs.2.2))]) (QX 0 (fun (y : (List Atom) × Int) => [(0, .v (osl eAtom true y.1)), (1, .v (iT y.2))])) := Lp.of (by unfold f43_0; exact go)
instance i43 {a : (List Atom)} : Rn cx (f43 a k) 43 [(osl eAtom true a), (iT k)] (fun (r : Int × (List Atom)) => (iT r.1)) (fun r => [(osl eAtom true r.2)]) := Rn.o rfl (by unfold f43; exact go)
instance i15 {a : Query} : Rn cx (f15 a k) 15 [(.agg [(iT a.VariableCount), (osl eAtom true a.Atoms), (osl eI true a.Free)]), (iT k)] (fun (r : Int) => (iT r)) (fun r => [.und]) := Rn.o rfl (by unfold f15; exact go)
instance i17_0 : Lp cx f17_0 19 L17_0 (fun (zs : (List (List Int)) × Int × Int) => [(0, .v (osl (eL eI) true zs.1)), (1, .v (iT zs.2.1)), (5, .v (iT zs.2.2))]) (QX 0 (fun (y : (List (List Int)) × Int) => [(0, .v (osl (eL eI) true y.1)), (1, .v (iT y.2))])) := Lp.of (by unfold f17_0; exact go)
instance i17 {a : (List (List Int))} : Rn cx (f17 a k) 17 [(osl (eL eI) true a), (iT k)] (fun (r : Int × (List (List Int))) => (iT r.1)) (fun r => [(osl (eL eI) true r.2)]) := Rn.o rfl (by unfold f17; exact go)
instance i18_0 : Lp cx (f18_0 a) 21 L18_0 (fun (zs : Int × Int) => [(0, .v (ssl eI a)), (1, .v (iT zs.1)), (5, .v (iT zs.2))]) (QO (QX 0 (fun (y : Int) => [(1, .v (iT y))])) (QR (fun (y : Int) => [(4, .v (iT y))]))) := Lp.of (by unfold f18_0; exact go)
instance i18 : Rn cx (f18 a k) 18 [(ssl eI a), (iT k)] (fun (r : Int) => (iT r)) (fun r => []) := Rn.o rfl (by unfold f18; exact go)
instance : Io0 cx 18 := ⟨rfl⟩
instance i19_0 {a : (List (List Int))} : Lp cx (f19_0 a) 21 L19_0 (fun (zs : Int × Int) => [(0, .v (ssl (eL eI) a)), (1, .v (iT zs.1)), (5, .v (iT zs.2))]) (QO (QX 0 (fun (y : Int) => [(1, .v (iT y))])) (QR (fun (y : Int) => [(4, .v (iT y))]))) := Lp.of (by unfold f19_0; exact go)
instance i19 {a : (List (List Int))} : Rn cx (f19 a k) 19 [(ssl (eL eI) a), (iT k)] (fun (r : Int) => (iT r)) (fun r => []) := Rn.o rfl (by unfold f19; exact go)
instance : Io0 cx 19 := ⟨rfl⟩
instance i3 {aDb : Database} {aQuery : Query} : Rn cx (f3 aDb aQuery) 3 [(.agg [(ssl eRelation aDb.Relations), (ssl eFact aDb.Facts)]), (.agg [(iT aQuery.VariableCount), (ssl eAtom aQuery.Atoms), (ssl eI aQuery.Free)])] (fun (r : Bool) => (.bool r)) (fun r => []) := Rn.o (e := (
  (f4 aDb 1048576).bind fun o1 =>
  if o1 < 0 then
  some true
  else
  (f5 aQuery o1).bind fun o4 =>
  if o4 < 0 then
  some true
  else
  (f7 aDb).bind fun o7 =>
  sn 0 32 (.agg [(ssl eRelation o7.Relations), (ssl eFact o7.Facts)]) <| 
  (f8 aQuery).bind fun o9 =>
  sn 0 34 (.agg [(iT o9.VariableCount), (ssl eAtom o9.Atoms), (ssl eI o9.Free)]) <| 
  (f6 o7 o9).bind fun o11 =>
  (f7 aDb).bind fun o13 =>
  (f8 aQuery).bind fun o15 =>
  (f9 o13 o15).bind fun o17 =>
  (f10 o17.1 o11.1).bind fun o19 =>
  (jn (QN (fun (y : Bool) => [(2, .v (.ptr true [(ssl eRelation aDb.Relations), (ssl eFact aDb.Facts)])), (3, .v (.ptr true [(iT aQuery.VariableCount), (ssl eAtom aQuery.Atoms), (ssl eI aQuery.Free)])), (6, .v (osl eI true o11.1)), (7, .v (ssl (eL eI) o11.2.1)), (8, .v (.bool o11.2.2)), (9, .v (.ptr true [(osl eRelation true o13.Relations), (osl eFact true o13.Facts)])), (10, .v (.ptr true [(iT o15.VariableCount), (osl eAtom true o15.Atoms), (osl eI true o15.Free)])), (11, .v (osl eI true o17.1)), (12, .v (osl (eL eI) true o17.2.1)), (13, .v (.bool o17.2.2)), (64, .v (.bool y))])) ((if ¬ (o19 = true) then
  some true
  else
  (f11 o17.2.1 o11.2.1).bind fun o24 =>
  (jn (QN (fun (y : Bool) => [(2, .v (.ptr true [(ssl eRelation aDb.Relations), (ssl eFact aDb.Facts)])), (3, .v (.ptr true [(iT aQuery.VariableCount), (ssl eAtom aQuery.Atoms), (ssl eI aQuery.Free)])), (6, .v (osl eI true o11.1)), (7, .v (ssl (eL eI) o11.2.1)), (8, .v (.bool o11.2.2)), (9, .v (.ptr true [(osl eRelation true o13.Relations), (osl eFact true o13.Facts)])), (10, .v (.ptr true [(iT o15.VariableCount), (osl eAtom true o15.Atoms), (osl eI true o15.Free)])), (11, .v (osl eI true o17.1)), (12, .v (osl (eL eI) true o17.2.1)), (13, .v (.bool o17.2.2)), (64, .v (.bool y))])) ((if ¬ (o24 = true) then
  some true
  else
  some (o17.2.2 != o11.2.2)) : Option (Bool))).bind fun x_26 =>
  some x_26) : Option (Bool))).bind fun x_21 =>
  if x_21 = true then
  some false
  else
  (f7 aDb).bind fun o30 =>
  (f12 o13 o30).bind fun o32 =>
  if ¬ (o32 = true) then
  some false
  else
  (f8 aQuery).bind fun o35 =>
  (f13 o15 o35).bind fun o37 =>
  if ¬ (o37 = true) then
  some false
  else
  (f14 o13 1).bind fun o40 =>
  (f15 o15 o40).bind fun o42 =>
  (jn (QN (fun (y : Bool) => [(2, .v (.ptr true [(ssl eRelation aDb.Relations), (ssl eFact aDb.Facts)])), (3, .v (.ptr true [(iT aQuery.VariableCount), (ssl eAtom aQuery.Atoms), (ssl eI aQuery.Free)])), (6, .v (osl eI true o11.1)), (7, .v (ssl (eL eI) o11.2.1)), (8, .v (.bool o11.2.2)), (11, .v (osl eI true o17.1)), (12, .v (osl (eL eI) true o17.2.1)), (99, .v (.bool y))])) ((if o42 < 0 then
  some true
  else
  (f10 o17.1 o11.1).bind fun o47 =>
  (jn (QN (fun (y : Bool) => [(2, .v (.ptr true [(ssl eRelation aDb.Relations), (ssl eFact aDb.Facts)])), (3, .v (.ptr true [(iT aQuery.VariableCount), (ssl eAtom aQuery.Atoms), (ssl eI aQuery.Free)])), (6, .v (osl eI true o11.1)), (7, .v (ssl (eL eI) o11.2.1)), (8, .v (.bool o11.2.2)), (11, .v (osl eI true o17.1)), (12, .v (osl (eL eI) true o17.2.1)), (99, .v (.bool y))])) ((if ¬ (o47 = true) then
  some true
  else
  (f11 o17.2.1 o11.2.1).bind fun o52 =>
  (jn (QN (fun (y : Bool) => [(2, .v (.ptr true [(ssl eRelation aDb.Relations), (ssl eFact aDb.Facts)])), (3, .v (.ptr true [(iT aQuery.VariableCount), (ssl eAtom aQuery.Atoms), (ssl eI aQuery.Free)])), (6, .v (osl eI true o11.1)), (7, .v (ssl (eL eI) o11.2.1)), (8, .v (.bool o11.2.2)), (11, .v (osl eI true o17.1)), (12, .v (osl (eL eI) true o17.2.1)), (99, .v (.bool y))])) ((if ¬ (o52 = true) then
  some true
  else
  some (o17.2.2 != o11.2.2)) : Option (Bool))).bind fun x_54 =>
  some x_54) : Option (Bool))).bind fun x_49 =>
  some x_49) : Option (Bool))).bind fun x_44 =>
  if x_44 = true then
  some false
  else
  (f16 o17.1 1).bind fun o58 =>
  (f17 o17.2.1 o58.1).bind fun o60 =>
  (f18 o58.2 1).bind fun o62 =>
  if o62 < 0 then
  some false
  else
  (f19 o60.2 o62).bind fun o65 =>
  if o65 < 0 then
  some false
  else
  if o65 ≠ o60.1 then
  some false
  else
  (f7 aDb).bind fun o69 =>
  (f8 aQuery).bind fun o71 =>
  (f9 o69 o71).bind fun o73 =>
  (f10 o73.1 o11.1).bind fun o75 =>
  (jn (QN (fun (y : Bool) => [(11, .v (osl eI true o58.2)), (12, .v (osl (eL eI) true o60.2)), (15, .v (iT o60.1)), (142, .v (.bool y))])) ((if ¬ (o75 = true) then
  some true
  else
  (f11 o73.2.1 o11.2.1).bind fun o80 =>
  (jn (QN (fun (y : Bool) => [(11, .v (osl eI true o58.2)), (12, .v (osl (eL eI) true o60.2)), (15, .v (iT o60.1)), (142, .v (.bool y))])) ((if ¬ (o80 = true) then
  some true
  else
  some (o73.2.2 != o11.2.2)) : Option (Bool))).bind fun x_82 =>
  some x_82) : Option (Bool))).bind fun x_77 =>
  if x_77 = true then
  some false
  else
  (f18 o58.2 1).bind fun o86 =>
  if o86 < 0 then
  some false
  else
  (f19 o60.2 o86).bind fun o89 =>
  if o89 < 0 then
  some false
  else
  if o89 ≠ o60.1 then
  some false
  else
  some true : Option Bool)) rfl (by exact go)
instance : Io0 cx 3 := ⟨rfl⟩
end
end Go.Proofs.YtbpdhmbdpjafeaaGreatH
