import Derived.Test.YtjfeimhiiomgoaaGreatTg1b
set_option maxHeartbeats 2000000
set_option linter.unusedVariables false
set_option linter.unusedSimpArgs false
set_option linter.defProp false
set_option linter.unusedSectionVars false
set_option maxRecDepth 100000
namespace Go.Proofs.YtjfeimhiiomgoaaGreatH
open Go
noncomputable section
variable {slices : (List (List Int))} {atoms : (List Atom)} {a b free from2 indices not o19 o7 o9 plus_38 s0 s1 s2 terms vals values variables want : (List Int)} {l relations : (List Relation)} {rewriting : (List RewritingStep)} {atom v_19 : Atom} {d db : Database} {f : Fact} {high i i_15 i_17 k left low n0 n1 n_12 n_17 n_40 skip t to v x y : Int} {q query : Query}
instance i122_0 : Lp cx (f122_0 slices) 36 L122_0 (fun (zs : Int × Int) => [(0, .v (ssl (eL eI) slices)), (3, .v (iT zs.1)), (9, .v (ssl (eL eI) slices)), (10, .v (iT (slices.length : Int))), (11, .v (iT zs.2))]) (QX 0 (fun (y : Int) => [(0, .v (ssl (eL eI) slices)), (3, .v (iT y))])) := Lp.of (f := (fun
 | (size_1, x_2) =>
  if x_2 < (slices.length : Int) then
  (ix slices x_2).bind fun v_4 =>
  (jn (QN (fun (y : Unit) => [(0, .v (ssl (eL eI) slices)), (3, .v (iT (w64 (size_1 + (v_4.length : Int))))), (9, .v (ssl (eL eI) slices)), (10, .v (iT (slices.length : Int))), (11, .v (iT x_2))])) ((if (w64 (size_1 + (v_4.length : Int))) < 0 then
  none
  else
  some ()) : Option Unit)).bind fun _ =>
  some (.inl (w64 (size_1 + (v_4.length : Int)), w64 (x_2 + 1)))
  else
  some (.inr size_1) : Int × Int -> Option ((Int × Int) ⊕ Int))) (by exact go)
instance i122_1 : Lp cx (f122_1 slices) 36 L122_1 (fun (zs : Nat × (List Int) × Int) => [(6, .v (.sl true true 1 zs.1 (arr eI true zs.2.1))), (25, .v (ssl (eL eI) slices)), (26, .v (iT (slices.length : Int))), (27, .v (iT zs.2.2))]) (QX 2 (fun (y : Nat × (List Int)) => [(6, .v (.sl true true 1 y.1 (arr eI true y.2)))])) := Lp.of (by unfold f122_1; exact go)
instance i122 : Rn cx (f122 slices) 122 [(ssl (eL eI) slices)] (fun (r : (List Int)) => (osl eI true r)) (fun r => []) := Rn.o rfl (by unfold f122; exact go)
instance : Io0 cx 122 := ⟨rfl⟩
theorem r123 {l : List Int} {r : List Int} (h : f123 l = some r) : VJx cx (.ca 123 [osl eI true l] (.tup []) [osl eI true r]) := by
 exact ca_sort (X := X0) (fun _ _ _ _ _ h => .inl h) (fun _ _ _ _ h => h) rfl h
instance i123 {l : List Int} : Rn cx (f123 l) 123 [osl eI true l] (fun _ => .tup []) (fun r => [osl eI true r]) := ⟨fun _ h => r123 h⟩
theorem r124 {l : List Int} {r : List Int} (h : f124 l = some r) : VJx cx (.ca 124 [osl eI true l] (osl eI true r) [.und]) := by
 exact ca_comp (X := X0) (fun _ _ _ _ _ h => .inr (h)) (fun _ _ _ _ h => h) rfl h
instance i124 {l : List Int} : Rn cx (f124 l) 124 [osl eI true l] (fun r => osl eI true r) (fun _ => [.und]) := ⟨fun _ h => r124 h⟩
instance i57 : Rn cx (f57 a b) 57 [(ssl eI a), (ssl eI b)] (fun (r : (List Int)) => (osl eI true r)) (fun r => []) := Rn.o (e := (
  sn 4 8 (osl (eL eI) false ([a, b])) <| 
  (f122 ([a, b])).bind fun o1 =>
  (f123 o1).bind fun o3 =>
  (f124 o3).bind fun o5 =>
  some o5 : Option (List Int))) rfl (by exact go)
instance : Io0 cx 57 := ⟨rfl⟩
instance i55_0 : Lp cx (f55_0 atom) 23 L55_0 (fun (zs : (List Int) × Int) => [(1, .v (.ptr true [(iT atom.Relation), (ssl eI atom.Terms)])), (3, .v (osl eI true zs.1)), (8, .v (ssl eI atom.Terms)), (9, .v (iT (atom.Terms.length : Int))), (10, .v (iT zs.2))]) (QX 0 (fun (y : (List Int)) => [(3, .v (osl eI true y))])) := Lp.of (f := (fun
 | (out_1, x_2) =>
  if x_2 < (atom.Terms.length : Int) then
  (ix atom.Terms x_2).bind fun v_4 =>
  (f121 v_4 0 3).bind fun o6 =>
  (jn (QN (fun (y : (List Int)) => [(1, .v (.ptr true [(iT atom.Relation), (ssl eI atom.Terms)])), (3, .v (osl eI true y)), (8, .v (ssl eI atom.Terms)), (9, .v (iT (atom.Terms.length : Int))), (10, .v (iT x_2))])) ((if o6 = true then
  (app 8 out_1 ([v_4])).bind fun l_11 =>
  some l_11
  else
  some out_1) : Option (List Int))).bind fun out_13 =>
  some (.inl (out_13, w64 (x_2 + 1)))
  else
  some (.inr out_1) : (List Int) × Int -> Option (((List Int) × Int) ⊕ (List Int)))) (by exact go)
instance i55 : Rn cx (f55 atom) 55 [(.agg [(iT atom.Relation), (ssl eI atom.Terms)])] (fun (r : (List Int)) => (osl eI true r)) (fun r => []) := Rn.o (e := (
  sn 4 3 (osl eI true ([])) <| 
  (iter (f55_0 atom) ([], 0)).bind fun out_16 =>
  (f57 out_16 ([] : (List Int))).bind fun o17 =>
  some o17 : Option (List Int))) rfl (by exact go)
instance : Io0 cx 55 := ⟨rfl⟩
instance i115_1 {occurring_19 : (List Int)} {x_20 : Int} {v_22 : Atom} : Lp cx (lw (relations, occurring_19, x_20) (f115_1 query v_22)) 94 L115_1 (fun (zs : Int) => [(0, .v (ssl eRelation relations)), (3, .v (.ptr true [(iT query.VariableCount), (ssl eAtom query.Atoms), (ssl eI query.Free)])), (5, .v (osl eI true occurring_19)), (7, .v (.ptr true [(iT v_22.Relation), (ssl eI v_22.Terms)])), (36, .v (ssl eAtom query.Atoms)), (37, .v (iT (query.Atoms.length : Int))), (38, .v (iT x_20)), (71, .v (ssl eI v_22.Terms)), (72, .v (iT (v_22.Terms.length : Int))), (73, .v (iT zs))]) (QO (QX 2 (fun (y : Unit) => [(0, .v (ssl eRelation relations)), (3, .v (.ptr true [(iT query.VariableCount), (ssl eAtom query.Atoms), (ssl eI query.Free)])), (5, .v (osl eI true occurring_19)), (7, .v (.ptr true [(iT v_22.Relation), (ssl eI v_22.Terms)])), (36, .v (ssl eAtom query.Atoms)), (37, .v (iT (query.Atoms.length : Int))), (38, .v (iT x_20))])) (QR (fun (y : Bool) => [(4, .v (.bool y))]))) := Lp.of (by unfold lw f115_1; exact go)
instance i115_0 : Lp cx (f115_0 relations query) 94 L115_0 (fun (zs : (List Int) × Int) => [(0, .v (ssl eRelation relations)), (3, .v (.ptr true [(iT query.VariableCount), (ssl eAtom query.Atoms), (ssl eI query.Free)])), (5, .v (osl eI true zs.1)), (36, .v (ssl eAtom query.Atoms)), (37, .v (iT (query.Atoms.length : Int))), (38, .v (iT zs.2))]) (QO (QX 0 (fun (y : (List Int)) => [(3, .v (.ptr true [(iT query.VariableCount), (ssl eAtom query.Atoms), (ssl eI query.Free)])), (5, .v (osl eI true y))])) (QR (fun (y : Bool) => [(4, .v (.bool y))]))) := Lp.of (f := (fun
 | (occurring_19, x_20) =>
  if x_20 < (query.Atoms.length : Int) then
  (ix query.Atoms x_20).bind fun v_22 =>
  (f121 v_22.Relation 0 (w64 ((relations.length : Int) - 1))).bind fun o24 =>
  (jn (QN (fun (y : Bool) => [(0, .v (ssl eRelation relations)), (3, .v (.ptr true [(iT query.VariableCount), (ssl eAtom query.Atoms), (ssl eI query.Free)])), (5, .v (osl eI true occurring_19)), (7, .v (.ptr true [(iT v_22.Relation), (ssl eI v_22.Terms)])), (36, .v (ssl eAtom query.Atoms)), (37, .v (iT (query.Atoms.length : Int))), (38, .v (iT x_20)), (69, .v (.bool y))])) ((if ¬ (o24 = true) then
  some true
  else
  (ix relations v_22.Relation).bind fun v_29 =>
  (jn (QN (fun (y : Bool) => [(0, .v (ssl eRelation relations)), (3, .v (.ptr true [(iT query.VariableCount), (ssl eAtom query.Atoms), (ssl eI query.Free)])), (5, .v (osl eI true occurring_19)), (7, .v (.ptr true [(iT v_22.Relation), (ssl eI v_22.Terms)])), (36, .v (ssl eAtom query.Atoms)), (37, .v (iT (query.Atoms.length : Int))), (38, .v (iT x_20)), (69, .v (.bool y))])) ((if (v_22.Terms.length : Int) ≠ v_29.Arity then
  some true
  else
  (cutL query.Atoms 0 x_20).bind fun l_34 =>
  (f165 l_34 (fun x0 => f166 x0 v_22)).bind fun o36 =>
  some o36) : Option (Bool))).bind fun x_31 =>
  some x_31) : Option (Bool))).bind fun x_26 =>
  if x_26 = true then
  some (.inr (.inr false))
  else
  (iter (lw (relations, occurring_19, x_20)  (f115_1 query v_22)) 0).bind fun o => match o with
  | .inl _ =>
  (f55 v_22).bind fun o49 =>
  (f57 occurring_19 o49).bind fun o51 =>
  some (.inl (o51, w64 (x_20 + 1)))
  | .inr x_48 =>
  some (.inr (.inr x_48))
  else
  some (.inr (.inl occurring_19)) : (List Int) × Int -> Option (((List Int) × Int) ⊕ ((List Int) ⊕ Bool)))) (by exact go)
instance i115 : Rn cx (f115 relations query) 115 [(ssl eRelation relations), (.agg [(iT query.VariableCount), (ssl eAtom query.Atoms), (ssl eI query.Free)])] (fun (r : Bool) => (.bool r)) (fun r => []) := Rn.o (e := (
  (f134 relations).bind fun o1 =>
  (jn (QN (fun (y : Bool) => [(0, .v (ssl eRelation relations)), (3, .v (.ptr true [(iT query.VariableCount), (ssl eAtom query.Atoms), (ssl eI query.Free)])), (33, .v (.bool y))])) ((if ¬ (o1 = true) then
  some true
  else
  (f121 query.VariableCount 0 4).bind fun o6 =>
  (jn (QN (fun (y : Bool) => [(0, .v (ssl eRelation relations)), (3, .v (.ptr true [(iT query.VariableCount), (ssl eAtom query.Atoms), (ssl eI query.Free)])), (33, .v (.bool y))])) ((if ¬ (o6 = true) then
  some true
  else
  (f121 (query.Atoms.length : Int) 1 3).bind fun o11 =>
  (jn (QN (fun (y : Bool) => [(0, .v (ssl eRelation relations)), (3, .v (.ptr true [(iT query.VariableCount), (ssl eAtom query.Atoms), (ssl eI query.Free)])), (33, .v (.bool y))])) ((if ¬ (o11 = true) then
  some true
  else
  (f93 query.Free query.VariableCount).bind fun o16 =>
  some (decide (¬ (o16 = true)))) : Option (Bool))).bind fun x_13 =>
  some x_13) : Option (Bool))).bind fun x_8 =>
  some x_8) : Option (Bool))).bind fun x_3 =>
  if x_3 = true then
  some false
  else
  sn 2 5 (osl eI true ([])) <| 
  (iter (f115_0 relations query) ([], 0)).bind fun o => match o with
  | .inl occurring_55 =>
  some (decide ((occurring_55.length : Int) = query.VariableCount))
  | .inr x_56 =>
  some x_56 : Option Bool)) rfl (by exact go)
instance : Io0 cx 115 := ⟨rfl⟩
instance i54 : Rn cx (f54 relations atom) 54 [(ssl eRelation relations), (.agg [(iT atom.Relation), (ssl eI atom.Terms)])] (fun (r : (List Int)) => (osl eI true r)) (fun r => []) := Rn.o (e := (
  (f121 atom.Relation 0 (w64 ((relations.length : Int) - 1))).bind fun o1 =>
  (jn (QN (fun (y : Bool) => [(0, .v (ssl eRelation relations)), (3, .v (.ptr true [(iT atom.Relation), (ssl eI atom.Terms)])), (24, .v (.bool y))])) ((if ¬ (o1 = true) then
  some true
  else
  (ix relations atom.Relation).bind fun v_6 =>
  (f121 v_6.KeyLength 0 (atom.Terms.length : Int)).bind fun o8 =>
  some (decide (¬ (o8 = true)))) : Option (Bool))).bind fun x_3 =>
  if x_3 = true then
  sn 1 4 (osl eI true ([])) <| 
  some ([])
  else
  (ix relations atom.Relation).bind fun v_11 =>
  (cutL atom.Terms 0 v_11.KeyLength).bind fun l_13 =>
  (f55 ({ Relation := 0, Terms := l_13 } : Atom)).bind fun o15 =>
  some o15 : Option (List Int))) rfl (by exact go)
instance : Io0 cx 54 := ⟨rfl⟩
instance i95_0 {s0 : (List Int)} {g_f : Nat} {cp_f : List T} {f : Int -> Option Bool} [hp_f : ∀ x0, Rn cx (f x0) g_f ((iT x0) :: cp_f) (fun o => (.bool o)) (fun _ => [])] [Io0 cx g_f] : Lp cx (f95_0 s0 f) 19 L95_0 (fun (zs : Int) => [(0, .v (ssl eI s0)), (1, .v (.fn g_f cp_f)), (7, .v (iT (s0.length : Int))), (8, .v (iT zs))]) (QO (QX 0 (fun (y : Unit) => [])) (QR (fun (y : Int) => [(4, .v (iT y))]))) := Lp.of (by unfold f95_0; exact go)
instance i95 {s0 : (List Int)} {g_f : Nat} {cp_f : List T} {f : Int -> Option Bool} [hp_f : ∀ x0, Rn cx (f x0) g_f ((iT x0) :: cp_f) (fun o => (.bool o)) (fun _ => [])] [Io0 cx g_f] : Rn cx (f95 s0 f) 95 [(ssl eI s0), (.fn g_f cp_f)] (fun (r : Int) => (iT r)) (fun r => []) := Rn.o rfl (by unfold f95; exact go)
instance : Io0 cx 95 := ⟨rfl⟩
instance i179 {s0 : (List Int)} {g_f : Nat} {cp_f : List T} {f : Int -> Option Bool} [hp_f : ∀ x0, Rn cx (f x0) g_f ((iT x0) :: cp_f) (fun o => (.bool o)) (fun _ => [])] [Io0 cx g_f] : Rn cx (f179 s0 f) 179 [(ssl eI s0), (.fn g_f cp_f)] (fun (r : Bool) => (.bool r)) (fun r => []) := Rn.o rfl (by unfold f179; exact go)
instance : Io0 cx 179 := ⟨rfl⟩
instance i156_0 : Lp cx (f156_0 s0 v) 19 L156_0 (fun (zs : Int) => [(0, .v (ssl eI s0)), (1, .v (iT v)), (7, .v (iT (s0.length : Int))), (8, .v (iT zs))]) (QO (QX 0 (fun (y : Unit) => [])) (QR (fun (y : Int) => [(4, .v (iT y))]))) := Lp.of (by unfold f156_0; exact go)
instance i156 : Rn cx (f156 s0 v) 156 [(ssl eI s0), (iT v)] (fun (r : Int) => (iT r)) (fun r => []) := Rn.o rfl (by unfold f156; exact go)
instance : Io0 cx 156 := ⟨rfl⟩
instance i97 : Rn cx (f97 s0 v) 97 [(ssl eI s0), (iT v)] (fun (r : Bool) => (.bool r)) (fun r => []) := Rn.o rfl (by unfold f97; exact go)
instance : Io0 cx 97 := ⟨rfl⟩
instance i222 {c : (List Int)} : Rn cx (f222 n0 c) 222 [(iT n0), (.ptr false [(ssl eI c)])] (fun (r : Bool) => (.bool r)) (fun r => []) := Rn.o rfl (by unfold f222; exact go)
instance : Io0 cx 222 := ⟨rfl⟩
instance i181 : Rn cx (f181 a b) 181 [(ssl eI a), (ssl eI b)] (fun (r : Bool) => (.bool r)) (fun r => []) := Rn.o rfl (by unfold f181; exact go)
instance : Io0 cx 181 := ⟨rfl⟩
instance i208_1 {out_3 : (List Int)} : Lp cx (lw out_3 (f208_1 relations atoms skip)) 45 L208_1 (fun (zs : (List Int) × Int) => [(0, .v (ssl eRelation relations)), (1, .v (ssl eAtom atoms)), (2, .v (iT skip)), (9, .v (ssl eI out_3)), (10, .v (ssl eI zs.1)), (16, .v (ssl eAtom atoms)), (17, .v (iT (atoms.length : Int))), (18, .v (iT zs.2))]) (QX 2 (fun (y : (List Int)) => [(0, .v (ssl eRelation relations)), (1, .v (ssl eAtom atoms)), (2, .v (iT skip)), (9, .v (ssl eI out_3)), (10, .v (ssl eI y))])) := Lp.of (f := (fun
 | (larger_4, x_5) =>
  if x_5 < (atoms.length : Int) then
  (ix atoms x_5).bind fun v_7 =>
  (jn (QN (fun (y : Bool) => [(0, .v (ssl eRelation relations)), (1, .v (ssl eAtom atoms)), (2, .v (iT skip)), (9, .v (ssl eI out_3)), (10, .v (ssl eI larger_4)), (12, .v (.ptr true [(iT v_7.Relation), (ssl eI v_7.Terms)])), (16, .v (ssl eAtom atoms)), (17, .v (iT (atoms.length : Int))), (18, .v (iT x_5)), (32, .v (.bool y))])) ((if x_5 ≠ skip then
  (f54 relations v_7).bind fun o12 =>
  (f181 o12 larger_4).bind fun o14 =>
  some o14
  else
  some false) : Option (Bool))).bind fun x_9 =>
  (jn (QN (fun (y : (List Int)) => [(0, .v (ssl eRelation relations)), (1, .v (ssl eAtom atoms)), (2, .v (iT skip)), (9, .v (ssl eI out_3)), (10, .v (ssl eI y)), (16, .v (ssl eAtom atoms)), (17, .v (iT (atoms.length : Int))), (18, .v (iT x_5))])) ((if x_9 = true then
  (f55 v_7).bind fun o19 =>
  (f57 larger_4 o19).bind fun o21 =>
  sn 1 10 (ssl eI o21) <| 
  some o21
  else
  some larger_4) : Option (List Int))).bind fun larger_23 =>
  some (.inl (larger_23, w64 (x_5 + 1)))
  else
  some (.inr larger_4) : (List Int) × Int -> Option (((List Int) × Int) ⊕ (List Int)))) (by exact go)
instance i208_0 : Lp cx (f208_0 relations atoms skip) 45 L208_0 (fun (zs : (List Int)) => [(0, .v (ssl eRelation relations)), (1, .v (ssl eAtom atoms)), (2, .v (iT skip)), (9, .v (ssl eI zs))]) (QR (fun (y : (List Int)) => [(8, .v (ssl eI y))])) := Lp.of (f := (fun
 | out_3 =>
  (iter (lw out_3  (f208_1 relations atoms skip)) (out_3, 0)).bind fun larger_26 =>
  if (larger_26.length : Int) = (out_3.length : Int) then
  some (.inr out_3)
  else
  some (.inl larger_26) : (List Int) -> Option ((List Int) ⊕ (List Int)))) (by exact go)
instance i208 : Rn cx (f208 relations atoms skip variables) 208 [(ssl eRelation relations), (ssl eAtom atoms), (iT skip), (ssl eI variables)] (fun (r : (List Int)) => (ssl eI r)) (fun r => []) := Rn.o (e := (
  (f57 variables ([] : (List Int))).bind fun o1 =>
  sn 1 9 (ssl eI o1) <| 
  (iter (f208_0 relations atoms skip) o1).bind fun x_30 =>
  some x_30 : Option (List Int))) rfl (by exact go)
instance : Io0 cx 208 := ⟨rfl⟩
instance i56_0 : Lp cx (f56_0 a b) 25 L56_0 (fun (zs : (List Int) × Int) => [(1, .v (ssl eI b)), (5, .v (osl eI true zs.1)), (9, .v (ssl eI a)), (10, .v (iT (a.length : Int))), (11, .v (iT zs.2))]) (QX 0 (fun (y : (List Int)) => [(5, .v (osl eI true y))])) := Lp.of (f := (fun
 | (out_1, x_2) =>
  if x_2 < (a.length : Int) then
  (ix a x_2).bind fun v_4 =>
  (f97 b v_4).bind fun o6 =>
  (jn (QN (fun (y : (List Int)) => [(1, .v (ssl eI b)), (5, .v (osl eI true y)), (9, .v (ssl eI a)), (10, .v (iT (a.length : Int))), (11, .v (iT x_2))])) ((if ¬ (o6 = true) then
  (app 8 out_1 ([v_4])).bind fun l_11 =>
  some l_11
  else
  some out_1) : Option (List Int))).bind fun out_13 =>
  some (.inl (out_13, w64 (x_2 + 1)))
  else
  some (.inr out_1) : (List Int) × Int -> Option (((List Int) × Int) ⊕ (List Int)))) (by exact go)
instance i56 : Rn cx (f56 a b) 56 [(ssl eI a), (ssl eI b)] (fun (r : (List Int)) => (osl eI true r)) (fun r => []) := Rn.o (e := (
  sn 3 5 (osl eI true ([])) <| 
  (iter (f56_0 a b) ([], 0)).bind fun out_16 =>
  some out_16 : Option (List Int))) rfl (by exact go)
instance : Io0 cx 56 := ⟨rfl⟩
instance i168_1 {out_13 : (List Int)} : Lp cx (lw (relations, out_13) (f168_1 atoms o7)) 64 L168_1 (fun (zs : (List Int) × Int) => [(0, .v (ssl eRelation relations)), (1, .v (ssl eAtom atoms)), (9, .v (ssl eI o7)), (10, .v (ssl eI out_13)), (11, .v (ssl eI zs.1)), (36, .v (ssl eAtom atoms)), (37, .v (iT (atoms.length : Int))), (38, .v (iT zs.2))]) (QX 2 (fun (y : (List Int)) => [(0, .v (ssl eRelation relations)), (1, .v (ssl eAtom atoms)), (9, .v (ssl eI o7)), (10, .v (ssl eI out_13)), (11, .v (ssl eI y))])) := Lp.of (f := (fun
 | (larger_14, x_15) =>
  if x_15 < (atoms.length : Int) then
  (ix atoms x_15).bind fun v_17 =>
  (f55 v_17).bind fun o19 =>
  (f56 o19 o7).bind fun o21 =>
  (f56 o21 larger_14).bind fun o23 =>
  (jn (QN (fun (y : (List Int)) => [(0, .v (ssl eRelation relations)), (1, .v (ssl eAtom atoms)), (9, .v (ssl eI o7)), (10, .v (ssl eI out_13)), (11, .v (ssl eI y)), (36, .v (ssl eAtom atoms)), (37, .v (iT (atoms.length : Int))), (38, .v (iT x_15))])) ((if (o23.length : Int) < (o21.length : Int) then
  (f57 larger_14 o21).bind fun o28 =>
  sn 1 11 (ssl eI o28) <| 
  some o28
  else
  some larger_14) : Option (List Int))).bind fun larger_30 =>
  some (.inl (larger_30, w64 (x_15 + 1)))
  else
  some (.inr larger_14) : (List Int) × Int -> Option (((List Int) × Int) ⊕ (List Int)))) (by exact go)
instance i168_0 : Lp cx (lw relations (f168_0 atoms o7)) 64 L168_0 (fun (zs : (List Int)) => [(0, .v (ssl eRelation relations)), (1, .v (ssl eAtom atoms)), (9, .v (ssl eI o7)), (10, .v (ssl eI zs))]) (QR (fun (y : (List Int)) => [(0, .v (ssl eRelation relations)), (8, .v (ssl eI y))])) := Lp.of (f := (fun
 | out_13 =>
  (iter (lw (relations, out_13)  (f168_1 atoms o7)) (out_13, 0)).bind fun larger_33 =>
  if (larger_33.length : Int) = (out_13.length : Int) then
  some (.inr out_13)
  else
  some (.inl larger_33) : (List Int) -> Option ((List Int) ⊕ (List Int)))) (by exact go)
instance i168 {atom : Int} : Rn cx (f168 relations atoms free atom) 168 [(ssl eRelation relations), (ssl eAtom atoms), (ssl eI free), (iT atom)] (fun (r : (List Int)) => (ssl eI r)) (fun r => []) := Rn.o (e := (
  (ix atoms atom).bind fun v_1 =>
  (f54 relations v_1).bind fun o3 =>
  sn 0 24 (ssl eI o3) <| 
  sn 1 25 (osl (eL eI) false ([free, o3])) <| 
  (f122 ([free, o3])).bind fun o5 =>
  sn 0 26 (ssl eI o5) <| 
  (f208 relations atoms atom o5).bind fun o7 =>
  (f55 v_1).bind fun o9 =>
  (f56 o9 o7).bind fun o11 =>
  sn 1 10 (ssl eI o11) <| 
  (iter (lw relations  (f168_0 atoms o7)) o11).bind fun x_37 =>
  some x_37 : Option (List Int))) rfl (by exact go)
instance : Io0 cx 168 := ⟨rfl⟩
instance i120 {from3 : Int} : Rn cx (f120 relations atoms free from3 to) 120 [(ssl eRelation relations), (ssl eAtom atoms), (ssl eI free), (iT from3), (iT to)] (fun (r : Bool) => (.bool r)) (fun r => []) := Rn.o (e := (
  (ix atoms to).bind fun v_1 =>
  (f55 v_1).bind fun o3 =>
  (jn (QN (fun (y : Bool) => [(10, .v (.bool y))])) ((if from3 ≠ to then
  (f168 relations atoms free from3).bind fun o8 =>
  (f56 o3 o8).bind fun o10 =>
  some (decide ((o10.length : Int) < (o3.length : Int)))
  else
  some false) : Option (Bool))).bind fun x_5 =>
  some x_5 : Option Bool)) rfl (by exact go)
instance : Io0 cx 120 := ⟨rfl⟩
instance i116 {from2 : Int} : Rn cx (f116 relations query from2 to) 116 [(ssl eRelation relations), (.agg [(iT query.VariableCount), (ssl eAtom query.Atoms), (ssl eI query.Free)]), (iT from2), (iT to)] (fun (r : Bool) => (.bool r)) (fun r => []) := Rn.o (e := (
  (f115 relations query).bind fun o1 =>
  (jn (QN (fun (y : Bool) => [(8, .v (.bool y))])) ((if o1 = true then
  (f121 from2 0 (w64 ((query.Atoms.length : Int) - 1))).bind fun o6 =>
  (jn (QN (fun (y : Bool) => [(8, .v (.bool y))])) ((if o6 = true then
  (f121 to 0 (w64 ((query.Atoms.length : Int) - 1))).bind fun o11 =>
  (jn (QN (fun (y : Bool) => [(8, .v (.bool y))])) ((if o11 = true then
  (f120 relations query.Atoms query.Free from2 to).bind fun o16 =>
  some o16
  else
  some false) : Option (Bool))).bind fun x_13 =>
  some x_13
  else
  some false) : Option (Bool))).bind fun x_8 =>
  some x_8
  else
  some false) : Option (Bool))).bind fun x_3 =>
  some x_3 : Option Bool)) rfl (by exact go)
instance : Io0 cx 116 := ⟨rfl⟩
theorem r192 {s0 : (List Int)} {r : (List Int)} (h : f192 s0 = some r) : VJx cx (.ca 192 [(ssl eI s0)] (osl eI true r) []) := by
 unfold f192 at h
 refine ca_clone (X := noExt) (fun _ _ _ _ h => h) (fun _ _ _ _ h => h) rfl (by decide) rfl (cl_eq h) ?_
 refine Wc.start (V1 := [(0, .v (ssl eI s0))]) (by simp) ?_
 refine Wc.seq ?_
 obtain ⟨l_1, h2, h⟩ := bind_some h
 have gx2 := appT_arr2 (E := eI) (b := true) (b' := false) (y := false) h2 (by decide) (arr_sc rfl _)
 simp [-aI_app0, -aB_app0, -aS_app0, -aL_app0, -aLt_app1I, -aLf_app1I, -aLt_app10I, -aLf_app10I] at gx2
 refine Wc.evs (by conv => lhs; simp [-aI_app0, -aB_app0, -aS_app0, -aL_app0, -aI_app10, -aB_app10, -aS_app10, -aLt_app10I, -aLf_app10I, -aLt_app1I, -aLf_app1I, gx2]) ?_
 refine Wo.gh (vle_co (s := 2) (t1 := (osl eI true l_1)) rfl (by simp) (tle_own rfl) (by conv => lhs; simp)) ?_
 refine Wo.nil ?_
 refine Wc.ret (res_of (.inr rfl) ?_)
 cases h
 exact ⟨_, _, _, by conv => lhs; simp, by (conv => lhs; simp [cx, ioTab, List.range, List.range.loop]) <;> rfl, by first | rfl | simp [-aI_app0, -aB_app0, -aS_app0, -aL_app0, -aI_app10, -aB_app10, -aS_app10, -aLt_app10I, -aLf_app10I, -aLt_app1I, -aLf_app1I, gx2]⟩
instance i192 : Rn cx (f192 s0) 192 [(ssl eI s0)] (fun (r : (List Int)) => (osl eI true r)) (fun r => []) := ⟨fun _ h => r192 h⟩
instance : Io0 cx 192 := ⟨rfl⟩
instance i207_0 : Lp cx (lw (relations, query, skip) (f207_0 variables)) 38 L207_0 (fun (zs : (List Int) × Int) => [(0, .v (ssl eRelation relations)), (2, .v (iT skip)), (5, .v (.ptr true [(iT query.VariableCount), (ssl eAtom query.Atoms), (ssl eI query.Free)])), (9, .v (osl eI true zs.1)), (19, .v (ssl eI variables)), (20, .v (iT (variables.length : Int))), (21, .v (iT zs.2))]) (QX 0 (fun (y : (List Int)) => [(0, .v (ssl eRelation relations)), (2, .v (iT skip)), (5, .v (.ptr true [(iT query.VariableCount), (ssl eAtom query.Atoms), (ssl eI query.Free)])), (9, .v (osl eI true y))])) := Lp.of (f := (fun
 | (given_6, x_7) =>
  if x_7 < (variables.length : Int) then
  (ix variables x_7).bind fun v_9 =>
  (f121 v_9 0 3).bind fun o11 =>
  (jn (QN (fun (y : (List Int)) => [(0, .v (ssl eRelation relations)), (2, .v (iT skip)), (5, .v (.ptr true [(iT query.VariableCount), (ssl eAtom query.Atoms), (ssl eI query.Free)])), (9, .v (osl eI true y)), (19, .v (ssl eI variables)), (20, .v (iT (variables.length : Int))), (21, .v (iT x_7))])) ((if o11 = true then
  (app 8 given_6 ([v_9])).bind fun l_16 =>
  some l_16
  else
  some given_6) : Option (List Int))).bind fun given_18 =>
  some (.inl (given_18, w64 (x_7 + 1)))
  else
  some (.inr given_6) : (List Int) × Int -> Option (((List Int) × Int) ⊕ (List Int)))) (by exact go)
instance i207 : Rn cx (f207 relations query skip variables) 207 [(ssl eRelation relations), (.agg [(iT query.VariableCount), (ssl eAtom query.Atoms), (ssl eI query.Free)]), (iT skip), (ssl eI variables)] (fun (r : (List Int)) => (ssl eI r)) (fun r => []) := Rn.o (e := (
  (f115 relations query).bind fun o1 =>
  if ¬ (o1 = true) then
  sn 1 8 (osl eI true ([])) <| 
  some ([])
  else
  (f192 query.Free).bind fun o4 =>
  (iter (lw (relations, query, skip)  (f207_0 variables)) (o4, 0)).bind fun given_21 =>
  sn 5 36 (ssl eI given_21) <| 
  (f208 relations query.Atoms skip given_21).bind fun o22 =>
  some o22 : Option (List Int))) rfl (by exact go)
instance : Io0 cx 207 := ⟨rfl⟩
instance i167 {to : (List Int)} : Rn cx (f167 relations query from2 to) 167 [(ssl eRelation relations), (.agg [(iT query.VariableCount), (ssl eAtom query.Atoms), (ssl eI query.Free)]), (ssl eI from2), (ssl eI to)] (fun (r : Bool) => (.bool r)) (fun r => []) := Rn.o (e := (
  (f115 relations query).bind fun o1 =>
  (jn (QN (fun (y : Bool) => [(8, .v (.bool y))])) ((if o1 = true then
  (f207 relations query (-1) from2).bind fun o6 =>
  (f181 to o6).bind fun o8 =>
  some o8
  else
  some false) : Option (Bool))).bind fun x_3 =>
  some x_3 : Option Bool)) rfl (by exact go)
instance : Io0 cx 167 := ⟨rfl⟩
instance i117 {from2 : Int} : Rn cx (f117 relations query from2 to) 117 [(ssl eRelation relations), (.agg [(iT query.VariableCount), (ssl eAtom query.Atoms), (ssl eI query.Free)]), (iT from2), (iT to)] (fun (r : Bool) => (.bool r)) (fun r => []) := Rn.o (e := (
  (f116 relations query from2 to).bind fun o1 =>
  (jn (QN (fun (y : Bool) => [(0, .v (ssl eRelation relations)), (8, .v (.bool y))])) ((if o1 = true then
  (ix query.Atoms from2).bind fun v_6 =>
  (ix query.Atoms to).bind fun v_8 =>
  (f54 relations v_6).bind fun o10 =>
  (f54 relations v_8).bind fun o12 =>
  (f167 relations query o10 o12).bind fun o14 =>
  some o14
  else
  some false) : Option (Bool))).bind fun x_3 =>
  some x_3 : Option Bool)) rfl (by exact go)
instance : Io0 cx 117 := ⟨rfl⟩
theorem r118_1 {v_19 : Int} : ∀ zs zo, iter (f118_1 relations query v_19) zs = some zo -> Wc cx 77 (.loop L118_1) [(0, .v (ssl eRelation relations)), (3, .v (iT to)), (5, .v (.ptr true [(iT query.VariableCount), (ssl eAtom query.Atoms), (ssl eI query.Free)])), (10, .v (osl eB true zs.1)), (11, .v (.slo 1 (arr eI true zs.2.1))), (12, .v (iT v_19)), (49, .v (iT (query.Atoms.length : Int))), (50, .v (iT zs.2.2))] ((QX 2 (fun (y : (List Bool) × (List Int)) => [(0, .v (ssl eRelation relations)), (3, .v (iT to)), (5, .v (.ptr true [(iT query.VariableCount), (ssl eAtom query.Atoms), (ssl eI query.Free)])), (10, .v (osl eB true y.1)), (11, .v (.slo 1 (arr eI true y.2)))])) zo) := by
 intro zs0 zo0 zh0
 refine Wc.postG ?_
 refine iter_run (f := (f118_1 relations query v_19)) (P := fun zs zo => Wc cx 77 (.loop L118_1) [(0, .v (ssl eRelation relations)), (3, .v (iT to)), (5, .v (.ptr true [(iT query.VariableCount), (ssl eAtom query.Atoms), (ssl eI query.Free)])), (10, .v (osl eB true zs.1)), (11, .v (.slo 1 (arr eI true zs.2.1))), (12, .v (iT v_19)), (49, .v (iT (query.Atoms.length : Int))), (50, .v (iT zs.2.2))] (fun ex V => ∃ V2, VLe V V2 /\ (QX 2 (fun (y : (List Bool) × (List Int)) => [(0, .v (ssl eRelation relations)), (3, .v (iT to)), (5, .v (.ptr true [(iT query.VariableCount), (ssl eAtom query.Atoms), (ssl eI query.Free)])), (10, .v (osl eB true y.1)), (11, .v (.slo 1 (arr eI true y.2)))])) zo ex V2)) ?_ zh0
 rintro ⟨reached_23, todo_24, x_25⟩ zo zr h hk hx
 try dsimp only at hk ⊢
 rw [f118_1] at h
 refine Wc.loop ?_
 refine Wc.seq ?_
 refine Wc.evs (by conv => lhs; simp [-aI_app0, -aB_app0, -aS_app0, -aL_app0, -aI_app10, -aB_app10, -aS_app10, -aLt_app10I, -aLf_app10I, -aLt_app1I, -aLf_app1I]) ?_
 refine Wo.nil ?_
 refine Wc.seq ?_
 by_cases kc26 : x_25 < (query.Atoms.length : Int)
 ·rw [if_pos kc26] at h
  refine Wc.condT' (t := _) (by conv => lhs; simp) (by simpa using kc26) ?_
  refine Wc.seq ?_
  refine Wc.kil (by conv => lhs; simp) ?_
  refine Wc.skip ?_
  refine Wc.seq ?_
  refine Wc.block ?_
  refine Wc.seq ?_
  refine Wc.evs (by conv => lhs; simp [-aI_app0, -aB_app0, -aS_app0, -aL_app0, -aI_app10, -aB_app10, -aS_app10, -aLt_app10I, -aLf_app10I, -aLt_app1I, -aLf_app1I]) ?_
  refine Wo.nil ?_
  refine Wc.seq ?_
  obtain ⟨v_27, h28, h⟩ := bind_some h
  obtain ⟨ga28, gb28, gc28⟩ := ix_some h28
  have gn28 := ix_ne h28
  have gf28 := arr_fit (E := eB) (b := true) (i := x_25.toNat) (l := reached_23) (by omega)
  have gg28_0 := arr_get (E := eB) (b := true) (o := 0) gc28 (by decide)
  simp at gf28 gg28_0
  have gl28 : x_25.toNat < reached_23.length := by omega
  refine Wc.evk 6 (by conv => lhs; simp [-aI_app0, -aB_app0, -aS_app0, -aL_app0, -aI_app10, -aB_app10, -aS_app10, -aLt_app10I, -aLf_app10I, -aLt_app1I, -aLf_app1I, -getElem?_pos, List.getElem?_cons_zero, List.getElem?_cons_succ, ga28, gb28, gn28, gf28, gg28_0, gl28]) ?_
  obtain ⟨w30, h31, h⟩ := bind_some h
  refine Wo.monoG (Q := fun V => V = [(0, .v (ssl eRelation relations)), (3, .v (iT to)), (5, .v (.ptr true [(iT query.VariableCount), (ssl eAtom query.Atoms), (ssl eI query.Free)])), (10, .v (osl eB true reached_23)), (11, .v (.slo 1 (arr eI true todo_24))), (12, .v (iT v_19)), (13, .v (iT x_25)), (49, .v (iT (query.Atoms.length : Int))), (50, .v (iT x_25)), (64, .v (.bool w30))]) ?_ ?_
  ·by_cases knh31 : ¬ (v_27 = true)
   ·rw [if_pos knh31] at h31
    refine Wo.gh (vle_co (s := 58) (t1 := .bool true) rfl (by simp) (tle_bool (by simpa using knh31)) (by conv => lhs; simp)) ?_
    refine Wo.evs (by conv => lhs; simp [-aI_app0, -aB_app0, -aS_app0, -aL_app0, -aI_app10, -aB_app10, -aS_app10, -aLt_app10I, -aLf_app10I, -aLt_app1I, -aLf_app1I, -getElem?_pos, List.getElem?_cons_zero, List.getElem?_cons_succ, ga28, gb28, gn28, gf28, gg28_0, gl28]) ?_
    obtain ⟨o32, h33, h31⟩ := bind_some h31
    refine Wo.call (by simp [-aI_app0, -aB_app0, -aS_app0, -aL_app0, -aI_app10, -aB_app10, -aS_app10, -aLt_app10I, -aLf_app10I, -aLt_app1I, -aLf_app1I, -getElem?_pos, List.getElem?_cons_zero, List.getElem?_cons_succ, ga28, gb28, gn28, gf28, gg28_0, gl28]) rfl (by (conv => lhs; simp [-aI_app0, -aB_app0, -aS_app0, -aL_app0, -aI_app10, -aB_app10, -aS_app10, -aLt_app10I, -aLf_app10I, -aLt_app1I, -aLf_app1I, -getElem?_pos, List.getElem?_cons_zero, List.getElem?_cons_succ, ga28, gb28, gn28, gf28, gg28_0, gl28, cx, ioTab]) <;> rfl) (run_ h33) (by simp) (by simp) (by (conv => lhs; simp [-aI_app0, -aB_app0, -aS_app0, -aL_app0, -aI_app10, -aB_app10, -aS_app10, -aLt_app10I, -aLf_app10I, -aLt_app1I, -aLf_app1I, -getElem?_pos, List.getElem?_cons_zero, List.getElem?_cons_succ, ga28, gb28, gn28, gf28, gg28_0, gl28, cx, ioTab]) <;> rfl) (by (conv => lhs; simp [-aI_app0, -aB_app0, -aS_app0, -aL_app0, -aI_app10, -aB_app10, -aS_app10, -aLt_app10I, -aLf_app10I, -aLt_app1I, -aLf_app1I, -getElem?_pos, List.getElem?_cons_zero, List.getElem?_cons_succ, ga28, gb28, gn28, gf28, gg28_0, gl28]) <;> rfl) ?_
    refine Wo.evs (by conv => lhs; simp [-aI_app0, -aB_app0, -aS_app0, -aL_app0, -aI_app10, -aB_app10, -aS_app10, -aLt_app10I, -aLf_app10I, -aLt_app1I, -aLf_app1I, -getElem?_pos, List.getElem?_cons_zero, List.getElem?_cons_succ, ga28, gb28, gn28, gf28, gg28_0, gl28]) ?_
    refine Wo.nil ?_
    cases h31
    refine ⟨_, (VLe.refl _), ?_⟩
    first | rfl | simp [-aI_app0, -aB_app0, -aS_app0, -aL_app0, -aI_app10, -aB_app10, -aS_app10, -aLt_app10I, -aLf_app10I, -aLt_app1I, -aLf_app1I, -getElem?_pos, List.getElem?_cons_zero, List.getElem?_cons_succ, ga28, gb28, gn28, gf28, gg28_0, gl28]
   ·rw [if_neg knh31] at h31
    refine Wo.gh (vle_co (s := 58) (t1 := .bool false) rfl (by simp) (tle_bool (by simpa using knh31)) (by conv => lhs; simp)) ?_
    refine Wo.evs (by conv => lhs; simp [-aI_app0, -aB_app0, -aS_app0, -aL_app0, -aI_app10, -aB_app10, -aS_app10, -aLt_app10I, -aLf_app10I, -aLt_app1I, -aLf_app1I, -getElem?_pos, List.getElem?_cons_zero, List.getElem?_cons_succ, ga28, gb28, gn28, gf28, gg28_0, gl28]) ?_
    refine Wo.nil ?_
    cases h31
    refine ⟨_, (VLe.refl _), ?_⟩
    first | rfl | simp [-aI_app0, -aB_app0, -aS_app0, -aL_app0, -aI_app10, -aB_app10, -aS_app10, -aLt_app10I, -aLf_app10I, -aLt_app1I, -aLf_app1I, -getElem?_pos, List.getElem?_cons_zero, List.getElem?_cons_succ, ga28, gb28, gn28, gf28, gg28_0, gl28]
  ·rintro V rfl
   generalize w30 = x_29 at *
   try dsimp only at h
   obtain ⟨w34, h35, h⟩ := bind_some h
   refine Wc.monoG (Q := (QN (fun (y : (List Bool) × (List Int)) => [(0, .v (ssl eRelation relations)), (3, .v (iT to)), (5, .v (.ptr true [(iT query.VariableCount), (ssl eAtom query.Atoms), (ssl eI query.Free)])), (10, .v (osl eB true y.1)), (11, .v (.slo 1 (arr eI true y.2))), (12, .v (iT v_19)), (49, .v (iT (query.Atoms.length : Int))), (50, .v (iT x_25))])) w34) ?_ ?_
   ·skip
    by_cases kc36 : x_29 = true
    ·rw [if_pos kc36] at h35
     refine Wc.condT' (t := _) (by conv => lhs; simp) (by simpa using kc36) ?_
     refine Wc.seq ?_
     refine Wc.kil (by conv => lhs; simp) ?_
     refine Wc.seq ?_
     have gy37 := lay_set (E := eB) (b := true) (i := x_25.toNat) (l := reached_23) true (by omega)
     simp at gy37
     refine Wc.evs (by conv => lhs; simp [-aI_app0, -aB_app0, -aS_app0, -aL_app0, -aI_app10, -aB_app10, -aS_app10, -aLt_app10I, -aLf_app10I, -aLt_app1I, -aLf_app1I, -getElem?_pos, List.getElem?_cons_zero, List.getElem?_cons_succ, ga28, gb28, gn28, gf28, gg28_0, gl28, gy37]) ?_
     refine Wo.nil ?_
     obtain ⟨l_38, h39, h35⟩ := bind_some h35
     refine Wc.evk 3 (by conv => lhs; simp [-aI_app0, -aB_app0, -aS_app0, -aL_app0, -aI_app10, -aB_app10, -aS_app10, -aLt_app10I, -aLf_app10I, -aLt_app1I, -aLf_app1I]) ?_
     refine Wo.sem (by simp) (by simp) (by simp) (sem_sappL (E := eI) (b' := false) h39 (by simp) (by decide) rfl (by (conv => lhs; simp) <;> rfl) (by (conv => lhs; simp) <;> rfl)) (by conv => lhs; simp) ?_
     refine Wo.evs (by conv => lhs; simp [-aI_app0, -aB_app0, -aS_app0, -aL_app0, -aI_app10, -aB_app10, -aS_app10, -aLt_app10I, -aLf_app10I, -aLt_app1I, -aLf_app1I]) ?_
     refine Wo.gh (vle_co (s := 11) (t1 := (osl eI true l_38)) rfl (by simp) (tle_own rfl) (by conv => lhs; simp)) ?_
     refine Wo.nil ?_
     cases h35
     exact ⟨_, (vle_of (vle_pf (s := 11) (t1 := (.slo 1 (arr eI true l_38))) rfl (by simp) (PF.le (TLe.slo rfl)) (by conv => lhs; simp)) (VLe.refl _)), rfl, by first | rfl | simp [-aI_app0, -aB_app0, -aS_app0, -aL_app0, -aI_app10, -aB_app10, -aS_app10, -aLt_app10I, -aLf_app10I, -aLt_app1I, -aLf_app1I]⟩
    ·rw [if_neg kc36] at h35
     refine Wc.condF' (t := _) (by conv => lhs; simp) (by simpa using kc36) ?_
     refine Wc.seq ?_
     refine Wc.kil (by conv => lhs; simp) ?_
     refine Wc.skip ?_
     cases h35
     exact ⟨_, (VLe.refl _), rfl, by first | rfl | simp [-aI_app0, -aB_app0, -aS_app0, -aL_app0, -aI_app10, -aB_app10, -aS_app10, -aLt_app10I, -aLf_app10I, -aLt_app1I, -aLf_app1I, -getElem?_pos, List.getElem?_cons_zero, List.getElem?_cons_succ, ga28, gb28, gn28, gf28, gg28_0, gl28]⟩
   ·skip
    obtain ⟨reached_40, todo_41⟩ := w34
    rintro ex V ⟨rfl, rfl⟩
    dsimp only at h ⊢
    refine Wc.evs (by conv => lhs; simp [-aI_app0, -aB_app0, -aS_app0, -aL_app0, -aI_app10, -aB_app10, -aS_app10, -aLt_app10I, -aLf_app10I, -aLt_app1I, -aLf_app1I]) ?_
    refine Wo.nil ?_
    refine Wc.start (V1 := [(0, .v (ssl eRelation relations)), (3, .v (iT to)), (5, .v (.ptr true [(iT query.VariableCount), (ssl eAtom query.Atoms), (ssl eI query.Free)])), (10, .v (osl eB true reached_40)), (11, .v (.slo 1 (arr eI true todo_41))), (12, .v (iT v_19)), (49, .v (iT (query.Atoms.length : Int))), (50, .v (iT (w64 (x_25 + 1))))]) ?_ (hk _ (Option.some.inj h).symm)
    first | rfl | simp [-aI_app0, -aB_app0, -aS_app0, -aL_app0, -aI_app10, -aB_app10, -aS_app10, -aLt_app10I, -aLf_app10I, -aLt_app1I, -aLf_app1I]
 ·rw [if_neg kc26] at h
  refine Wc.condF' (t := _) (by conv => lhs; simp) (by simpa using kc26) ?_
  refine Wc.seq ?_
  refine Wc.kil (by conv => lhs; simp) ?_
  refine Wc.exit ?_
  have e0 := hx _ (Option.some.inj h).symm
  subst e0
  exact ⟨_, (VLe.refl _), rfl, by first | rfl | simp [-aI_app0, -aB_app0, -aS_app0, -aL_app0, -aI_app10, -aB_app10, -aS_app10, -aLt_app10I, -aLf_app10I, -aLt_app1I, -aLf_app1I]⟩
theorem r118_0 : ∀ zs zo, iter (f118_0 relations query) zs = some zo -> Wc cx 77 (.loop L118_0) [(0, .v (ssl eRelation relations)), (3, .v (iT to)), (5, .v (.ptr true [(iT query.VariableCount), (ssl eAtom query.Atoms), (ssl eI query.Free)])), (10, .v (osl eB true zs.1)), (11, .v (.slo 1 (arr eI true zs.2)))] ((QX 0 (fun (y : (List Bool)) => [(3, .v (iT to)), (10, .v (osl eB true y))])) zo) := by
 intro zs0 zo0 zh0
 refine Wc.postG ?_
 refine iter_run (f := (f118_0 relations query)) (P := fun zs zo => Wc cx 77 (.loop L118_0) [(0, .v (ssl eRelation relations)), (3, .v (iT to)), (5, .v (.ptr true [(iT query.VariableCount), (ssl eAtom query.Atoms), (ssl eI query.Free)])), (10, .v (osl eB true zs.1)), (11, .v (.slo 1 (arr eI true zs.2)))] (fun ex V => ∃ V2, VLe V V2 /\ (QX 0 (fun (y : (List Bool)) => [(3, .v (iT to)), (10, .v (osl eB true y))])) zo ex V2)) ?_ zh0
 rintro ⟨reached_16, todo_17⟩ zo zr h hk hx
 try dsimp only at hk ⊢
 rw [f118_0] at h
 refine Wc.loop ?_
 refine Wc.seq ?_
 refine Wc.seq ?_
 refine Wc.evk 1 (by conv => lhs; simp [-aI_app0, -aB_app0, -aS_app0, -aL_app0, -aI_app10, -aB_app10, -aS_app10, -aLt_app10I, -aLf_app10I, -aLt_app1I, -aLf_app1I]) ?_
 refine Wo.sem (by simp) (by simp) (by simp) (sem_slenL (E := eI) (l := todo_17) (by (conv => lhs; simp) <;> rfl)) (by conv => lhs; simp) ?_
 refine Wo.evs (by conv => lhs; simp [-aI_app0, -aB_app0, -aS_app0, -aL_app0, -aI_app10, -aB_app10, -aS_app10, -aLt_app10I, -aLf_app10I, -aLt_app1I, -aLf_app1I]) ?_
 refine Wo.nil ?_
 by_cases kc18 : (todo_17.length : Int) > 0
 ·rw [if_pos kc18] at h
  refine Wc.condT' (t := _) (by conv => lhs; simp) (by simpa using kc18) ?_
  refine Wc.seq ?_
  refine Wc.kil (by conv => lhs; simp) ?_
  refine Wc.skip ?_
  refine Wc.block ?_
  refine Wc.seq ?_
  refine Wc.reg ?_
  obtain ⟨v_19, h20, h⟩ := bind_some h
  obtain ⟨ga20, gb20, gc20⟩ := ix_some h20
  have gn20 := ix_ne h20
  have gd20 := arr_at (E := eI) (b := false) gc20
  simp at gd20
  have gk20 : 0 < todo_17.length := by omega
  refine Wo.lend (k := 3) (s := 11) [5] [(0, .v (ssl eRelation relations)), (3, .v (iT to)), (5, .v (.ptr true [(iT query.VariableCount), (ssl eAtom query.Atoms), (ssl eI query.Free)])), (10, .v (osl eB true reached_16)), (11, .v (.slo 1 (arr eI true todo_17))), (44, .v (iT v_19))] rfl (by simp) (by simp) ?_ ?_
  ·skip
   refine Wo.evs (by conv => lhs; simp [-aI_app0, -aB_app0, -aS_app0, -aL_app0, -aI_app10, -aB_app10, -aS_app10, -aLt_app10I, -aLf_app10I, -aLt_app1I, -aLf_app1I, gb20, gn20, gd20, gk20]) ?_
   refine Wo.nil ?_
   simp
  refine Wo.evs (by conv => lhs; simp [-aI_app0, -aB_app0, -aS_app0, -aL_app0, -aI_app10, -aB_app10, -aS_app10, -aLt_app10I, -aLf_app10I, -aLt_app1I, -aLf_app1I, gb20, gn20, gd20, gk20]) ?_
  refine Wo.nil ?_
  refine Wc.seq ?_
  obtain ⟨l_21, h22, h⟩ := bind_some h
  refine Wc.evk 1 (by conv => lhs; simp [-aI_app0, -aB_app0, -aS_app0, -aL_app0, -aI_app10, -aB_app10, -aS_app10, -aLt_app10I, -aLf_app10I, -aLt_app1I, -aLf_app1I]) ?_
  refine Wo.sem (by simp) (by simp) (by simp) (sem_slideL (E := eI) h22 (by simp) (by (conv => lhs; simp) <;> rfl) (by simp)) (by conv => lhs; simp) ?_
  refine Wo.evs (by conv => lhs; simp [-aI_app0, -aB_app0, -aS_app0, -aL_app0, -aI_app10, -aB_app10, -aS_app10, -aLt_app10I, -aLf_app10I, -aLt_app1I, -aLf_app1I]) ?_
  refine Wo.nil ?_
  refine Wc.seq ?_
  refine Wc.evs (by conv => lhs; simp [-aI_app0, -aB_app0, -aS_app0, -aL_app0, -aI_app10, -aB_app10, -aS_app10, -aLt_app10I, -aLf_app10I, -aLt_app1I, -aLf_app1I]) ?_
  refine Wo.nil ?_
  refine Wc.block ?_
  obtain ⟨w42, h43, h⟩ := bind_some h
  refine Wc.start (V1 := [(0, .v (ssl eRelation relations)), (3, .v (iT to)), (5, .v (.ptr true [(iT query.VariableCount), (ssl eAtom query.Atoms), (ssl eI query.Free)])), (10, .v (osl eB true reached_16)), (11, .v (.slo 1 (arr eI true l_21))), (12, .v (iT v_19)), (49, .v (iT (query.Atoms.length : Int))), (50, .v (iT 0))]) (by first | rfl | simp [-aI_app0, -aB_app0, -aS_app0, -aL_app0, -aI_app10, -aB_app10, -aS_app10, -aLt_app10I, -aLf_app10I, -aLt_app1I, -aLf_app1I]) ?_
  refine Wc.mono (r118_1 _ _ h43) ?_
  obtain ⟨reached_44, todo_45⟩ := w42
  rintro ex V ⟨rfl, rfl⟩
  dsimp only at h ⊢
  refine Wc.start (V1 := [(0, .v (ssl eRelation relations)), (3, .v (iT to)), (5, .v (.ptr true [(iT query.VariableCount), (ssl eAtom query.Atoms), (ssl eI query.Free)])), (10, .v (osl eB true reached_44)), (11, .v (.slo 1 (arr eI true todo_45)))]) ?_ (hk _ (Option.some.inj h).symm)
  first | rfl | simp [-aI_app0, -aB_app0, -aS_app0, -aL_app0, -aI_app10, -aB_app10, -aS_app10, -aLt_app10I, -aLf_app10I, -aLt_app1I, -aLf_app1I]
 ·rw [if_neg kc18] at h
  refine Wc.condF' (t := _) (by conv => lhs; simp) (by simpa using kc18) ?_
  refine Wc.seq ?_
  refine Wc.kil (by conv => lhs; simp) ?_
  refine Wc.exit ?_
  have e0 := hx _ (Option.some.inj h).symm
  subst e0
  exact ⟨_, (VLe.refl _), rfl, by first | rfl | simp [-aI_app0, -aB_app0, -aS_app0, -aL_app0, -aI_app10, -aB_app10, -aS_app10, -aLt_app10I, -aLf_app10I, -aLt_app1I, -aLf_app1I]⟩
end
end Go.Proofs.YtjfeimhiiomgoaaGreatH
