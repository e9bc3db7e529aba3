import Derived.Test.YtcllfkplpdppiaaGreatTg1a
set_option maxHeartbeats 2000000
set_option linter.unusedVariables false
set_option linter.unusedSimpArgs false
set_option linter.defProp false
set_option linter.unusedSectionVars false
set_option maxRecDepth 100000
namespace Go.Proofs.YtcllfkplpdppiaaGreatH
open Go
noncomputable section
instance i191 : ∀ (n : Nat) d q k vals facts, Rn cx (f191 n d q k vals facts) 191 [(.agg [(ssl eRelation d.Relations), (ssl eFact d.Facts)]), (.agg [(iT q.VariableCount), (ssl eAtom q.Atoms), (ssl eI q.Free)]), (iT k), (ssl eI vals), (ssl eI facts)] (fun (r : (List Embedding)) => (osl eEmbedding true r)) (fun r => []) := by
 intro n
 induction n with
 | zero => intro d q k vals facts; exact ⟨fun r h => by simp [f191] at h⟩
 | succ n ih =>
  intro d q k vals facts
  refine Rn.of (e := (
   if k = (q.Atoms.length : Int) then
   (app 8 ([]) vals).bind fun l_2 =>
   (app 8 ([]) facts).bind fun l_4 =>
   sn 6 22 (osl eI true l_2) <| 
   sn 0 25 (osl eI true l_4) <| 
   sn 3 10 (osl eEmbedding true ([({ Values := l_2, Facts := l_4 } : Embedding)])) <| 
   some ([({ Values := l_2, Facts := l_4 } : Embedding)])
   else
   sn 2 11 (osl eEmbedding true ([])) <| 
   (iter (f191_0 d q k vals facts (f191 n)) ([], 0)).bind fun out_29 =>
   some out_29 : Option (List Embedding))) rfl rfl (by decide) rfl ?_
  exact go
instance : Io0 cx 191 := ⟨rfl⟩
instance i132 {d : Database} {q : Query} : Rn cx (f132 d q) 132 [(.agg [(ssl eRelation d.Relations), (ssl eFact d.Facts)]), (.agg [(iT q.VariableCount), (ssl eAtom q.Atoms), (ssl eI q.Free)])] (fun (r : (List Embedding)) => (osl eEmbedding true r)) (fun r => []) := by
 refine Rn.of (e := (
  (f88 d q).bind fun o1 =>
  if ¬ (o1 = true) then
  sn 2 4 (osl eEmbedding true ([])) <| 
  some ([])
  else
  sn 5 15 (osl eI true ([])) <| 
  (f75 q.VariableCount).bind fun o4 =>
  (f191 64 d q 0 o4 ([])).bind fun o6 =>
  some o6 : Option (List Embedding))) rfl rfl (by decide) rfl ?_
 exact go
instance : Io0 cx 132 := ⟨rfl⟩
instance i199_1 {l : (List Int)} {out_1 : (List Int)} {i_2 : Int} : Lp cx (f199_1 l out_1 i_2) 47 L199_1 (fun (zs : Int) => [(0, .v (ssl eI l)), (3, .v (ssl eI out_1)), (4, .v (iT i_2)), (5, .v (iT zs))]) (QX 2 (fun (y : Int) => [(0, .v (ssl eI l)), (3, .v (ssl eI out_1)), (4, .v (iT i_2)), (5, .v (iT y))])) := by
 refine Lp.of (f := (fun
 | k_4 =>
  (jn (QN (fun (y : Bool) => [(0, .v (ssl eI l)), (3, .v (ssl eI out_1)), (4, .v (iT i_2)), (5, .v (iT k_4)), (28, .v (.bool y))])) ((if k_4 > 0 then
  (ix out_1 (w64 (k_4 - 1))).bind fun v_8 =>
  (ix l i_2).bind fun v_10 =>
  some (decide (v_8 > v_10))
  else
  some false) : Option (Bool))).bind fun x_5 =>
  if x_5 = true then
  some (.inl (w64 (k_4 - 1)))
  else
  some (.inr k_4) : Int → Option (Int ⊕ Int))) ?_
 exact go
instance i199_0 {l : (List Int)} : Lp cx (f199_0 l) 47 L199_0 (fun (zs : (List Int) × Int) => [(0, .v (ssl eI l)), (3, .v (ssl eI zs.1)), (4, .v (iT zs.2))]) (QX 0 (fun (y : (List Int)) => [(3, .v (ssl eI y))])) := by
 refine Lp.of (f := (fun
 | (out_1, i_2) =>
  if i_2 < (l.length : Int) then
  (iter (f199_1 l out_1 i_2) (out_1.length : Int)).bind fun k_15 =>
  (cutL out_1 0 k_15).bind fun l_16 =>
  (ix l i_2).bind fun v_18 =>
  (cutL out_1 k_15 out_1.length).bind fun l_20 =>
  (app 8 ([]) l_16).bind fun l_22 =>
  (app 8 l_22 ([v_18])).bind fun l_24 =>
  (app 8 l_24 l_20).bind fun l_26 =>
  sn 16 3 (osl eI true l_26) <| 
  sn 0 3 (ssl eI l_26) <| 
  some (.inl (l_26, w64 (i_2 + 1)))
  else
  some (.inr out_1) : (List Int) × Int → Option (((List Int) × Int) ⊕ (List Int)))) ?_
 exact go
instance i199 {l : (List Int)} : Rn cx (f199 l) 199 [(ssl eI l)] (fun (r : (List Int)) => (ssl eI r)) (fun r => []) := by
 refine Rn.of (e := (
  sn 3 3 (osl eI true ([])) <| 
  sn 0 3 (ssl eI ([])) <| 
  (iter (f199_0 l) ([], 0)).bind fun out_30 =>
  some out_30 : Option (List Int))) rfl rfl (by decide) rfl ?_
 exact go
instance : Io0 cx 199 := ⟨rfl⟩
instance i142_0 {d : Database} {o1 : (List Embedding)} : Lp cx (f142_0 d o1) 33 L142_0 (fun (zs : (List (List Int)) × Int) => [(2, .v (.ptr true [(ssl eRelation d.Relations), (ssl eFact d.Facts)])), (5, .v (osl (eL eI) false zs.1)), (6, .v (ssl eEmbedding o1)), (7, .v (iT zs.2))]) (QX 0 (fun (y : (List (List Int))) => [(5, .v (osl (eL eI) false y))])) := by
 refine Lp.of (f := (fun
 | (out_3, i_4) =>
  if i_4 < (o1.length : Int) then
  (ix o1 i_4).bind fun v_6 =>
  (f199 v_6.Facts).bind fun o8 =>
  (f200 d o8).bind fun o10 =>
  (jn (QN (fun (y : (List (List Int))) => [(2, .v (.ptr true [(ssl eRelation d.Relations), (ssl eFact d.Facts)])), (5, .v (osl (eL eI) false y)), (6, .v (ssl eEmbedding o1)), (7, .v (iT i_4))])) ((if o10 = true then
  (app 24 out_3 ([o8])).bind fun l_15 =>
  some l_15
  else
  some out_3) : Option (List (List Int)))).bind fun out_17 =>
  some (.inl (out_17, w64 (i_4 + 1)))
  else
  some (.inr out_3) : (List (List Int)) × Int → Option (((List (List Int)) × Int) ⊕ (List (List Int))))) ?_
 exact go
instance i142 {d : Database} {q : Query} : Rn cx (f142 d q) 142 [(.agg [(ssl eRelation d.Relations), (ssl eFact d.Facts)]), (.agg [(iT q.VariableCount), (ssl eAtom q.Atoms), (ssl eI q.Free)])] (fun (r : (List (List Int))) => (osl (eL eI) false r)) (fun r => []) := by
 refine Rn.of (e := (
  sn 5 5 (osl (eL eI) false ([])) <| 
  (f132 d q).bind fun o1 =>
  sn 1 6 (ssl eEmbedding o1) <| 
  (iter (f142_0 d o1) ([], 0)).bind fun out_20 =>
  some out_20 : Option (List (List Int)))) rfl rfl (by decide) rfl ?_
 exact go
instance : Io0 cx 142 := ⟨rfl⟩
instance i95_0 {l : (List Int)} {x : Int} : Lp cx (f95_0 l x) 18 L95_0 (fun (zs : Int) => [(0, .v (ssl eI l)), (1, .v (iT x)), (5, .v (iT zs))]) (QO (QX 0 (fun (y : Unit) => [])) (QR (fun (y : Bool) => [(4, .v (.bool y))]))) := by
 refine Lp.of ?_; unfold f95_0; exact go
instance i95 {l : (List Int)} {x : Int} : Rn cx (f95 l x) 95 [(ssl eI l), (iT x)] (fun (r : Bool) => (.bool r)) (fun r => []) := by
 refine Rn.of rfl rfl (by decide) rfl ?_; unfold f95; exact go
instance : Io0 cx 95 := ⟨rfl⟩
instance i201_1 {l : (List (List Int))} {s1 : (List Int)} {i_1 : Int} : Lp cx (f201_1 l s1 i_1) 36 L201_1 (fun (zs : Bool × Int) => [(0, .v (ssl (eL eI) l)), (1, .v (ssl eI s1)), (5, .v (iT i_1)), (6, .v (.bool zs.1)), (7, .v (iT zs.2))]) (QX 2 (fun (y : Bool) => [(0, .v (ssl (eL eI) l)), (1, .v (ssl eI s1)), (5, .v (iT i_1)), (6, .v (.bool y))])) := by
 refine Lp.of (f := (fun
 | (all_3, k_4) =>
  (ix l i_1).bind fun v_5 =>
  if k_4 < (v_5.length : Int) then
  (jn (QN (fun (y : Bool) => [(0, .v (ssl (eL eI) l)), (1, .v (ssl eI s1)), (5, .v (iT i_1)), (6, .v (.bool y)), (7, .v (iT k_4))])) ((if all_3 = true then
  (ix v_5 k_4).bind fun v_11 =>
  (f95 s1 v_11).bind fun o13 =>
  some o13
  else
  some false) : Option (Bool))).bind fun all_8 =>
  some (.inl (all_8, w64 (k_4 + 1)))
  else
  some (.inr all_3) : Bool × Int → Option ((Bool × Int) ⊕ Bool))) ?_
 exact go
instance i201_0 {l : (List (List Int))} {s1 : (List Int)} : Lp cx (f201_0 l s1) 36 L201_0 (fun (zs : Int) => [(0, .v (ssl (eL eI) l)), (1, .v (ssl eI s1)), (5, .v (iT zs))]) (QO (QX 0 (fun (y : Unit) => [])) (QR (fun (y : Bool) => [(4, .v (.bool y))]))) := by
 refine Lp.of ?_; unfold f201_0; exact go
instance i201 {l : (List (List Int))} {s1 : (List Int)} : Rn cx (f201 l s1) 201 [(ssl (eL eI) l), (ssl eI s1)] (fun (r : Bool) => (.bool r)) (fun r => []) := by
 refine Rn.of rfl rfl (by decide) rfl ?_; unfold f201; exact go
instance : Io0 cx 201 := ⟨rfl⟩
instance i144 {l : (List (List Int))} {s1 : (List Int)} : Rn cx (f144 l s1) 144 [(ssl (eL eI) l), (ssl eI s1)] (fun (r : Bool) => (.bool r)) (fun r => []) := by
 refine Rn.of rfl rfl (by decide) rfl ?_; unfold f144; exact go
instance : Io0 cx 144 := ⟨rfl⟩
instance i203_1 {l : (List (List Int))} {blocks : (List (List Int))} {s2 : (List Int)} {i_1 : Int} : Lp cx (lw l (f203_1 blocks s2 i_1)) 67 L203_1 (fun (zs : Bool × Int) => [(0, .v (ssl (eL eI) l)), (1, .v (ssl (eL eI) blocks)), (2, .v (ssl eI s2)), (7, .v (iT i_1)), (8, .v (.bool zs.1)), (9, .v (iT zs.2))]) (QX 2 (fun (y : Bool) => [(0, .v (ssl (eL eI) l)), (1, .v (ssl (eL eI) blocks)), (2, .v (ssl eI s2)), (7, .v (iT i_1)), (8, .v (.bool y))])) := by
 refine Lp.of (f := (fun
 | (is_3, k_4) =>
  (ix blocks i_1).bind fun v_5 =>
  if k_4 < (v_5.length : Int) then
  (jn (QN (fun (y : Bool) => [(0, .v (ssl (eL eI) l)), (1, .v (ssl (eL eI) blocks)), (2, .v (ssl eI s2)), (7, .v (iT i_1)), (8, .v (.bool y)), (9, .v (iT k_4))])) ((if is_3 = true then
  (ix v_5 k_4).bind fun v_11 =>
  (f95 s2 v_11).bind fun o13 =>
  some (decide (¬ (o13 = true)))
  else
  some false) : Option (Bool))).bind fun is_8 =>
  some (.inl (is_8, w64 (k_4 + 1)))
  else
  some (.inr is_3) : Bool × Int → Option ((Bool × Int) ⊕ Bool))) ?_
 exact go
instance i203_2 {l : (List (List Int))} {blocks : (List (List Int))} {s2 : (List Int)} {i_1 : Int} : Lp cx (f203_2 l blocks s2 i_1) 67 L203_2 (fun (zs : Bool × Int) => [(0, .v (ssl (eL eI) l)), (1, .v (ssl (eL eI) blocks)), (2, .v (ssl eI s2)), (7, .v (iT i_1)), (8, .v (.bool zs.1)), (10, .v (iT zs.2))]) (QX 4 (fun (y : Bool) => [(0, .v (ssl (eL eI) l)), (1, .v (ssl (eL eI) blocks)), (2, .v (ssl eI s2)), (7, .v (iT i_1)), (8, .v (.bool y))])) := by
 refine Lp.of (f := (fun
 | (is_18, k_19) =>
  (ix blocks i_1).bind fun v_20 =>
  (jn (QN (fun (y : Bool) => [(0, .v (ssl (eL eI) l)), (1, .v (ssl (eL eI) blocks)), (2, .v (ssl eI s2)), (7, .v (iT i_1)), (8, .v (.bool is_18)), (10, .v (iT k_19)), (48, .v (.bool y))])) ((if k_19 < (v_20.length : Int) then
  some is_18
  else
  some false) : Option (Bool))).bind fun x_22 =>
  if x_22 = true then
  (ix v_20 k_19).bind fun v_26 =>
  (app 8 ([]) s2).bind fun l_28 =>
  (app 8 l_28 ([v_26])).bind fun l_30 =>
  sn 13 63 (osl eI true l_30) <| 
  (f144 l l_30).bind fun o32 =>
  some (.inl (o32, w64 (k_19 + 1)))
  else
  some (.inr is_18) : Bool × Int → Option ((Bool × Int) ⊕ Bool))) ?_
 exact go
instance i203_0 {l : (List (List Int))} {blocks : (List (List Int))} {s2 : (List Int)} : Lp cx (f203_0 l blocks s2) 67 L203_0 (fun (zs : Int) => [(0, .v (ssl (eL eI) l)), (1, .v (ssl (eL eI) blocks)), (2, .v (ssl eI s2)), (7, .v (iT zs))]) (QO (QX 0 (fun (y : Unit) => [])) (QR (fun (y : Int) => [(6, .v (iT y))]))) := by
 refine Lp.of (f := (fun
 | i_1 =>
  if i_1 < (blocks.length : Int) then
  (iter (lw l  (f203_1 blocks s2 i_1)) (true, 0)).bind fun is_17 =>
  (iter (f203_2 l blocks s2 i_1) (is_17, 0)).bind fun is_36 =>
  if is_36 = true then
  some (.inr (.inr i_1))
  else
  some (.inl (w64 (i_1 + 1)))
  else
  some (.inr (.inl ())) : Int → Option (Int ⊕ (Unit ⊕ Int)))) ?_
 exact go
instance i203 {l : (List (List Int))} {blocks : (List (List Int))} {s2 : (List Int)} : Rn cx (f203 l blocks s2) 203 [(ssl (eL eI) l), (ssl (eL eI) blocks), (ssl eI s2)] (fun (r : Int) => (iT r)) (fun r => []) := by
 refine Rn.of rfl rfl (by decide) rfl ?_; unfold f203; exact go
instance : Io0 cx 203 := ⟨rfl⟩
instance i145_0 {d : Database} {o4 : (List (List Int))} {o6 : (List (List Int))} : Lp cx (lw d (f145_0 o4 o6)) 87 L145_0 (fun (zs : (List (List Int)) × (List Bool) × Int) => [(2, .v (.ptr true [(ssl eRelation d.Relations), (ssl eFact d.Facts)])), (5, .v (osl (eL eI) false zs.1)), (6, .v (osl (eL eI) false o4)), (7, .v (osl (eL eI) false o6)), (8, .v (osl eB true zs.2.1)), (9, .v (iT zs.2.2))]) (QX 0 (fun (y : (List (List Int)) × (List Bool)) => [(2, .v (.ptr true [(ssl eRelation d.Relations), (ssl eFact d.Facts)])), (5, .v (osl (eL eI) false y.1)), (6, .v (osl (eL eI) false o4)), (8, .v (osl eB true y.2))])) := by
 refine Lp.of (f := (fun
 | (out_10, known_11, i_12) =>
  if i_12 < (o4.length : Int) then
  (ix o4 i_12).bind fun v_14 =>
  (f144 o6 v_14).bind fun o16 =>
  (jn (QN (fun (y : (List (List Int)) × (List Bool)) => [(2, .v (.ptr true [(ssl eRelation d.Relations), (ssl eFact d.Facts)])), (5, .v (osl (eL eI) false y.1)), (6, .v (osl (eL eI) false o4)), (7, .v (osl (eL eI) false o6)), (8, .v (osl eB true y.2)), (9, .v (iT i_12))])) ((if o16 = true then
  (ix known_11 i_12).bind fun v_21 =>
  (app 24 out_10 ([v_14])).bind fun l_24 =>
  some (l_24, (known_11.set i_12.toNat true))
  else
  some (out_10, known_11)) : Option ((List (List Int)) × (List Bool)))).bind fun (out_26, known_27) =>
  some (.inl (out_26, known_27, w64 (i_12 + 1)))
  else
  some (.inr (out_10, known_11)) : (List (List Int)) × (List Bool) × Int → Option (((List (List Int)) × (List Bool) × Int) ⊕ ((List (List Int)) × (List Bool))))) ?_
 exact go
instance i145_2 {o4 : (List (List Int))} {o32 : (List (List Int))} : Lp cx (f145_2 o4 o32) 87 L145_2 (fun (zs : (List (List Int)) × (List Bool) × Bool × Int) => [(5, .v (osl (eL eI) false zs.1)), (6, .v (osl (eL eI) false o4)), (8, .v (osl eB true zs.2.1)), (10, .v (osl (eL eI) true o32)), (11, .v (.bool zs.2.2.1)), (12, .v (iT zs.2.2.2))]) (QX 4 (fun (y : (List (List Int)) × (List Bool) × Bool) => [(5, .v (osl (eL eI) false y.1)), (6, .v (osl (eL eI) false o4)), (8, .v (osl eB true y.2.1)), (10, .v (osl (eL eI) true o32)), (11, .v (.bool y.2.2))])) := by
 refine Lp.of (f := (fun
 | (out_38, known_39, more_40, i_41) =>
  if i_41 < (o4.length : Int) then
  (ix known_39 i_41).bind fun v_43 =>
  (jn (QN (fun (y : Bool) => [(5, .v (osl (eL eI) false out_38)), (6, .v (osl (eL eI) false o4)), (8, .v (osl eB true known_39)), (10, .v (osl (eL eI) true o32)), (11, .v (.bool more_40)), (12, .v (iT i_41)), (75, .v (.bool y))])) ((if ¬ (v_43 = true) then
  (ix o4 i_41).bind fun v_48 =>
  (f203 out_38 o32 v_48).bind fun o50 =>
  some (decide (o50 ≥ 0))
  else
  some false) : Option (Bool))).bind fun x_45 =>
  (jn (QN (fun (y : (List (List Int)) × (List Bool) × Bool) => [(5, .v (osl (eL eI) false y.1)), (6, .v (osl (eL eI) false o4)), (8, .v (osl eB true y.2.1)), (10, .v (osl (eL eI) true o32)), (11, .v (.bool y.2.2)), (12, .v (iT i_41))])) ((if x_45 = true then
  (ix o4 i_41).bind fun v_56 =>
  (app 24 out_38 ([v_56])).bind fun l_58 =>
  some (l_58, (known_39.set i_41.toNat true), true)
  else
  some (out_38, known_39, more_40)) : Option ((List (List Int)) × (List Bool) × Bool))).bind fun (out_60, known_61, more_62) =>
  some (.inl (out_60, known_61, more_62, w64 (i_41 + 1)))
  else
  some (.inr (out_38, known_39, more_40)) : (List (List Int)) × (List Bool) × Bool × Int → Option (((List (List Int)) × (List Bool) × Bool × Int) ⊕ ((List (List Int)) × (List Bool) × Bool)))) ?_
 exact go
instance i145_1 {o4 : (List (List Int))} {o32 : (List (List Int))} : Lp cx (f145_1 o4 o32) 87 L145_1 (fun (zs : (List (List Int)) × (List Bool) × Bool) => [(5, .v (osl (eL eI) false zs.1)), (6, .v (osl (eL eI) false o4)), (8, .v (osl eB true zs.2.1)), (10, .v (osl (eL eI) true o32)), (11, .v (.bool zs.2.2))]) (QX 2 (fun (y : (List (List Int))) => [(5, .v (osl (eL eI) false y))])) := by
 refine Lp.of ?_; unfold f145_1; exact go
instance i145 {d : Database} {q : Query} : Rn cx (f145 d q) 145 [(.agg [(ssl eRelation d.Relations), (ssl eFact d.Facts)]), (.agg [(iT q.VariableCount), (ssl eAtom q.Atoms), (ssl eI q.Free)])] (fun (r : (List (List Int))) => (osl (eL eI) false r)) (fun r => []) := by
 refine Rn.of (e := (
  sn 5 5 (osl (eL eI) false ([])) <| 
  (f88 d q).bind fun o1 =>
  if ¬ (o1 = true) then
  some ([])
  else
  (f202 d (q.Atoms.length : Int)).bind fun o4 =>
  (f142 d q).bind fun o6 =>
  (mkl 1 (o4.length : Int) false).bind fun l_8 =>
  sn 5 8 (osl eB true l_8) <| 
  (iter (lw d  (f145_0 o4 o6)) ([], l_8, 0)).bind fun (out_30, known_31) =>
  (f141 d).bind fun o32 =>
  (iter (f145_1 o4 o32) (out_30, known_31, true)).bind fun out_70 =>
  some out_70 : Option (List (List Int)))) rfl rfl (by decide) rfl ?_
 exact go
instance : Io0 cx 145 := ⟨rfl⟩
instance i69 {d : Database} {q : Query} : Rn cx (f69 d q) 69 [(.agg [(ssl eRelation d.Relations), (ssl eFact d.Facts)]), (.agg [(iT q.VariableCount), (ssl eAtom q.Atoms), (ssl eI q.Free)])] (fun (r : Bool) => (.bool r)) (fun r => []) := by
 refine Rn.of (e := (
  (f145 d q).bind fun o1 =>
  sn 1 8 (osl eI true ([])) <| 
  (f144 o1 ([])).bind fun o3 =>
  some o3 : Option Bool)) rfl rfl (by decide) rfl ?_
 exact go
instance : Io0 cx 69 := ⟨rfl⟩
instance i122 {n0 : Int} {low : Int} {high : Int} : Rn cx (f122 n0 low high) 122 [(iT n0), (iT low), (iT high)] (fun (r : Bool) => (.bool r)) (fun r => []) := by
 refine Rn.of (e := (
  (jn (QN (fun (y : Bool) => [(6, .v (.bool y))])) ((if low ≤ n0 then
  some (decide (n0 ≤ high))
  else
  some false) : Option (Bool))).bind fun x_1 =>
  some x_1 : Option Bool)) rfl rfl (by decide) rfl ?_
 exact go
instance : Io0 cx 122 := ⟨rfl⟩
instance i208 {relation : Relation} : Rn cx (f208 relation) 208 [(.agg [(.str relation.Name), (iT relation.Arity), (iT relation.KeyLength)])] (fun (r : Bool) => (.bool r)) (fun r => []) := by
 refine Rn.of (e := (
  (jn (QN (fun (y : Bool) => [(2, .v (.bool y))])) ((if (relation.Name.length : Int) = 1 then
  (ix relation.Name 0).bind fun c_4 =>
  (jn (QN (fun (y : Bool) => [(2, .v (.bool y))])) ((if (c_4.toNat : Int) ≥ 97 then
  (jn (QN (fun (y : Bool) => [(2, .v (.bool y))])) ((if (c_4.toNat : Int) ≤ 122 then
  (f122 relation.Arity 1 3).bind fun o12 =>
  (jn (QN (fun (y : Bool) => [(2, .v (.bool y))])) ((if o12 = true then
  (f122 relation.KeyLength 0 relation.Arity).bind fun o17 =>
  some o17
  else
  some false) : Option (Bool))).bind fun x_14 =>
  some x_14
  else
  some false) : Option (Bool))).bind fun x_9 =>
  some x_9
  else
  some false) : Option (Bool))).bind fun x_6 =>
  some x_6
  else
  some false) : Option (Bool))).bind fun x_1 =>
  some x_1 : Option Bool)) rfl rfl (by decide) rfl ?_
 exact go
instance : Io0 cx 208 := ⟨rfl⟩
instance i156_0 {relations : (List Relation)} : Lp cx (f156_0 relations) 34 L156_0 (fun (zs : Int) => [(0, .v (ssl eRelation relations)), (5, .v (ssl eRelation relations)), (6, .v (iT (relations.length : Int))), (7, .v (iT zs))]) (QO (QX 0 (fun (y : Unit) => [(0, .v (ssl eRelation relations))])) (QR (fun (y : Bool) => [(2, .v (.bool y))]))) := by
 refine Lp.of (f := (fun
 | x_1 =>
  if x_1 < (relations.length : Int) then
  (ix relations x_1).bind fun v_3 =>
  (f208 v_3).bind fun o5 =>
  (jn (QN (fun (y : Bool) => [(0, .v (ssl eRelation relations)), (5, .v (ssl eRelation relations)), (6, .v (iT (relations.length : Int))), (7, .v (iT x_1)), (29, .v (.bool y))])) ((if ¬ (o5 = true) then
  some true
  else
  (jn (QN (fun (y : Bool) => [(0, .v (ssl eRelation relations)), (5, .v (ssl eRelation relations)), (6, .v (iT (relations.length : Int))), (7, .v (iT x_1)), (29, .v (.bool y))])) ((if x_1 > 0 then
  (ix relations (w64 (x_1 - 1))).bind fun v_13 =>
  some (!(Op.bytesLess v_13.Name v_3.Name))
  else
  some false) : Option (Bool))).bind fun x_10 =>
  some x_10) : Option (Bool))).bind fun x_7 =>
  if x_7 = true then
  some (.inr (.inr false))
  else
  some (.inl (w64 (x_1 + 1)))
  else
  some (.inr (.inl ())) : Int → Option (Int ⊕ (Unit ⊕ Bool)))) ?_
 exact go
instance i156 {relations : (List Relation)} : Rn cx (f156 relations) 156 [(ssl eRelation relations)] (fun (r : Bool) => (.bool r)) (fun r => []) := by
 refine Rn.of rfl rfl (by decide) rfl ?_; unfold f156; exact go
instance : Io0 cx 156 := ⟨rfl⟩
instance i212_0 {s0 : (List Int)} {g_f : Nat} {cp_f : List T} {f : Int → Option Bool} [hp_f : ∀ x0, Rn cx (f x0) g_f ((iT x0) :: cp_f) (fun o => (.bool o)) (fun _ => [])] [Io0 cx g_f] : Lp cx (f212_0 s0 f) 19 L212_0 (fun (zs : Int) => [(0, .v (ssl eI s0)), (1, .v (.fn g_f cp_f)), (7, .v (iT (s0.length : Int))), (8, .v (iT zs))]) (QO (QX 0 (fun (y : Unit) => [])) (QR (fun (y : Int) => [(4, .v (iT y))]))) := by
 refine Lp.of ?_; unfold f212_0; exact go
instance i212 {s0 : (List Int)} {g_f : Nat} {cp_f : List T} {f : Int → Option Bool} [hp_f : ∀ x0, Rn cx (f x0) g_f ((iT x0) :: cp_f) (fun o => (.bool o)) (fun _ => [])] [Io0 cx g_f] : Rn cx (f212 s0 f) 212 [(ssl eI s0), (.fn g_f cp_f)] (fun (r : Int) => (iT r)) (fun r => []) := by
 refine Rn.of rfl rfl (by decide) rfl ?_; unfold f212; exact go
instance : Io0 cx 212 := ⟨rfl⟩
instance i159 {s0 : (List Int)} {g_f : Nat} {cp_f : List T} {f : Int → Option Bool} [hp_f : ∀ x0, Rn cx (f x0) g_f ((iT x0) :: cp_f) (fun o => (.bool o)) (fun _ => [])] [Io0 cx g_f] : Rn cx (f159 s0 f) 159 [(ssl eI s0), (.fn g_f cp_f)] (fun (r : Bool) => (.bool r)) (fun r => []) := by
 refine Rn.of rfl rfl (by decide) rfl ?_; unfold f159; exact go
instance : Io0 cx 159 := ⟨rfl⟩
instance i245 {v : Int} : Rn cx (f245 v) 245 [(iT v)] (fun (r : Bool) => (.bool r)) (fun r => []) := by
 refine Rn.of rfl rfl (by decide) rfl ?_; unfold f245; exact go
instance : Io0 cx 245 := ⟨rfl⟩
instance i209 {list : (List Int)} : Rn cx (f209 list) 209 [(ssl eI list)] (fun (r : Bool) => (.bool r)) (fun r => []) := by
 refine Rn.of rfl rfl (by decide) rfl ?_; unfold f209; exact go
instance : Io0 cx 209 := ⟨rfl⟩
instance i157 {relations : (List Relation)} {fact : Fact} : Rn cx (f157 relations fact) 157 [(ssl eRelation relations), (.agg [(iT fact.Relation), (ssl eI fact.Values)])] (fun (r : Bool) => (.bool r)) (fun r => []) := by
 refine Rn.of (e := (
  (f122 fact.Relation 0 (w64 ((relations.length : Int) - 1))).bind fun o1 =>
  (jn (QN (fun (y : Bool) => [(4, .v (.bool y))])) ((if o1 = true then
  (ix relations fact.Relation).bind fun v_6 =>
  (jn (QN (fun (y : Bool) => [(4, .v (.bool y))])) ((if (fact.Values.length : Int) = v_6.Arity then
  (f209 fact.Values).bind fun o11 =>
  some o11
  else
  some false) : Option (Bool))).bind fun x_8 =>
  some x_8
  else
  some false) : Option (Bool))).bind fun x_3 =>
  some x_3 : Option Bool)) rfl rfl (by decide) rfl ?_
 exact go
instance : Io0 cx 157 := ⟨rfl⟩
instance i210 {a : Int} {b : Int} : Rn cx (f210 a b) 210 [(iT a), (iT b)] (fun (r : Int) => (iT r)) (fun r => []) := by
 refine Rn.of rfl rfl (by decide) rfl ?_; unfold f210; exact go
instance : Io0 cx 210 := ⟨rfl⟩
instance i262 {x : Int} : Rn cx (f262 x) 262 [(iT x)] (fun (r : Bool) => (.bool r)) (fun r => []) := by
 refine Rn.of rfl rfl (by decide) rfl ?_; unfold f262; exact go
instance : Io0 cx 262 := ⟨rfl⟩
instance i246 {x : Int} {y : Int} : Rn cx (f246 x y) 246 [(iT x), (iT y)] (fun (r : Int) => (iT r)) (fun r => []) := by
 refine Rn.of rfl rfl (by decide) rfl ?_; unfold f246; exact go
instance : Io0 cx 246 := ⟨rfl⟩
instance i211_0 {s1 : (List Int)} {s2 : (List Int)} : Lp cx (f211_0 s1 s2) 36 L211_0 (fun (zs : Int) => [(0, .v (ssl eI s1)), (1, .v (ssl eI s2)), (9, .v (ssl eI s1)), (10, .v (iT (s1.length : Int))), (11, .v (iT zs))]) (QO (QX 0 (fun (y : Unit) => [(0, .v (ssl eI s1)), (1, .v (ssl eI s2))])) (QR (fun (y : Int) => [(4, .v (iT y))]))) := by
 refine Lp.of ?_; unfold f211_0; exact go
instance i211 {s1 : (List Int)} {s2 : (List Int)} : Rn cx (f211 s1 s2) 211 [(ssl eI s1), (ssl eI s2)] (fun (r : Int) => (iT r)) (fun r => []) := by
 refine Rn.of rfl rfl (by decide) rfl ?_; unfold f211; exact go
instance : Io0 cx 211 := ⟨rfl⟩
instance i158 {a : Fact} {b : Fact} : Rn cx (f158 a b) 158 [(.agg [(iT a.Relation), (ssl eI a.Values)]), (.agg [(iT b.Relation), (ssl eI b.Values)])] (fun (r : Int) => (iT r)) (fun r => []) := by
 refine Rn.of rfl rfl (by decide) rfl ?_; unfold f158; exact go
instance : Io0 cx 158 := ⟨rfl⟩
instance i79_0 {db : Database} : Lp cx (f79_0 db) 44 L79_0 (fun (zs : Int) => [(1, .v (.ptr true [(ssl eRelation db.Relations), (ssl eFact db.Facts)])), (16, .v (ssl eFact db.Facts)), (17, .v (iT (db.Facts.length : Int))), (18, .v (iT zs))]) (QO (QX 0 (fun (y : Unit) => [])) (QR (fun (y : Bool) => [(2, .v (.bool y))]))) := by
 refine Lp.of (f := (fun
 | x_7 =>
  if x_7 < (db.Facts.length : Int) then
  (ix db.Facts x_7).bind fun v_9 =>
  (f157 db.Relations v_9).bind fun o11 =>
  (jn (QN (fun (y : Bool) => [(1, .v (.ptr true [(ssl eRelation db.Relations), (ssl eFact db.Facts)])), (16, .v (ssl eFact db.Facts)), (17, .v (iT (db.Facts.length : Int))), (18, .v (iT x_7)), (42, .v (.bool y))])) ((if ¬ (o11 = true) then
  some true
  else
  (jn (QN (fun (y : Bool) => [(1, .v (.ptr true [(ssl eRelation db.Relations), (ssl eFact db.Facts)])), (16, .v (ssl eFact db.Facts)), (17, .v (iT (db.Facts.length : Int))), (18, .v (iT x_7)), (42, .v (.bool y))])) ((if x_7 > 0 then
  (ix db.Facts (w64 (x_7 - 1))).bind fun v_19 =>
  (f158 v_19 v_9).bind fun o21 =>
  some (decide (o21 ≥ 0))
  else
  some false) : Option (Bool))).bind fun x_16 =>
  some x_16) : Option (Bool))).bind fun x_13 =>
  if x_13 = true then
  some (.inr (.inr false))
  else
  some (.inl (w64 (x_7 + 1)))
  else
  some (.inr (.inl ())) : Int → Option (Int ⊕ (Unit ⊕ Bool)))) ?_
 exact go
instance i79 {db : Database} : Rn cx (f79 db) 79 [(.agg [(ssl eRelation db.Relations), (ssl eFact db.Facts)])] (fun (r : Bool) => (.bool r)) (fun r => []) := by
 refine Rn.of (e := (
  (f156 db.Relations).bind fun o1 =>
  (jn (QN (fun (y : Bool) => [(1, .v (.ptr true [(ssl eRelation db.Relations), (ssl eFact db.Facts)])), (14, .v (.bool y))])) ((if ¬ (o1 = true) then
  some true
  else
  some (decide ((db.Facts.length : Int) > 14))) : Option (Bool))).bind fun x_3 =>
  if x_3 = true then
  some false
  else
  (iter (f79_0 db) 0).bind fun o => match o with
  | .inl _ =>
  some true
  | .inr x_26 =>
  some x_26 : Option Bool)) rfl rfl (by decide) rfl ?_
 exact go
instance : Io0 cx 79 := ⟨rfl⟩
instance i172_0 {indices : (List Int)} {n1 : Int} : Lp cx (f172_0 indices n1) 33 L172_0 (fun (zs : Int) => [(0, .v (ssl eI indices)), (1, .v (iT n1)), (7, .v (ssl eI indices)), (8, .v (iT (indices.length : Int))), (9, .v (iT zs))]) (QO (QX 0 (fun (y : Unit) => [])) (QR (fun (y : Bool) => [(4, .v (.bool y))]))) := by
 refine Lp.of (f := (fun
 | x_1 =>
  if x_1 < (indices.length : Int) then
  (ix indices x_1).bind fun v_3 =>
  (f122 v_3 0 (w64 (n1 - 1))).bind fun o5 =>
  (jn (QN (fun (y : Bool) => [(0, .v (ssl eI indices)), (1, .v (iT n1)), (7, .v (ssl eI indices)), (8, .v (iT (indices.length : Int))), (9, .v (iT x_1)), (31, .v (.bool y))])) ((if ¬ (o5 = true) then
  some true
  else
  (jn (QN (fun (y : Bool) => [(0, .v (ssl eI indices)), (1, .v (iT n1)), (7, .v (ssl eI indices)), (8, .v (iT (indices.length : Int))), (9, .v (iT x_1)), (31, .v (.bool y))])) ((if x_1 > 0 then
  (ix indices (w64 (x_1 - 1))).bind fun v_13 =>
  some (decide (v_13 ≥ v_3))
  else
  some false) : Option (Bool))).bind fun x_10 =>
  some x_10) : Option (Bool))).bind fun x_7 =>
  if x_7 = true then
  some (.inr (.inr false))
  else
  some (.inl (w64 (x_1 + 1)))
  else
  some (.inr (.inl ())) : Int → Option (Int ⊕ (Unit ⊕ Bool)))) ?_
 exact go
instance i172 {indices : (List Int)} {n1 : Int} : Rn cx (f172 indices n1) 172 [(ssl eI indices), (iT n1)] (fun (r : Bool) => (.bool r)) (fun r => []) := by
 refine Rn.of rfl rfl (by decide) rfl ?_; unfold f172; exact go
instance : Io0 cx 172 := ⟨rfl⟩
instance i219_0 {s0 : (List Atom)} {g_f : Nat} {cp_f : List T} {f : Atom → Option Bool} [hp_f : ∀ x0, Rn cx (f x0) g_f ((.agg [(iT x0.Relation), (ssl eI x0.Terms)]) :: cp_f) (fun o => (.bool o)) (fun _ => [])] [Io0 cx g_f] : Lp cx (f219_0 s0 f) 19 L219_0 (fun (zs : Int) => [(0, .v (ssl eAtom s0)), (1, .v (.fn g_f cp_f)), (7, .v (iT (s0.length : Int))), (8, .v (iT zs))]) (QO (QX 0 (fun (y : Unit) => [])) (QR (fun (y : Int) => [(4, .v (iT y))]))) := by
 refine Lp.of ?_; unfold f219_0; exact go
instance i219 {s0 : (List Atom)} {g_f : Nat} {cp_f : List T} {f : Atom → Option Bool} [hp_f : ∀ x0, Rn cx (f x0) g_f ((.agg [(iT x0.Relation), (ssl eI x0.Terms)]) :: cp_f) (fun o => (.bool o)) (fun _ => [])] [Io0 cx g_f] : Rn cx (f219 s0 f) 219 [(ssl eAtom s0), (.fn g_f cp_f)] (fun (r : Int) => (iT r)) (fun r => []) := by
 refine Rn.of rfl rfl (by decide) rfl ?_; unfold f219; exact go
instance : Io0 cx 219 := ⟨rfl⟩
instance i173 {s0 : (List Atom)} {g_f : Nat} {cp_f : List T} {f : Atom → Option Bool} [hp_f : ∀ x0, Rn cx (f x0) g_f ((.agg [(iT x0.Relation), (ssl eI x0.Terms)]) :: cp_f) (fun o => (.bool o)) (fun _ => [])] [Io0 cx g_f] : Rn cx (f173 s0 f) 173 [(ssl eAtom s0), (.fn g_f cp_f)] (fun (r : Bool) => (.bool r)) (fun r => []) := by
 refine Rn.of rfl rfl (by decide) rfl ?_; unfold f173; exact go
instance : Io0 cx 173 := ⟨rfl⟩
instance i174 {own : Atom} {c : Atom} : Rn cx (f174 own c) 174 [(.agg [(iT own.Relation), (ssl eI own.Terms)]), (.ptr false [(iT c.Relation), (ssl eI c.Terms)])] (fun (r : Bool) => (.bool r)) (fun r => []) := by
 refine Rn.of rfl rfl (by decide) rfl ?_; unfold f174; exact go
instance : Io0 cx 174 := ⟨rfl⟩
theorem r217 {n : Int} {r : Nat} (h : f217 n = some r) : VJx cx (.ca 217 [.nils, .int .i64 n] (.sl true true 1 r []) []) := by
 exact ca_grow (zs := [.int .i64 (0)]) (zt := [(iT 0)]) rfl rfl rfl rfl (by decide) (by decide) h
instance i217 {n : Int} : Rn cx (f217 n) 217 [.nils, .int .i64 n] (fun r => .sl true true 1 r []) (fun _ => []) := ⟨fun _ h => r217 h⟩
instance i169_0 {slices : (List (List Int))} : Lp cx (f169_0 slices) 36 L169_0 (fun (zs : Int × Int) => [(0, .v (ssl (eL eI) slices)), (3, .v (iT zs.1)), (9, .v (ssl (eL eI) slices)), (10, .v (iT (slices.length : Int))), (11, .v (iT zs.2))]) (QX 0 (fun (y : Int) => [(0, .v (ssl (eL eI) slices)), (3, .v (iT y))])) := by
 refine Lp.of (f := (fun
 | (size_1, x_2) =>
  if x_2 < (slices.length : Int) then
  (ix slices x_2).bind fun v_4 =>
  (jn (QN (fun (y : Unit) => [(0, .v (ssl (eL eI) slices)), (3, .v (iT (w64 (size_1 + (v_4.length : Int))))), (9, .v (ssl (eL eI) slices)), (10, .v (iT (slices.length : Int))), (11, .v (iT x_2))])) ((if (w64 (size_1 + (v_4.length : Int))) < 0 then
  none
  else
  some ()) : Option Unit)).bind fun _ =>
  some (.inl (w64 (size_1 + (v_4.length : Int)), w64 (x_2 + 1)))
  else
  some (.inr size_1) : Int × Int → Option ((Int × Int) ⊕ Int))) ?_
 exact go
instance i169_1 {slices : (List (List Int))} : Lp cx (f169_1 slices) 36 L169_1 (fun (zs : Nat × (List Int) × Int) => [(6, .v (.sl true true 1 zs.1 (arr eI true zs.2.1))), (25, .v (ssl (eL eI) slices)), (26, .v (iT (slices.length : Int))), (27, .v (iT zs.2.2))]) (QX 2 (fun (y : Nat × (List Int)) => [(6, .v (.sl true true 1 y.1 (arr eI true y.2)))])) := by
 refine Lp.of ?_; unfold f169_1; exact go
instance i169 {slices : (List (List Int))} : Rn cx (f169 slices) 169 [(ssl (eL eI) slices)] (fun (r : (List Int)) => (osl eI true r)) (fun r => []) := by
 refine Rn.of rfl rfl (by decide) rfl ?_; unfold f169; exact go
instance : Io0 cx 169 := ⟨rfl⟩
instance i240 {x : Int} : Rn cx (f240 x) 240 [(.int .u64 x)] (fun (r : Int) => (iT r)) (fun r => []) := by
 refine Rn.of (e := (
  (jn (QN (fun (y : Int × Int) => [(0, .v (.int .u64 y.1)), (2, .v (iT y.2))])) ((if x ≥ 4294967296 then
  some (sshr .u64 x 32, 32)
  else
  some (x, 0)) : Option (Int × Int))).bind fun (x_4, n_5) =>
  (jn (QN (fun (y : Int × Int) => [(0, .v (.int .u64 y.1)), (2, .v (iT y.2))])) ((if x_4 ≥ 65536 then
  some (sshr .u64 x_4 16, w64 (n_5 + 16))
  else
  some (x_4, n_5)) : Option (Int × Int))).bind fun (x_9, n_10) =>
  (jn (QN (fun (y : Int × Int) => [(0, .v (.int .u64 y.1)), (2, .v (iT y.2))])) ((if x_9 ≥ 256 then
  some (sshr .u64 x_9 8, w64 (n_10 + 8))
  else
  some (x_9, n_10)) : Option (Int × Int))).bind fun (x_14, n_15) =>
  (ix ([0, 1, 2, 2, 3, 3, 3, 3, 4, 4, 4, 4, 4, 4, 4, 4, 5, 5, 5, 5, 5, 5, 5, 5, 5, 5, 5, 5, 5, 5, 5, 5, 6, 6, 6, 6, 6, 6, 6, 6, 6, 6, 6, 6, 6, 6, 6, 6, 6, 6, 6, 6, 6, 6, 6, 6, 6, 6, 6, 6, 6, 6, 6, 6, 7, 7, 7, 7, 7, 7, 7, 7, 7, 7, 7, 7, 7, 7, 7, 7, 7, 7, 7, 7, 7, 7, 7, 7, 7, 7, 7, 7, 7, 7, 7, 7, 7, 7, 7, 7, 7, 7, 7, 7, 7, 7, 7, 7, 7, 7, 7, 7, 7, 7, 7, 7, 7, 7, 7, 7, 7, 7, 7, 7, 7, 7, 7, 7, 8, 8, 8, 8, 8, 8, 8, 8, 8, 8, 8, 8, 8, 8, 8, 8, 8, 8, 8, 8, 8, 8, 8, 8, 8, 8, 8, 8, 8, 8, 8, 8, 8, 8, 8, 8, 8, 8, 8, 8, 8, 8, 8, 8, 8, 8, 8, 8, 8, 8, 8, 8, 8, 8, 8, 8, 8, 8, 8, 8, 8, 8, 8, 8, 8, 8, 8, 8, 8, 8, 8, 8, 8, 8, 8, 8, 8, 8, 8, 8, 8, 8, 8, 8, 8, 8, 8, 8, 8, 8, 8, 8, 8, 8, 8, 8, 8, 8, 8, 8, 8, 8, 8, 8, 8, 8, 8, 8, 8, 8, 8, 8, 8, 8, 8, 8, 8, 8, 8, 8, 8, 8, 8, 8, 8, 8, 8, 8] : List UInt8) (w8 x_14)).bind fun c_16 =>
  some (w64 (n_15 + (w64 (c_16.toNat : Int)))) : Option Int)) rfl rfl (by decide) rfl ?_
 exact go
instance : Io0 cx 240 := ⟨rfl⟩
instance i197 {x : Int} : Rn cx (f197 x) 197 [(.int .u64 x)] (fun (r : Int) => (iT r)) (fun r => []) := by
 refine Rn.of rfl rfl (by decide) rfl ?_; unfold f197; exact go
instance : Io0 cx 197 := ⟨rfl⟩
instance i236 {x : Int} {y : Int} : Rn cx (f236 x y) 236 [(iT x), (iT y)] (fun (r : Bool) => (.bool r)) (fun r => []) := by
 refine Rn.of (e := (
  (f262 x).bind fun o1 =>
  (jn (QN (fun (y : Bool) => [(4, .v (.bool y))])) ((if o1 = true then
  (f262 y).bind fun o6 =>
  (jn (QN (fun (y : Bool) => [(4, .v (.bool y))])) ((if ¬ (o6 = true) then
  some true
  else
  some (decide (x < y))) : Option (Bool))).bind fun x_8 =>
  some x_8
  else
  some (decide (x < y))) : Option (Bool))).bind fun x_3 =>
  some x_3 : Option Bool)) rfl rfl (by decide) rfl ?_
 exact go
instance : Io0 cx 236 := ⟨rfl⟩
instance i230_1 {a : Int} {b : Int} {i_2 : Int} : Lp cx (lw (b, i_2) (f230_1 a)) 49 L230_1 (fun (zs : (List Int) × Int) => [(0, .v (osl eI true zs.1)), (1, .v (iT a)), (2, .v (iT b)), (6, .v (iT i_2)), (7, .v (iT zs.2))]) (QX 2 (fun (y : (List Int)) => [(0, .v (osl eI true y)), (1, .v (iT a)), (2, .v (iT b)), (6, .v (iT i_2))])) := by
 refine Lp.of (f := (fun
 | (data_4, j_5) =>
  (jn (QN (fun (y : Bool) => [(0, .v (osl eI true data_4)), (1, .v (iT a)), (2, .v (iT b)), (6, .v (iT i_2)), (7, .v (iT j_5)), (30, .v (.bool y))])) ((if j_5 > a then
  (ix data_4 j_5).bind fun v_9 =>
  (ix data_4 (w64 (j_5 - 1))).bind fun v_11 =>
  (f236 v_9 v_11).bind fun o13 =>
  some o13
  else
  some false) : Option (Bool))).bind fun x_6 =>
  if x_6 = true then
  (ix data_4 (w64 (j_5 - 1))).bind fun v_16 =>
  (ix data_4 j_5).bind fun v_18 =>
  (ix (data_4.set j_5.toNat v_16) (w64 (j_5 - 1))).bind fun v_21 =>
  some (.inl (((data_4.set j_5.toNat v_16).set (w64 (j_5 - 1)).toNat v_18), w64 (j_5 - 1)))
  else
  some (.inr data_4) : (List Int) × Int → Option (((List Int) × Int) ⊕ (List Int)))) ?_
 exact go
instance i230_0 {a : Int} {b : Int} : Lp cx (f230_0 a b) 49 L230_0 (fun (zs : (List Int) × Int) => [(0, .v (osl eI true zs.1)), (1, .v (iT a)), (2, .v (iT b)), (6, .v (iT zs.2))]) (QX 0 (fun (y : (List Int)) => [(0, .v (osl eI true y))])) := by
 refine Lp.of (f := (fun
 | (data_1, i_2) =>
  if i_2 < b then
  (iter (lw (b, i_2)  (f230_1 a)) (data_1, i_2)).bind fun data_26 =>
  some (.inl (data_26, w64 (i_2 + 1)))
  else
  some (.inr data_1) : (List Int) × Int → Option (((List Int) × Int) ⊕ (List Int)))) ?_
 exact go
instance i230 {data : (List Int)} {a : Int} {b : Int} : Rn cx (f230 data a b) 230 [(osl eI true data), (iT a), (iT b)] (fun (r : (List Int)) => (.tup [])) (fun r => [(osl eI true r)]) := by
 refine Rn.of rfl rfl (by decide) rfl ?_; unfold f230; exact go
instance i257_0 {hi : Int} {first : Int} : Lp cx (f257_0 hi first) 76 L257_0 (fun (zs : (List Int) × Int) => [(0, .v (osl eI true zs.1)), (2, .v (iT hi)), (3, .v (iT first)), (8, .v (iT zs.2))]) (QO (QX 0 (fun (y : (List Int)) => [(0, .v (osl eI true y))])) (QR (fun (y : (List Int)) => [(0, .v (osl eI true y))]))) := by
 refine Lp.of (f := (fun
 | (data_1, root_2) =>
  if (w64 ((w64 (2 * root_2)) + 1)) ≥ hi then
  some (.inr (.inl data_1))
  else
  (jn (QN (fun (y : Bool) => [(0, .v (osl eI true data_1)), (2, .v (iT hi)), (3, .v (iT first)), (8, .v (iT root_2)), (9, .v (iT (w64 ((w64 (2 * root_2)) + 1)))), (36, .v (.bool y))])) ((if (w64 ((w64 ((w64 (2 * root_2)) + 1)) + 1)) < hi then
  (ix data_1 (w64 (first + (w64 ((w64 (2 * root_2)) + 1))))).bind fun v_7 =>
  (ix data_1 (w64 ((w64 (first + (w64 ((w64 (2 * root_2)) + 1)))) + 1))).bind fun v_9 =>
  (f236 v_7 v_9).bind fun o11 =>
  some o11
  else
  some false) : Option (Bool))).bind fun x_4 =>
  (jn (QN (fun (y : Int) => [(0, .v (osl eI true data_1)), (2, .v (iT hi)), (3, .v (iT first)), (8, .v (iT root_2)), (9, .v (iT y))])) ((if x_4 = true then
  some (w64 ((w64 ((w64 (2 * root_2)) + 1)) + 1))
  else
  some (w64 ((w64 (2 * root_2)) + 1))) : Option Int)).bind fun child_16 =>
  (ix data_1 (w64 (first + root_2))).bind fun v_17 =>
  (ix data_1 (w64 (first + child_16))).bind fun v_19 =>
  (f236 v_17 v_19).bind fun o21 =>
  if ¬ (o21 = true) then
  some (.inr (.inr data_1))
  else
  (ix (data_1.set (w64 (first + root_2)).toNat v_19) (w64 (first + child_16))).bind fun v_25 =>
  some (.inl (((data_1.set (w64 (first + root_2)).toNat v_19).set (w64 (first + child_16)).toNat v_17), child_16)) : (List Int) × Int → Option (((List Int) × Int) ⊕ ((List Int) ⊕ (List Int))))) ?_
 exact go
instance i257 {data : (List Int)} {lo : Int} {hi : Int} {first : Int} : Rn cx (f257 data lo hi first) 257 [(osl eI true data), (iT lo), (iT hi), (iT first)] (fun (r : (List Int)) => (.tup [])) (fun r => [(osl eI true r)]) := by
 refine Rn.of rfl rfl (by decide) rfl ?_; unfold f257; exact go
instance i231_0 {a : Int} {b : Int} : Lp cx (f231_0 a b) 56 L231_0 (fun (zs : (List Int) × Int) => [(0, .v (osl eI true zs.1)), (6, .v (iT a)), (7, .v (iT 0)), (8, .v (iT (w64 (b - a)))), (9, .v (iT zs.2))]) (QX 0 (fun (y : (List Int)) => [(0, .v (osl eI true y)), (6, .v (iT a)), (7, .v (iT 0)), (8, .v (iT (w64 (b - a))))])) := by
 refine Lp.of ?_; unfold f231_0; exact go
instance i231_1 {a : Int} : Lp cx (f231_1 a) 56 L231_1 (fun (zs : (List Int) × Int) => [(0, .v (osl eI true zs.1)), (6, .v (iT a)), (7, .v (iT 0)), (10, .v (iT zs.2))]) (QX 2 (fun (y : (List Int)) => [(0, .v (osl eI true y))])) := by
 refine Lp.of ?_; unfold f231_1; exact go
instance i231 {data : (List Int)} {a : Int} {b : Int} : Rn cx (f231 data a b) 231 [(osl eI true data), (iT a), (iT b)] (fun (r : (List Int)) => (.tup [])) (fun r => [(osl eI true r)]) := by
 refine Rn.of rfl rfl (by decide) rfl ?_; unfold f231; exact go
instance i258 {length : Int} : Rn cx (f258 length) 258 [(iT length)] (fun (r : Int) => (.int .u64 r)) (fun r => []) := by
 refine Rn.of rfl rfl (by decide) rfl ?_; unfold f258; exact go
instance : Io0 cx 258 := ⟨rfl⟩
instance i259 {r0 : Int} : Rn cx (f259 r0) 259 [(.ptr true [(.int .u64 r0)])] (fun (r : Int × Int) => (.int .u64 r.1)) (fun r => [(.ptr true [(.int .u64 r.2)])]) := by
 refine Rn.of rfl rfl (by decide) rfl ?_; unfold f259; exact go
instance i232_0 {a : Int} {b : Int} {o4 : Int} : Lp cx (f232_0 a b o4) 65 L232_0 (fun (zs : (List Int) × Int × Int) => [(0, .v (osl eI true zs.1)), (1, .v (iT a)), (6, .v (iT (w64 (b - a)))), (7, .v (.ptr true [(.int .u64 zs.2.1)])), (8, .v (.int .u64 o4)), (9, .v (iT zs.2.2))]) (QX 0 (fun (y : (List Int)) => [(0, .v (osl eI true y))])) := by
 refine Lp.of (f := (fun
 | (data_6, random_7, idx_8) =>
  if idx_8 ≤ (w64 ((w64 (a + (w64 ((w64 ((w64 (b - a)).tdiv 4)) * 2)))) + 1)) then
  (f259 random_7).bind fun o10 =>
  (jn (QN (fun (y : Int) => [(0, .v (osl eI true data_6)), (1, .v (iT a)), (6, .v (iT (w64 (b - a)))), (7, .v (.ptr true [(.int .u64 o10.2)])), (8, .v (.int .u64 o4)), (9, .v (iT idx_8)), (10, .v (iT y))])) ((if (w64 (band .u64 o10.1 (IntKind.u64.wrap (o4 - 1)))) ≥ (w64 (b - a)) then
  some (w64 ((w64 (band .u64 o10.1 (IntKind.u64.wrap (o4 - 1)))) - (w64 (b - a))))
  else
  some (w64 (band .u64 o10.1 (IntKind.u64.wrap (o4 - 1))))) : Option Int)).bind fun other_15 =>
  (ix data_6 (w64 (a + other_15))).bind fun v_16 =>
  (ix data_6 idx_8).bind fun v_18 =>
  (ix (data_6.set idx_8.toNat v_16) (w64 (a + other_15))).bind fun v_21 =>
  some (.inl (((data_6.set idx_8.toNat v_16).set (w64 (a + other_15)).toNat v_18), o10.2, w64 (idx_8 + 1)))
  else
  some (.inr data_6) : (List Int) × Int × Int → Option (((List Int) × Int × Int) ⊕ (List Int)))) ?_
 exact go
instance i232 {data : (List Int)} {a : Int} {b : Int} : Rn cx (f232 data a b) 232 [(osl eI true data), (iT a), (iT b)] (fun (r : (List Int)) => (.tup [])) (fun r => [(osl eI true r)]) := by
 refine Rn.of (e := (
  (jn (QN (fun (y : (List Int)) => [(0, .v (osl eI true y))])) ((if (w64 (b - a)) ≥ 8 then
  (f258 (w64 (b - a))).bind fun o4 =>
  (iter (f232_0 a b o4) (data, IntKind.u64.wrap (w64 (b - a)), w64 ((w64 (a + (w64 ((w64 ((w64 (b - a)).tdiv 4)) * 2)))) - 1))).bind fun data_26 =>
  some data_26
  else
  some data) : Option (List Int))).bind fun data_27 =>
  some data_27 : Option (List Int))) rfl rfl (by decide) rfl ?_
 exact go
instance i271 {data : (List Int)} {a : Int} {b : Int} {swaps : Int} : Rn cx (f271 data a b swaps) 271 [(ssl eI data), (iT a), (iT b), (.ptr true [(iT swaps)])] (fun (r : Int × Int × Int) => (.tup [(iT r.1), (iT r.2.1)])) (fun r => [(.ptr true [(iT r.2.2)])]) := by
 refine Rn.of rfl rfl (by decide) rfl ?_; unfold f271; exact go
instance i261 {data : (List Int)} {a : Int} {b : Int} {c : Int} {swaps : Int} : Rn cx (f261 data a b c swaps) 261 [(ssl eI data), (iT a), (iT b), (iT c), (.ptr true [(iT swaps)])] (fun (r : Int × Int) => (iT r.1)) (fun r => [(.ptr true [(iT r.2)])]) := by
 refine Rn.of rfl rfl (by decide) rfl ?_; unfold f261; exact go
instance i260 {data : (List Int)} {a : Int} {swaps : Int} : Rn cx (f260 data a swaps) 260 [(ssl eI data), (iT a), (.ptr true [(iT swaps)])] (fun (r : Int × Int) => (iT r.1)) (fun r => [(.ptr true [(iT r.2)])]) := by
 refine Rn.of rfl rfl (by decide) rfl ?_; unfold f260; exact go
instance i233 {data : (List Int)} {a : Int} {b : Int} : Rn cx (f233 data a b) 233 [(ssl eI data), (iT a), (iT b)] (fun (r : Int × Int) => (.tup [(iT r.1), (iT r.2)])) (fun r => []) := by
 refine Rn.of (e := (
  (jn (QN (fun (y : Int × Int) => [(9, .v (.ptr true [(iT y.1)])), (11, .v (iT y.2))])) ((if (w64 (b - a)) ≥ 8 then
  (jn (QN (fun (y : Int × Int × Int × Int) => [(0, .v (ssl eI data)), (9, .v (.ptr true [(iT y.1)])), (10, .v (iT y.2.1)), (11, .v (iT y.2.2.1)), (12, .v (iT y.2.2.2))])) ((if (w64 (b - a)) ≥ 50 then
  (f260 data (w64 (a + (w64 (w64 ((w64 (b - a)).tdiv 4))))) 0).bind fun o7 =>
  (f260 data (w64 (a + (w64 ((w64 ((w64 (b - a)).tdiv 4)) * 2)))) o7.2).bind fun o9 =>
  (f260 data (w64 (a + (w64 ((w64 ((w64 (b - a)).tdiv 4)) * 3)))) o9.2).bind fun o11 =>
  some (o11.2, o7.1, o9.1, o11.1)
  else
  some (0, w64 (a + (w64 (w64 ((w64 (b - a)).tdiv 4)))), w64 (a + (w64 ((w64 ((w64 (b - a)).tdiv 4)) * 2))), w64 (a + (w64 ((w64 ((w64 (b - a)).tdiv 4)) * 3))))) : Option (Int × Int × Int × Int))).bind fun (swaps_13, i_14, j_15, k_16) =>
  (f261 data i_14 j_15 k_16 swaps_13).bind fun o17 =>
  some (o17.2, o17.1)
  else
  some (0, w64 (a + (w64 ((w64 ((w64 (b - a)).tdiv 4)) * 2))))) : Option (Int × Int))).bind fun (swaps_19, j_20) =>
  if swaps_19 = 0 then
  some (j_20, 1)
  else
  if swaps_19 = 12 then
  some (j_20, 2)
  else
  some (j_20, 0) : Option (Int × Int))) rfl rfl (by decide) rfl ?_
 exact go
instance : Io0 cx 233 := ⟨rfl⟩
instance i234_0 : Lp cx f234_0 32 L234_0 (fun (zs : (List Int) × Int × Int) => [(0, .v (osl eI true zs.1)), (6, .v (iT zs.2.1)), (7, .v (iT zs.2.2))]) (QX 0 (fun (y : (List Int)) => [(0, .v (osl eI true y))])) := by
 refine Lp.of ?_; unfold f234_0; exact go
instance i234 {data : (List Int)} {a : Int} {b : Int} : Rn cx (f234 data a b) 234 [(osl eI true data), (iT a), (iT b)] (fun (r : (List Int)) => (.tup [])) (fun r => [(osl eI true r)]) := by
 refine Rn.of rfl rfl (by decide) rfl ?_; unfold f234; exact go
instance i235_1 {a : Int} {b : Int} {data_1 : (List Int)} {j_3 : Int} : Lp cx (lw (a, j_3) (f235_1 b data_1)) 133 L235_1 (fun (zs : Int) => [(0, .v (osl eI true data_1)), (1, .v (iT a)), (2, .v (iT b)), (7, .v (iT zs)), (8, .v (iT j_3))]) (QX 2 (fun (y : Int) => [(0, .v (osl eI true data_1)), (1, .v (iT a)), (2, .v (iT b)), (7, .v (iT y)), (8, .v (iT j_3))])) := by
 refine Lp.of (f := (fun
 | i_5 =>
  (jn (QN (fun (y : Bool) => [(0, .v (osl eI true data_1)), (1, .v (iT a)), (2, .v (iT b)), (7, .v (iT i_5)), (8, .v (iT j_3)), (32, .v (.bool y))])) ((if i_5 < b then
  (ix data_1 i_5).bind fun v_9 =>
  (ix data_1 (w64 (i_5 - 1))).bind fun v_11 =>
  (f236 v_9 v_11).bind fun o13 =>
  some (decide (¬ (o13 = true)))
  else
  some false) : Option (Bool))).bind fun x_6 =>
  if x_6 = true then
  some (.inl (w64 (i_5 + 1)))
  else
  some (.inr i_5) : Int → Option (Int ⊕ Int))) ?_
 exact go
instance i235_2 {a : Int} {b : Int} {j_3 : Int} {i_18 : Int} : Lp cx (lw (a, b, j_3, i_18) f235_2) 133 L235_2 (fun (zs : (List Int) × Int) => [(0, .v (osl eI true zs.1)), (1, .v (iT a)), (2, .v (iT b)), (7, .v (iT i_18)), (8, .v (iT j_3)), (9, .v (iT zs.2))]) (QX 4 (fun (y : (List Int)) => [(0, .v (osl eI true y)), (1, .v (iT a)), (2, .v (iT b)), (7, .v (iT i_18)), (8, .v (iT j_3))])) := by
 refine Lp.of ?_; unfold lw f235_2; exact go
instance i235_3 {a : Int} {b : Int} {j_3 : Int} {i_18 : Int} : Lp cx (lw (a, j_3, i_18) (f235_3 b)) 133 L235_3 (fun (zs : (List Int) × Int) => [(0, .v (osl eI true zs.1)), (1, .v (iT a)), (2, .v (iT b)), (7, .v (iT i_18)), (8, .v (iT j_3)), (10, .v (iT zs.2))]) (QX 6 (fun (y : (List Int)) => [(0, .v (osl eI true y)), (1, .v (iT a)), (2, .v (iT b)), (7, .v (iT i_18)), (8, .v (iT j_3))])) := by
 refine Lp.of ?_; unfold lw f235_3; exact go
end
end Go.Proofs.YtcllfkplpdppiaaGreatH
