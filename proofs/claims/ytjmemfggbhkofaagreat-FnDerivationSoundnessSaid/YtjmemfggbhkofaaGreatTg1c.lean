import Derived.Test.YtjmemfggbhkofaaGreatTg1b
set_option maxHeartbeats 2000000
set_option linter.unusedVariables false
set_option linter.unusedSimpArgs false
set_option linter.defProp false
set_option linter.unusedSectionVars false
set_option maxRecDepth 100000
namespace Go.Proofs.YtjmemfggbhkofaaGreatH
open Go
noncomputable section
instance i162_0 {d : Database} {q : Query} {k : Int} {vals : (List Int)} {facts : (List Int)} {rec : Database -> Query -> Int -> (List Int) -> (List Int) -> Option (List Embedding)} [hrec : ∀ d q k vals facts, Rn cx (rec d q k vals facts) 162 [(.agg [(ssl eRelation d.Relations), (ssl eFact d.Facts)]), (.agg [(iT q.VariableCount), (ssl eAtom q.Atoms), (ssl eI q.Free)]), (iT k), (ssl eI vals), (ssl eI facts)] (fun o => (osl eEmbedding true o)) (fun o => [])] : Lp cx (f162_0 d q k vals facts rec) 67 L162_0 (fun (zs : (List Embedding) × Int) => [(2, .v (iT k)), (3, .v (ssl eI vals)), (4, .v (ssl eI facts)), (5, .v (.ptr true [(ssl eRelation d.Relations), (ssl eFact d.Facts)])), (6, .v (.ptr true [(iT q.VariableCount), (ssl eAtom q.Atoms), (ssl eI q.Free)])), (11, .v (osl eEmbedding true zs.1)), (12, .v (iT zs.2))]) (QX 0 (fun (y : (List Embedding)) => [(11, .v (osl eEmbedding true y))])) := Lp.of (f := (fun
 | (out_6, i_7) =>
  if i_7 < (d.Facts.length : Int) then
  (ix q.Atoms k).bind fun v_9 =>
  (ix d.Facts i_7).bind fun v_11 =>
  (f197 v_9 v_11 vals).bind fun o13 =>
  (jn (QN (fun (y : (List Embedding)) => [(2, .v (iT k)), (3, .v (ssl eI vals)), (4, .v (ssl eI facts)), (5, .v (.ptr true [(ssl eRelation d.Relations), (ssl eFact d.Facts)])), (6, .v (.ptr true [(iT q.VariableCount), (ssl eAtom q.Atoms), (ssl eI q.Free)])), (11, .v (osl eEmbedding true y)), (12, .v (iT i_7))])) ((if o13.2 = true then
  (app 8 ([]) facts).bind fun l_18 =>
  (app 8 l_18 ([i_7])).bind fun l_20 =>
  sn 12 63 (osl eI true l_20) <| 
  (rec d q (w64 (k + 1)) o13.1 l_20).bind fun o22 =>
  pl (plains (arr eEmbedding true o22)) <| 
  (app 48 out_6 o22).bind fun l_24 =>
  some l_24
  else
  some out_6) : Option (List Embedding))).bind fun out_26 =>
  some (.inl (out_26, w64 (i_7 + 1)))
  else
  some (.inr out_6) : (List Embedding) × Int -> Option (((List Embedding) × Int) ⊕ (List Embedding)))) (by exact go)
instance i162 : ∀ (n : Nat) d q k vals facts, Rn cx (f162 n d q k vals facts) 162 [(.agg [(ssl eRelation d.Relations), (ssl eFact d.Facts)]), (.agg [(iT q.VariableCount), (ssl eAtom q.Atoms), (ssl eI q.Free)]), (iT k), (ssl eI vals), (ssl eI facts)] (fun (r : (List Embedding)) => (osl eEmbedding true r)) (fun r => []) := by
 intro n
 induction n with
 | zero => intro d q k vals facts; exact ⟨fun r h => by simp [f162] at h⟩
 | succ n ih =>
  intro d q k vals facts
  refine Rn.of (e := (
   if k = (q.Atoms.length : Int) then
   (app 8 ([]) vals).bind fun l_2 =>
   (app 8 ([]) facts).bind fun l_4 =>
   sn 6 22 (osl eI true l_2) <| 
   sn 0 25 (osl eI true l_4) <| 
   sn 3 10 (osl eEmbedding true ([({ Values := l_2, Facts := l_4 } : Embedding)])) <| 
   some ([({ Values := l_2, Facts := l_4 } : Embedding)])
   else
   sn 2 11 (osl eEmbedding true ([])) <| 
   (iter (f162_0 d q k vals facts (f162 n)) ([], 0)).bind fun out_29 =>
   some out_29 : Option (List Embedding))) rfl rfl (by decide) rfl ?_
  exact go
instance : Io0 cx 162 := ⟨rfl⟩
instance i112 {d : Database} {q : Query} : Rn cx (f112 d q) 112 [(.agg [(ssl eRelation d.Relations), (ssl eFact d.Facts)]), (.agg [(iT q.VariableCount), (ssl eAtom q.Atoms), (ssl eI q.Free)])] (fun (r : (List Embedding)) => (osl eEmbedding true r)) (fun r => []) := Rn.o (e := (
  (f18 d q).bind fun o1 =>
  if ¬ (o1 = true) then
  sn 2 4 (osl eEmbedding true ([])) <| 
  some ([])
  else
  sn 5 15 (osl eI true ([])) <| 
  (f163 q.VariableCount).bind fun o4 =>
  (f162 64 d q 0 o4 ([])).bind fun o6 =>
  some o6 : Option (List Embedding))) rfl (by exact go)
instance : Io0 cx 112 := ⟨rfl⟩
instance i113_1 {l : (List Int)} {out_1 : (List Int)} {i_2 : Int} : Lp cx (f113_1 l out_1 i_2) 47 L113_1 (fun (zs : Int) => [(0, .v (ssl eI l)), (3, .v (ssl eI out_1)), (4, .v (iT i_2)), (5, .v (iT zs))]) (QX 2 (fun (y : Int) => [(0, .v (ssl eI l)), (3, .v (ssl eI out_1)), (4, .v (iT i_2)), (5, .v (iT y))])) := Lp.of (f := (fun
 | k_4 =>
  (jn (QN (fun (y : Bool) => [(0, .v (ssl eI l)), (3, .v (ssl eI out_1)), (4, .v (iT i_2)), (5, .v (iT k_4)), (28, .v (.bool y))])) ((if k_4 > 0 then
  (ix out_1 (w64 (k_4 - 1))).bind fun v_8 =>
  (ix l i_2).bind fun v_10 =>
  some (decide (v_8 > v_10))
  else
  some false) : Option (Bool))).bind fun x_5 =>
  if x_5 = true then
  some (.inl (w64 (k_4 - 1)))
  else
  some (.inr k_4) : Int -> Option (Int ⊕ Int))) (by exact go)
instance i113_0 {l : (List Int)} : Lp cx (f113_0 l) 47 L113_0 (fun (zs : (List Int) × Int) => [(0, .v (ssl eI l)), (3, .v (ssl eI zs.1)), (4, .v (iT zs.2))]) (QX 0 (fun (y : (List Int)) => [(3, .v (ssl eI y))])) := Lp.of (f := (fun
 | (out_1, i_2) =>
  if i_2 < (l.length : Int) then
  (iter (f113_1 l out_1 i_2) (out_1.length : Int)).bind fun k_15 =>
  (cutL out_1 0 k_15).bind fun l_16 =>
  (ix l i_2).bind fun v_18 =>
  (cutL out_1 k_15 out_1.length).bind fun l_20 =>
  (app 8 ([]) l_16).bind fun l_22 =>
  (app 8 l_22 ([v_18])).bind fun l_24 =>
  (app 8 l_24 l_20).bind fun l_26 =>
  sn 16 3 (osl eI true l_26) <| 
  sn 0 3 (ssl eI l_26) <| 
  some (.inl (l_26, w64 (i_2 + 1)))
  else
  some (.inr out_1) : (List Int) × Int -> Option (((List Int) × Int) ⊕ (List Int)))) (by exact go)
instance i113 {l : (List Int)} : Rn cx (f113 l) 113 [(ssl eI l)] (fun (r : (List Int)) => (ssl eI r)) (fun r => []) := Rn.o (e := (
  sn 3 3 (osl eI true ([])) <| 
  sn 0 3 (ssl eI ([])) <| 
  (iter (f113_0 l) ([], 0)).bind fun out_30 =>
  some out_30 : Option (List Int))) rfl (by exact go)
instance : Io0 cx 113 := ⟨rfl⟩
instance i62_0 {d : Database} {o1 : (List Embedding)} : Lp cx (f62_0 d o1) 33 L62_0 (fun (zs : (List (List Int)) × Int) => [(2, .v (.ptr true [(ssl eRelation d.Relations), (ssl eFact d.Facts)])), (5, .v (osl (eL eI) false zs.1)), (6, .v (ssl eEmbedding o1)), (7, .v (iT zs.2))]) (QX 0 (fun (y : (List (List Int))) => [(5, .v (osl (eL eI) false y))])) := Lp.of (f := (fun
 | (out_3, i_4) =>
  if i_4 < (o1.length : Int) then
  (ix o1 i_4).bind fun v_6 =>
  (f113 v_6.Facts).bind fun o8 =>
  (f114 d o8).bind fun o10 =>
  (jn (QN (fun (y : (List (List Int))) => [(2, .v (.ptr true [(ssl eRelation d.Relations), (ssl eFact d.Facts)])), (5, .v (osl (eL eI) false y)), (6, .v (ssl eEmbedding o1)), (7, .v (iT i_4))])) ((if o10 = true then
  (app 24 out_3 ([o8])).bind fun l_15 =>
  some l_15
  else
  some out_3) : Option (List (List Int)))).bind fun out_17 =>
  some (.inl (out_17, w64 (i_4 + 1)))
  else
  some (.inr out_3) : (List (List Int)) × Int -> Option (((List (List Int)) × Int) ⊕ (List (List Int))))) (by exact go)
instance i62 {d : Database} {q : Query} : Rn cx (f62 d q) 62 [(.agg [(ssl eRelation d.Relations), (ssl eFact d.Facts)]), (.agg [(iT q.VariableCount), (ssl eAtom q.Atoms), (ssl eI q.Free)])] (fun (r : (List (List Int))) => (osl (eL eI) false r)) (fun r => []) := Rn.o (e := (
  sn 5 5 (osl (eL eI) false ([])) <| 
  (f112 d q).bind fun o1 =>
  sn 1 6 (ssl eEmbedding o1) <| 
  (iter (f62_0 d o1) ([], 0)).bind fun out_20 =>
  some out_20 : Option (List (List Int)))) rfl (by exact go)
instance : Io0 cx 62 := ⟨rfl⟩
instance i42_0 {l : (List Int)} {x : Int} : Lp cx (f42_0 l x) 18 L42_0 (fun (zs : Int) => [(0, .v (ssl eI l)), (1, .v (iT x)), (5, .v (iT zs))]) (QO (QX 0 (fun (y : Unit) => [])) (QR (fun (y : Bool) => [(4, .v (.bool y))]))) := Lp.of (by unfold f42_0; exact go)
instance i42 {l : (List Int)} {x : Int} : Rn cx (f42 l x) 42 [(ssl eI l), (iT x)] (fun (r : Bool) => (.bool r)) (fun r => []) := Rn.o rfl (by unfold f42; exact go)
instance : Io0 cx 42 := ⟨rfl⟩
instance i144_1 {l : (List (List Int))} {s1 : (List Int)} {i_1 : Int} : Lp cx (f144_1 l s1 i_1) 36 L144_1 (fun (zs : Bool × Int) => [(0, .v (ssl (eL eI) l)), (1, .v (ssl eI s1)), (5, .v (iT i_1)), (6, .v (.bool zs.1)), (7, .v (iT zs.2))]) (QX 2 (fun (y : Bool) => [(0, .v (ssl (eL eI) l)), (1, .v (ssl eI s1)), (5, .v (iT i_1)), (6, .v (.bool y))])) := Lp.of (f := (fun
 | (all_3, k_4) =>
  (ix l i_1).bind fun v_5 =>
  if k_4 < (v_5.length : Int) then
  (jn (QN (fun (y : Bool) => [(0, .v (ssl (eL eI) l)), (1, .v (ssl eI s1)), (5, .v (iT i_1)), (6, .v (.bool y)), (7, .v (iT k_4))])) ((if all_3 = true then
  (ix v_5 k_4).bind fun v_11 =>
  (f42 s1 v_11).bind fun o13 =>
  some o13
  else
  some false) : Option (Bool))).bind fun all_8 =>
  some (.inl (all_8, w64 (k_4 + 1)))
  else
  some (.inr all_3) : Bool × Int -> Option ((Bool × Int) ⊕ Bool))) (by exact go)
instance i144_0 {l : (List (List Int))} {s1 : (List Int)} : Lp cx (f144_0 l s1) 36 L144_0 (fun (zs : Int) => [(0, .v (ssl (eL eI) l)), (1, .v (ssl eI s1)), (5, .v (iT zs))]) (QO (QX 0 (fun (y : Unit) => [])) (QR (fun (y : Bool) => [(4, .v (.bool y))]))) := Lp.of (by unfold f144_0; exact go)
instance i144 {l : (List (List Int))} {s1 : (List Int)} : Rn cx (f144 l s1) 144 [(ssl (eL eI) l), (ssl eI s1)] (fun (r : Bool) => (.bool r)) (fun r => []) := Rn.o rfl (by unfold f144; exact go)
instance : Io0 cx 144 := ⟨rfl⟩
instance i115 {l : (List (List Int))} {s1 : (List Int)} : Rn cx (f115 l s1) 115 [(ssl (eL eI) l), (ssl eI s1)] (fun (r : Bool) => (.bool r)) (fun r => []) := Rn.o rfl (by unfold f115; exact go)
instance : Io0 cx 115 := ⟨rfl⟩
instance i152_1 {l : (List (List Int))} {blocks : (List (List Int))} {s2 : (List Int)} {i_1 : Int} : Lp cx (lw l (f152_1 blocks s2 i_1)) 67 L152_1 (fun (zs : Bool × Int) => [(0, .v (ssl (eL eI) l)), (1, .v (ssl (eL eI) blocks)), (2, .v (ssl eI s2)), (7, .v (iT i_1)), (8, .v (.bool zs.1)), (9, .v (iT zs.2))]) (QX 2 (fun (y : Bool) => [(0, .v (ssl (eL eI) l)), (1, .v (ssl (eL eI) blocks)), (2, .v (ssl eI s2)), (7, .v (iT i_1)), (8, .v (.bool y))])) := Lp.of (f := (fun
 | (is_3, k_4) =>
  (ix blocks i_1).bind fun v_5 =>
  if k_4 < (v_5.length : Int) then
  (jn (QN (fun (y : Bool) => [(0, .v (ssl (eL eI) l)), (1, .v (ssl (eL eI) blocks)), (2, .v (ssl eI s2)), (7, .v (iT i_1)), (8, .v (.bool y)), (9, .v (iT k_4))])) ((if is_3 = true then
  (ix v_5 k_4).bind fun v_11 =>
  (f42 s2 v_11).bind fun o13 =>
  some (decide (¬ (o13 = true)))
  else
  some false) : Option (Bool))).bind fun is_8 =>
  some (.inl (is_8, w64 (k_4 + 1)))
  else
  some (.inr is_3) : Bool × Int -> Option ((Bool × Int) ⊕ Bool))) (by exact go)
instance i152_2 {l : (List (List Int))} {blocks : (List (List Int))} {s2 : (List Int)} {i_1 : Int} : Lp cx (f152_2 l blocks s2 i_1) 67 L152_2 (fun (zs : Bool × Int) => [(0, .v (ssl (eL eI) l)), (1, .v (ssl (eL eI) blocks)), (2, .v (ssl eI s2)), (7, .v (iT i_1)), (8, .v (.bool zs.1)), (10, .v (iT zs.2))]) (QX 4 (fun (y : Bool) => [(0, .v (ssl (eL eI) l)), (1, .v (ssl (eL eI) blocks)), (2, .v (ssl eI s2)), (7, .v (iT i_1)), (8, .v (.bool y))])) := Lp.of (f := (fun
 | (is_18, k_19) =>
  (ix blocks i_1).bind fun v_20 =>
  (jn (QN (fun (y : Bool) => [(0, .v (ssl (eL eI) l)), (1, .v (ssl (eL eI) blocks)), (2, .v (ssl eI s2)), (7, .v (iT i_1)), (8, .v (.bool is_18)), (10, .v (iT k_19)), (48, .v (.bool y))])) ((if k_19 < (v_20.length : Int) then
  some is_18
  else
  some false) : Option (Bool))).bind fun x_22 =>
  if x_22 = true then
  (ix v_20 k_19).bind fun v_26 =>
  (app 8 ([]) s2).bind fun l_28 =>
  (app 8 l_28 ([v_26])).bind fun l_30 =>
  sn 13 63 (osl eI true l_30) <| 
  (f115 l l_30).bind fun o32 =>
  some (.inl (o32, w64 (k_19 + 1)))
  else
  some (.inr is_18) : Bool × Int -> Option ((Bool × Int) ⊕ Bool))) (by exact go)
instance i152_0 {l : (List (List Int))} {blocks : (List (List Int))} {s2 : (List Int)} : Lp cx (f152_0 l blocks s2) 67 L152_0 (fun (zs : Int) => [(0, .v (ssl (eL eI) l)), (1, .v (ssl (eL eI) blocks)), (2, .v (ssl eI s2)), (7, .v (iT zs))]) (QO (QX 0 (fun (y : Unit) => [])) (QR (fun (y : Int) => [(6, .v (iT y))]))) := Lp.of (f := (fun
 | i_1 =>
  if i_1 < (blocks.length : Int) then
  (iter (lw l  (f152_1 blocks s2 i_1)) (true, 0)).bind fun is_17 =>
  (iter (f152_2 l blocks s2 i_1) (is_17, 0)).bind fun is_36 =>
  if is_36 = true then
  some (.inr (.inr i_1))
  else
  some (.inl (w64 (i_1 + 1)))
  else
  some (.inr (.inl ())) : Int -> Option (Int ⊕ (Unit ⊕ Int)))) (by exact go)
instance i152 {l : (List (List Int))} {blocks : (List (List Int))} {s2 : (List Int)} : Rn cx (f152 l blocks s2) 152 [(ssl (eL eI) l), (ssl (eL eI) blocks), (ssl eI s2)] (fun (r : Int) => (iT r)) (fun r => []) := Rn.o rfl (by unfold f152; exact go)
instance : Io0 cx 152 := ⟨rfl⟩
instance i151_0 {d : Database} {o4 : (List (List Int))} {o6 : (List (List Int))} : Lp cx (lw d (f151_0 o4 o6)) 87 L151_0 (fun (zs : (List (List Int)) × (List Bool) × Int) => [(2, .v (.ptr true [(ssl eRelation d.Relations), (ssl eFact d.Facts)])), (5, .v (osl (eL eI) false zs.1)), (6, .v (osl (eL eI) false o4)), (7, .v (osl (eL eI) false o6)), (8, .v (osl eB true zs.2.1)), (9, .v (iT zs.2.2))]) (QX 0 (fun (y : (List (List Int)) × (List Bool)) => [(2, .v (.ptr true [(ssl eRelation d.Relations), (ssl eFact d.Facts)])), (5, .v (osl (eL eI) false y.1)), (6, .v (osl (eL eI) false o4)), (8, .v (osl eB true y.2))])) := Lp.of (f := (fun
 | (out_10, known_11, i_12) =>
  if i_12 < (o4.length : Int) then
  (ix o4 i_12).bind fun v_14 =>
  (f115 o6 v_14).bind fun o16 =>
  (jn (QN (fun (y : (List (List Int)) × (List Bool)) => [(2, .v (.ptr true [(ssl eRelation d.Relations), (ssl eFact d.Facts)])), (5, .v (osl (eL eI) false y.1)), (6, .v (osl (eL eI) false o4)), (7, .v (osl (eL eI) false o6)), (8, .v (osl eB true y.2)), (9, .v (iT i_12))])) ((if o16 = true then
  (ix known_11 i_12).bind fun v_21 =>
  (app 24 out_10 ([v_14])).bind fun l_24 =>
  some (l_24, (known_11.set i_12.toNat true))
  else
  some (out_10, known_11)) : Option ((List (List Int)) × (List Bool)))).bind fun (out_26, known_27) =>
  some (.inl (out_26, known_27, w64 (i_12 + 1)))
  else
  some (.inr (out_10, known_11)) : (List (List Int)) × (List Bool) × Int -> Option (((List (List Int)) × (List Bool) × Int) ⊕ ((List (List Int)) × (List Bool))))) (by exact go)
instance i151_2 {o4 : (List (List Int))} {o32 : (List (List Int))} : Lp cx (f151_2 o4 o32) 87 L151_2 (fun (zs : (List (List Int)) × (List Bool) × Bool × Int) => [(5, .v (osl (eL eI) false zs.1)), (6, .v (osl (eL eI) false o4)), (8, .v (osl eB true zs.2.1)), (10, .v (osl (eL eI) true o32)), (11, .v (.bool zs.2.2.1)), (12, .v (iT zs.2.2.2))]) (QX 4 (fun (y : (List (List Int)) × (List Bool) × Bool) => [(5, .v (osl (eL eI) false y.1)), (6, .v (osl (eL eI) false o4)), (8, .v (osl eB true y.2.1)), (10, .v (osl (eL eI) true o32)), (11, .v (.bool y.2.2))])) := Lp.of (f := (fun
 | (out_38, known_39, more_40, i_41) =>
  if i_41 < (o4.length : Int) then
  (ix known_39 i_41).bind fun v_43 =>
  (jn (QN (fun (y : Bool) => [(5, .v (osl (eL eI) false out_38)), (6, .v (osl (eL eI) false o4)), (8, .v (osl eB true known_39)), (10, .v (osl (eL eI) true o32)), (11, .v (.bool more_40)), (12, .v (iT i_41)), (75, .v (.bool y))])) ((if ¬ (v_43 = true) then
  (ix o4 i_41).bind fun v_48 =>
  (f152 out_38 o32 v_48).bind fun o50 =>
  some (decide (o50 >= 0))
  else
  some false) : Option (Bool))).bind fun x_45 =>
  (jn (QN (fun (y : (List (List Int)) × (List Bool) × Bool) => [(5, .v (osl (eL eI) false y.1)), (6, .v (osl (eL eI) false o4)), (8, .v (osl eB true y.2.1)), (10, .v (osl (eL eI) true o32)), (11, .v (.bool y.2.2)), (12, .v (iT i_41))])) ((if x_45 = true then
  (ix o4 i_41).bind fun v_56 =>
  (app 24 out_38 ([v_56])).bind fun l_58 =>
  some (l_58, (known_39.set i_41.toNat true), true)
  else
  some (out_38, known_39, more_40)) : Option ((List (List Int)) × (List Bool) × Bool))).bind fun (out_60, known_61, more_62) =>
  some (.inl (out_60, known_61, more_62, w64 (i_41 + 1)))
  else
  some (.inr (out_38, known_39, more_40)) : (List (List Int)) × (List Bool) × Bool × Int -> Option (((List (List Int)) × (List Bool) × Bool × Int) ⊕ ((List (List Int)) × (List Bool) × Bool)))) (by exact go)
instance i151_1 {o4 : (List (List Int))} {o32 : (List (List Int))} : Lp cx (f151_1 o4 o32) 87 L151_1 (fun (zs : (List (List Int)) × (List Bool) × Bool) => [(5, .v (osl (eL eI) false zs.1)), (6, .v (osl (eL eI) false o4)), (8, .v (osl eB true zs.2.1)), (10, .v (osl (eL eI) true o32)), (11, .v (.bool zs.2.2))]) (QX 2 (fun (y : (List (List Int))) => [(5, .v (osl (eL eI) false y))])) := Lp.of (by unfold f151_1; exact go)
instance i151 {d : Database} {q : Query} : Rn cx (f151 d q) 151 [(.agg [(ssl eRelation d.Relations), (ssl eFact d.Facts)]), (.agg [(iT q.VariableCount), (ssl eAtom q.Atoms), (ssl eI q.Free)])] (fun (r : (List (List Int))) => (osl (eL eI) false r)) (fun r => []) := Rn.o (e := (
  sn 5 5 (osl (eL eI) false ([])) <| 
  (f18 d q).bind fun o1 =>
  if ¬ (o1 = true) then
  some ([])
  else
  (f181 d (q.Atoms.length : Int)).bind fun o4 =>
  (f62 d q).bind fun o6 =>
  (mkl 1 (o4.length : Int) false).bind fun l_8 =>
  sn 5 8 (osl eB true l_8) <| 
  (iter (lw d  (f151_0 o4 o6)) ([], l_8, 0)).bind fun (out_30, known_31) =>
  (f63 d).bind fun o32 =>
  (iter (f151_1 o4 o32) (out_30, known_31, true)).bind fun out_70 =>
  some out_70 : Option (List (List Int)))) rfl (by exact go)
instance : Io0 cx 151 := ⟨rfl⟩
instance i150 {d : Database} {q : Query} : Rn cx (f150 d q) 150 [(.agg [(ssl eRelation d.Relations), (ssl eFact d.Facts)]), (.agg [(iT q.VariableCount), (ssl eAtom q.Atoms), (ssl eI q.Free)])] (fun (r : Bool) => (.bool r)) (fun r => []) := Rn.o (e := (
  (f151 d q).bind fun o1 =>
  sn 1 8 (osl eI true ([])) <| 
  (f115 o1 ([])).bind fun o3 =>
  some o3 : Option Bool)) rfl (by exact go)
instance : Io0 cx 150 := ⟨rfl⟩
instance i103_0 {o4 : (List (List Int))} {o6 : (List (List Int))} {o8 : (List (List Int))} : Lp cx (f103_0 o4 o6 o8) 67 L103_0 (fun (zs : (List DerivationStep) × Int) => [(6, .v (osl eDerivationStep true zs.1)), (7, .v (ssl (eL eI) o4)), (8, .v (osl (eL eI) false o6)), (9, .v (osl (eL eI) true o8)), (10, .v (iT zs.2))]) (QO (QX 0 (fun (y : (List DerivationStep)) => [(6, .v (osl eDerivationStep true y))])) (QR (fun (y : (List DerivationStep) × Bool) => [(4, .v (osl eDerivationStep true y.1)), (5, .v (.bool y.2))]))) := Lp.of (f := (fun
 | (out_10, i_11) =>
  if i_11 < (o4.length : Int) then
  (ix o4 i_11).bind fun v_13 =>
  (f115 o6 v_13).bind fun o15 =>
  (jn (QN (fun (y : Int) => [(6, .v (osl eDerivationStep true out_10)), (7, .v (ssl (eL eI) o4)), (8, .v (osl (eL eI) false o6)), (9, .v (osl (eL eI) true o8)), (10, .v (iT i_11)), (11, .v (iT y))])) ((if ¬ (o15 = true) then
  (cutL o4 0 i_11).bind fun l_20 =>
  (f152 l_20 o8 v_13).bind fun o22 =>
  some o22
  else
  some (-1)) : Option Int)).bind fun k_24 =>
  (app 8 ([]) v_13).bind fun l_25 =>
  sn 8 54 (osl eI true l_25) <| 
  (app 32 out_10 ([({ Facts := l_25, Block := k_24 } : DerivationStep)])).bind fun l_27 =>
  if (v_13.length : Int) = 0 then
  some (.inr (.inr (l_27, true)))
  else
  some (.inl (l_27, w64 (i_11 + 1)))
  else
  some (.inr (.inl out_10)) : (List DerivationStep) × Int -> Option (((List DerivationStep) × Int) ⊕ ((List DerivationStep) ⊕ ((List DerivationStep) × Bool))))) (by exact go)
instance i103 {d : Database} {q : Query} : Rn cx (f103 d q) 103 [(.agg [(ssl eRelation d.Relations), (ssl eFact d.Facts)]), (.agg [(iT q.VariableCount), (ssl eAtom q.Atoms), (ssl eI q.Free)])] (fun (r : (List DerivationStep) × Bool) => (.tup [(osl eDerivationStep true r.1), (.bool r.2)])) (fun r => []) := Rn.o (e := (
  sn 6 6 (osl eDerivationStep true ([])) <| 
  (f150 d q).bind fun o1 =>
  if ¬ (o1 = true) then
  some ([], false)
  else
  (f151 d q).bind fun o4 =>
  sn 1 7 (ssl (eL eI) o4) <| 
  (f62 d q).bind fun o6 =>
  (f63 d).bind fun o8 =>
  (iter (f103_0 o4 o6 o8) ([], 0)).bind fun o => match o with
  | .inl out_32 =>
  some (out_32, false)
  | .inr (x_33, x_34) =>
  some (x_33, x_34) : Option ((List DerivationStep) × Bool))) rfl (by exact go)
instance : Io0 cx 103 := ⟨rfl⟩
instance i182_0 {l : (List ConflictEdge)} {s1 : (List Int)} : Lp cx (f182_0 l s1) 28 L182_0 (fun (zs : Int) => [(0, .v (ssl eConflictEdge l)), (1, .v (ssl eI s1)), (5, .v (iT zs))]) (QO (QX 0 (fun (y : Unit) => [])) (QR (fun (y : Bool) => [(4, .v (.bool y))]))) := Lp.of (f := (fun
 | i_1 =>
  if i_1 < (l.length : Int) then
  (ix l i_1).bind fun v_3 =>
  (f42 s1 v_3.A).bind fun o5 =>
  (jn (QN (fun (y : Bool) => [(0, .v (ssl eConflictEdge l)), (1, .v (ssl eI s1)), (5, .v (iT i_1)), (27, .v (.bool y))])) ((if o5 = true then
  (f42 s1 v_3.B).bind fun o10 =>
  some o10
  else
  some false) : Option (Bool))).bind fun x_7 =>
  if x_7 = true then
  some (.inr (.inr false))
  else
  some (.inl (w64 (i_1 + 1)))
  else
  some (.inr (.inl ())) : Int -> Option (Int ⊕ (Unit ⊕ Bool)))) (by exact go)
instance i182 {l : (List ConflictEdge)} {s1 : (List Int)} : Rn cx (f182 l s1) 182 [(ssl eConflictEdge l), (ssl eI s1)] (fun (r : Bool) => (.bool r)) (fun r => []) := Rn.o rfl (by unfold f182; exact go)
instance : Io0 cx 182 := ⟨rfl⟩
instance i153 {l : (List ConflictEdge)} {s1 : (List Int)} {x : Int} : Rn cx (f153 l s1 x) 153 [(ssl eConflictEdge l), (ssl eI s1), (iT x)] (fun (r : Bool) => (.bool r)) (fun r => []) := Rn.o (e := (
  (f42 s1 x).bind fun o1 =>
  (jn (QN (fun (y : Bool) => [(6, .v (.bool y))])) ((if ¬ (o1 = true) then
  (app 8 ([]) s1).bind fun l_6 =>
  (app 8 l_6 ([x])).bind fun l_8 =>
  sn 0 18 (osl eI true l_8) <| 
  (f182 l l_8).bind fun o10 =>
  some o10
  else
  some false) : Option (Bool))).bind fun x_3 =>
  some x_3 : Option Bool)) rfl (by exact go)
instance : Io0 cx 153 := ⟨rfl⟩
instance i104_0 {n1 : Int} {l : (List ConflictEdge)} : Lp cx (f104_0 n1 l) 38 L104_0 (fun (zs : (List Int) × Int × Int × (List Int) × Int) => [(0, .v (.ptr true [(ssl eU zs.1), (iT zs.2.1), (iT zs.2.2.1)])), (1, .v (iT n1)), (2, .v (ssl eConflictEdge l)), (7, .v (osl eI true zs.2.2.2.1)), (8, .v (iT zs.2.2.2.2))]) (QX 0 (fun (y : (List Int) × Int × Int × (List Int)) => [(0, .v (.ptr true [(ssl eU y.1), (iT y.2.1), (iT y.2.2.1)])), (1, .v (iT n1)), (7, .v (osl eI true y.2.2.2))])) := Lp.of (f := (fun
 | (c_1, c_2, c_3, s_4, x_5) =>
  if x_5 < n1 then
  (f149 ({ b := c_1, i := c_2, h := c_3 } : L1Cur) 2).bind fun o7 =>
  (jn (QN (fun (y : (List Int) × Int × Int × Bool) => [(0, .v (.ptr true [(ssl eU y.1), (iT y.2.1), (iT y.2.2.1)])), (1, .v (iT n1)), (2, .v (ssl eConflictEdge l)), (7, .v (osl eI true s_4)), (8, .v (iT x_5)), (26, .v (.bool y.2.2.2))])) ((if o7.1 = true then
  (f149 o7.2 8).bind fun o15 =>
  (jn (QN (fun (y : Bool) => [(0, .v (.ptr true [(ssl eU o15.2.b), (iT o15.2.i), (iT o15.2.h)])), (1, .v (iT n1)), (2, .v (ssl eConflictEdge l)), (7, .v (osl eI true s_4)), (8, .v (iT x_5)), (26, .v (.bool y))])) ((if o15.1 = true then
  some true
  else
  (f153 l s_4 x_5).bind fun o20 =>
  some o20) : Option (Bool))).bind fun x_17 =>
  some (o15.2.b, o15.2.i, o15.2.h, x_17)
  else
  some (o7.2.b, o7.2.i, o7.2.h, false)) : Option ((List Int) × Int × Int × Bool))).bind fun (c_9, c_10, c_11, x_12) =>
  (jn (QN (fun (y : (List Int)) => [(0, .v (.ptr true [(ssl eU c_9), (iT c_10), (iT c_11)])), (1, .v (iT n1)), (2, .v (ssl eConflictEdge l)), (7, .v (osl eI true y)), (8, .v (iT x_5))])) ((if x_12 = true then
  (app 8 s_4 ([x_5])).bind fun l_25 =>
  some l_25
  else
  some s_4) : Option (List Int))).bind fun s_27 =>
  some (.inl (c_9, c_10, c_11, s_27, w64 (x_5 + 1)))
  else
  some (.inr (c_1, c_2, c_3, s_4)) : (List Int) × Int × Int × (List Int) × Int -> Option (((List Int) × Int × Int × (List Int) × Int) ⊕ ((List Int) × Int × Int × (List Int))))) (by exact go)
instance i104 {c : L1Cur} {n1 : Int} {l : (List ConflictEdge)} : Rn cx (f104 c n1 l) 104 [(.ptr true [(ssl eU c.b), (iT c.i), (iT c.h)]), (iT n1), (ssl eConflictEdge l)] (fun (r : (List Int) × L1Cur) => (osl eI true r.1)) (fun r => [(.ptr true [(ssl eU r.2.b), (iT r.2.i), (iT r.2.h)])]) := Rn.o (e := (
  sn 3 7 (osl eI true ([])) <| 
  (iter (f104_0 n1 l) (c.b, c.i, c.h, [], 0)).bind fun (c_30, c_31, c_32, s_33) =>
  (f149 ({ b := c_30, i := c_31, h := c_32 } : L1Cur) 12).bind fun o34 =>
  if o34.1 = true then
  (app 8 s_33 ([n1])).bind fun l_37 =>
  some (l_37, o34.2)
  else
  some (s_33, o34.2) : Option ((List Int) × L1Cur))) rfl (by exact go)
instance i54 {c : L1Cur} {d : Database} {q : Query} : Rn cx (f54 c d q) 54 [(.ptr true [(ssl eU c.b), (iT c.i), (iT c.h)]), (.agg [(ssl eRelation d.Relations), (ssl eFact d.Facts)]), (.agg [(iT q.VariableCount), (ssl eAtom q.Atoms), (ssl eI q.Free)])] (fun (r : (List DerivationStep) × L1Cur) => (ssl eDerivationStep r.1)) (fun r => [(.ptr true [(ssl eU r.2.b), (iT r.2.i), (iT r.2.h)])]) := Rn.o (e := (
  (f103 d q).bind fun o1 =>
  if (o1.1.length : Int) = 0 then
  (f104 c (d.Facts.length : Int) ([] : (List ConflictEdge))).bind fun o4 =>
  (f105 o4.2 4).bind fun o6 =>
  sn 4 6 (osl eDerivationStep true ([({ Facts := o4.1, Block := w64 (o6.1 - 1) } : DerivationStep)])) <| 
  some ([({ Facts := o4.1, Block := w64 (o6.1 - 1) } : DerivationStep)], o6.2)
  else
  (f105 c (o1.1.length : Int)).bind fun o8 =>
  (f105 o8.2 6).bind fun o10 =>
  (jn (QN (fun (y : (List Int) × Int × Int × (List DerivationStep)) => [(0, .v (.ptr true [(ssl eU y.1), (iT y.2.1), (iT y.2.2.1)])), (7, .v (ssl eDerivationStep y.2.2.2))])) ((if o10.1 = 0 then
  (f105 o10.2 7).bind fun o15 =>
  (ix o1.1 o8.1).bind fun v_17 =>
  some (o15.2.b, o15.2.i, o15.2.h, (o1.1.set o8.1.toNat ({ Facts := v_17.Facts, Block := w64 (o15.1 - 1) } : DerivationStep)))
  else
  (jn (QN (fun (y : (List Int) × Int × Int × (List DerivationStep)) => [(0, .v (.ptr true [(ssl eU y.1), (iT y.2.1), (iT y.2.2.1)])), (7, .v (ssl eDerivationStep y.2.2.2))])) ((if o10.1 = 1 then
  (f104 o10.2 (d.Facts.length : Int) ([] : (List ConflictEdge))).bind fun o23 =>
  (ix o1.1 o8.1).bind fun v_25 =>
  some (o23.2.b, o23.2.i, o23.2.h, (o1.1.set o8.1.toNat ({ Facts := o23.1, Block := v_25.Block } : DerivationStep)))
  else
  (jn (QN (fun (y : (List DerivationStep)) => [(0, .v (.ptr true [(ssl eU o10.2.b), (iT o10.2.i), (iT o10.2.h)])), (7, .v (ssl eDerivationStep y))])) ((if o10.1 = 2 then
  (dlk 32 o1.1 o8.1).bind fun z_31 =>
  dl 2 <| 
  some (o1.1.eraseIdx o8.1.toNat)
  else
  some o1.1) : Option (List DerivationStep))).bind fun l_33 =>
  some (o10.2.b, o10.2.i, o10.2.h, l_33)) : Option ((List Int) × Int × Int × (List DerivationStep)))).bind fun (c_34, c_35, c_36, l_37) =>
  some (c_34, c_35, c_36, l_37)) : Option ((List Int) × Int × Int × (List DerivationStep)))).bind fun (c_38, c_39, c_40, l_41) =>
  some (l_41, ({ b := c_38, i := c_39, h := c_40 } : L1Cur)) : Option ((List DerivationStep) × L1Cur))) rfl (by exact go)
instance i23 {code : (List Int)} : Rn cx (f23 code) 23 [(ssl eU code)] (fun (r : Database × Query × (List DerivationStep)) => (.tup [(.agg [(ssl eRelation r.1.Relations), (ssl eFact r.1.Facts)]), (.agg [(iT r.2.1.VariableCount), (ssl eAtom r.2.1.Atoms), (ssl eI r.2.1.Free)]), (ssl eDerivationStep r.2.2)])) (fun r => []) := Rn.o (e := (
  sn 3 2 (.ptr true [(osl eRelation true ([])), (osl eFact true ([]))]) <| 
  sn 0 3 (.ptr true [(iT 0), (osl eAtom true ([])), (osl eI true ([]))]) <| 
  (f53 code).bind fun o1 =>
  sn 9 7 (.ptr false [(iT o1.2.2.VariableCount), (ssl eAtom o1.2.2.Atoms), (ssl eI o1.2.2.Free)]) <| 
  (f54 o1.1 o1.2.1 o1.2.2).bind fun o3 =>
  some (o1.2.1, o1.2.2, o3.1) : Option (Database × Query × (List DerivationStep)))) rfl (by exact go)
instance : Io0 cx 23 := ⟨rfl⟩
instance i59 {n0 : Int} {low : Int} {high : Int} : Rn cx (f59 n0 low high) 59 [(iT n0), (iT low), (iT high)] (fun (r : Bool) => (.bool r)) (fun r => []) := Rn.o (e := (
  (jn (QN (fun (y : Bool) => [(6, .v (.bool y))])) ((if low <= n0 then
  some (decide (n0 <= high))
  else
  some false) : Option (Bool))).bind fun x_1 =>
  some x_1 : Option Bool)) rfl (by exact go)
instance : Io0 cx 59 := ⟨rfl⟩
instance i173 {relation : Relation} : Rn cx (f173 relation) 173 [(.agg [(.str relation.Name), (iT relation.Arity), (iT relation.KeyLength)])] (fun (r : Bool) => (.bool r)) (fun r => []) := Rn.o (e := (
  (jn (QN (fun (y : Bool) => [(2, .v (.bool y))])) ((if (relation.Name.length : Int) = 1 then
  (ix relation.Name 0).bind fun c_4 =>
  (jn (QN (fun (y : Bool) => [(2, .v (.bool y))])) ((if (c_4.toNat : Int) >= 97 then
  (jn (QN (fun (y : Bool) => [(2, .v (.bool y))])) ((if (c_4.toNat : Int) <= 122 then
  (f59 relation.Arity 1 3).bind fun o12 =>
  (jn (QN (fun (y : Bool) => [(2, .v (.bool y))])) ((if o12 = true then
  (f59 relation.KeyLength 0 relation.Arity).bind fun o17 =>
  some o17
  else
  some false) : Option (Bool))).bind fun x_14 =>
  some x_14
  else
  some false) : Option (Bool))).bind fun x_9 =>
  some x_9
  else
  some false) : Option (Bool))).bind fun x_6 =>
  some x_6
  else
  some false) : Option (Bool))).bind fun x_1 =>
  some x_1 : Option Bool)) rfl (by exact go)
instance : Io0 cx 173 := ⟨rfl⟩
instance i132_0 {relations : (List Relation)} : Lp cx (f132_0 relations) 34 L132_0 (fun (zs : Int) => [(0, .v (ssl eRelation relations)), (5, .v (ssl eRelation relations)), (6, .v (iT (relations.length : Int))), (7, .v (iT zs))]) (QO (QX 0 (fun (y : Unit) => [(0, .v (ssl eRelation relations))])) (QR (fun (y : Bool) => [(2, .v (.bool y))]))) := Lp.of (f := (fun
 | x_1 =>
  if x_1 < (relations.length : Int) then
  (ix relations x_1).bind fun v_3 =>
  (f173 v_3).bind fun o5 =>
  (jn (QN (fun (y : Bool) => [(0, .v (ssl eRelation relations)), (5, .v (ssl eRelation relations)), (6, .v (iT (relations.length : Int))), (7, .v (iT x_1)), (29, .v (.bool y))])) ((if ¬ (o5 = true) then
  some true
  else
  (jn (QN (fun (y : Bool) => [(0, .v (ssl eRelation relations)), (5, .v (ssl eRelation relations)), (6, .v (iT (relations.length : Int))), (7, .v (iT x_1)), (29, .v (.bool y))])) ((if x_1 > 0 then
  (ix relations (w64 (x_1 - 1))).bind fun v_13 =>
  some (!(Op.bytesLess v_13.Name v_3.Name))
  else
  some false) : Option (Bool))).bind fun x_10 =>
  some x_10) : Option (Bool))).bind fun x_7 =>
  if x_7 = true then
  some (.inr (.inr false))
  else
  some (.inl (w64 (x_1 + 1)))
  else
  some (.inr (.inl ())) : Int -> Option (Int ⊕ (Unit ⊕ Bool)))) (by exact go)
instance i132 {relations : (List Relation)} : Rn cx (f132 relations) 132 [(ssl eRelation relations)] (fun (r : Bool) => (.bool r)) (fun r => []) := Rn.o rfl (by unfold f132; exact go)
instance : Io0 cx 132 := ⟨rfl⟩
instance i180_0 {s0 : (List Int)} {g_f : Nat} {cp_f : List T} {f : Int -> Option Bool} [hp_f : ∀ x0, Rn cx (f x0) g_f ((iT x0) :: cp_f) (fun o => (.bool o)) (fun _ => [])] [Io0 cx g_f] : Lp cx (f180_0 s0 f) 19 L180_0 (fun (zs : Int) => [(0, .v (ssl eI s0)), (1, .v (.fn g_f cp_f)), (7, .v (iT (s0.length : Int))), (8, .v (iT zs))]) (QO (QX 0 (fun (y : Unit) => [])) (QR (fun (y : Int) => [(4, .v (iT y))]))) := Lp.of (by unfold f180_0; exact go)
instance i180 {s0 : (List Int)} {g_f : Nat} {cp_f : List T} {f : Int -> Option Bool} [hp_f : ∀ x0, Rn cx (f x0) g_f ((iT x0) :: cp_f) (fun o => (.bool o)) (fun _ => [])] [Io0 cx g_f] : Rn cx (f180 s0 f) 180 [(ssl eI s0), (.fn g_f cp_f)] (fun (r : Int) => (iT r)) (fun r => []) := Rn.o rfl (by unfold f180; exact go)
instance : Io0 cx 180 := ⟨rfl⟩
instance i146 {s0 : (List Int)} {g_f : Nat} {cp_f : List T} {f : Int -> Option Bool} [hp_f : ∀ x0, Rn cx (f x0) g_f ((iT x0) :: cp_f) (fun o => (.bool o)) (fun _ => [])] [Io0 cx g_f] : Rn cx (f146 s0 f) 146 [(ssl eI s0), (.fn g_f cp_f)] (fun (r : Bool) => (.bool r)) (fun r => []) := Rn.o rfl (by unfold f146; exact go)
instance : Io0 cx 146 := ⟨rfl⟩
instance i202 {v : Int} : Rn cx (f202 v) 202 [(iT v)] (fun (r : Bool) => (.bool r)) (fun r => []) := Rn.o rfl (by unfold f202; exact go)
instance : Io0 cx 202 := ⟨rfl⟩
instance i174 {list : (List Int)} : Rn cx (f174 list) 174 [(ssl eI list)] (fun (r : Bool) => (.bool r)) (fun r => []) := Rn.o rfl (by unfold f174; exact go)
instance : Io0 cx 174 := ⟨rfl⟩
instance i133 {relations : (List Relation)} {fact : Fact} : Rn cx (f133 relations fact) 133 [(ssl eRelation relations), (.agg [(iT fact.Relation), (ssl eI fact.Values)])] (fun (r : Bool) => (.bool r)) (fun r => []) := Rn.o (e := (
  (f59 fact.Relation 0 (w64 ((relations.length : Int) - 1))).bind fun o1 =>
  (jn (QN (fun (y : Bool) => [(4, .v (.bool y))])) ((if o1 = true then
  (ix relations fact.Relation).bind fun v_6 =>
  (jn (QN (fun (y : Bool) => [(4, .v (.bool y))])) ((if (fact.Values.length : Int) = v_6.Arity then
  (f174 fact.Values).bind fun o11 =>
  some o11
  else
  some false) : Option (Bool))).bind fun x_8 =>
  some x_8
  else
  some false) : Option (Bool))).bind fun x_3 =>
  some x_3 : Option Bool)) rfl (by exact go)
instance : Io0 cx 133 := ⟨rfl⟩
instance i175 {a : Int} {b : Int} : Rn cx (f175 a b) 175 [(iT a), (iT b)] (fun (r : Int) => (iT r)) (fun r => []) := Rn.o rfl (by unfold f175; exact go)
instance : Io0 cx 175 := ⟨rfl⟩
instance i210 {x : Int} : Rn cx (f210 x) 210 [(iT x)] (fun (r : Bool) => (.bool r)) (fun r => []) := Rn.o rfl (by unfold f210; exact go)
instance : Io0 cx 210 := ⟨rfl⟩
instance i203 {x : Int} {y : Int} : Rn cx (f203 x y) 203 [(iT x), (iT y)] (fun (r : Int) => (iT r)) (fun r => []) := Rn.o rfl (by unfold f203; exact go)
instance : Io0 cx 203 := ⟨rfl⟩
instance i176_0 {s1 : (List Int)} {s2 : (List Int)} : Lp cx (f176_0 s1 s2) 36 L176_0 (fun (zs : Int) => [(0, .v (ssl eI s1)), (1, .v (ssl eI s2)), (9, .v (ssl eI s1)), (10, .v (iT (s1.length : Int))), (11, .v (iT zs))]) (QO (QX 0 (fun (y : Unit) => [(0, .v (ssl eI s1)), (1, .v (ssl eI s2))])) (QR (fun (y : Int) => [(4, .v (iT y))]))) := Lp.of (by unfold f176_0; exact go)
instance i176 {s1 : (List Int)} {s2 : (List Int)} : Rn cx (f176 s1 s2) 176 [(ssl eI s1), (ssl eI s2)] (fun (r : Int) => (iT r)) (fun r => []) := Rn.o rfl (by unfold f176; exact go)
instance : Io0 cx 176 := ⟨rfl⟩
instance i134 {a : Fact} {b : Fact} : Rn cx (f134 a b) 134 [(.agg [(iT a.Relation), (ssl eI a.Values)]), (.agg [(iT b.Relation), (ssl eI b.Values)])] (fun (r : Int) => (iT r)) (fun r => []) := Rn.o rfl (by unfold f134; exact go)
instance : Io0 cx 134 := ⟨rfl⟩
instance i84_0 {db : Database} : Lp cx (f84_0 db) 44 L84_0 (fun (zs : Int) => [(1, .v (.ptr true [(ssl eRelation db.Relations), (ssl eFact db.Facts)])), (16, .v (ssl eFact db.Facts)), (17, .v (iT (db.Facts.length : Int))), (18, .v (iT zs))]) (QO (QX 0 (fun (y : Unit) => [])) (QR (fun (y : Bool) => [(2, .v (.bool y))]))) := Lp.of (f := (fun
 | x_7 =>
  if x_7 < (db.Facts.length : Int) then
  (ix db.Facts x_7).bind fun v_9 =>
  (f133 db.Relations v_9).bind fun o11 =>
  (jn (QN (fun (y : Bool) => [(1, .v (.ptr true [(ssl eRelation db.Relations), (ssl eFact db.Facts)])), (16, .v (ssl eFact db.Facts)), (17, .v (iT (db.Facts.length : Int))), (18, .v (iT x_7)), (42, .v (.bool y))])) ((if ¬ (o11 = true) then
  some true
  else
  (jn (QN (fun (y : Bool) => [(1, .v (.ptr true [(ssl eRelation db.Relations), (ssl eFact db.Facts)])), (16, .v (ssl eFact db.Facts)), (17, .v (iT (db.Facts.length : Int))), (18, .v (iT x_7)), (42, .v (.bool y))])) ((if x_7 > 0 then
  (ix db.Facts (w64 (x_7 - 1))).bind fun v_19 =>
  (f134 v_19 v_9).bind fun o21 =>
  some (decide (o21 >= 0))
  else
  some false) : Option (Bool))).bind fun x_16 =>
  some x_16) : Option (Bool))).bind fun x_13 =>
  if x_13 = true then
  some (.inr (.inr false))
  else
  some (.inl (w64 (x_7 + 1)))
  else
  some (.inr (.inl ())) : Int -> Option (Int ⊕ (Unit ⊕ Bool)))) (by exact go)
instance i84 {db : Database} : Rn cx (f84 db) 84 [(.agg [(ssl eRelation db.Relations), (ssl eFact db.Facts)])] (fun (r : Bool) => (.bool r)) (fun r => []) := Rn.o (e := (
  (f132 db.Relations).bind fun o1 =>
  (jn (QN (fun (y : Bool) => [(1, .v (.ptr true [(ssl eRelation db.Relations), (ssl eFact db.Facts)])), (14, .v (.bool y))])) ((if ¬ (o1 = true) then
  some true
  else
  some (decide ((db.Facts.length : Int) > 14))) : Option (Bool))).bind fun x_3 =>
  if x_3 = true then
  some false
  else
  (iter (f84_0 db) 0).bind fun o => match o with
  | .inl _ =>
  some true
  | .inr x_26 =>
  some x_26 : Option Bool)) rfl (by exact go)
instance : Io0 cx 84 := ⟨rfl⟩
instance i85_0 {indices : (List Int)} {n1 : Int} : Lp cx (f85_0 indices n1) 33 L85_0 (fun (zs : Int) => [(0, .v (ssl eI indices)), (1, .v (iT n1)), (7, .v (ssl eI indices)), (8, .v (iT (indices.length : Int))), (9, .v (iT zs))]) (QO (QX 0 (fun (y : Unit) => [])) (QR (fun (y : Bool) => [(4, .v (.bool y))]))) := Lp.of (f := (fun
 | x_1 =>
  if x_1 < (indices.length : Int) then
  (ix indices x_1).bind fun v_3 =>
  (f59 v_3 0 (w64 (n1 - 1))).bind fun o5 =>
  (jn (QN (fun (y : Bool) => [(0, .v (ssl eI indices)), (1, .v (iT n1)), (7, .v (ssl eI indices)), (8, .v (iT (indices.length : Int))), (9, .v (iT x_1)), (31, .v (.bool y))])) ((if ¬ (o5 = true) then
  some true
  else
  (jn (QN (fun (y : Bool) => [(0, .v (ssl eI indices)), (1, .v (iT n1)), (7, .v (ssl eI indices)), (8, .v (iT (indices.length : Int))), (9, .v (iT x_1)), (31, .v (.bool y))])) ((if x_1 > 0 then
  (ix indices (w64 (x_1 - 1))).bind fun v_13 =>
  some (decide (v_13 >= v_3))
  else
  some false) : Option (Bool))).bind fun x_10 =>
  some x_10) : Option (Bool))).bind fun x_7 =>
  if x_7 = true then
  some (.inr (.inr false))
  else
  some (.inl (w64 (x_1 + 1)))
  else
  some (.inr (.inl ())) : Int -> Option (Int ⊕ (Unit ⊕ Bool)))) (by exact go)
instance i85 {indices : (List Int)} {n1 : Int} : Rn cx (f85 indices n1) 85 [(ssl eI indices), (iT n1)] (fun (r : Bool) => (.bool r)) (fun r => []) := Rn.o rfl (by unfold f85; exact go)
instance : Io0 cx 85 := ⟨rfl⟩
instance i177_0 {s0 : (List Atom)} {g_f : Nat} {cp_f : List T} {f : Atom -> Option Bool} [hp_f : ∀ x0, Rn cx (f x0) g_f ((.agg [(iT x0.Relation), (ssl eI x0.Terms)]) :: cp_f) (fun o => (.bool o)) (fun _ => [])] [Io0 cx g_f] : Lp cx (f177_0 s0 f) 19 L177_0 (fun (zs : Int) => [(0, .v (ssl eAtom s0)), (1, .v (.fn g_f cp_f)), (7, .v (iT (s0.length : Int))), (8, .v (iT zs))]) (QO (QX 0 (fun (y : Unit) => [])) (QR (fun (y : Int) => [(4, .v (iT y))]))) := Lp.of (by unfold f177_0; exact go)
instance i177 {s0 : (List Atom)} {g_f : Nat} {cp_f : List T} {f : Atom -> Option Bool} [hp_f : ∀ x0, Rn cx (f x0) g_f ((.agg [(iT x0.Relation), (ssl eI x0.Terms)]) :: cp_f) (fun o => (.bool o)) (fun _ => [])] [Io0 cx g_f] : Rn cx (f177 s0 f) 177 [(ssl eAtom s0), (.fn g_f cp_f)] (fun (r : Int) => (iT r)) (fun r => []) := Rn.o rfl (by unfold f177; exact go)
instance : Io0 cx 177 := ⟨rfl⟩
instance i136 {s0 : (List Atom)} {g_f : Nat} {cp_f : List T} {f : Atom -> Option Bool} [hp_f : ∀ x0, Rn cx (f x0) g_f ((.agg [(iT x0.Relation), (ssl eI x0.Terms)]) :: cp_f) (fun o => (.bool o)) (fun _ => [])] [Io0 cx g_f] : Rn cx (f136 s0 f) 136 [(ssl eAtom s0), (.fn g_f cp_f)] (fun (r : Bool) => (.bool r)) (fun r => []) := Rn.o rfl (by unfold f136; exact go)
instance : Io0 cx 136 := ⟨rfl⟩
instance i137 {own : Atom} {c : Atom} : Rn cx (f137 own c) 137 [(.agg [(iT own.Relation), (ssl eI own.Terms)]), (.ptr false [(iT c.Relation), (ssl eI c.Terms)])] (fun (r : Bool) => (.bool r)) (fun r => []) := Rn.o rfl (by unfold f137; exact go)
instance : Io0 cx 137 := ⟨rfl⟩
theorem r178 {n : Int} {r : Nat} (h : f178 n = some r) : VJx cx (.ca 178 [.nils, .int .i64 n] (.sl true true 1 r []) []) := by
 exact ca_grow (zs := [.int .i64 (0)]) (zt := [(iT 0)]) rfl rfl rfl rfl (by decide) (by decide) h
instance i178 {n : Int} : Rn cx (f178 n) 178 [.nils, .int .i64 n] (fun r => .sl true true 1 r []) (fun _ => []) := ⟨fun _ h => r178 h⟩
instance i139_0 {slices : (List (List Int))} : Lp cx (f139_0 slices) 36 L139_0 (fun (zs : Int × Int) => [(0, .v (ssl (eL eI) slices)), (3, .v (iT zs.1)), (9, .v (ssl (eL eI) slices)), (10, .v (iT (slices.length : Int))), (11, .v (iT zs.2))]) (QX 0 (fun (y : Int) => [(0, .v (ssl (eL eI) slices)), (3, .v (iT y))])) := Lp.of (f := (fun
 | (size_1, x_2) =>
  if x_2 < (slices.length : Int) then
  (ix slices x_2).bind fun v_4 =>
  (jn (QN (fun (y : Unit) => [(0, .v (ssl (eL eI) slices)), (3, .v (iT (w64 (size_1 + (v_4.length : Int))))), (9, .v (ssl (eL eI) slices)), (10, .v (iT (slices.length : Int))), (11, .v (iT x_2))])) ((if (w64 (size_1 + (v_4.length : Int))) < 0 then
  none
  else
  some ()) : Option Unit)).bind fun _ =>
  some (.inl (w64 (size_1 + (v_4.length : Int)), w64 (x_2 + 1)))
  else
  some (.inr size_1) : Int × Int -> Option ((Int × Int) ⊕ Int))) (by exact go)
instance i139_1 {slices : (List (List Int))} : Lp cx (f139_1 slices) 36 L139_1 (fun (zs : Nat × (List Int) × Int) => [(6, .v (.sl true true 1 zs.1 (arr eI true zs.2.1))), (25, .v (ssl (eL eI) slices)), (26, .v (iT (slices.length : Int))), (27, .v (iT zs.2.2))]) (QX 2 (fun (y : Nat × (List Int)) => [(6, .v (.sl true true 1 y.1 (arr eI true y.2)))])) := Lp.of (by unfold f139_1; exact go)
instance i139 {slices : (List (List Int))} : Rn cx (f139 slices) 139 [(ssl (eL eI) slices)] (fun (r : (List Int)) => (osl eI true r)) (fun r => []) := Rn.o rfl (by unfold f139; exact go)
instance : Io0 cx 139 := ⟨rfl⟩
theorem r107 {l : List Int} {r : List Int} (h : f107 l = some r) : VJx cx (.ca 107 [osl eI true l] (.tup []) [osl eI true r]) := by
 exact ca_sort (X := X0) (fun _ _ _ _ _ h => .inl h) (fun _ _ _ _ h => h) rfl h
instance i107 {l : List Int} : Rn cx (f107 l) 107 [osl eI true l] (fun _ => .tup []) (fun r => [osl eI true r]) := ⟨fun _ h => r107 h⟩
theorem r140 {l : List Int} {r : List Int} (h : f140 l = some r) : VJx cx (.ca 140 [osl eI true l] (ssl eI r) [.und]) := by
 exact ca_comp (X := X0) (fun _ _ _ _ _ h => .inr (h)) (fun _ _ _ _ h => h) rfl h
instance i140 {l : List Int} : Rn cx (f140 l) 140 [osl eI true l] (fun r => ssl eI r) (fun _ => [.und]) := ⟨fun _ h => r140 h⟩
instance i92 {a : (List Int)} {b : (List Int)} : Rn cx (f92 a b) 92 [(ssl eI a), (ssl eI b)] (fun (r : (List Int)) => (ssl eI r)) (fun r => []) := Rn.o (e := (
  sn 4 8 (osl (eL eI) false ([a, b])) <| 
  (f139 ([a, b])).bind fun o1 =>
  (f107 o1).bind fun o3 =>
  (f140 o3).bind fun o5 =>
  some o5 : Option (List Int))) rfl (by exact go)
instance : Io0 cx 92 := ⟨rfl⟩
instance i138_0 {atom : Atom} : Lp cx (f138_0 atom) 23 L138_0 (fun (zs : (List Int) × Int) => [(1, .v (.ptr true [(iT atom.Relation), (ssl eI atom.Terms)])), (3, .v (osl eI true zs.1)), (8, .v (ssl eI atom.Terms)), (9, .v (iT (atom.Terms.length : Int))), (10, .v (iT zs.2))]) (QX 0 (fun (y : (List Int)) => [(3, .v (osl eI true y))])) := Lp.of (f := (fun
 | (out_1, x_2) =>
  if x_2 < (atom.Terms.length : Int) then
  (ix atom.Terms x_2).bind fun v_4 =>
  (f59 v_4 0 3).bind fun o6 =>
  (jn (QN (fun (y : (List Int)) => [(1, .v (.ptr true [(iT atom.Relation), (ssl eI atom.Terms)])), (3, .v (osl eI true y)), (8, .v (ssl eI atom.Terms)), (9, .v (iT (atom.Terms.length : Int))), (10, .v (iT x_2))])) ((if o6 = true then
  (app 8 out_1 ([v_4])).bind fun l_11 =>
  some l_11
  else
  some out_1) : Option (List Int))).bind fun out_13 =>
  some (.inl (out_13, w64 (x_2 + 1)))
  else
  some (.inr out_1) : (List Int) × Int -> Option (((List Int) × Int) ⊕ (List Int)))) (by exact go)
instance i138 {atom : Atom} : Rn cx (f138 atom) 138 [(.agg [(iT atom.Relation), (ssl eI atom.Terms)])] (fun (r : (List Int)) => (ssl eI r)) (fun r => []) := Rn.o (e := (
  sn 4 3 (osl eI true ([])) <| 
  (iter (f138_0 atom) ([], 0)).bind fun out_16 =>
  sn 1 21 (ssl eI out_16) <| 
  (f92 out_16 ([] : (List Int))).bind fun o17 =>
  some o17 : Option (List Int))) rfl (by exact go)
instance : Io0 cx 138 := ⟨rfl⟩
instance i91_1 {relations : (List Relation)} {query : Query} {occurring_19 : (List Int)} {x_20 : Int} {v_22 : Atom} : Lp cx (lw (relations, occurring_19, x_20) (f91_1 query v_22)) 94 L91_1 (fun (zs : Int) => [(0, .v (ssl eRelation relations)), (3, .v (.ptr true [(iT query.VariableCount), (ssl eAtom query.Atoms), (ssl eI query.Free)])), (5, .v (ssl eI occurring_19)), (7, .v (.ptr true [(iT v_22.Relation), (ssl eI v_22.Terms)])), (36, .v (ssl eAtom query.Atoms)), (37, .v (iT (query.Atoms.length : Int))), (38, .v (iT x_20)), (71, .v (ssl eI v_22.Terms)), (72, .v (iT (v_22.Terms.length : Int))), (73, .v (iT zs))]) (QO (QX 2 (fun (y : Unit) => [(0, .v (ssl eRelation relations)), (3, .v (.ptr true [(iT query.VariableCount), (ssl eAtom query.Atoms), (ssl eI query.Free)])), (5, .v (ssl eI occurring_19)), (7, .v (.ptr true [(iT v_22.Relation), (ssl eI v_22.Terms)])), (36, .v (ssl eAtom query.Atoms)), (37, .v (iT (query.Atoms.length : Int))), (38, .v (iT x_20))])) (QR (fun (y : Bool) => [(4, .v (.bool y))]))) := Lp.of (by unfold lw f91_1; exact go)
end
end Go.Proofs.YtjmemfggbhkofaaGreatH
