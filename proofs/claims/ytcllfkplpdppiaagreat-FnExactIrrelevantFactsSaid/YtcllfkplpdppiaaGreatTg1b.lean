import Derived.Test.YtcllfkplpdppiaaGreatTg1a
set_option maxHeartbeats 2000000
set_option linter.unusedVariables false
set_option linter.unusedSimpArgs false
set_option linter.defProp false
set_option linter.unusedSectionVars false
set_option maxRecDepth 100000
namespace Go.Proofs.YtcllfkplpdppiaaGreatH
open Go
noncomputable section
instance i142 {d : Database} {q : Query} : Rn cx (f142 d q) 142 [(.agg [(ssl eRelation d.Relations), (ssl eFact d.Facts)]), (.agg [(iT q.VariableCount), (ssl eAtom q.Atoms), (ssl eI q.Free)])] (fun (r : (List (List Int))) => (osl (eL eI) false r)) (fun r => []) := by
 refine Rn.of (e := (
  sn 5 5 (osl (eL eI) false ([])) <| 
  (f132 d q).bind fun o1 =>
  sn 1 6 (ssl eEmbedding o1) <| 
  (iter (f142_0 d o1) ([], 0)).bind fun out_20 =>
  some out_20 : Option (List (List Int)))) rfl rfl (by decide) rfl ?_
 exact go
instance : Io0 cx 142 := ⟨rfl⟩
instance i95_0 {l : (List Int)} {x : Int} : Lp cx (f95_0 l x) 18 L95_0 (fun (zs : Int) => [(0, .v (ssl eI l)), (1, .v (iT x)), (5, .v (iT zs))]) (QO (QX 0 (fun (y : Unit) => [])) (QR (fun (y : Bool) => [(4, .v (.bool y))]))) := by
 refine Lp.of ?_; unfold f95_0; exact go
instance i95 {l : (List Int)} {x : Int} : Rn cx (f95 l x) 95 [(ssl eI l), (iT x)] (fun (r : Bool) => (.bool r)) (fun r => []) := by
 refine Rn.of rfl rfl (by decide) rfl ?_; unfold f95; exact go
instance : Io0 cx 95 := ⟨rfl⟩
instance i123_1 {d : Database} {o1 : (List (List Int))} {out_3 : (List Int)} {x_4 : Int} : Lp cx (lw (d, out_3) (f123_1 o1 x_4)) 42 L123_1 (fun (zs : Bool × Int) => [(2, .v (.ptr true [(ssl eRelation d.Relations), (ssl eFact d.Facts)])), (5, .v (osl eI true out_3)), (6, .v (osl (eL eI) false o1)), (7, .v (iT x_4)), (8, .v (.bool zs.1)), (9, .v (iT zs.2))]) (QX 2 (fun (y : Bool) => [(2, .v (.ptr true [(ssl eRelation d.Relations), (ssl eFact d.Facts)])), (5, .v (osl eI true out_3)), (6, .v (osl (eL eI) false o1)), (7, .v (iT x_4)), (8, .v (.bool y))])) := by
 refine Lp.of (f := (fun
 | (is_6, i_7) =>
  if i_7 < (o1.length : Int) then
  (jn (QN (fun (y : Bool) => [(2, .v (.ptr true [(ssl eRelation d.Relations), (ssl eFact d.Facts)])), (5, .v (osl eI true out_3)), (6, .v (osl (eL eI) false o1)), (7, .v (iT x_4)), (8, .v (.bool y)), (9, .v (iT i_7))])) ((if is_6 = true then
  some true
  else
  (ix o1 i_7).bind fun v_12 =>
  (f95 v_12 x_4).bind fun o14 =>
  some o14) : Option (Bool))).bind fun is_9 =>
  some (.inl (is_9, w64 (i_7 + 1)))
  else
  some (.inr is_6) : Bool × Int → Option ((Bool × Int) ⊕ Bool))) ?_
 exact go
instance i123_0 {d : Database} {o1 : (List (List Int))} : Lp cx (f123_0 d o1) 42 L123_0 (fun (zs : (List Int) × Int) => [(2, .v (.ptr true [(ssl eRelation d.Relations), (ssl eFact d.Facts)])), (5, .v (osl eI true zs.1)), (6, .v (osl (eL eI) false o1)), (7, .v (iT zs.2))]) (QX 0 (fun (y : (List Int)) => [(5, .v (osl eI true y))])) := by
 refine Lp.of (f := (fun
 | (out_3, x_4) =>
  if x_4 < (d.Facts.length : Int) then
  (iter (lw (d, out_3)  (f123_1 o1 x_4)) (false, 0)).bind fun is_18 =>
  (jn (QN (fun (y : (List Int)) => [(2, .v (.ptr true [(ssl eRelation d.Relations), (ssl eFact d.Facts)])), (5, .v (osl eI true y)), (6, .v (osl (eL eI) false o1)), (7, .v (iT x_4))])) ((if is_18 = true then
  (app 8 out_3 ([x_4])).bind fun l_22 =>
  some l_22
  else
  some out_3) : Option (List Int))).bind fun out_24 =>
  some (.inl (out_24, w64 (x_4 + 1)))
  else
  some (.inr out_3) : (List Int) × Int → Option (((List Int) × Int) ⊕ (List Int)))) ?_
 exact go
instance i123 {d : Database} {q : Query} : Rn cx (f123 d q) 123 [(.agg [(ssl eRelation d.Relations), (ssl eFact d.Facts)]), (.agg [(iT q.VariableCount), (ssl eAtom q.Atoms), (ssl eI q.Free)])] (fun (r : (List Int)) => (osl eI true r)) (fun r => []) := by
 refine Rn.of (e := (
  sn 5 5 (osl eI true ([])) <| 
  (f142 d q).bind fun o1 =>
  (iter (f123_0 d o1) ([], 0)).bind fun out_27 =>
  some out_27 : Option (List Int))) rfl rfl (by decide) rfl ?_
 exact go
instance : Io0 cx 123 := ⟨rfl⟩
instance i52_0 {d : Database} {q : Query} {o1 : (List Int)} : Lp cx (f52_0 d q o1) 33 L52_0 (fun (zs : (List Int) × Int) => [(2, .v (.ptr true [(ssl eRelation d.Relations), (ssl eFact d.Facts)])), (3, .v (.ptr true [(iT q.VariableCount), (ssl eAtom q.Atoms), (ssl eI q.Free)])), (5, .v (osl eI true zs.1)), (6, .v (osl eI true o1)), (7, .v (iT zs.2))]) (QX 0 (fun (y : (List Int)) => [(5, .v (osl eI true y))])) := by
 refine Lp.of (f := (fun
 | (out_3, i_4) =>
  (jn (QN (fun (y : Bool) => [(2, .v (.ptr true [(ssl eRelation d.Relations), (ssl eFact d.Facts)])), (3, .v (.ptr true [(iT q.VariableCount), (ssl eAtom q.Atoms), (ssl eI q.Free)])), (5, .v (osl eI true out_3)), (6, .v (osl eI true o1)), (7, .v (iT i_4)), (21, .v (.bool y))])) ((if i_4 < (d.Facts.length : Int) then
  (f88 d q).bind fun o8 =>
  some o8
  else
  some false) : Option (Bool))).bind fun x_5 =>
  if x_5 = true then
  (f95 o1 i_4).bind fun o11 =>
  (jn (QN (fun (y : (List Int)) => [(2, .v (.ptr true [(ssl eRelation d.Relations), (ssl eFact d.Facts)])), (3, .v (.ptr true [(iT q.VariableCount), (ssl eAtom q.Atoms), (ssl eI q.Free)])), (5, .v (osl eI true y)), (6, .v (osl eI true o1)), (7, .v (iT i_4))])) ((if ¬ (o11 = true) then
  (app 8 out_3 ([i_4])).bind fun l_16 =>
  some l_16
  else
  some out_3) : Option (List Int))).bind fun out_18 =>
  some (.inl (out_18, w64 (i_4 + 1)))
  else
  some (.inr out_3) : (List Int) × Int → Option (((List Int) × Int) ⊕ (List Int)))) ?_
 exact go
instance i52 {d : Database} {q : Query} : Rn cx (f52 d q) 52 [(.agg [(ssl eRelation d.Relations), (ssl eFact d.Facts)]), (.agg [(iT q.VariableCount), (ssl eAtom q.Atoms), (ssl eI q.Free)])] (fun (r : (List Int)) => (osl eI true r)) (fun r => []) := by
 refine Rn.of (e := (
  sn 5 5 (osl eI true ([])) <| 
  (f123 d q).bind fun o1 =>
  (iter (f52_0 d q o1) ([], 0)).bind fun out_21 =>
  some out_21 : Option (List Int))) rfl rfl (by decide) rfl ?_
 exact go
instance : Io0 cx 52 := ⟨rfl⟩
instance i122 {n0 : Int} {low : Int} {high : Int} : Rn cx (f122 n0 low high) 122 [(iT n0), (iT low), (iT high)] (fun (r : Bool) => (.bool r)) (fun r => []) := by
 refine Rn.of (e := (
  (jn (QN (fun (y : Bool) => [(6, .v (.bool y))])) ((if low ≤ n0 then
  some (decide (n0 ≤ high))
  else
  some false) : Option (Bool))).bind fun x_1 =>
  some x_1 : Option Bool)) rfl rfl (by decide) rfl ?_
 exact go
instance : Io0 cx 122 := ⟨rfl⟩
instance i208 {relation : Relation} : Rn cx (f208 relation) 208 [(.agg [(.str relation.Name), (iT relation.Arity), (iT relation.KeyLength)])] (fun (r : Bool) => (.bool r)) (fun r => []) := by
 refine Rn.of (e := (
  (jn (QN (fun (y : Bool) => [(2, .v (.bool y))])) ((if (relation.Name.length : Int) = 1 then
  (ix relation.Name 0).bind fun c_4 =>
  (jn (QN (fun (y : Bool) => [(2, .v (.bool y))])) ((if (c_4.toNat : Int) ≥ 97 then
  (jn (QN (fun (y : Bool) => [(2, .v (.bool y))])) ((if (c_4.toNat : Int) ≤ 122 then
  (f122 relation.Arity 1 3).bind fun o12 =>
  (jn (QN (fun (y : Bool) => [(2, .v (.bool y))])) ((if o12 = true then
  (f122 relation.KeyLength 0 relation.Arity).bind fun o17 =>
  some o17
  else
  some false) : Option (Bool))).bind fun x_14 =>
  some x_14
  else
  some false) : Option (Bool))).bind fun x_9 =>
  some x_9
  else
  some false) : Option (Bool))).bind fun x_6 =>
  some x_6
  else
  some false) : Option (Bool))).bind fun x_1 =>
  some x_1 : Option Bool)) rfl rfl (by decide) rfl ?_
 exact go
instance : Io0 cx 208 := ⟨rfl⟩
instance i156_0 {relations : (List Relation)} : Lp cx (f156_0 relations) 34 L156_0 (fun (zs : Int) => [(0, .v (ssl eRelation relations)), (5, .v (ssl eRelation relations)), (6, .v (iT (relations.length : Int))), (7, .v (iT zs))]) (QO (QX 0 (fun (y : Unit) => [(0, .v (ssl eRelation relations))])) (QR (fun (y : Bool) => [(2, .v (.bool y))]))) := by
 refine Lp.of (f := (fun
 | x_1 =>
  if x_1 < (relations.length : Int) then
  (ix relations x_1).bind fun v_3 =>
  (f208 v_3).bind fun o5 =>
  (jn (QN (fun (y : Bool) => [(0, .v (ssl eRelation relations)), (5, .v (ssl eRelation relations)), (6, .v (iT (relations.length : Int))), (7, .v (iT x_1)), (29, .v (.bool y))])) ((if ¬ (o5 = true) then
  some true
  else
  (jn (QN (fun (y : Bool) => [(0, .v (ssl eRelation relations)), (5, .v (ssl eRelation relations)), (6, .v (iT (relations.length : Int))), (7, .v (iT x_1)), (29, .v (.bool y))])) ((if x_1 > 0 then
  (ix relations (w64 (x_1 - 1))).bind fun v_13 =>
  some (!(Op.bytesLess v_13.Name v_3.Name))
  else
  some false) : Option (Bool))).bind fun x_10 =>
  some x_10) : Option (Bool))).bind fun x_7 =>
  if x_7 = true then
  some (.inr (.inr false))
  else
  some (.inl (w64 (x_1 + 1)))
  else
  some (.inr (.inl ())) : Int → Option (Int ⊕ (Unit ⊕ Bool)))) ?_
 exact go
instance i156 {relations : (List Relation)} : Rn cx (f156 relations) 156 [(ssl eRelation relations)] (fun (r : Bool) => (.bool r)) (fun r => []) := by
 refine Rn.of rfl rfl (by decide) rfl ?_; unfold f156; exact go
instance : Io0 cx 156 := ⟨rfl⟩
instance i212_0 {s0 : (List Int)} {g_f : Nat} {cp_f : List T} {f : Int → Option Bool} [hp_f : ∀ x0, Rn cx (f x0) g_f ((iT x0) :: cp_f) (fun o => (.bool o)) (fun _ => [])] [Io0 cx g_f] : Lp cx (f212_0 s0 f) 19 L212_0 (fun (zs : Int) => [(0, .v (ssl eI s0)), (1, .v (.fn g_f cp_f)), (7, .v (iT (s0.length : Int))), (8, .v (iT zs))]) (QO (QX 0 (fun (y : Unit) => [])) (QR (fun (y : Int) => [(4, .v (iT y))]))) := by
 refine Lp.of ?_; unfold f212_0; exact go
instance i212 {s0 : (List Int)} {g_f : Nat} {cp_f : List T} {f : Int → Option Bool} [hp_f : ∀ x0, Rn cx (f x0) g_f ((iT x0) :: cp_f) (fun o => (.bool o)) (fun _ => [])] [Io0 cx g_f] : Rn cx (f212 s0 f) 212 [(ssl eI s0), (.fn g_f cp_f)] (fun (r : Int) => (iT r)) (fun r => []) := by
 refine Rn.of rfl rfl (by decide) rfl ?_; unfold f212; exact go
instance : Io0 cx 212 := ⟨rfl⟩
instance i159 {s0 : (List Int)} {g_f : Nat} {cp_f : List T} {f : Int → Option Bool} [hp_f : ∀ x0, Rn cx (f x0) g_f ((iT x0) :: cp_f) (fun o => (.bool o)) (fun _ => [])] [Io0 cx g_f] : Rn cx (f159 s0 f) 159 [(ssl eI s0), (.fn g_f cp_f)] (fun (r : Bool) => (.bool r)) (fun r => []) := by
 refine Rn.of rfl rfl (by decide) rfl ?_; unfold f159; exact go
instance : Io0 cx 159 := ⟨rfl⟩
instance i245 {v : Int} : Rn cx (f245 v) 245 [(iT v)] (fun (r : Bool) => (.bool r)) (fun r => []) := by
 refine Rn.of rfl rfl (by decide) rfl ?_; unfold f245; exact go
instance : Io0 cx 245 := ⟨rfl⟩
instance i209 {list : (List Int)} : Rn cx (f209 list) 209 [(ssl eI list)] (fun (r : Bool) => (.bool r)) (fun r => []) := by
 refine Rn.of rfl rfl (by decide) rfl ?_; unfold f209; exact go
instance : Io0 cx 209 := ⟨rfl⟩
instance i157 {relations : (List Relation)} {fact : Fact} : Rn cx (f157 relations fact) 157 [(ssl eRelation relations), (.agg [(iT fact.Relation), (ssl eI fact.Values)])] (fun (r : Bool) => (.bool r)) (fun r => []) := by
 refine Rn.of (e := (
  (f122 fact.Relation 0 (w64 ((relations.length : Int) - 1))).bind fun o1 =>
  (jn (QN (fun (y : Bool) => [(4, .v (.bool y))])) ((if o1 = true then
  (ix relations fact.Relation).bind fun v_6 =>
  (jn (QN (fun (y : Bool) => [(4, .v (.bool y))])) ((if (fact.Values.length : Int) = v_6.Arity then
  (f209 fact.Values).bind fun o11 =>
  some o11
  else
  some false) : Option (Bool))).bind fun x_8 =>
  some x_8
  else
  some false) : Option (Bool))).bind fun x_3 =>
  some x_3 : Option Bool)) rfl rfl (by decide) rfl ?_
 exact go
instance : Io0 cx 157 := ⟨rfl⟩
instance i210 {a : Int} {b : Int} : Rn cx (f210 a b) 210 [(iT a), (iT b)] (fun (r : Int) => (iT r)) (fun r => []) := by
 refine Rn.of rfl rfl (by decide) rfl ?_; unfold f210; exact go
instance : Io0 cx 210 := ⟨rfl⟩
instance i262 {x : Int} : Rn cx (f262 x) 262 [(iT x)] (fun (r : Bool) => (.bool r)) (fun r => []) := by
 refine Rn.of rfl rfl (by decide) rfl ?_; unfold f262; exact go
instance : Io0 cx 262 := ⟨rfl⟩
instance i246 {x : Int} {y : Int} : Rn cx (f246 x y) 246 [(iT x), (iT y)] (fun (r : Int) => (iT r)) (fun r => []) := by
 refine Rn.of rfl rfl (by decide) rfl ?_; unfold f246; exact go
instance : Io0 cx 246 := ⟨rfl⟩
instance i211_0 {s1 : (List Int)} {s2 : (List Int)} : Lp cx (f211_0 s1 s2) 36 L211_0 (fun (zs : Int) => [(0, .v (ssl eI s1)), (1, .v (ssl eI s2)), (9, .v (ssl eI s1)), (10, .v (iT (s1.length : Int))), (11, .v (iT zs))]) (QO (QX 0 (fun (y : Unit) => [(0, .v (ssl eI s1)), (1, .v (ssl eI s2))])) (QR (fun (y : Int) => [(4, .v (iT y))]))) := by
 refine Lp.of ?_; unfold f211_0; exact go
instance i211 {s1 : (List Int)} {s2 : (List Int)} : Rn cx (f211 s1 s2) 211 [(ssl eI s1), (ssl eI s2)] (fun (r : Int) => (iT r)) (fun r => []) := by
 refine Rn.of rfl rfl (by decide) rfl ?_; unfold f211; exact go
instance : Io0 cx 211 := ⟨rfl⟩
instance i158 {a : Fact} {b : Fact} : Rn cx (f158 a b) 158 [(.agg [(iT a.Relation), (ssl eI a.Values)]), (.agg [(iT b.Relation), (ssl eI b.Values)])] (fun (r : Int) => (iT r)) (fun r => []) := by
 refine Rn.of rfl rfl (by decide) rfl ?_; unfold f158; exact go
instance : Io0 cx 158 := ⟨rfl⟩
instance i79_0 {db : Database} : Lp cx (f79_0 db) 44 L79_0 (fun (zs : Int) => [(1, .v (.ptr true [(ssl eRelation db.Relations), (ssl eFact db.Facts)])), (16, .v (ssl eFact db.Facts)), (17, .v (iT (db.Facts.length : Int))), (18, .v (iT zs))]) (QO (QX 0 (fun (y : Unit) => [])) (QR (fun (y : Bool) => [(2, .v (.bool y))]))) := by
 refine Lp.of (f := (fun
 | x_7 =>
  if x_7 < (db.Facts.length : Int) then
  (ix db.Facts x_7).bind fun v_9 =>
  (f157 db.Relations v_9).bind fun o11 =>
  (jn (QN (fun (y : Bool) => [(1, .v (.ptr true [(ssl eRelation db.Relations), (ssl eFact db.Facts)])), (16, .v (ssl eFact db.Facts)), (17, .v (iT (db.Facts.length : Int))), (18, .v (iT x_7)), (42, .v (.bool y))])) ((if ¬ (o11 = true) then
  some true
  else
  (jn (QN (fun (y : Bool) => [(1, .v (.ptr true [(ssl eRelation db.Relations), (ssl eFact db.Facts)])), (16, .v (ssl eFact db.Facts)), (17, .v (iT (db.Facts.length : Int))), (18, .v (iT x_7)), (42, .v (.bool y))])) ((if x_7 > 0 then
  (ix db.Facts (w64 (x_7 - 1))).bind fun v_19 =>
  (f158 v_19 v_9).bind fun o21 =>
  some (decide (o21 ≥ 0))
  else
  some false) : Option (Bool))).bind fun x_16 =>
  some x_16) : Option (Bool))).bind fun x_13 =>
  if x_13 = true then
  some (.inr (.inr false))
  else
  some (.inl (w64 (x_7 + 1)))
  else
  some (.inr (.inl ())) : Int → Option (Int ⊕ (Unit ⊕ Bool)))) ?_
 exact go
instance i79 {db : Database} : Rn cx (f79 db) 79 [(.agg [(ssl eRelation db.Relations), (ssl eFact db.Facts)])] (fun (r : Bool) => (.bool r)) (fun r => []) := by
 refine Rn.of (e := (
  (f156 db.Relations).bind fun o1 =>
  (jn (QN (fun (y : Bool) => [(1, .v (.ptr true [(ssl eRelation db.Relations), (ssl eFact db.Facts)])), (14, .v (.bool y))])) ((if ¬ (o1 = true) then
  some true
  else
  some (decide ((db.Facts.length : Int) > 14))) : Option (Bool))).bind fun x_3 =>
  if x_3 = true then
  some false
  else
  (iter (f79_0 db) 0).bind fun o => match o with
  | .inl _ =>
  some true
  | .inr x_26 =>
  some x_26 : Option Bool)) rfl rfl (by decide) rfl ?_
 exact go
instance : Io0 cx 79 := ⟨rfl⟩
instance i172_0 {indices : (List Int)} {n1 : Int} : Lp cx (f172_0 indices n1) 33 L172_0 (fun (zs : Int) => [(0, .v (ssl eI indices)), (1, .v (iT n1)), (7, .v (ssl eI indices)), (8, .v (iT (indices.length : Int))), (9, .v (iT zs))]) (QO (QX 0 (fun (y : Unit) => [])) (QR (fun (y : Bool) => [(4, .v (.bool y))]))) := by
 refine Lp.of (f := (fun
 | x_1 =>
  if x_1 < (indices.length : Int) then
  (ix indices x_1).bind fun v_3 =>
  (f122 v_3 0 (w64 (n1 - 1))).bind fun o5 =>
  (jn (QN (fun (y : Bool) => [(0, .v (ssl eI indices)), (1, .v (iT n1)), (7, .v (ssl eI indices)), (8, .v (iT (indices.length : Int))), (9, .v (iT x_1)), (31, .v (.bool y))])) ((if ¬ (o5 = true) then
  some true
  else
  (jn (QN (fun (y : Bool) => [(0, .v (ssl eI indices)), (1, .v (iT n1)), (7, .v (ssl eI indices)), (8, .v (iT (indices.length : Int))), (9, .v (iT x_1)), (31, .v (.bool y))])) ((if x_1 > 0 then
  (ix indices (w64 (x_1 - 1))).bind fun v_13 =>
  some (decide (v_13 ≥ v_3))
  else
  some false) : Option (Bool))).bind fun x_10 =>
  some x_10) : Option (Bool))).bind fun x_7 =>
  if x_7 = true then
  some (.inr (.inr false))
  else
  some (.inl (w64 (x_1 + 1)))
  else
  some (.inr (.inl ())) : Int → Option (Int ⊕ (Unit ⊕ Bool)))) ?_
 exact go
instance i172 {indices : (List Int)} {n1 : Int} : Rn cx (f172 indices n1) 172 [(ssl eI indices), (iT n1)] (fun (r : Bool) => (.bool r)) (fun r => []) := by
 refine Rn.of rfl rfl (by decide) rfl ?_; unfold f172; exact go
instance : Io0 cx 172 := ⟨rfl⟩
instance i219_0 {s0 : (List Atom)} {g_f : Nat} {cp_f : List T} {f : Atom → Option Bool} [hp_f : ∀ x0, Rn cx (f x0) g_f ((.agg [(iT x0.Relation), (ssl eI x0.Terms)]) :: cp_f) (fun o => (.bool o)) (fun _ => [])] [Io0 cx g_f] : Lp cx (f219_0 s0 f) 19 L219_0 (fun (zs : Int) => [(0, .v (ssl eAtom s0)), (1, .v (.fn g_f cp_f)), (7, .v (iT (s0.length : Int))), (8, .v (iT zs))]) (QO (QX 0 (fun (y : Unit) => [])) (QR (fun (y : Int) => [(4, .v (iT y))]))) := by
 refine Lp.of ?_; unfold f219_0; exact go
instance i219 {s0 : (List Atom)} {g_f : Nat} {cp_f : List T} {f : Atom → Option Bool} [hp_f : ∀ x0, Rn cx (f x0) g_f ((.agg [(iT x0.Relation), (ssl eI x0.Terms)]) :: cp_f) (fun o => (.bool o)) (fun _ => [])] [Io0 cx g_f] : Rn cx (f219 s0 f) 219 [(ssl eAtom s0), (.fn g_f cp_f)] (fun (r : Int) => (iT r)) (fun r => []) := by
 refine Rn.of rfl rfl (by decide) rfl ?_; unfold f219; exact go
instance : Io0 cx 219 := ⟨rfl⟩
instance i173 {s0 : (List Atom)} {g_f : Nat} {cp_f : List T} {f : Atom → Option Bool} [hp_f : ∀ x0, Rn cx (f x0) g_f ((.agg [(iT x0.Relation), (ssl eI x0.Terms)]) :: cp_f) (fun o => (.bool o)) (fun _ => [])] [Io0 cx g_f] : Rn cx (f173 s0 f) 173 [(ssl eAtom s0), (.fn g_f cp_f)] (fun (r : Bool) => (.bool r)) (fun r => []) := by
 refine Rn.of rfl rfl (by decide) rfl ?_; unfold f173; exact go
instance : Io0 cx 173 := ⟨rfl⟩
instance i174 {own : Atom} {c : Atom} : Rn cx (f174 own c) 174 [(.agg [(iT own.Relation), (ssl eI own.Terms)]), (.ptr false [(iT c.Relation), (ssl eI c.Terms)])] (fun (r : Bool) => (.bool r)) (fun r => []) := by
 refine Rn.of rfl rfl (by decide) rfl ?_; unfold f174; exact go
instance : Io0 cx 174 := ⟨rfl⟩
theorem r217 {n : Int} {r : Nat} (h : f217 n = some r) : VJx cx (.ca 217 [.nils, .int .i64 n] (.sl true true 1 r []) []) := by
 exact ca_grow (zs := [.int .i64 (0)]) (zt := [(iT 0)]) rfl rfl rfl rfl (by decide) (by decide) h
instance i217 {n : Int} : Rn cx (f217 n) 217 [.nils, .int .i64 n] (fun r => .sl true true 1 r []) (fun _ => []) := ⟨fun _ h => r217 h⟩
instance i169_0 {slices : (List (List Int))} : Lp cx (f169_0 slices) 36 L169_0 (fun (zs : Int × Int) => [(0, .v (ssl (eL eI) slices)), (3, .v (iT zs.1)), (9, .v (ssl (eL eI) slices)), (10, .v (iT (slices.length : Int))), (11, .v (iT zs.2))]) (QX 0 (fun (y : Int) => [(0, .v (ssl (eL eI) slices)), (3, .v (iT y))])) := by
 refine Lp.of (f := (fun
 | (size_1, x_2) =>
  if x_2 < (slices.length : Int) then
  (ix slices x_2).bind fun v_4 =>
  (jn (QN (fun (y : Unit) => [(0, .v (ssl (eL eI) slices)), (3, .v (iT (w64 (size_1 + (v_4.length : Int))))), (9, .v (ssl (eL eI) slices)), (10, .v (iT (slices.length : Int))), (11, .v (iT x_2))])) ((if (w64 (size_1 + (v_4.length : Int))) < 0 then
  none
  else
  some ()) : Option Unit)).bind fun _ =>
  some (.inl (w64 (size_1 + (v_4.length : Int)), w64 (x_2 + 1)))
  else
  some (.inr size_1) : Int × Int → Option ((Int × Int) ⊕ Int))) ?_
 exact go
instance i169_1 {slices : (List (List Int))} : Lp cx (f169_1 slices) 36 L169_1 (fun (zs : Nat × (List Int) × Int) => [(6, .v (.sl true true 1 zs.1 (arr eI true zs.2.1))), (25, .v (ssl (eL eI) slices)), (26, .v (iT (slices.length : Int))), (27, .v (iT zs.2.2))]) (QX 2 (fun (y : Nat × (List Int)) => [(6, .v (.sl true true 1 y.1 (arr eI true y.2)))])) := by
 refine Lp.of ?_; unfold f169_1; exact go
instance i169 {slices : (List (List Int))} : Rn cx (f169 slices) 169 [(ssl (eL eI) slices)] (fun (r : (List Int)) => (osl eI true r)) (fun r => []) := by
 refine Rn.of rfl rfl (by decide) rfl ?_; unfold f169; exact go
instance : Io0 cx 169 := ⟨rfl⟩
instance i240 {x : Int} : Rn cx (f240 x) 240 [(.int .u64 x)] (fun (r : Int) => (iT r)) (fun r => []) := by
 refine Rn.of (e := (
  (jn (QN (fun (y : Int × Int) => [(0, .v (.int .u64 y.1)), (2, .v (iT y.2))])) ((if x ≥ 4294967296 then
  some (sshr .u64 x 32, 32)
  else
  some (x, 0)) : Option (Int × Int))).bind fun (x_4, n_5) =>
  (jn (QN (fun (y : Int × Int) => [(0, .v (.int .u64 y.1)), (2, .v (iT y.2))])) ((if x_4 ≥ 65536 then
  some (sshr .u64 x_4 16, w64 (n_5 + 16))
  else
  some (x_4, n_5)) : Option (Int × Int))).bind fun (x_9, n_10) =>
  (jn (QN (fun (y : Int × Int) => [(0, .v (.int .u64 y.1)), (2, .v (iT y.2))])) ((if x_9 ≥ 256 then
  some (sshr .u64 x_9 8, w64 (n_10 + 8))
  else
  some (x_9, n_10)) : Option (Int × Int))).bind fun (x_14, n_15) =>
  (ix ([0, 1, 2, 2, 3, 3, 3, 3, 4, 4, 4, 4, 4, 4, 4, 4, 5, 5, 5, 5, 5, 5, 5, 5, 5, 5, 5, 5, 5, 5, 5, 5, 6, 6, 6, 6, 6, 6, 6, 6, 6, 6, 6, 6, 6, 6, 6, 6, 6, 6, 6, 6, 6, 6, 6, 6, 6, 6, 6, 6, 6, 6, 6, 6, 7, 7, 7, 7, 7, 7, 7, 7, 7, 7, 7, 7, 7, 7, 7, 7, 7, 7, 7, 7, 7, 7, 7, 7, 7, 7, 7, 7, 7, 7, 7, 7, 7, 7, 7, 7, 7, 7, 7, 7, 7, 7, 7, 7, 7, 7, 7, 7, 7, 7, 7, 7, 7, 7, 7, 7, 7, 7, 7, 7, 7, 7, 7, 7, 8, 8, 8, 8, 8, 8, 8, 8, 8, 8, 8, 8, 8, 8, 8, 8, 8, 8, 8, 8, 8, 8, 8, 8, 8, 8, 8, 8, 8, 8, 8, 8, 8, 8, 8, 8, 8, 8, 8, 8, 8, 8, 8, 8, 8, 8, 8, 8, 8, 8, 8, 8, 8, 8, 8, 8, 8, 8, 8, 8, 8, 8, 8, 8, 8, 8, 8, 8, 8, 8, 8, 8, 8, 8, 8, 8, 8, 8, 8, 8, 8, 8, 8, 8, 8, 8, 8, 8, 8, 8, 8, 8, 8, 8, 8, 8, 8, 8, 8, 8, 8, 8, 8, 8, 8, 8, 8, 8, 8, 8, 8, 8, 8, 8, 8, 8, 8, 8, 8, 8, 8, 8, 8, 8, 8, 8, 8, 8] : List UInt8) (w8 x_14)).bind fun c_16 =>
  some (w64 (n_15 + (w64 (c_16.toNat : Int)))) : Option Int)) rfl rfl (by decide) rfl ?_
 exact go
instance : Io0 cx 240 := ⟨rfl⟩
instance i197 {x : Int} : Rn cx (f197 x) 197 [(.int .u64 x)] (fun (r : Int) => (iT r)) (fun r => []) := by
 refine Rn.of rfl rfl (by decide) rfl ?_; unfold f197; exact go
instance : Io0 cx 197 := ⟨rfl⟩
instance i236 {x : Int} {y : Int} : Rn cx (f236 x y) 236 [(iT x), (iT y)] (fun (r : Bool) => (.bool r)) (fun r => []) := by
 refine Rn.of (e := (
  (f262 x).bind fun o1 =>
  (jn (QN (fun (y : Bool) => [(4, .v (.bool y))])) ((if o1 = true then
  (f262 y).bind fun o6 =>
  (jn (QN (fun (y : Bool) => [(4, .v (.bool y))])) ((if ¬ (o6 = true) then
  some true
  else
  some (decide (x < y))) : Option (Bool))).bind fun x_8 =>
  some x_8
  else
  some (decide (x < y))) : Option (Bool))).bind fun x_3 =>
  some x_3 : Option Bool)) rfl rfl (by decide) rfl ?_
 exact go
instance : Io0 cx 236 := ⟨rfl⟩
instance i230_1 {a : Int} {b : Int} {i_2 : Int} : Lp cx (lw (b, i_2) (f230_1 a)) 49 L230_1 (fun (zs : (List Int) × Int) => [(0, .v (osl eI true zs.1)), (1, .v (iT a)), (2, .v (iT b)), (6, .v (iT i_2)), (7, .v (iT zs.2))]) (QX 2 (fun (y : (List Int)) => [(0, .v (osl eI true y)), (1, .v (iT a)), (2, .v (iT b)), (6, .v (iT i_2))])) := by
 refine Lp.of (f := (fun
 | (data_4, j_5) =>
  (jn (QN (fun (y : Bool) => [(0, .v (osl eI true data_4)), (1, .v (iT a)), (2, .v (iT b)), (6, .v (iT i_2)), (7, .v (iT j_5)), (30, .v (.bool y))])) ((if j_5 > a then
  (ix data_4 j_5).bind fun v_9 =>
  (ix data_4 (w64 (j_5 - 1))).bind fun v_11 =>
  (f236 v_9 v_11).bind fun o13 =>
  some o13
  else
  some false) : Option (Bool))).bind fun x_6 =>
  if x_6 = true then
  (ix data_4 (w64 (j_5 - 1))).bind fun v_16 =>
  (ix data_4 j_5).bind fun v_18 =>
  (ix (data_4.set j_5.toNat v_16) (w64 (j_5 - 1))).bind fun v_21 =>
  some (.inl (((data_4.set j_5.toNat v_16).set (w64 (j_5 - 1)).toNat v_18), w64 (j_5 - 1)))
  else
  some (.inr data_4) : (List Int) × Int → Option (((List Int) × Int) ⊕ (List Int)))) ?_
 exact go
instance i230_0 {a : Int} {b : Int} : Lp cx (f230_0 a b) 49 L230_0 (fun (zs : (List Int) × Int) => [(0, .v (osl eI true zs.1)), (1, .v (iT a)), (2, .v (iT b)), (6, .v (iT zs.2))]) (QX 0 (fun (y : (List Int)) => [(0, .v (osl eI true y))])) := by
 refine Lp.of (f := (fun
 | (data_1, i_2) =>
  if i_2 < b then
  (iter (lw (b, i_2)  (f230_1 a)) (data_1, i_2)).bind fun data_26 =>
  some (.inl (data_26, w64 (i_2 + 1)))
  else
  some (.inr data_1) : (List Int) × Int → Option (((List Int) × Int) ⊕ (List Int)))) ?_
 exact go
instance i230 {data : (List Int)} {a : Int} {b : Int} : Rn cx (f230 data a b) 230 [(osl eI true data), (iT a), (iT b)] (fun (r : (List Int)) => (.tup [])) (fun r => [(osl eI true r)]) := by
 refine Rn.of rfl rfl (by decide) rfl ?_; unfold f230; exact go
instance i257_0 {hi : Int} {first : Int} : Lp cx (f257_0 hi first) 76 L257_0 (fun (zs : (List Int) × Int) => [(0, .v (osl eI true zs.1)), (2, .v (iT hi)), (3, .v (iT first)), (8, .v (iT zs.2))]) (QO (QX 0 (fun (y : (List Int)) => [(0, .v (osl eI true y))])) (QR (fun (y : (List Int)) => [(0, .v (osl eI true y))]))) := by
 refine Lp.of (f := (fun
 | (data_1, root_2) =>
  if (w64 ((w64 (2 * root_2)) + 1)) ≥ hi then
  some (.inr (.inl data_1))
  else
  (jn (QN (fun (y : Bool) => [(0, .v (osl eI true data_1)), (2, .v (iT hi)), (3, .v (iT first)), (8, .v (iT root_2)), (9, .v (iT (w64 ((w64 (2 * root_2)) + 1)))), (36, .v (.bool y))])) ((if (w64 ((w64 ((w64 (2 * root_2)) + 1)) + 1)) < hi then
  (ix data_1 (w64 (first + (w64 ((w64 (2 * root_2)) + 1))))).bind fun v_7 =>
  (ix data_1 (w64 ((w64 (first + (w64 ((w64 (2 * root_2)) + 1)))) + 1))).bind fun v_9 =>
  (f236 v_7 v_9).bind fun o11 =>
  some o11
  else
  some false) : Option (Bool))).bind fun x_4 =>
  (jn (QN (fun (y : Int) => [(0, .v (osl eI true data_1)), (2, .v (iT hi)), (3, .v (iT first)), (8, .v (iT root_2)), (9, .v (iT y))])) ((if x_4 = true then
  some (w64 ((w64 ((w64 (2 * root_2)) + 1)) + 1))
  else
  some (w64 ((w64 (2 * root_2)) + 1))) : Option Int)).bind fun child_16 =>
  (ix data_1 (w64 (first + root_2))).bind fun v_17 =>
  (ix data_1 (w64 (first + child_16))).bind fun v_19 =>
  (f236 v_17 v_19).bind fun o21 =>
  if ¬ (o21 = true) then
  some (.inr (.inr data_1))
  else
  (ix (data_1.set (w64 (first + root_2)).toNat v_19) (w64 (first + child_16))).bind fun v_25 =>
  some (.inl (((data_1.set (w64 (first + root_2)).toNat v_19).set (w64 (first + child_16)).toNat v_17), child_16)) : (List Int) × Int → Option (((List Int) × Int) ⊕ ((List Int) ⊕ (List Int))))) ?_
 exact go
instance i257 {data : (List Int)} {lo : Int} {hi : Int} {first : Int} : Rn cx (f257 data lo hi first) 257 [(osl eI true data), (iT lo), (iT hi), (iT first)] (fun (r : (List Int)) => (.tup [])) (fun r => [(osl eI true r)]) := by
 refine Rn.of rfl rfl (by decide) rfl ?_; unfold f257; exact go
instance i231_0 {a : Int} {b : Int} : Lp cx (f231_0 a b) 56 L231_0 (fun (zs : (List Int) × Int) => [(0, .v (osl eI true zs.1)), (6, .v (iT a)), (7, .v (iT 0)), (8, .v (iT (w64 (b - a)))), (9, .v (iT zs.2))]) (QX 0 (fun (y : (List Int)) => [(0, .v (osl eI true y)), (6, .v (iT a)), (7, .v (iT 0)), (8, .v (iT (w64 (b - a))))])) := by
 refine Lp.of ?_; unfold f231_0; exact go
instance i231_1 {a : Int} : Lp cx (f231_1 a) 56 L231_1 (fun (zs : (List Int) × Int) => [(0, .v (osl eI true zs.1)), (6, .v (iT a)), (7, .v (iT 0)), (10, .v (iT zs.2))]) (QX 2 (fun (y : (List Int)) => [(0, .v (osl eI true y))])) := by
 refine Lp.of ?_; unfold f231_1; exact go
instance i231 {data : (List Int)} {a : Int} {b : Int} : Rn cx (f231 data a b) 231 [(osl eI true data), (iT a), (iT b)] (fun (r : (List Int)) => (.tup [])) (fun r => [(osl eI true r)]) := by
 refine Rn.of rfl rfl (by decide) rfl ?_; unfold f231; exact go
instance i258 {length : Int} : Rn cx (f258 length) 258 [(iT length)] (fun (r : Int) => (.int .u64 r)) (fun r => []) := by
 refine Rn.of rfl rfl (by decide) rfl ?_; unfold f258; exact go
instance : Io0 cx 258 := ⟨rfl⟩
instance i259 {r0 : Int} : Rn cx (f259 r0) 259 [(.ptr true [(.int .u64 r0)])] (fun (r : Int × Int) => (.int .u64 r.1)) (fun r => [(.ptr true [(.int .u64 r.2)])]) := by
 refine Rn.of rfl rfl (by decide) rfl ?_; unfold f259; exact go
instance i232_0 {a : Int} {b : Int} {o4 : Int} : Lp cx (f232_0 a b o4) 65 L232_0 (fun (zs : (List Int) × Int × Int) => [(0, .v (osl eI true zs.1)), (1, .v (iT a)), (6, .v (iT (w64 (b - a)))), (7, .v (.ptr true [(.int .u64 zs.2.1)])), (8, .v (.int .u64 o4)), (9, .v (iT zs.2.2))]) (QX 0 (fun (y : (List Int)) => [(0, .v (osl eI true y))])) := by
 refine Lp.of (f := (fun
 | (data_6, random_7, idx_8) =>
  if idx_8 ≤ (w64 ((w64 (a + (w64 ((w64 ((w64 (b - a)).tdiv 4)) * 2)))) + 1)) then
  (f259 random_7).bind fun o10 =>
  (jn (QN (fun (y : Int) => [(0, .v (osl eI true data_6)), (1, .v (iT a)), (6, .v (iT (w64 (b - a)))), (7, .v (.ptr true [(.int .u64 o10.2)])), (8, .v (.int .u64 o4)), (9, .v (iT idx_8)), (10, .v (iT y))])) ((if (w64 (band .u64 o10.1 (IntKind.u64.wrap (o4 - 1)))) ≥ (w64 (b - a)) then
  some (w64 ((w64 (band .u64 o10.1 (IntKind.u64.wrap (o4 - 1)))) - (w64 (b - a))))
  else
  some (w64 (band .u64 o10.1 (IntKind.u64.wrap (o4 - 1))))) : Option Int)).bind fun other_15 =>
  (ix data_6 (w64 (a + other_15))).bind fun v_16 =>
  (ix data_6 idx_8).bind fun v_18 =>
  (ix (data_6.set idx_8.toNat v_16) (w64 (a + other_15))).bind fun v_21 =>
  some (.inl (((data_6.set idx_8.toNat v_16).set (w64 (a + other_15)).toNat v_18), o10.2, w64 (idx_8 + 1)))
  else
  some (.inr data_6) : (List Int) × Int × Int → Option (((List Int) × Int × Int) ⊕ (List Int)))) ?_
 exact go
instance i232 {data : (List Int)} {a : Int} {b : Int} : Rn cx (f232 data a b) 232 [(osl eI true data), (iT a), (iT b)] (fun (r : (List Int)) => (.tup [])) (fun r => [(osl eI true r)]) := by
 refine Rn.of (e := (
  (jn (QN (fun (y : (List Int)) => [(0, .v (osl eI true y))])) ((if (w64 (b - a)) ≥ 8 then
  (f258 (w64 (b - a))).bind fun o4 =>
  (iter (f232_0 a b o4) (data, IntKind.u64.wrap (w64 (b - a)), w64 ((w64 (a + (w64 ((w64 ((w64 (b - a)).tdiv 4)) * 2)))) - 1))).bind fun data_26 =>
  some data_26
  else
  some data) : Option (List Int))).bind fun data_27 =>
  some data_27 : Option (List Int))) rfl rfl (by decide) rfl ?_
 exact go
instance i271 {data : (List Int)} {a : Int} {b : Int} {swaps : Int} : Rn cx (f271 data a b swaps) 271 [(ssl eI data), (iT a), (iT b), (.ptr true [(iT swaps)])] (fun (r : Int × Int × Int) => (.tup [(iT r.1), (iT r.2.1)])) (fun r => [(.ptr true [(iT r.2.2)])]) := by
 refine Rn.of rfl rfl (by decide) rfl ?_; unfold f271; exact go
instance i261 {data : (List Int)} {a : Int} {b : Int} {c : Int} {swaps : Int} : Rn cx (f261 data a b c swaps) 261 [(ssl eI data), (iT a), (iT b), (iT c), (.ptr true [(iT swaps)])] (fun (r : Int × Int) => (iT r.1)) (fun r => [(.ptr true [(iT r.2)])]) := by
 refine Rn.of rfl rfl (by decide) rfl ?_; unfold f261; exact go
instance i260 {data : (List Int)} {a : Int} {swaps : Int} : Rn cx (f260 data a swaps) 260 [(ssl eI data), (iT a), (.ptr true [(iT swaps)])] (fun (r : Int × Int) => (iT r.1)) (fun r => [(.ptr true [(iT r.2)])]) := by
 refine Rn.of rfl rfl (by decide) rfl ?_; unfold f260; exact go
instance i233 {data : (List Int)} {a : Int} {b : Int} : Rn cx (f233 data a b) 233 [(ssl eI data), (iT a), (iT b)] (fun (r : Int × Int) => (.tup [(iT r.1), (iT r.2)])) (fun r => []) := by
 refine Rn.of (e := (
  (jn (QN (fun (y : Int × Int) => [(9, .v (.ptr true [(iT y.1)])), (11, .v (iT y.2))])) ((if (w64 (b - a)) ≥ 8 then
  (jn (QN (fun (y : Int × Int × Int × Int) => [(0, .v (ssl eI data)), (9, .v (.ptr true [(iT y.1)])), (10, .v (iT y.2.1)), (11, .v (iT y.2.2.1)), (12, .v (iT y.2.2.2))])) ((if (w64 (b - a)) ≥ 50 then
  (f260 data (w64 (a + (w64 (w64 ((w64 (b - a)).tdiv 4))))) 0).bind fun o7 =>
  (f260 data (w64 (a + (w64 ((w64 ((w64 (b - a)).tdiv 4)) * 2)))) o7.2).bind fun o9 =>
  (f260 data (w64 (a + (w64 ((w64 ((w64 (b - a)).tdiv 4)) * 3)))) o9.2).bind fun o11 =>
  some (o11.2, o7.1, o9.1, o11.1)
  else
  some (0, w64 (a + (w64 (w64 ((w64 (b - a)).tdiv 4)))), w64 (a + (w64 ((w64 ((w64 (b - a)).tdiv 4)) * 2))), w64 (a + (w64 ((w64 ((w64 (b - a)).tdiv 4)) * 3))))) : Option (Int × Int × Int × Int))).bind fun (swaps_13, i_14, j_15, k_16) =>
  (f261 data i_14 j_15 k_16 swaps_13).bind fun o17 =>
  some (o17.2, o17.1)
  else
  some (0, w64 (a + (w64 ((w64 ((w64 (b - a)).tdiv 4)) * 2))))) : Option (Int × Int))).bind fun (swaps_19, j_20) =>
  if swaps_19 = 0 then
  some (j_20, 1)
  else
  if swaps_19 = 12 then
  some (j_20, 2)
  else
  some (j_20, 0) : Option (Int × Int))) rfl rfl (by decide) rfl ?_
 exact go
instance : Io0 cx 233 := ⟨rfl⟩
instance i234_0 : Lp cx f234_0 32 L234_0 (fun (zs : (List Int) × Int × Int) => [(0, .v (osl eI true zs.1)), (6, .v (iT zs.2.1)), (7, .v (iT zs.2.2))]) (QX 0 (fun (y : (List Int)) => [(0, .v (osl eI true y))])) := by
 refine Lp.of ?_; unfold f234_0; exact go
instance i234 {data : (List Int)} {a : Int} {b : Int} : Rn cx (f234 data a b) 234 [(osl eI true data), (iT a), (iT b)] (fun (r : (List Int)) => (.tup [])) (fun r => [(osl eI true r)]) := by
 refine Rn.of rfl rfl (by decide) rfl ?_; unfold f234; exact go
instance i235_1 {a : Int} {b : Int} {data_1 : (List Int)} {j_3 : Int} : Lp cx (lw (a, j_3) (f235_1 b data_1)) 133 L235_1 (fun (zs : Int) => [(0, .v (osl eI true data_1)), (1, .v (iT a)), (2, .v (iT b)), (7, .v (iT zs)), (8, .v (iT j_3))]) (QX 2 (fun (y : Int) => [(0, .v (osl eI true data_1)), (1, .v (iT a)), (2, .v (iT b)), (7, .v (iT y)), (8, .v (iT j_3))])) := by
 refine Lp.of (f := (fun
 | i_5 =>
  (jn (QN (fun (y : Bool) => [(0, .v (osl eI true data_1)), (1, .v (iT a)), (2, .v (iT b)), (7, .v (iT i_5)), (8, .v (iT j_3)), (32, .v (.bool y))])) ((if i_5 < b then
  (ix data_1 i_5).bind fun v_9 =>
  (ix data_1 (w64 (i_5 - 1))).bind fun v_11 =>
  (f236 v_9 v_11).bind fun o13 =>
  some (decide (¬ (o13 = true)))
  else
  some false) : Option (Bool))).bind fun x_6 =>
  if x_6 = true then
  some (.inl (w64 (i_5 + 1)))
  else
  some (.inr i_5) : Int → Option (Int ⊕ Int))) ?_
 exact go
instance i235_2 {a : Int} {b : Int} {j_3 : Int} {i_18 : Int} : Lp cx (lw (a, b, j_3, i_18) f235_2) 133 L235_2 (fun (zs : (List Int) × Int) => [(0, .v (osl eI true zs.1)), (1, .v (iT a)), (2, .v (iT b)), (7, .v (iT i_18)), (8, .v (iT j_3)), (9, .v (iT zs.2))]) (QX 4 (fun (y : (List Int)) => [(0, .v (osl eI true y)), (1, .v (iT a)), (2, .v (iT b)), (7, .v (iT i_18)), (8, .v (iT j_3))])) := by
 refine Lp.of ?_; unfold lw f235_2; exact go
instance i235_3 {a : Int} {b : Int} {j_3 : Int} {i_18 : Int} : Lp cx (lw (a, j_3, i_18) (f235_3 b)) 133 L235_3 (fun (zs : (List Int) × Int) => [(0, .v (osl eI true zs.1)), (1, .v (iT a)), (2, .v (iT b)), (7, .v (iT i_18)), (8, .v (iT j_3)), (10, .v (iT zs.2))]) (QX 6 (fun (y : (List Int)) => [(0, .v (osl eI true y)), (1, .v (iT a)), (2, .v (iT b)), (7, .v (iT i_18)), (8, .v (iT j_3))])) := by
 refine Lp.of ?_; unfold lw f235_3; exact go
instance i235_0 {a : Int} {b : Int} : Lp cx (f235_0 a b) 133 L235_0 (fun (zs : (List Int) × Int × Int) => [(0, .v (osl eI true zs.1)), (1, .v (iT a)), (2, .v (iT b)), (7, .v (iT zs.2.1)), (8, .v (iT zs.2.2))]) (QO (QX 0 (fun (y : (List Int)) => [(0, .v (osl eI true y))])) (QR (fun (y : (List Int) × Bool) => [(0, .v (osl eI true y.1)), (6, .v (.bool y.2))]))) := by
 refine Lp.of (f := (fun
 | (data_1, i_2, j_3) =>
  if j_3 < 5 then
  (iter (lw (a, j_3)  (f235_1 b data_1)) i_2).bind fun i_18 =>
  if i_18 = b then
  some (.inr (.inr (data_1, true)))
  else
  if (w64 (b - a)) < 50 then
  some (.inr (.inr (data_1, false)))
  else
  (ix data_1 (w64 (i_18 - 1))).bind fun v_21 =>
  (ix data_1 i_18).bind fun v_23 =>
  (ix (data_1.set i_18.toNat v_21) (w64 (i_18 - 1))).bind fun v_26 =>
  (jn (QN (fun (y : (List Int)) => [(0, .v (osl eI true y)), (1, .v (iT a)), (2, .v (iT b)), (7, .v (iT i_18)), (8, .v (iT j_3))])) ((if (w64 (i_18 - a)) ≥ 2 then
  (iter (lw (a, b, j_3, i_18)  f235_2) (((data_1.set i_18.toNat v_21).set (w64 (i_18 - 1)).toNat v_23), w64 (i_18 - 1))).bind fun data_48 =>
  some data_48
  else
  some ((data_1.set i_18.toNat v_21).set (w64 (i_18 - 1)).toNat v_23)) : Option (List Int))).bind fun data_49 =>
  (jn (QN (fun (y : (List Int)) => [(0, .v (osl eI true y)), (1, .v (iT a)), (2, .v (iT b)), (7, .v (iT i_18)), (8, .v (iT j_3))])) ((if (w64 (b - i_18)) ≥ 2 then
  (iter (lw (a, j_3, i_18)  (f235_3 b)) (data_49, w64 (i_18 + 1))).bind fun data_69 =>
  some data_69
  else
  some data_49) : Option (List Int))).bind fun data_70 =>
  some (.inl (data_70, i_18, w64 (j_3 + 1)))
  else
  some (.inr (.inl data_1)) : (List Int) × Int × Int → Option (((List Int) × Int × Int) ⊕ ((List Int) ⊕ ((List Int) × Bool))))) ?_
 exact go
instance i235 {data : (List Int)} {a : Int} {b : Int} : Rn cx (f235 data a b) 235 [(osl eI true data), (iT a), (iT b)] (fun (r : Bool × (List Int)) => (.bool r.1)) (fun r => [(osl eI true r.2)]) := by
 refine Rn.of rfl rfl (by decide) rfl ?_; unfold f235; exact go
instance i237_1 {a : Int} {data_9 : (List Int)} {j_11 : Int} : Lp cx (f237_1 a data_9 j_11) 84 L237_1 (fun (zs : Int) => [(0, .v (osl eI true data_9)), (1, .v (iT a)), (9, .v (iT zs)), (10, .v (iT j_11))]) (QX 2 (fun (y : Int) => [(0, .v (osl eI true data_9)), (1, .v (iT a)), (9, .v (iT y)), (10, .v (iT j_11))])) := by
 refine Lp.of (f := (fun
 | i_12 =>
  (jn (QN (fun (y : Bool) => [(0, .v (osl eI true data_9)), (1, .v (iT a)), (9, .v (iT i_12)), (10, .v (iT j_11)), (43, .v (.bool y))])) ((if i_12 ≤ j_11 then
  (ix data_9 a).bind fun v_16 =>
  (ix data_9 i_12).bind fun v_18 =>
  (f236 v_16 v_18).bind fun o20 =>
  some (decide (¬ (o20 = true)))
  else
  some false) : Option (Bool))).bind fun x_13 =>
  if x_13 = true then
  some (.inl (w64 (i_12 + 1)))
  else
  some (.inr i_12) : Int → Option (Int ⊕ Int))) ?_
 exact go
instance i237_2 {a : Int} {data_9 : (List Int)} {i_25 : Int} : Lp cx (f237_2 a data_9 i_25) 84 L237_2 (fun (zs : Int) => [(0, .v (osl eI true data_9)), (1, .v (iT a)), (9, .v (iT i_25)), (10, .v (iT zs))]) (QX 4 (fun (y : Int) => [(0, .v (osl eI true data_9)), (1, .v (iT a)), (9, .v (iT i_25)), (10, .v (iT y))])) := by
 refine Lp.of (f := (fun
 | j_26 =>
  (jn (QN (fun (y : Bool) => [(0, .v (osl eI true data_9)), (1, .v (iT a)), (9, .v (iT i_25)), (10, .v (iT j_26)), (59, .v (.bool y))])) ((if i_25 ≤ j_26 then
  (ix data_9 a).bind fun v_30 =>
  (ix data_9 j_26).bind fun v_32 =>
  (f236 v_30 v_32).bind fun o34 =>
  some o34
  else
  some false) : Option (Bool))).bind fun x_27 =>
  if x_27 = true then
  some (.inl (w64 (j_26 - 1)))
  else
  some (.inr j_26) : Int → Option (Int ⊕ Int))) ?_
 exact go
instance i237_0 {a : Int} : Lp cx (f237_0 a) 84 L237_0 (fun (zs : (List Int) × Int × Int) => [(0, .v (osl eI true zs.1)), (1, .v (iT a)), (9, .v (iT zs.2.1)), (10, .v (iT zs.2.2))]) (QX 0 (fun (y : (List Int) × Int) => [(0, .v (osl eI true y.1)), (9, .v (iT y.2))])) := by
 refine Lp.of ?_; unfold f237_0; exact go
instance i237 {data : (List Int)} {a : Int} {b : Int} {pivot : Int} : Rn cx (f237 data a b pivot) 237 [(osl eI true data), (iT a), (iT b), (iT pivot)] (fun (r : Int × (List Int)) => (iT r.1)) (fun r => [(osl eI true r.2)]) := by
 refine Rn.of rfl rfl (by decide) rfl ?_; unfold f237; exact go
instance i238_0 {data : (List Int)} {a : Int} {b : Int} {pivot : Int} {v_1 : Int} {v_3 : Int} : Lp cx (f238_0 data a b pivot v_1 v_3) 168 L238_0 (fun (zs : Int) => [(0, .v (osl eI true ((data.set a.toNat v_1).set pivot.toNat v_3))), (1, .v (iT a)), (10, .v (iT zs)), (11, .v (iT (w64 (b - 1))))]) (QX 0 (fun (y : Int) => [(0, .v (osl eI true ((data.set a.toNat v_1).set pivot.toNat v_3))), (1, .v (iT a)), (10, .v (iT y)), (11, .v (iT (w64 (b - 1))))])) := by
 refine Lp.of (f := (fun
 | i_9 =>
  (jn (QN (fun (y : Bool) => [(0, .v (osl eI true ((data.set a.toNat v_1).set pivot.toNat v_3))), (1, .v (iT a)), (10, .v (iT i_9)), (11, .v (iT (w64 (b - 1)))), (43, .v (.bool y))])) ((if i_9 ≤ (w64 (b - 1)) then
  (ix ((data.set a.toNat v_1).set pivot.toNat v_3) i_9).bind fun v_13 =>
  (ix ((data.set a.toNat v_1).set pivot.toNat v_3) a).bind fun v_15 =>
  (f236 v_13 v_15).bind fun o17 =>
  some o17
  else
  some false) : Option (Bool))).bind fun x_10 =>
  if x_10 = true then
  some (.inl (w64 (i_9 + 1)))
  else
  some (.inr i_9) : Int → Option (Int ⊕ Int))) ?_
 exact go
instance i238_1 {data : (List Int)} {a : Int} {pivot : Int} {v_1 : Int} {v_3 : Int} {i_22 : Int} : Lp cx (f238_1 data a pivot v_1 v_3 i_22) 168 L238_1 (fun (zs : Int) => [(0, .v (osl eI true ((data.set a.toNat v_1).set pivot.toNat v_3))), (1, .v (iT a)), (10, .v (iT i_22)), (11, .v (iT zs))]) (QX 2 (fun (y : Int) => [(0, .v (osl eI true ((data.set a.toNat v_1).set pivot.toNat v_3))), (1, .v (iT a)), (10, .v (iT i_22)), (11, .v (iT y))])) := by
 refine Lp.of (f := (fun
 | j_23 =>
  (jn (QN (fun (y : Bool) => [(0, .v (osl eI true ((data.set a.toNat v_1).set pivot.toNat v_3))), (1, .v (iT a)), (10, .v (iT i_22)), (11, .v (iT j_23)), (60, .v (.bool y))])) ((if i_22 ≤ j_23 then
  (ix ((data.set a.toNat v_1).set pivot.toNat v_3) j_23).bind fun v_27 =>
  (ix ((data.set a.toNat v_1).set pivot.toNat v_3) a).bind fun v_29 =>
  (f236 v_27 v_29).bind fun o31 =>
  some (decide (¬ (o31 = true)))
  else
  some false) : Option (Bool))).bind fun x_24 =>
  if x_24 = true then
  some (.inl (w64 (j_23 - 1)))
  else
  some (.inr j_23) : Int → Option (Int ⊕ Int))) ?_
 exact go
instance i238_3 {a : Int} {data_54 : (List Int)} {j_56 : Int} : Lp cx (f238_3 a data_54 j_56) 168 L238_3 (fun (zs : Int) => [(0, .v (osl eI true data_54)), (1, .v (iT a)), (10, .v (iT zs)), (11, .v (iT j_56))]) (QX 6 (fun (y : Int) => [(0, .v (osl eI true data_54)), (1, .v (iT a)), (10, .v (iT y)), (11, .v (iT j_56))])) := by
 refine Lp.of (f := (fun
 | i_57 =>
  (jn (QN (fun (y : Bool) => [(0, .v (osl eI true data_54)), (1, .v (iT a)), (10, .v (iT i_57)), (11, .v (iT j_56)), (112, .v (.bool y))])) ((if i_57 ≤ j_56 then
  (ix data_54 i_57).bind fun v_61 =>
  (ix data_54 a).bind fun v_63 =>
  (f236 v_61 v_63).bind fun o65 =>
  some o65
  else
  some false) : Option (Bool))).bind fun x_58 =>
  if x_58 = true then
  some (.inl (w64 (i_57 + 1)))
  else
  some (.inr i_57) : Int → Option (Int ⊕ Int))) ?_
 exact go
instance i238_4 {a : Int} {data_54 : (List Int)} {i_70 : Int} : Lp cx (f238_4 a data_54 i_70) 168 L238_4 (fun (zs : Int) => [(0, .v (osl eI true data_54)), (1, .v (iT a)), (10, .v (iT i_70)), (11, .v (iT zs))]) (QX 8 (fun (y : Int) => [(0, .v (osl eI true data_54)), (1, .v (iT a)), (10, .v (iT i_70)), (11, .v (iT y))])) := by
 refine Lp.of (f := (fun
 | j_71 =>
  (jn (QN (fun (y : Bool) => [(0, .v (osl eI true data_54)), (1, .v (iT a)), (10, .v (iT i_70)), (11, .v (iT j_71)), (129, .v (.bool y))])) ((if i_70 ≤ j_71 then
  (ix data_54 j_71).bind fun v_75 =>
  (ix data_54 a).bind fun v_77 =>
  (f236 v_75 v_77).bind fun o79 =>
  some (decide (¬ (o79 = true)))
  else
  some false) : Option (Bool))).bind fun x_72 =>
  if x_72 = true then
  some (.inl (w64 (j_71 - 1)))
  else
  some (.inr j_71) : Int → Option (Int ⊕ Int))) ?_
 exact go
instance i238_2 {a : Int} : Lp cx (f238_2 a) 168 L238_2 (fun (zs : (List Int) × Int × Int) => [(0, .v (osl eI true zs.1)), (1, .v (iT a)), (10, .v (iT zs.2.1)), (11, .v (iT zs.2.2))]) (QX 4 (fun (y : (List Int) × Int) => [(0, .v (osl eI true y.1)), (1, .v (iT a)), (11, .v (iT y.2))])) := by
 refine Lp.of ?_; unfold f238_2; exact go
instance i238 {data : (List Int)} {a : Int} {b : Int} {pivot : Int} : Rn cx (f238 data a b pivot) 238 [(osl eI true data), (iT a), (iT b), (iT pivot)] (fun (r : Int × Bool × (List Int)) => (.tup [(iT r.1), (.bool r.2.1)])) (fun r => [(osl eI true r.2.2)]) := by
 refine Rn.of rfl rfl (by decide) rfl ?_; unfold f238; exact go
end
end Go.Proofs.YtcllfkplpdppiaaGreatH
