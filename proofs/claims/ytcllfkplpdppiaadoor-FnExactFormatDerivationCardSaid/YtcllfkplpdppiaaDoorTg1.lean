import Derived.Test.YtcllfkplpdppiaaDoorTg1a
set_option maxHeartbeats 2000000
set_option linter.unusedVariables false
set_option linter.unusedSimpArgs false
set_option linter.defProp false
set_option linter.unusedSectionVars false
set_option maxRecDepth 100000
namespace Go.Proofs.YtcllfkplpdppiaaDoorH
open Go
noncomputable section
instance i65 {a : (List Int)} {b : (List Int)} : Rn cx (f65 a b) 65 [(ssl eI a), (ssl eI b)] (fun (r : Bool) => (.bool r)) (fun r => []) := by
 refine Rn.of rfl rfl (by decide) rfl ?_; unfold f65; exact go
instance : Io0 cx 65 := ⟨rfl⟩
instance i64 {a : Fact} {b : Fact} : Rn cx (f64 a b) 64 [(.agg [(iT a.Relation), (ssl eI a.Values)]), (.agg [(iT b.Relation), (ssl eI b.Values)])] (fun (r : Bool) => (.bool r)) (fun r => []) := by
 refine Rn.of rfl rfl (by decide) rfl ?_; unfold f64; exact go
instance : Io0 cx 64 := ⟨rfl⟩
instance i32_0 {a : (List Fact)} {b : (List Fact)} : Lp cx (f32_0 a b) 27 L32_0 (fun (zs : Int) => [(0, .v (ssl eFact a)), (1, .v (ssl eFact b)), (5, .v (iT zs))]) (QO (QX 0 (fun (y : Unit) => [])) (QR (fun (y : Bool) => [(4, .v (.bool y))]))) := by
 refine Lp.of ?_; unfold f32_0; exact go
instance i32 {a : (List Fact)} {b : (List Fact)} : Rn cx (f32 a b) 32 [(ssl eFact a), (ssl eFact b)] (fun (r : Bool) => (.bool r)) (fun r => []) := by
 refine Rn.of rfl rfl (by decide) rfl ?_; unfold f32; exact go
instance : Io0 cx 32 := ⟨rfl⟩
instance i11 {a : Database} {b : Database} : Rn cx (f11 a b) 11 [(.agg [(ssl eRelation a.Relations), (ssl eFact a.Facts)]), (.agg [(ssl eRelation b.Relations), (ssl eFact b.Facts)])] (fun (r : Bool) => (.bool r)) (fun r => []) := by
 refine Rn.of rfl rfl (by decide) rfl ?_; unfold f11; exact go
instance : Io0 cx 11 := ⟨rfl⟩
instance i33 {a : DerivationStep} {b : DerivationStep} : Rn cx (f33 a b) 33 [(.agg [(ssl eI a.Facts), (iT a.Block)]), (.agg [(ssl eI b.Facts), (iT b.Block)])] (fun (r : Bool) => (.bool r)) (fun r => []) := by
 refine Rn.of rfl rfl (by decide) rfl ?_; unfold f33; exact go
instance : Io0 cx 33 := ⟨rfl⟩
instance i12_0 {a : (List DerivationStep)} {b : (List DerivationStep)} : Lp cx (f12_0 a b) 27 L12_0 (fun (zs : Int) => [(0, .v (ssl eDerivationStep a)), (1, .v (ssl eDerivationStep b)), (5, .v (iT zs))]) (QO (QX 0 (fun (y : Unit) => [])) (QR (fun (y : Bool) => [(4, .v (.bool y))]))) := by
 refine Lp.of ?_; unfold f12_0; exact go
instance i12 {a : (List DerivationStep)} {b : (List DerivationStep)} : Rn cx (f12 a b) 12 [(ssl eDerivationStep a), (ssl eDerivationStep b)] (fun (r : Bool) => (.bool r)) (fun r => []) := by
 refine Rn.of rfl rfl (by decide) rfl ?_; unfold f12; exact go
instance : Io0 cx 12 := ⟨rfl⟩
instance i3 {aDb : Database} {aDerivation : (List DerivationStep)} : Rn cx (f3 aDb aDerivation) 3 [(.agg [(ssl eRelation aDb.Relations), (ssl eFact aDb.Facts)]), (ssl eDerivationStep aDerivation)] (fun (r : Bool) => (.bool r)) (fun r => []) := by
 refine Rn.of rfl rfl (by decide) rfl ?_; unfold f3; exact go
instance : Io0 cx 3 := ⟨rfl⟩
end
end Go.Proofs.YtcllfkplpdppiaaDoorH
