import Derived.Test.YtbpdhmbdpjafeaaGreatX3
import Derived.Test.YtbpdhmbdpjafeaaGreatTd1
set_option linter.unusedVariables false
set_option linter.unusedSimpArgs false
set_option linter.defProp false
set_option linter.unusedSectionVars false
set_option maxRecDepth 100000
namespace Go.Proofs.YtbpdhmbdpjafeaaGreatH
open Go
noncomputable section
open Go.ChangeShapes
instance : Sz Relation := ⟨fun a => ok a.Name /\ ok a.Arity /\ ok a.KeyLength⟩
theorem reads_Relation {H : Type} {enc : TypeId × Value -> H} {P : Program} {W : World} {held : Bool} {t t0 t1 t2 : TypeId} {fs : Array Field} (hs : fs.size = 3) (hc : P.cellsOf t = 3) (f0 : Fld P fs 0 t0 0 1) (f1 : Fld P fs 1 t1 1 1) (f2 : Fld P fs 2 t2 2 1) (ht : P.underlying t = some (.struct fs)) (r0 : Reads enc P W held eS t0) (r1 : Reads enc P W held eI t1) (r2 : Reads enc P W held eI t2) : Reads enc P W held eRelation t := by
 intro n cs y h
 obtain ⟨xs, m, rfl, rfl, hl, hx, hall⟩ := DataW.trod_struct ht h
 rw [hc] at hl; rw [hs] at hx
 obtain ⟨a0, d0, o0⟩ := read_fld f0 r0 (by omega) hall
 obtain ⟨a1, d1, o1⟩ := read_fld f1 r1 (by omega) hall
 obtain ⟨a2, d2, o2⟩ := read_fld f2 r2 (by omega) hall
 refine ⟨⟨a0, a1, a2⟩, ?_, o0, o1, o2⟩
 have e0 := cells_split (cs := cs) (o := 0) (w := 1) (by omega)
 have e1 := cells_split (cs := cs) (o := 1) (w := 1) (by omega)
 have e2 := cells_split (cs := cs) (o := 2) (w := 1) (by omega)
 have e3 : cs.drop 3 = [] := List.drop_of_length_le (by omega)
 rw [List.drop_zero] at e0 d0
 simp only [Nat.zero_add, Nat.reduceAdd] at e0 e1 e2
 rw [e0, e1, e2, e3]
 exact (RdVs.append d0 (RdVs.append d1 (RdVs.append d2 (show RdVs W [] [] by rw [RdVs]))))
instance : Sz Fact := ⟨fun a => ok a.Relation /\ ok a.Values⟩
theorem reads_Fact {H : Type} {enc : TypeId × Value -> H} {P : Program} {W : World} {held : Bool} {t t0 t1 : TypeId} {fs : Array Field} (hs : fs.size = 2) (hc : P.cellsOf t = 2) (f0 : Fld P fs 0 t0 0 1) (f1 : Fld P fs 1 t1 1 1) (ht : P.underlying t = some (.struct fs)) (r0 : Reads enc P W held eI t0) (r1 : Reads enc P W held (eL eI) t1) : Reads enc P W held eFact t := by
 intro n cs y h
 obtain ⟨xs, m, rfl, rfl, hl, hx, hall⟩ := DataW.trod_struct ht h
 rw [hc] at hl; rw [hs] at hx
 obtain ⟨a0, d0, o0⟩ := read_fld f0 r0 (by omega) hall
 obtain ⟨a1, d1, o1⟩ := read_fld f1 r1 (by omega) hall
 refine ⟨⟨a0, a1⟩, ?_, o0, o1⟩
 have e0 := cells_split (cs := cs) (o := 0) (w := 1) (by omega)
 have e1 := cells_split (cs := cs) (o := 1) (w := 1) (by omega)
 have e2 : cs.drop 2 = [] := List.drop_of_length_le (by omega)
 rw [List.drop_zero] at e0 d0
 simp only [Nat.zero_add, Nat.reduceAdd] at e0 e1
 rw [e0, e1, e2]
 exact (RdVs.append d0 (RdVs.append d1 (show RdVs W [] [] by rw [RdVs])))
instance : Sz Database := ⟨fun a => ok a.Relations /\ ok a.Facts⟩
theorem reads_Database {H : Type} {enc : TypeId × Value -> H} {P : Program} {W : World} {held : Bool} {t t0 t1 : TypeId} {fs : Array Field} (hs : fs.size = 2) (hc : P.cellsOf t = 2) (f0 : Fld P fs 0 t0 0 1) (f1 : Fld P fs 1 t1 1 1) (ht : P.underlying t = some (.struct fs)) (r0 : Reads enc P W held (eL eRelation) t0) (r1 : Reads enc P W held (eL eFact) t1) : Reads enc P W held eDatabase t := by
 intro n cs y h
 obtain ⟨xs, m, rfl, rfl, hl, hx, hall⟩ := DataW.trod_struct ht h
 rw [hc] at hl; rw [hs] at hx
 obtain ⟨a0, d0, o0⟩ := read_fld f0 r0 (by omega) hall
 obtain ⟨a1, d1, o1⟩ := read_fld f1 r1 (by omega) hall
 refine ⟨⟨a0, a1⟩, ?_, o0, o1⟩
 have e0 := cells_split (cs := cs) (o := 0) (w := 1) (by omega)
 have e1 := cells_split (cs := cs) (o := 1) (w := 1) (by omega)
 have e2 : cs.drop 2 = [] := List.drop_of_length_le (by omega)
 rw [List.drop_zero] at e0 d0
 simp only [Nat.zero_add, Nat.reduceAdd] at e0 e1
 rw [e0, e1, e2]
 exact (RdVs.append d0 (RdVs.append d1 (show RdVs W [] [] by rw [RdVs])))
instance : Sz Atom := ⟨fun a => ok a.Relation /\ ok a.Terms⟩
theorem reads_Atom {H : Type} {enc : TypeId × Value -> H} {P : Program} {W : World} {held : Bool} {t t0 t1 : TypeId} {fs : Array Field} (hs : fs.size = 2) (hc : P.cellsOf t = 2) (f0 : Fld P fs 0 t0 0 1) (f1 : Fld P fs 1 t1 1 1) (ht : P.underlying t = some (.struct fs)) (r0 : Reads enc P W held eI t0) (r1 : Reads enc P W held (eL eI) t1) : Reads enc P W held eAtom t := by
 intro n cs y h
 obtain ⟨xs, m, rfl, rfl, hl, hx, hall⟩ := DataW.trod_struct ht h
 rw [hc] at hl; rw [hs] at hx
 obtain ⟨a0, d0, o0⟩ := read_fld f0 r0 (by omega) hall
 obtain ⟨a1, d1, o1⟩ := read_fld f1 r1 (by omega) hall
 refine ⟨⟨a0, a1⟩, ?_, o0, o1⟩
 have e0 := cells_split (cs := cs) (o := 0) (w := 1) (by omega)
 have e1 := cells_split (cs := cs) (o := 1) (w := 1) (by omega)
 have e2 : cs.drop 2 = [] := List.drop_of_length_le (by omega)
 rw [List.drop_zero] at e0 d0
 simp only [Nat.zero_add, Nat.reduceAdd] at e0 e1
 rw [e0, e1, e2]
 exact (RdVs.append d0 (RdVs.append d1 (show RdVs W [] [] by rw [RdVs])))
instance : Sz Query := ⟨fun a => ok a.VariableCount /\ ok a.Atoms /\ ok a.Free⟩
theorem reads_Query {H : Type} {enc : TypeId × Value -> H} {P : Program} {W : World} {held : Bool} {t t0 t1 t2 : TypeId} {fs : Array Field} (hs : fs.size = 3) (hc : P.cellsOf t = 3) (f0 : Fld P fs 0 t0 0 1) (f1 : Fld P fs 1 t1 1 1) (f2 : Fld P fs 2 t2 2 1) (ht : P.underlying t = some (.struct fs)) (r0 : Reads enc P W held eI t0) (r1 : Reads enc P W held (eL eAtom) t1) (r2 : Reads enc P W held (eL eI) t2) : Reads enc P W held eQuery t := by
 intro n cs y h
 obtain ⟨xs, m, rfl, rfl, hl, hx, hall⟩ := DataW.trod_struct ht h
 rw [hc] at hl; rw [hs] at hx
 obtain ⟨a0, d0, o0⟩ := read_fld f0 r0 (by omega) hall
 obtain ⟨a1, d1, o1⟩ := read_fld f1 r1 (by omega) hall
 obtain ⟨a2, d2, o2⟩ := read_fld f2 r2 (by omega) hall
 refine ⟨⟨a0, a1, a2⟩, ?_, o0, o1, o2⟩
 have e0 := cells_split (cs := cs) (o := 0) (w := 1) (by omega)
 have e1 := cells_split (cs := cs) (o := 1) (w := 1) (by omega)
 have e2 := cells_split (cs := cs) (o := 2) (w := 1) (by omega)
 have e3 : cs.drop 3 = [] := List.drop_of_length_le (by omega)
 rw [List.drop_zero] at e0 d0
 simp only [Nat.zero_add, Nat.reduceAdd] at e0 e1 e2
 rw [e0, e1, e2, e3]
 exact (RdVs.append d0 (RdVs.append d1 (RdVs.append d2 (show RdVs W [] [] by rw [RdVs]))))
instance : Sz Embedding := ⟨fun a => ok a.Values /\ ok a.Facts⟩
theorem reads_Embedding {H : Type} {enc : TypeId × Value -> H} {P : Program} {W : World} {held : Bool} {t t0 t1 : TypeId} {fs : Array Field} (hs : fs.size = 2) (hc : P.cellsOf t = 2) (f0 : Fld P fs 0 t0 0 1) (f1 : Fld P fs 1 t1 1 1) (ht : P.underlying t = some (.struct fs)) (r0 : Reads enc P W held (eL eI) t0) (r1 : Reads enc P W held (eL eI) t1) : Reads enc P W held eEmbedding t := by
 intro n cs y h
 obtain ⟨xs, m, rfl, rfl, hl, hx, hall⟩ := DataW.trod_struct ht h
 rw [hc] at hl; rw [hs] at hx
 obtain ⟨a0, d0, o0⟩ := read_fld f0 r0 (by omega) hall
 obtain ⟨a1, d1, o1⟩ := read_fld f1 r1 (by omega) hall
 refine ⟨⟨a0, a1⟩, ?_, o0, o1⟩
 have e0 := cells_split (cs := cs) (o := 0) (w := 1) (by omega)
 have e1 := cells_split (cs := cs) (o := 1) (w := 1) (by omega)
 have e2 : cs.drop 2 = [] := List.drop_of_length_le (by omega)
 rw [List.drop_zero] at e0 d0
 simp only [Nat.zero_add, Nat.reduceAdd] at e0 e1
 rw [e0, e1, e2]
 exact (RdVs.append d0 (RdVs.append d1 (show RdVs W [] [] by rw [RdVs])))
instance : Sz L22State := ⟨fun a => ok a.n /\ ok a.l /\ ok a.proof /\ ok a.model⟩
theorem reads_L22State {H : Type} {enc : TypeId × Value -> H} {P : Program} {W : World} {held : Bool} {t t0 t1 t2 t3 : TypeId} {fs : Array Field} (hs : fs.size = 4) (hc : P.cellsOf t = 4) (f0 : Fld P fs 0 t0 0 1) (f1 : Fld P fs 1 t1 1 1) (f2 : Fld P fs 2 t2 2 1) (f3 : Fld P fs 3 t3 3 1) (ht : P.underlying t = some (.struct fs)) (r0 : Reads enc P W held eI t0) (r1 : Reads enc P W held (eL (eL eI)) t1) (r2 : Reads enc P W held (eL (eL eI)) t2) (r3 : Reads enc P W held (eL eB) t3) : Reads enc P W held eL22State t := by
 intro n cs y h
 obtain ⟨xs, m, rfl, rfl, hl, hx, hall⟩ := DataW.trod_struct ht h
 rw [hc] at hl; rw [hs] at hx
 obtain ⟨a0, d0, o0⟩ := read_fld f0 r0 (by omega) hall
 obtain ⟨a1, d1, o1⟩ := read_fld f1 r1 (by omega) hall
 obtain ⟨a2, d2, o2⟩ := read_fld f2 r2 (by omega) hall
 obtain ⟨a3, d3, o3⟩ := read_fld f3 r3 (by omega) hall
 refine ⟨⟨a0, a1, a2, a3⟩, ?_, o0, o1, o2, o3⟩
 have e0 := cells_split (cs := cs) (o := 0) (w := 1) (by omega)
 have e1 := cells_split (cs := cs) (o := 1) (w := 1) (by omega)
 have e2 := cells_split (cs := cs) (o := 2) (w := 1) (by omega)
 have e3 := cells_split (cs := cs) (o := 3) (w := 1) (by omega)
 have e4 : cs.drop 4 = [] := List.drop_of_length_le (by omega)
 rw [List.drop_zero] at e0 d0
 simp only [Nat.zero_add, Nat.reduceAdd] at e0 e1 e2 e3
 rw [e0, e1, e2, e3, e4]
 exact (RdVs.append d0 (RdVs.append d1 (RdVs.append d2 (RdVs.append d3 (show RdVs W [] [] by rw [RdVs])))))
instance : Sz Solver := ⟨fun a => ok a.n /\ ok a.clauses /\ ok a.learned⟩
theorem reads_Solver {H : Type} {enc : TypeId × Value -> H} {P : Program} {W : World} {held : Bool} {t t0 t1 t2 : TypeId} {fs : Array Field} (hs : fs.size = 3) (hc : P.cellsOf t = 3) (f0 : Fld P fs 0 t0 0 1) (f1 : Fld P fs 1 t1 1 1) (f2 : Fld P fs 2 t2 2 1) (ht : P.underlying t = some (.struct fs)) (r0 : Reads enc P W held eI t0) (r1 : Reads enc P W held (eL (eL eI)) t1) (r2 : Reads enc P W held (eL (eL eI)) t2) : Reads enc P W held eSolver t := by
 intro n cs y h
 obtain ⟨xs, m, rfl, rfl, hl, hx, hall⟩ := DataW.trod_struct ht h
 rw [hc] at hl; rw [hs] at hx
 obtain ⟨a0, d0, o0⟩ := read_fld f0 r0 (by omega) hall
 obtain ⟨a1, d1, o1⟩ := read_fld f1 r1 (by omega) hall
 obtain ⟨a2, d2, o2⟩ := read_fld f2 r2 (by omega) hall
 refine ⟨⟨a0, a1, a2⟩, ?_, o0, o1, o2⟩
 have e0 := cells_split (cs := cs) (o := 0) (w := 1) (by omega)
 have e1 := cells_split (cs := cs) (o := 1) (w := 1) (by omega)
 have e2 := cells_split (cs := cs) (o := 2) (w := 1) (by omega)
 have e3 : cs.drop 3 = [] := List.drop_of_length_le (by omega)
 rw [List.drop_zero] at e0 d0
 simp only [Nat.zero_add, Nat.reduceAdd] at e0 e1 e2
 rw [e0, e1, e2, e3]
 exact (RdVs.append d0 (RdVs.append d1 (RdVs.append d2 (show RdVs W [] [] by rw [RdVs]))))
end
end Go.Proofs.YtbpdhmbdpjafeaaGreatH
