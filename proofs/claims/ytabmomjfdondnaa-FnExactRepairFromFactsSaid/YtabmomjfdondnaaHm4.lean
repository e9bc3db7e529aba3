/- Operations that look at no memory, the rest: bounds, strings, structs. -/
import Derived.Test.YtabmomjfdondnaaHm3
import Derived.Laws.Tables
import Derived.Lib.Strings
set_option linter.unusedVariables false
set_option linter.unusedSimpArgs false
namespace Go.Proofs.YtabmomjfdondnaaH
open Go

/-! ### Cells laid over cells -/
theorem VRs.splice {m : Map} {cs ds : List AV} {vs us : List Value} (o : Nat) (h : VRs m cs vs) (h' : VRs m ds us) : VRs m (splice cs o ds) (vs.take o ++ us ++ vs.drop (o + us.length)) := by
  unfold YtabmomjfdondnaaH.splice
  rw [h'.length]
  exact ((h.take o).append h').append (h.drop _)

theorem foldl_set (vs : List Value) : ∀ (k off : Nat) (cs : Array Value), off + k + vs.length ≤ cs.size →
    ((vs.zipIdx k).foldl (fun cs (c, j) => cs.setIfInBounds (off + j) c) cs).toList = cs.toList.take (off + k) ++ vs ++ cs.toList.drop (off + k + vs.length) := by
  induction vs with
  | nil => intro k off cs h; simp
  | cons v vs ih =>
    intro k off cs h
    simp only [List.length_cons] at h
    have hlt : off + k < cs.size := by omega
    simp only [List.zipIdx_cons, List.foldl_cons]
    rw [ih (k + 1) off _ (by simp; omega)]
    simp only [Array.toList_setIfInBounds]
    have hp : off + k < cs.toList.length := by simpa using hlt
    have hcl : cs.toList.length = cs.size := Array.length_toList
    have e1 : (cs.toList.set (off + k) v).take (off + (k + 1)) = cs.toList.take (off + k) ++ [v] := by
      rw [List.set_eq_take_append_cons_drop, if_pos hp, show off + (k + 1) = (cs.toList.take (off + k)).length + 1 by rw [List.length_take]; omega, List.take_length_add_append]
      simp
    have e2 : (cs.toList.set (off + k) v).drop (off + (k + 1) + vs.length) = cs.toList.drop (off + (k + 1) + vs.length) := by
      rw [List.drop_set, if_pos (by omega)]
    rw [e1, e2, show off + (k + 1) + vs.length = off + k + (vs.length + 1) by omega]
    simp only [List.append_assoc, List.singleton_append, List.cons_append, List.length_cons, List.nil_append]

theorem lay_ok {m : Map} {env : Env} {a : Act} (places : Nat → Option (Nat × Nat)) (hE : EnvR m env a.tmps) : ∀ (ps : List (Nat × Nat × Opd)) (qs : List (Nat × Operand)) (cs cs' : List AV) (vs : Array Value),
    partsOk places ps qs = true → layAll env cs ps = some cs' → VRs m cs vs.toList → ∃ vs' : Array Value, Instr.fill places vs (qs.map fun (i, x) => (i, a.eval x)) = some vs' ∧ VRs m cs' vs'.toList
  | [], [], cs, cs', vs, _, h, hr => by
    simp only [layAll, Option.some.injEq] at h; subst h
    exact ⟨vs, rfl, hr⟩
  | [], _ :: _, _, _, _, h, _, _ => by simp [partsOk] at h
  | _ :: _, [], _, _, _, h, _, _ => by simp [partsOk] at h
  | (o, n, x) :: ps, (i, X) :: qs, cs, cs', vs, hp, h, hr => by
    simp only [partsOk, Bool.and_eq_true] at hp
    obtain ⟨⟨hx, hpl⟩, hrest⟩ := hp
    simp only [layAll] at h
    split at h
    · rename_i hc
      obtain ⟨hn, hle, h1⟩ := hc
      have hv := mO_ok hx hE
      have hcs := hv.cells (fun y hy => by simpa using (List.all_eq_true.1 h1) y hy)
      have hpl' : places i = some (o, n) := by
        revert hpl
        cases places i with
        | none => simp
        | some q => obtain ⟨o', n'⟩ := q; simp; exact fun e1 e2 => ⟨e1.symm, e2.symm⟩
      have hsz : (a.eval X).cells.size = n := by rw [← hn, ← hcs.length]; simp
      have hvl : vs.size = cs.length := by rw [← hr.length]; simp
      have hl : o + (a.eval X).cells.size ≤ vs.size := by omega
      have hfold := foldl_set (a.eval X).cells.toList 0 o vs (by simpa using hl)
      obtain ⟨vs', hf, hr'⟩ := lay_ok places hE ps qs (splice cs o (x.ev env).cells) cs' ((a.eval X).cells.toList.zipIdx.foldl (fun cs (c, j) => cs.setIfInBounds (o + j) c) vs) hrest h (by
        rw [hfold]
        have := hr.splice o hcs
        simpa using this)
      refine ⟨vs', ?_, hr'⟩
      simp only [List.map_cons, Instr.fill, hpl']
      rw [if_neg (by simp; omega)]
      rw [← hf]
      congr 1
      rw [← Array.foldl_toList, Array.toList_zipIdx]
    · simp at h

/-! ### Bounds -/
section
variable {P : Program} {o : Oper} {env : Env} {a : Act} {m : Map} {v : AV} (w : World)
theorem run_bound {y : Nat} {c : AV} {V : Value} {i : Nat} (code : BoundsCode) (h : bnd y c = some i) (hr : VR m c V) : (Instr.sliceBound V y code).run P w = .ok i w := by
  unfold bnd at h
  split at h
  · rename_i k n
    simp only [VR] at hr; subst hr
    split at h
    · rename_i hc
      simp only [Option.some.injEq] at h; subst h
      simp only [Instr.sliceBound, asIntOf, run_pure_bind, if_pos hc]; rfl
    · simp at h
  · simp at h
theorem bnd_le {y : Nat} {c : AV} {i : Nat} (h : bnd y c = some i) : i ≤ y := by
  unfold bnd at h
  split at h
  · split at h
    · simp only [Option.some.injEq] at h; omega
    · simp at h
  · simp at h

theorem run_bounds {s : Bool} {n c h l : Nat} {L H : Option Value} (hh : (match H with | some v => Instr.sliceBound v c (if s then .sliceAcap else .sliceAlen) | none => (pure n : Sem Nat)).run P w = .ok h w)
    (hl : (match L with | some v => Instr.sliceBound v h .sliceB | none => (pure 0 : Sem Nat)).run P w = .ok l w) : (Instr.sliceBounds s n c L H none).run P w = .ok (l, h, c) w := by
  cases H with
  | none =>
    have e : n = h := by simpa [pure, Sem.run] using hh
    subst e
    cases L with
    | none =>
      have e : 0 = l := by simpa [pure, Sem.run] using hl
      subst e
      simp [Instr.sliceBounds, pure, Sem.run]
    | some v => simp only at hl; simp only [Instr.sliceBounds, Sem.run_bind, Sem.run_pure, Option.isSome_none, Bool.false_eq_true, if_false, hl, Result.andThen_ok]
  | some u =>
    simp only at hh
    cases L with
    | none =>
      have e : 0 = l := by simpa [pure, Sem.run] using hl
      subst e
      simp only [Instr.sliceBounds, Sem.run_bind, Sem.run_pure, hh, Result.andThen_ok]
    | some v => simp only at hl; simp only [Instr.sliceBounds, Sem.run_bind, Sem.run_pure, Option.isSome_none, Bool.false_eq_true, if_false, hh, hl, Result.andThen_ok]
theorem run_oBound {y n : Nat} {x : Option Opd} {X : Option Operand} {i : Nat} (code : BoundsCode) (h : obnd env y n x = some i) (hx : mOo x X = true) (hE : EnvR m env a.tmps) :
    (match X.map a.eval with | some v => Instr.sliceBound v y code | none => (pure n : Sem Nat)).run P w = .ok i w := by
  cases x with
  | none =>
    cases X with
    | none => simp only [obnd, Option.some.injEq] at h; subst h; rfl
    | some Y => simp [mOo] at hx
  | some z =>
    cases X with
    | none => simp [mOo] at hx
    | some Y => exact run_bound (P := P) (m := m) w _ h (mO_ok hx hE)

theorem does_sst {x : Opd} {lo hi : Option Opd} (h : mOp P o (.sst x lo hi) = true) (hE : EnvR m env a.tmps) (hv : pureOp env (.sst x lo hi) = some v) : Does P o a m v w := by
  simp only [mOp] at h
  split at h
  · rename_i T X L H ho
    simp only [Bool.and_eq_true] at h
    obtain ⟨⟨⟨hx, hl⟩, hh⟩, hT⟩ := h
    have hu : P.underlying T = some .string := by
      revert hT; cases P.underlying T with
      | none => simp
      | some d => cases d <;> simp
    have h1 := mO_ok hx hE
    simp only [pureOp] at hv
    split at hv
    · rename_i s e1
      rw [e1] at h1; obtain ⟨b, he, rfl⟩ := h1
      have hsz : b.data.toList.length = b.size := by rw [Array.length_toList]; rfl
      rw [hsz] at hv
      split at hv
      · rename_i h' eh
        split at hv
        · rename_i l' el
          simp only [Option.some.injEq] at hv; subst hv
          have bounds := run_bounds (P := P) w (s := false) (run_oBound (P := P) (m := m) w _ eh hh hE) (run_oBound (P := P) (m := m) w _ el hl hE)
          refine ⟨.string (b.extract l' h'), ?_, ⟨_, rfl, ?_⟩⟩
          · simp only [execOp, ho]
            refine run_v (P := P) w ?_
            simp only [Instr.sliceAt, Sem.run_bind, run_underlying hu, Result.andThen, Instr.slice, he, Option.map_none, Option.isSome_none, Bool.false_eq_true, if_false, bounds]
            rfl
          · rw [Lib.extract_data, List.drop_take]
        · simp at hv
      · simp at hv
    · simp at hv
  · simp at h

theorem isSl_ok {T : TypeId} {e : Nat} (h : isSl P T e = true) : ∃ E i, P.underlying T = some (.slice E) ∧ P.info? E = some i ∧ i.size = e := by
  unfold isSl at h
  split at h
  · rename_i E hu
    split at h
    · rename_i i hi
      exact ⟨E, i, hu, hi, by simpa using h⟩
    · simp at h
  · simp at h
theorem run_sizeOf {E : TypeId} {i : TypeInfo} (hi : P.info? E = some i) : (sizeOf E).run P w = .ok i.size w := by simp [sizeOf, typeInfo, hi]

theorem does_ia {e : Nat} {x i : Opd} (h : mOp P o (.ia e x i) = true) (hE : EnvR m env a.tmps) (hv : pureOp env (.ia e x i) = some v) : Does P o a m v w := by
  simp only [mOp] at h
  split at h
  · rename_i T X I ho
    simp only [Bool.and_eq_true] at h
    obtain ⟨⟨hx, hi⟩, hT⟩ := h
    obtain ⟨E, inf, hu, hinf, rfl⟩ := isSl_ok hT
    have h1 := mO_ok hx hE
    have h2 := mO_ok hi hE
    simp only [pureOp] at hv
    split at hv
    · rename_i l o' n e' x' k j e1 e2
      rw [e1] at h1; rw [e2] at h2
      obtain ⟨q, ad, cap, hm, he, hcap, _, _, _, _, had, _⟩ := h1
      simp only [VR] at h2
      split at hv
      · rename_i hc
        obtain ⟨rfl, hj0, hj⟩ := hc
        simp only [Option.some.injEq] at hv; subst hv
        have hadr : ad = ⟨q.b, q.off + o', none⟩ := had (by omega)
        subst hadr
        refine ⟨_, ?_, ⟨q, hm, rfl⟩⟩
        simp only [execOp, ho]
        refine run_v (P := P) w ?_
        simp only [Instr.indexAt, h2, asIntOf, run_pure_bind, Sem.run_bind, run_underlying hu, Result.andThen_ok, he, if_pos (And.intro hj0 hj), run_sizeOf w hinf, Addr.add_lit, Nat.add_assoc]
        simp [pure, Sem.run, Addr.add_lit, Nat.add_assoc, Sem.run_bind, run_underlying hu, run_sizeOf w hinf, hj0, hj]
      · simp at hv
    · simp at hv
  · simp at h

theorem does_ix {x i : Opd} (h : mOp P o (.ix x i) = true) (hE : EnvR m env a.tmps) (hv : pureOp env (.ix x i) = some v) : Does P o a m v w := by
  simp only [mOp] at h
  split at h
  · rename_i T X I ho
    simp only [Bool.and_eq_true] at h
    obtain ⟨⟨hx, hi⟩, hT⟩ := h
    have hu : P.underlying T = some .string := by
      revert hT; cases P.underlying T with
      | none => simp
      | some d => cases d <;> simp
    have h1 := mO_ok hx hE
    have h2 := mO_ok hi hE
    simp only [pureOp] at hv
    split at hv
    · rename_i s k j e1 e2
      rw [e1] at h1; rw [e2] at h2
      obtain ⟨b, he, rfl⟩ := h1
      simp only [VR] at h2
      split at hv
      · rename_i hj0
        obtain ⟨c, hc, rfl⟩ := Option.map_eq_some_iff.1 hv
        have hb : b[j.toNat]? = some c := by
          obtain ⟨hlt, he⟩ := List.getElem?_eq_some_iff.1 hc
          have hlt' : j.toNat < b.size := by rw [Array.length_toList] at hlt; exact hlt
          rw [getElem?_pos b j.toNat hlt', ← he]
          rfl
        refine ⟨_, ?_, rfl⟩
        simp only [execOp, ho]
        refine run_v (P := P) w ?_
        simp only [Instr.index, h2, asIntOf, Sem.run_pure, Sem.run_bind, run_underlying hu, Result.andThen_ok, he, if_pos hj0, hb]
      · simp at hv
    · simp at hv
  · simp at h

theorem mCs_ok {m : Map} : ∀ {zs : List AV} {vs : List Value}, isSlB.mCs zs vs = true → VRs m zs vs
  | [], [], _ => by simp [VRs]
  | x :: xs, y :: ys, h => by
    simp only [isSlB.mCs, Bool.and_eq_true] at h
    exact ⟨_, _, rfl, mC_ok h.1, mCs_ok h.2⟩
  | [], _ :: _, h => by simp [isSlB.mCs] at h
  | _ :: _, [], h => by simp [isSlB.mCs] at h
theorem zeroOk_ok {T : TypeId} {zs : List AV} (h : zeroOk P T zs = true) : ∃ i z, P.info? T = some i ∧ i.zero = some z ∧ ∀ m, VRs m zs z.cells.toList := by
  unfold zeroOk at h
  split at h
  · rename_i i hi
    split at h
    · rename_i z hz
      exact ⟨i, z, hi, hz, fun m => mCs_ok h⟩
    · simp at h
  · simp at h

theorem does_bld {zs : List AV} {ps : List (Nat × Nat × Opd)} (h : mOp P o (.bld zs ps) = true) (hE : EnvR m env a.tmps) (hv : pureOp env (.bld zs ps) = some v) : Does P o a m v w := by
  simp only [mOp] at h
  split at h
  · rename_i T parts ho
    simp only [Bool.and_eq_true] at h
    obtain ⟨hz, hT⟩ := h
    obtain ⟨it, z, hit, hzz, hzr⟩ := zeroOk_ok hz
    have hu : ∃ fields places, P.underlying T = some (.struct fields) ∧ fields.toList.mapM (fun f => (P.info? f.type).map fun i => (f.offset, i.size)) = some places ∧ partsOk (fun i => places[i]?) ps parts.toList = true := by
      revert hT
      cases hu : P.underlying T with
      | none => simp
      | some d =>
        cases d <;> simp
        rename_i fields
        unfold fieldPlaces
        cases hf : fields.toList.mapM (fun f => (P.info? f.type).map fun i => (f.offset, i.size)) with
        | none => simp
        | some places => simp
    obtain ⟨fields, places, hu, hpl, hps⟩ := hu
    simp only [pureOp] at hv
    obtain ⟨cs', hcs, rfl⟩ := Option.map_eq_some_iff.1 hv
    obtain ⟨vs', hf, hr⟩ := lay_ok (a := a) (fun i => places[i]?) hE ps parts.toList zs cs' z.cells hps hcs (hzr m)
    refine ⟨.agg vs', ?_, ⟨vs', rfl, hr⟩⟩
    simp only [execOp, ho]
    refine run_v (P := P) w ?_
    refine run_build w T _ vs' ?_
    simp only [Program.built, hit, hu, hzz, hpl]
    simpa using hf
  · simp at h

/-- Every operation that looks at no memory. -/
theorem does_pure {c : COp} (hns : ∀ e x lo hi mx, c ≠ .sls e x lo hi mx) (h : mOp P o c = true) (hE : EnvR m env a.tmps) (hv : pureOp env c = some v) : Does P o a m v w := by
  cases c with
  | mv => exact does_mv w h hE hv
  | pick => exact does_pick w h hE hv
  | bin => exact does_bin w h hE hv
  | beq => exact does_beq w h hE hv
  | eqs => simp [mOp] at h
  | neg => exact does_neg w h hE hv
  | not => exact does_not w h hE hv
  | isnil => exact does_isnil w h hE hv
  | len => exact does_len w h hE hv
  | lens => exact does_lens w h hE hv
  | max => exact does_max w h hE hv
  | conv => exact does_conv w h hE hv
  | sls => exact absurd rfl (hns _ _ _ _ _)
  | sst => exact does_sst w h hE hv
  | fa => exact does_fa w h hE hv
  | ia => exact does_ia w h hE hv
  | ix => exact does_ix w h hE hv
  | nc => exact does_nc w h hE hv
  | fn => exact does_fn w h hE hv
  | ex => exact does_ex w h hE hv
  | bld => exact does_bld w h hE hv
  | cap => exact does_cap w h hE hv
  | _ => simp [pureOp] at hv
end

end Go.Proofs.YtabmomjfdondnaaH
