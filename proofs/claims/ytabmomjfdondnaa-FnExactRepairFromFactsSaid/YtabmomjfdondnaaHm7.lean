/- Operations on memory: slices cut, appended to, copied, cleared. -/
import Derived.Test.YtabmomjfdondnaaHm6
set_option linter.unusedVariables false
set_option linter.unusedSimpArgs false
namespace Go.Proofs.YtabmomjfdondnaaH
open Go

section
variable {P : Program} {o : Oper} {env : Env} {a : Act} {base : Nat} {m : Map} {H H1 : Heap} {w : World} {v : AV}

theorem run_bound_le {y y' : Nat} {c : AV} {V : Value} {i : Nat} (code : BoundsCode) (h : bnd y c = some i) (hy : y ≤ y') (hr : VR m c V) : (Instr.sliceBound V y' code).run P w = .ok i w := by
  refine run_bound (P := P) (m := m) w code ?_ hr
  unfold bnd at h ⊢
  split at h
  · split at h
    · rename_i hc
      rw [if_pos (by omega)]; exact h
    · simp at h
  · simp at h
theorem bnd_int {y : Nat} {c : AV} {i : Nat} (h : bnd y c = some i) : ∃ k, c = .int k i := by
  unfold bnd at h
  split at h
  · rename_i k n
    split at h
    · rename_i hc
      simp only [Option.some.injEq] at h; subst h
      exact ⟨k, by rw [Int.toNat_of_nonneg hc.1]⟩
    · simp at h
  · simp at h
theorem run_bound_int {k : IntKind} {i : Int} {y : Nat} (code : BoundsCode) (h0 : 0 ≤ i) (h : i.toNat ≤ y) : (Instr.sliceBound (.int k i) y code).run P w = .ok i.toNat w := by
  have hc : 0 ≤ i ∧ i ≤ y := ⟨h0, by omega⟩
  simp only [Instr.sliceBound, asIntOf, Sem.run_bind, Sem.run_pure, Result.andThen_ok, if_pos hc]

theorem sl_cut {l q n e : Nat} {x : Bool} {i : Inf} {ad : Addr} {cap s t : Nat} (hm : m l = some i) (hcap : n ≤ cap) (hx : x = true → cap = n) (hle : q + n * e ≤ i.n) (hfree : x = false → i.n ≤ q + cap * e) (hbsz : i.off + q + cap * e ≤ i.bsz)
    (had : 0 < cap → ad = ⟨i.b, i.off + q, none⟩) (hpos : 0 < e) (hst : s ≤ t) (htc : t ≤ cap) (hte : q + t * e ≤ i.n) (hxt : x = true → t = n) :
    VR m (.sl l (q + s * e) (t - s) e x) (.slice (if cap = s then some ad else (some ad).map (·.add (s * e))) (t - s) (cap - s)) := by
  have m1 : s * e + (t - s) * e = t * e := by rw [← Nat.add_mul]; congr 1; omega
  have m2 : s * e + (cap - s) * e = cap * e := by rw [← Nat.add_mul]; congr 1; omega
  have hsome : ∃ ad', (if cap = s then some ad else (some ad).map (·.add (s * e))) = some ad' ∧ (0 < cap - s → ad' = ⟨i.b, i.off + (q + s * e), none⟩) := by
    by_cases hc : cap = s
    · exact ⟨ad, by rw [if_pos hc], fun h => by omega⟩
    · refine ⟨ad.add (s * e), by rw [if_neg hc]; rfl, fun h => ?_⟩
      rw [had (by omega), Addr.add_lit, Nat.add_assoc]
  obtain ⟨ad', e1, e2⟩ := hsome
  rw [e1]
  refine ⟨i, ad', cap - s, hm, rfl, by omega, fun h => ?_, by omega, fun h => ?_, by omega, e2, hpos⟩
  · have := hx h; have := hxt h; omega
  · have := hfree h; omega

theorem acts_slx {e : Nat} {x : Opd} {lo hi mx : Option Opd} (h : mOp P o (.slx e x lo hi mx) = true) (hE : EnvR m env a.tmps) (hr : Rel base m H w) (hv : heapOp env H (.slx e x lo hi mx) = some (v, H1)) : Acts P o a base m H w v H1 := by
  simp only [mOp] at h
  split at h
  · rename_i T X L HI MX ho
    simp only [Bool.and_eq_true] at h
    obtain ⟨⟨⟨⟨hx, hl⟩, hh⟩, hmx⟩, hT⟩ := h
    obtain ⟨E, inf, hu, hinf, hsz⟩ := isSl_ok hT
    have h1 := mO_ok hx hE
    simp only [heapOp] at hv
    split at hv
    · -- nil
      rename_i e1
      rw [e1] at h1; simp only [VR] at h1
      split at hv
      · rename_i h' l' eh el
        simp only [Option.some.injEq, Prod.mk.injEq] at hv
        obtain ⟨rfl, rfl⟩ := hv
        cases MX with
        | some Y => simp [mOo] at hmx
        | none =>
          have eh0 : h' = 0 := by
            cases hi with
            | none => simpa [obnd] using eh.symm
            | some z => have := bnd_le eh; omega
          have el0 : l' = 0 := by
            cases lo with
            | none => simpa [obnd] using el.symm
            | some z => have := bnd_le el; omega
          subst eh0 el0
          have bounds := run_bounds (P := P) w (s := true) (run_oBound (P := P) (m := m) (a := a) w .sliceAcap eh hh hE) (run_oBound (P := P) (m := m) (a := a) w .sliceB el hl hE)
          refine Acts.of_value (v' := .slice none 0 0) (w' := w) (m' := m) ?_ rfl (Ok.refl hr)
          simp only [execOp, ho]
          refine run_v (P := P) w ?_
          simp only [Instr.sliceAt, Sem.run_bind, run_underlying hu, Result.andThen_ok, Instr.slice, h1, Option.map_none, bounds, run_sizeOf w hinf, if_true, Sem.run_pure, Nat.sub_self]
      · simp at hv
    · rename_i l q n e' x' e1
      rw [e1] at h1
      obtain ⟨i, ad, cap, hm, he, hcap, hxx, hle, hfree, hbsz, had, hpos⟩ := h1
      split at hv
      · simp at hv
      · rename_i hee
        have hee' : e = e' := by omega
        subst hee'
        cases mx with
        | none =>
          cases MX with
          | some Y => simp [mOo] at hmx
          | none =>
            simp only at hv
            split at hv
            · rename_i hb eh
              split at hv
              · rename_i lb el
                split at hv
                · simp at hv
                · rename_i hxn
                  simp only [Option.some.injEq, Prod.mk.injEq] at hv
                  obtain ⟨rfl, rfl⟩ := hv
                  have hlb : lb ≤ hb := by
                    cases lo with
                    | none => simp [obnd] at el; omega
                    | some z => exact bnd_le el
                  -- the upper bound
                  have hup : hb ≤ cap ∧ q + hb * e ≤ i.n ∧ (match HI.map a.eval with | some v => Instr.sliceBound v cap .sliceAcap | none => (pure n : Sem Nat)).run P w = .ok hb w := by
                    cases hi with
                    | none =>
                      cases HI with
                      | some Y => simp [mOo] at hh
                      | none => simp only [hbnd, Option.some.injEq] at eh; subst eh; exact ⟨hcap, hle, rfl⟩
                    | some z =>
                      cases HI with
                      | none => simp [mOo] at hh
                      | some Y =>
                        simp only [hbnd] at eh
                        have hz := mO_ok hh hE
                        split at eh
                        · rename_i k j ez
                          rw [ez] at hz; simp only [VR] at hz
                          split at eh
                          · rename_i hc
                            simp only [Option.some.injEq] at eh; subst eh
                            have hcases : j.toNat ≤ cap ∧ q + j.toNat * e ≤ i.n := by
                              rcases hc.2 with hc2 | ⟨hxf, hls, hst, hc2⟩
                              · have : j.toNat ≤ n := by omega
                                have h2 : j.toNat * e ≤ n * e := Nat.mul_le_mul_right _ this
                                exact ⟨by omega, by omega⟩
                              · have hcl := (hr.cells l i hm hst).1
                                rw [hcl] at hc2
                                have := hfree hxf
                                refine ⟨?_, hc2⟩
                                refine Nat.le_of_mul_le_mul_right ?_ hpos
                                omega
                            refine ⟨hcases.1, hcases.2, ?_⟩
                            simp only [Option.map_some, hz]
                            exact run_bound_int (P := P) (w := w) _ hc.1 hcases.1
                          · simp at eh
                        · simp at eh
                  have hlo := run_oBound (P := P) (m := m) (a := a) w .sliceB el hl hE
                  have bounds := run_bounds (P := P) w (s := true) hup.2.2 hlo
                  refine Acts.of_value (v' := .slice (if cap = lb then some ad else (some ad).map (·.add (lb * e))) (hb - lb) (cap - lb)) (w' := w) (m' := m) ?_
                    (sl_cut hm hcap hxx hle hfree hbsz had hpos hlb hup.1 hup.2.1 (fun hxt => by
                      have hne : ¬ (hb ≠ n) := fun hne => hxn ⟨hxt, hne⟩
                      omega)) (Ok.refl hr)
                  simp only [execOp, ho]
                  refine run_v (P := P) w ?_
                  simp only [Instr.sliceAt, Sem.run_bind, run_underlying hu, Result.andThen_ok, Instr.slice, he, Option.map_none, bounds, run_sizeOf w hinf, Sem.run_pure, hsz]
              · simp at hv
            · simp at hv
        | some mo =>
          cases MX with
          | none => simp [mOo] at hmx
          | some MO =>
            simp only at hv
            split at hv
            · rename_i mb z em
              · cases HI with
                | none => simp [mOo] at hh
                | some Z =>
                  split at hv
                  · rename_i hb eh
                    split at hv
                    · rename_i lb el
                      split at hv
                      · rename_i hmh
                        subst hmh
                        simp only [Option.some.injEq, Prod.mk.injEq] at hv
                        obtain ⟨rfl, rfl⟩ := hv
                        have hlb : lb ≤ mb := by
                          cases lo with
                          | none => simp [obnd] at el; omega
                          | some z => exact bnd_le el
                        have hmb := bnd_le em
                        have r1 := run_bound_le (P := P) (w := w) .slice3Acap em hcap (mO_ok hmx hE)
                        have r2 := run_bound (P := P) (m := m) w .slice3B eh (mO_ok hh hE)
                        have r3 : (match L.map a.eval with | some v => Instr.sliceBound v mb .slice3C | none => (pure 0 : Sem Nat)).run P w = .ok lb w := run_oBound (P := P) (m := m) (a := a) w .slice3C el hl hE
                        have bounds : (Instr.sliceBounds true n cap (L.map a.eval) (some (a.eval Z)) (some (a.eval MO))).run P w = .ok (lb, mb, mb) w := by
                          revert r3
                          cases L.map a.eval with
                          | none => intro r3; simp only [Sem.run_pure, Result.ok.injEq, and_true] at r3; subst r3; simp only [Instr.sliceBounds, Sem.run_bind, if_true, r1, r2, Result.andThen_ok, Sem.run_pure]
                          | some V => intro r3; simp only at r3; simp only [Instr.sliceBounds, Sem.run_bind, if_true, r1, r2, Result.andThen_ok, Sem.run_pure, Option.isSome_some, r3]
                        have hmbe : mb * e ≤ n * e := Nat.mul_le_mul_right _ hmb
                        have hmce : mb * e ≤ cap * e := Nat.mul_le_mul_right _ (Nat.le_trans hmb hcap)
                        refine Acts.of_value (v' := .slice (if mb = lb then some ad else (some ad).map (·.add (lb * e))) (mb - lb) (mb - lb)) (w' := w) (m' := m) ?_
                          (sl_cut (n := mb) (cap := mb) hm (Nat.le_refl _) (fun _ => rfl) (by omega) (fun h => by simp at h) (by omega) (fun h => had (by omega)) hpos hlb (Nat.le_refl _) (by omega) (fun _ => rfl)) (Ok.refl hr)
                        simp only [execOp, ho]
                        refine run_v (P := P) w ?_
                        simp only [Instr.sliceAt, Sem.run_bind, run_underlying hu, Result.andThen_ok, Instr.slice, he, Option.map_some, bounds, run_sizeOf w hinf, Sem.run_pure, hsz]
                      · simp at hv
                    · simp at hv
                  · simp at hv
            · simp at hv
    · simp at hv
  · simp at h

theorem run_append_zero {T ty E : TypeId} {inf : TypeInfo} (hu : P.underlying T = some (.slice E)) (hi : P.info? E = some inf) {ab xa : Option Addr} {n cap xc : Nat} (hle : n ≤ cap) :
    (Builtin.append_ #[T, T] ty #[.slice ab n cap, .slice xa 0 xc]).run P w = .ok (.slice ab n cap) w := by
  cases ab with
  | none =>
    cases xa with
    | none => simp [Builtin.append_, run_underlying hu, sizeOf, typeInfo, hi, Builtin.lenOf, hle, Builtin.firstCells, storeCells]
    | some x => simp [Builtin.append_, run_underlying hu, sizeOf, typeInfo, hi, Builtin.lenOf, hle, Builtin.firstCells, storeCells, loadCells, loadCellsFrom]
  | some b =>
    cases xa with
    | none => simp [Builtin.append_, run_underlying hu, sizeOf, typeInfo, hi, Builtin.lenOf, hle, Builtin.firstCells, storeCells]
    | some x => simp [Builtin.append_, run_underlying hu, sizeOf, typeInfo, hi, Builtin.lenOf, hle, Builtin.firstCells, storeCells, loadCells, loadCellsFrom]

/-- The elements of what is appended, copied. -/
theorem cellsOf_ok {e k : Nat} {x : AV} {X : Value} {ys : List AV} (hr : Rel base m H w) (h : cellsOf H e x = some (k, ys)) (hx : VR m x X) :
    (k = 0 ∧ ys = [] ∧ ∃ xa xc, X = .slice xa 0 xc) ∨ (∃ xa xc us, X = .slice (some xa) k xc ∧ us.length = k * e ∧ VRs m ys us ∧ ys.length = k * e ∧ (0 < k → 0 < e) ∧ ∀ j u, us[j]? = some u → w.cell? (xa.add j) = some u) := by
  unfold cellsOf at h
  split at h
  · simp only [Option.some.injEq, Prod.mk.injEq] at h
    obtain ⟨rfl, rfl⟩ := h
    simp only [VR] at hx
    exact .inl ⟨rfl, rfl, none, 0, hx⟩
  · rename_i l q n e' x'
    split at h
    · rename_i he
      subst he
      obtain ⟨vs, hrd, h⟩ := Option.map_eq_some_iff.1 h
      simp only [Prod.mk.injEq] at h
      obtain ⟨rfl, rfl⟩ := h
      obtain ⟨i, ad, cap, hm, rfl, hcap, _, hfit, _, _, had, hpos⟩ := hx
      obtain ⟨hvl, hle, us, hul, hus, hcell⟩ := hr.rd0 hm hfit hrd
      refine .inr ⟨ad, cap, us, rfl, hul, hus, hvl, fun _ => hpos, fun j u hj => ?_⟩
      have hjl := (List.getElem?_eq_some_iff.1 hj).1
      have : 0 < n := by
        rcases Nat.eq_zero_or_pos n with h0 | h0
        · subst h0; simp at hul; subst hul; simp at hjl
        · exact h0
      rw [had (by omega), Addr.add_lit]
      exact hcell j u hj
    · simp at h
  · simp at h

theorem acts_app {e bs : Nat} {s x : Opd} (h : mOp P o (.app e bs s x) = true) (hE : EnvR m env a.tmps) (hr : Rel base m H w) (hv : heapOp env H (.app e bs s x) = some (v, H1)) : Acts P o a base m H w v H1 := by
  simp only [mOp] at h
  split at h
  · rename_i Ts hB
    simp only [Bool.and_eq_true, beq_iff_eq] at h
    obtain ⟨⟨hs2, h01⟩, hub⟩ := h
    obtain ⟨c, ho, hc, rfl, hmo⟩ := isB_ok hB
    obtain ⟨T, d, hT, hu, hq⟩ := underB_ok hub
    have hTs : c.argTypes = #[T, T] := by
      rw [hT] at h01
      apply Array.ext'
      have hl : c.argTypes.toList.length = 2 := by simpa using hs2
      rw [← Array.getElem?_toList] at hT h01
      match hL : c.argTypes.toList with
      | [p, q] => rw [hL] at hT h01; simp at hT h01; subst hT h01; rfl
      | [] => rw [hL] at hl; simp at hl
      | [_] => rw [hL] at hl; simp at hl
      | _ :: _ :: _ :: _ => rw [hL] at hl; simp at hl
    have hde : ∃ E inf z, d = .slice E ∧ P.info? E = some inf ∧ inf.size = e ∧ inf.bytes = bs ∧ inf.zero = some z ∧ z.cells.size = e := by
      cases d with
      | slice E =>
        cases hi : P.info? E with
        | none => simp [hi] at hq
        | some inf =>
          cases hz : inf.zero with
          | none => simp [hi, hz] at hq
          | some z =>
            simp only [hi, hz, Bool.and_eq_true, beq_iff_eq] at hq
            exact ⟨E, inf, z, rfl, hi, hq.1.1, hq.1.2, hz, hq.2⟩
      | _ => simp at hq
    obtain ⟨E, inf, z, rfl, hi, hsize, hbytes, hz, hzs⟩ := hde
    obtain ⟨vs, hvs, S, vs', rfl, h1, X, vs'', rfl, h2, hn⟩ := args_eq hmo hE
    simp only [List.map_nil, VRs] at hn; subst hn
    simp only [heapOp] at hv
    obtain ⟨⟨k, ys⟩, hcs, hv⟩ := Option.bind_eq_some_iff.1 hv
    have hX := cellsOf_ok hr hcs h2
    have fin : ∀ {w' m' v'}, (Builtin.append_ #[T, T] o.type #[S, X]).run P w = .ok v' w' → VR m' v v' → Ok base m H w m' H1 w' → Acts P o a base m H w v H1 := by
      intro w' m' v' hrun hvr hok
      exact Acts.of_value (run_builtin (P := P) w (s := Builtin.append_) ho hc (fun _ _ _ _ => rfl) (by rw [hvs, hTs]; exact hrun)) hvr hok
    simp only at hv
    split at hv
    · -- nothing to append
      rename_i hk0
      have hX' : ∃ xa xc, X = .slice xa 0 xc := by
        rcases hX with ⟨_, _, xa, xc, hX⟩ | ⟨xa, xc, us, hX, _⟩
        · exact ⟨xa, xc, hX⟩
        · exact ⟨some xa, xc, by rw [hX, hk0]⟩
      obtain ⟨xa, xc, rfl⟩ := hX'
      split at hv
      · rename_i es
        simp only [Option.some.injEq, Prod.mk.injEq] at hv
        obtain ⟨rfl, rfl⟩ := hv
        have h1' := h1
        rw [es] at h1; simp only [VR] at h1
        refine fin (v' := S) (w' := w) (m' := m) ?_ h1' (Ok.refl hr)
        rw [h1]
        exact run_append_zero hu hi (Nat.le_refl _)
      · rename_i l q n e' x' es
        split at hv
        · simp only [Option.some.injEq, Prod.mk.injEq] at hv
          obtain ⟨rfl, rfl⟩ := hv
          have h1' := h1
          rw [es] at h1; obtain ⟨i, ad, cap, hm, he, hcap, _⟩ := h1
          refine fin (v' := S) (w' := w) (m' := m) ?_ h1' (Ok.refl hr)
          rw [he]
          exact run_append_zero hu hi hcap
        · simp at hv
      · simp at hv
    · rename_i hk0
      rcases hX with ⟨hk, _⟩ | ⟨xa, xc, us, rfl, hul, hus, hyl, hpos, hcell⟩
      · exact absurd hk hk0
      · have hkp : 0 < k := Nat.pos_of_ne_zero hk0
        have hep := hpos hkp
        split at hv
        · simp at hv
        · rename_i hno
          have hbp : 0 < bs := by omega
          have hone : ∀ y ∈ ys, y.one = true := by
            intro y hy
            have : ys.all AV.one = true := by
              cases hq : ys.all AV.one with
              | true => rfl
              | false => rw [hq] at hno; simp at hno
            exact (List.all_eq_true.1 this) y hy
          have hbig : ∀ N, N * bs ≤ room → N ≤ 9223372036854775807 ∧ N * inf.bytes ≤ 281474976710656 ∧ N * inf.bytes ≤ 140737488355328 := by
            intro N hN
            unfold room at hN
            have : N * 1 ≤ N * bs := Nat.mul_le_mul_left _ hbp
            rw [hbytes]
            omega
          have hzc : ∀ N, (Builtin.zeroCells z.cells N).size = N * e := by intro N; rw [size_zeroCells, hzs]
          split at hv
          · -- onto nil
            rename_i es
            rw [es] at h1; simp only [VR] at h1; subst h1
            split at hv
            · rename_i hroom
              simp only [Option.some.injEq, Prod.mk.injEq] at hv
              obtain ⟨rfl, rfl⟩ := hv
              obtain ⟨b1, b2, b3⟩ := hbig k hroom
              have hrun := run_append_nil (P := P) w T o.type E inf z hu hi hz xa k xc us (by rw [hul, hsize]) hcell hkp (by omega) b2
              have hge := grownCap_ge w k 0 E
              have hk := Ok.new (w' := w.drew.alloc (.cells (us.toArray ++ Builtin.zeroCells z.cells (grownCap w k 0 E - k)) E)) hr hus (arr := us.toArray ++ Builtin.zeroCells z.cells (grownCap w k 0 E - k)) (T := E) (rest := (Builtin.zeroCells z.cells (grownCap w k 0 E - k)).toList) (by simp) rfl rfl rfl rfl
              have hasz : (us.toArray ++ Builtin.zeroCells z.cells (grownCap w k 0 E - k)).size = grownCap w k 0 E * e := by
                rw [Array.size_append, hzc]
                simp only [List.size_toArray, hul]
                rw [← Nat.add_mul]; congr 1; omega
              have hme : k * e ≤ grownCap w k 0 E * e := Nat.mul_le_mul_right _ hge
              exact fin hrun ⟨_, _, _, by unfold Map.add; rw [if_pos rfl], rfl, hge, fun h => by simp at h, by simp only [hyl]; omega, fun _ => by simp only [hyl]; omega, by simp only [hasz]; omega, fun _ => rfl, hep⟩ hk
            · simp at hv
          · rename_i l q n e' x' es
            split at hv
            · simp at hv
            · rename_i hee
              have hee' : e = e' := by omega
              subst hee'
              have hroom : (n + k) * bs ≤ room := by omega
              obtain ⟨b1, b2, b3⟩ := hbig (n + k) hroom
              obtain ⟨xs, hrd, hv⟩ := Option.bind_eq_some_iff.1 hv
              rw [es] at h1
              obtain ⟨i, ad, cap, hm, rfl, hcap, hxx, hle, hfree, hbsz, had, _⟩ := h1
              obtain ⟨hxl, hxle, olds, hol, holds, hocell⟩ := hr.rd0 hm hle hrd
              have hocell' : ∀ j u, olds[j]? = some u → w.cell? (ad.add j) = some u := by
                intro j u hj
                have hjl := (List.getElem?_eq_some_iff.1 hj).1
                have : 0 < n := by
                  rcases Nat.eq_zero_or_pos n with h0 | h0
                  · subst h0; simp at hol; subst hol; simp at hjl
                  · exact h0
                rw [had (by omega), Addr.add_lit]
                exact hocell j u hj
              have hmul : (n + k) * e = n * e + k * e := Nat.add_mul _ _ _
              -- a new array
              have newArr : cap < n + k → ∀ {m0 : Map} {H0 : Heap}, Ok base m H w m0 H0 w → H0.sz = H.sz → H1 = H0.new (xs ++ ys) → v = .sl H.sz 0 (n + k) e false → Acts P o a base m H w v H1 := by
                intro hg m0 H0 hk0 hsz0 eH ev
                subst eH ev
                have hrun := run_append_grow (P := P) w T o.type E inf z hu hi hz ad n cap olds (by rw [hol, hsize]) hocell' xa k xc us (by rw [hul, hsize]) hcell hg (by omega) (growslice_fits hg b3)
                have hge := grownCap_ge w (n + k) cap E
                have hk := Ok.new (w' := w.drew.alloc (.cells (olds.toArray ++ us.toArray ++ Builtin.zeroCells z.cells (grownCap w (n + k) cap E - (n + k))) E)) hk0.rel ((holds.append hus).mono hk0.le) (arr := olds.toArray ++ us.toArray ++ Builtin.zeroCells z.cells (grownCap w (n + k) cap E - (n + k))) (T := E) (rest := (Builtin.zeroCells z.cells (grownCap w (n + k) cap E - (n + k))).toList) (by simp) rfl rfl rfl rfl
                have hasz : (olds.toArray ++ us.toArray ++ Builtin.zeroCells z.cells (grownCap w (n + k) cap E - (n + k))).size = grownCap w (n + k) cap E * e := by
                  rw [Array.size_append, Array.size_append, hzc]
                  simp only [List.size_toArray, hul, hol]
                  rw [← hmul, ← Nat.add_mul]; congr 1; omega
                have hme : (n + k) * e ≤ grownCap w (n + k) cap E * e := Nat.mul_le_mul_right _ hge
                have hxyl : (xs ++ ys).length = (n + k) * e := by rw [List.length_append, hxl, hyl, hmul]
                exact fin hrun ⟨_, _, _, by unfold Map.add; rw [if_pos hsz0.symm], rfl, hge, fun h => by simp at h, by simp only [hxyl]; omega, fun _ => by simp only [hxyl]; omega, by simp only [hasz]; omega, fun _ => rfl, hep⟩ (hk0.trans hk)
              split at hv
              · -- the capacity is the length
                rename_i hxt
                split at hv
                · simp only [Option.some.injEq, Prod.mk.injEq] at hv
                  obtain ⟨rfl, rfl⟩ := hv
                  have := hxx hxt
                  exact newArr (by omega) (Ok.refl hr) rfl rfl rfl
                · simp at hv
              · rename_i hxf
                have hxf' : x' = false := by simpa using hxf
                have hfr := hfree hxf'
                split at hv
                · -- over what is there
                  rename_i hin
                  obtain ⟨H', hwr, hv⟩ := Option.map_eq_some_iff.1 hv
                  simp only [Prod.mk.injEq] at hv
                  obtain ⟨rfl, rfl⟩ := hv
                  have hst : (H.get l).st = .own := by
                    unfold Heap.wr at hwr
                    split at hwr
                    · rename_i hc; exact hc.1
                    · simp at hwr
                  rw [(hr.cells l i hm (by rw [hst]; simp)).1] at hin
                  have hnk : n + k ≤ cap := by
                    refine Nat.le_of_mul_le_mul_right ?_ hep
                    omega
                  have hadr := had (by omega)
                  subst hadr
                  obtain ⟨hc1, hf1, hone1, hk⟩ := Ok.put hr hm hwr hus
                  have hoff : i.off + q + n * inf.size = i.off + (q + n * e) := by rw [hsize]; omega
                  have hrun := run_append_room_cells (P := P) w T o.type E inf hu hi i.b (i.off + q) n cap xa k xc us (by rw [hul, hsize]) hcell hone1 hnk (fun j hj => by rw [hoff]; exact hc1 j hj) (fun j hj => by rw [hoff]; exact hf1 j hj)
                  rw [hoff] at hrun
                  exact fin hrun ⟨i, _, cap, hm, rfl, hnk, fun h => by simp at h, hin, fun _ => hfr, hbsz, fun _ => rfl, hep⟩ hk
                · split at hv
                  · rename_i hin hend
                    obtain ⟨hend, hst⟩ := hend
                    rw [(hr.cells l i hm (by rw [hst]; simp)).1] at hend hin
                    simp only [Option.some.injEq, Prod.mk.injEq] at hv
                    obtain ⟨rfl, rfl⟩ := hv
                    by_cases hnk : n + k ≤ cap
                    · have hadr := had (by omega)
                      subst hadr
                      have hcape : (n + k) * e ≤ cap * e := Nat.mul_le_mul_right _ hnk
                      obtain ⟨hc1, hf1, hone1, hk⟩ := Ok.grow (o := q) hr hm hst (by omega) hus hone (by omega)
                      have hoff : i.off + q + n * inf.size = i.off + i.n := by rw [hsize]; omega
                      have hrun := run_append_room_cells (P := P) w T o.type E inf hu hi i.b (i.off + q) n cap xa k xc us (by rw [hul, hsize]) hcell hone1 hnk (fun j hj => by rw [hoff]; exact hc1 j hj) (fun j hj => by rw [hoff]; exact hf1 j hj)
                      rw [hoff] at hrun
                      have hxs : xs = (H.get l).cells.drop q := by
                        unfold Heap.rd0 at hrd
                        split at hrd
                        · rename_i h0
                          simp only [Option.some.injEq] at hrd
                          subst hrd
                          symm
                          refine List.drop_eq_nil_of_le ?_
                          rw [(hr.cells l i hm (by rw [hst]; simp)).1]; omega
                        unfold Heap.rd at hrd
                        split at hrd
                        · simp only [Option.some.injEq] at hrd
                          rw [← hrd]
                          refine List.take_of_length_le ?_
                          rw [List.length_drop, (hr.cells l i hm (by rw [hst]; simp)).1]; omega
                        · simp at hrd
                      refine fin (m' := m.add H.sz ⟨i.b, i.off + q, i.n - q + ys.length, i.bsz⟩) hrun ⟨_, _, cap, by unfold Map.add; rw [if_pos rfl], rfl, hnk, fun h => by simp at h, ?_, fun _ => ?_, ?_, fun _ => rfl, hep⟩ (by rw [hxs]; exact hk)
                      · simp only [hyl]; omega
                      · simp only [hyl]; omega
                      · simp only; omega
                    · exact newArr (by omega) (Ok.kill hr l (by rw [hm]; simp)) rfl rfl rfl
                  · simp at hv
          · simp at hv
  · simp at h

theorem acts_appm {e bs : Nat} {zs : List AV} {s x : Opd} (h : mOp P o (.appm e bs zs s x) = true) (hE : EnvR m env a.tmps) (hr : Rel base m H w) (hv : heapOp env H (.appm e bs zs s x) = some (v, H1)) : Acts P o a base m H w v H1 := by
  simp only [mOp] at h
  split at h
  · rename_i Ts hB
    simp only [Bool.and_eq_true, beq_iff_eq] at h
    obtain ⟨⟨hs2, h01⟩, hub⟩ := h
    obtain ⟨c, ho, hc, rfl, hmo⟩ := isB_ok hB
    obtain ⟨T, d, hT, hu, hq⟩ := underB_ok hub
    have h1k : ∃ T1 kn, c.argTypes[1]? = some T1 ∧ P.underlying T1 = some (.int kn) := by
      split at h01
      · rename_i T1 hT1
        split at h01
        · rename_i kn hk; exact ⟨T1, kn, hT1, hk⟩
        · simp at h01
      · simp at h01
    obtain ⟨T1, kn, hT1, hu1⟩ := h1k
    have hTs : c.argTypes = #[T, T1] := by
      apply Array.ext'
      have hl : c.argTypes.toList.length = 2 := by simpa using hs2
      rw [← Array.getElem?_toList] at hT hT1
      match hL : c.argTypes.toList with
      | [p, q] => rw [hL] at hT hT1; simp at hT hT1; subst hT hT1; rfl
      | [] => rw [hL] at hl; simp at hl
      | [_] => rw [hL] at hl; simp at hl
      | _ :: _ :: _ :: _ => rw [hL] at hl; simp at hl
    have hde : ∃ E inf z, d = .slice E ∧ P.info? E = some inf ∧ inf.size = e ∧ inf.bytes = bs ∧ inf.zero = some z ∧ isSlB.mCs zs z.cells.toList = true ∧ z.cells.size = e := by
      cases d with
      | slice E =>
        cases hi : P.info? E with
        | none => simp [hi] at hq
        | some inf =>
          cases hz : inf.zero with
          | none => simp [hi, hz] at hq
          | some z =>
            simp only [hi, hz, Bool.and_eq_true, beq_iff_eq] at hq
            exact ⟨E, inf, z, rfl, hi, hq.1.1, hq.1.2, hz, hq.2.1, hq.2.2⟩
      | _ => simp at hq
    obtain ⟨E, inf, z, rfl, hi, hsize, hbytes, hz, hzr, hzs⟩ := hde
    obtain ⟨vs, hvs, S, vs', rfl, h1, X, vs'', rfl, h2, hn⟩ := args_eq hmo hE
    simp only [List.map_nil, VRs] at hn; subst hn
    simp only [heapOp] at hv
    split at hv
    · rename_i n es ex
      split at hv
      · rename_i hc
        obtain ⟨hn0, hroom, hzl, hep, hbp⟩ := hc
        simp only [Option.some.injEq, Prod.mk.injEq] at hv
        obtain ⟨rfl, rfl⟩ := hv
        rw [es] at h1; simp only [VR] at h1; subst h1
        rw [ex] at h2; simp only [VR] at h2; subst h2
        obtain ⟨k, rfl⟩ : ∃ k : Nat, n = k := ⟨n.toNat, by omega⟩
        simp only [Int.toNat_natCast] at hroom ⊢
        have hkp : 0 < k := by omega
        have hk1 : k * 1 ≤ k * bs := Nat.mul_le_mul_left _ hbp
        have hrun := Lib.run_append_nil_zeros (P := P) w T T1 o.type E inf z .i64 kn hu hu1 hi hz k hkp (by omega) (by unfold room at hroom; omega) (by rw [hbytes]; unfold room at hroom; omega)
        have hzo := zeros_ok (m := m) (mCs_ok hzr) hzs k
        have hzc : Builtin.zeroCells z.cells k = (Array.range (k * e)).map (z.cells[· % z.cells.size]!) := by unfold Builtin.zeroCells; rw [hzs]
        have hge := grownCap_ge w k 0 E
        have hk := Ok.new (w' := w.drew.alloc (.cells (Builtin.zeroCells z.cells k ++ Builtin.zeroCells z.cells (grownCap w k 0 E - k)) E)) hr hzo (arr := Builtin.zeroCells z.cells k ++ Builtin.zeroCells z.cells (grownCap w k 0 E - k)) (T := E) (rest := (Builtin.zeroCells z.cells (grownCap w k 0 E - k)).toList) (by rw [hzc]; simp) rfl rfl rfl rfl
        have hasz : (Builtin.zeroCells z.cells k ++ Builtin.zeroCells z.cells (grownCap w k 0 E - k)).size = grownCap w k 0 E * e := by
          rw [Array.size_append, size_zeroCells, size_zeroCells, hzs, ← Nat.add_mul]
          congr 1; omega
        have hme : k * e ≤ grownCap w k 0 E * e := Nat.mul_le_mul_right _ hge
        have hfl : (List.replicate k zs).flatten.length = k * e := by rw [flat_length, hzl]
        refine Acts.of_value (run_builtin (P := P) w (s := Builtin.append_) ho hc (fun _ _ _ _ => rfl) (by rw [hvs, hTs]; exact hrun)) ?_ hk
        exact ⟨_, _, _, by unfold Map.add; rw [if_pos rfl], rfl, hge, fun h => by simp at h, by simp only [hfl]; omega, fun _ => by simp only [hfl]; omega, by simp only [hasz]; omega, fun _ => rfl, hep⟩
      · simp at hv
    · simp at hv
  · simp at h

theorem acts_cpy {e : Nat} {d s : Opd} (h : mOp P o (.cpy e d s) = true) (hE : EnvR m env a.tmps) (hr : Rel base m H w) (hv : heapOp env H (.cpy e d s) = some (v, H1)) : Acts P o a base m H w v H1 := by
  simp only [mOp] at h
  split at h
  · rename_i Ts hB
    obtain ⟨c, ho, hc, rfl, hmo⟩ := isB_ok hB
    obtain ⟨T, dd, hT, hu, hq⟩ := underB_ok h
    have hde : ∃ E inf, dd = .slice E ∧ P.info? E = some inf ∧ inf.size = e := by
      cases dd with
      | slice E =>
        cases hi : P.info? E with
        | none => simp [hi] at hq
        | some inf => simp only [hi, beq_iff_eq] at hq; exact ⟨E, inf, rfl, hi, hq⟩
      | _ => simp at hq
    obtain ⟨E, inf, rfl, hi, hsize⟩ := hde
    obtain ⟨vs, hvs, D, vs', rfl, h1, S, vs'', rfl, h2, hn⟩ := args_eq hmo hE
    simp only [List.map_nil, VRs] at hn; subst hn
    simp only [heapOp] at hv
    have fin : ∀ {w' m' v'}, (Builtin.copy_ c.argTypes o.type #[D, S]).run P w = .ok v' w' → VR m' v v' → Ok base m H w m' H1 w' → Acts P o a base m H w v H1 := by
      intro w' m' v' hrun hvr hok
      exact Acts.of_value (run_builtin (P := P) w (s := Builtin.copy_) ho hc (fun _ _ _ _ => rfl) (by rw [hvs]; exact hrun)) hvr hok
    split at hv
    · rename_i e1 e2
      simp only [Option.some.injEq, Prod.mk.injEq] at hv
      obtain ⟨rfl, rfl⟩ := hv
      rw [e1] at h1; rw [e2] at h2; simp only [VR] at h1 h2; subst h1 h2
      refine fin (v' := .int .i64 0) (w' := w) (m' := m) ?_ rfl (Ok.refl hr)
      simp [Builtin.copy_, hT, run_underlying hu, sizeOf, typeInfo, hi, Builtin.lenOf, Builtin.firstCells, goInt]
    · rename_i l q n e' x' e1 e2
      simp only [Option.some.injEq, Prod.mk.injEq] at hv
      obtain ⟨rfl, rfl⟩ := hv
      rw [e1] at h1; rw [e2] at h2; simp only [VR] at h1; subst h1
      obtain ⟨i, ad, cap, hm, rfl, _⟩ := h2
      refine fin (v' := .int .i64 0) (w' := w) (m' := m) ?_ rfl (Ok.refl hr)
      simp [Builtin.copy_, hT, run_underlying hu, sizeOf, typeInfo, hi, Builtin.lenOf, Builtin.firstCells, goInt, loadCells, loadCellsFrom]
    · rename_i l q n e' x' e1 e2
      simp only [Option.some.injEq, Prod.mk.injEq] at hv
      obtain ⟨rfl, rfl⟩ := hv
      rw [e1] at h1; rw [e2] at h2; simp only [VR] at h2; subst h2
      obtain ⟨i, ad, cap, hm, rfl, _⟩ := h1
      refine fin (v' := .int .i64 0) (w' := w) (m' := m) ?_ rfl (Ok.refl hr)
      simp [Builtin.copy_, hT, run_underlying hu, sizeOf, typeInfo, hi, Builtin.lenOf, Builtin.firstCells, goInt, storeCells]
    · rename_i l q n e1' x1 l2 q2 n2 e2' x2 e1 e2
      split at hv
      · simp at hv
      · rename_i hee
        obtain ⟨rfl, rfl, rfl⟩ : 1 = e1' ∧ 1 = e2' ∧ e = 1 := by omega
        obtain ⟨xs, hrd, hv⟩ := Option.bind_eq_some_iff.1 hv
        obtain ⟨H', hwr, hv⟩ := Option.map_eq_some_iff.1 hv
        simp only [Prod.mk.injEq] at hv
        obtain ⟨rfl, rfl⟩ := hv
        rw [e1] at h1; rw [e2] at h2
        obtain ⟨i, ad, cap, hm, rfl, hcap, hxx, hle, hfree, hbsz, had, _⟩ := h1
        obtain ⟨i2, ad2, cap2, hm2, rfl, hcap2, hxx2, hle2, hfree2, hbsz2, had2, _⟩ := h2
        obtain ⟨hxl, hxle, us, hul, hus, hcell⟩ := hr.rd hm2 hrd
        rw [Nat.mul_one] at hul hxl
        obtain ⟨hc1, hf1, hone1, hk⟩ := Ok.put hr hm hwr hus
        by_cases h0 : min n2 n = 0
        · have hus0 : us = [] := List.eq_nil_of_length_eq_zero (by omega)
          subst hus0
          refine fin (v' := .int .i64 0) (w' := w) (m' := m) ?_ (by rw [h0]; rfl) (by simpa [World.setCells] using hk)
          have hmn : Nat.min n2 n = 0 := h0
          obtain ⟨b1, b2, b3⟩ := ad
          simp [Builtin.copy_, hT, run_underlying hu, sizeOf, typeInfo, hi, Builtin.lenOf, Builtin.firstCells, goInt, storeCells, hmn, loadCells, loadCellsFrom]
        · have hadr := had (by omega)
          have hadr2 := had2 (by omega)
          subst hadr hadr2
          have hrun := run_copy_cells (P := P) w T T o.type E i.b (i.off + q) n cap ⟨i2.b, i2.off + q2, none⟩ n2 cap2 us hu (by simp [hi, hsize]) hul (fun j u hj => by rw [Addr.add_lit]; exact hcell j u hj) hc1 hf1 hone1
          refine fin (v' := .int .i64 us.length) (w' := w.setCells i.b (i.off + q) us) (m' := m) ?_ (by rw [hul]; rfl) hk
          rw [← show goInt us.length = .int .i64 us.length from rfl, ← hrun]
          have hl := hmo
          simp only [Builtin.copy_, hT]
          simp [hT]
    · simp at hv
  · simp at h

theorem acts_clr {e : Nat} {zs : List AV} {x : Opd} (h : mOp P o (.clr e zs x) = true) (hE : EnvR m env a.tmps) (hr : Rel base m H w) (hv : heapOp env H (.clr e zs x) = some (v, H1)) : Acts P o a base m H w v H1 := by
  simp only [mOp] at h
  split at h
  · rename_i Ts hB
    obtain ⟨c, ho, hc, rfl, hmo⟩ := isB_ok hB
    obtain ⟨T, dd, hT, hu, hq⟩ := underB_ok h
    have hde : ∃ E inf z, dd = .slice E ∧ P.info? E = some inf ∧ inf.size = e ∧ inf.zero = some z ∧ isSlB.mCs zs z.cells.toList = true ∧ z.cells.size = e := by
      cases dd with
      | slice E =>
        cases hi : P.info? E with
        | none => simp [hi] at hq
        | some inf =>
          cases hz : inf.zero with
          | none => simp [hi, hz] at hq
          | some z =>
            simp only [hi, hz, Bool.and_eq_true, beq_iff_eq] at hq
            exact ⟨E, inf, z, rfl, hi, hq.1, hz, hq.2.1, hq.2.2⟩
      | _ => simp at hq
    obtain ⟨E, inf, z, rfl, hi, hsize, hz, hzr, hzs⟩ := hde
    obtain ⟨vs, hvs, X, vs', rfl, h1, hn⟩ := args_eq hmo hE
    simp only [List.map_nil, VRs] at hn; subst hn
    simp only [heapOp] at hv
    have fin : ∀ {w' m' v'}, (Builtin.clear_ c.argTypes o.type #[X]).run P w = .ok v' w' → VR m' v v' → Ok base m H w m' H1 w' → Acts P o a base m H w v H1 := by
      intro w' m' v' hrun hvr hok
      exact Acts.of_value (run_builtin (P := P) w (s := Builtin.clear_) ho hc (fun _ _ _ _ => rfl) (by rw [hvs]; exact hrun)) hvr hok
    split at hv
    · rename_i e1
      simp only [Option.some.injEq, Prod.mk.injEq] at hv
      obtain ⟨rfl, rfl⟩ := hv
      rw [e1] at h1; simp only [VR] at h1; subst h1
      refine fin (v' := .tuple #[]) (w' := w) (m' := m) ?_ ⟨#[], rfl, by simp [VRs]⟩ (Ok.refl hr)
      simp [Builtin.clear_, hT, run_underlying hu]
    · rename_i l q n e' x' e1
      rw [e1] at h1
      obtain ⟨i, ad, cap, hm, rfl, hcap, hxx, hle, hfree, hbsz, had, hpos⟩ := h1
      split at hv
      · simp at hv
      · rename_i hee
        have hee' : e = e' := by omega
        subst hee'
        split at hv
        · rename_i h0
          subst h0
          simp only [Option.some.injEq, Prod.mk.injEq] at hv
          obtain ⟨rfl, rfl⟩ := hv
          refine fin (v' := .tuple #[]) (w' := w) (m' := m) ?_ ⟨#[], rfl, by simp [VRs]⟩ (Ok.refl hr)
          simp [Builtin.clear_, hT, run_underlying hu]
        · rename_i h0
          obtain ⟨H', hwr, hv⟩ := Option.map_eq_some_iff.1 hv
          simp only [Prod.mk.injEq] at hv
          obtain ⟨rfl, rfl⟩ := hv
          have hadr := had (by omega)
          subst hadr
          have hzo := zeros_ok (m := m) (mCs_ok hzr) hzs n
          obtain ⟨hc1, hf1, hone1, hk⟩ := Ok.put hr hm hwr hzo
          have hst := run_storeCells_cells (P := P) i.b (i.off + q) ((Array.range (n * e)).map (z.cells[· % z.cells.size]!)).toList 0 w (by simpa using hc1) (by simpa using hf1) hone1
          rw [Nat.add_zero] at hst
          refine fin (v' := .tuple #[]) (w' := w.setCells i.b (i.off + q) ((Array.range (n * e)).map (z.cells[· % z.cells.size]!)).toList) (m' := m) ?_ ⟨#[], rfl, by simp [VRs]⟩ hk
          have hzc : Builtin.zeroCells z.cells n = (Array.range (n * e)).map (z.cells[· % z.cells.size]!) := by unfold Builtin.zeroCells; rw [hzs]
          have hzv := run_zero (P := P) (w := w) hi hz
          have hrun2 : (do storeCells ⟨i.b, i.off + q, none⟩ (Builtin.zeroCells (← zeroValue E).cells n).toList : Sem Unit).run P w = .ok () (w.setCells i.b (i.off + q) ((Array.range (n * e)).map (z.cells[· % z.cells.size]!)).toList) := by
            simp only [Sem.run_bind, hzv, Result.andThen_ok, hzc, hst]
          obtain ⟨n', rfl⟩ : ∃ n', n = n' + 1 := ⟨n - 1, by omega⟩
          simp only [Builtin.clear_, hT, Sem.run_bind, run_underlying hu, Result.andThen_ok]
          simp [Sem.run_bind, run_underlying hu, hzv, hzc]
          simp only [Array.toList_map, Array.toList_range] at hst
          rw [hst]; rfl
    · simp at hv
  · simp at h

/-- A slice within its length: as the wider rule has it. -/
theorem sls_slx {e : Nat} {x : Opd} {lo hi mx : Option Opd} (hv : pureOp env (.sls e x lo hi mx) = some v) : heapOp env H (.slx e x lo hi mx) = some (v, H) := by
  simp only [pureOp] at hv
  simp only [heapOp]
  split at hv
  · split at hv
    · simp only [Option.some.injEq] at hv; subst hv; rfl
    · simp at hv
  · rename_i l q n e' x' e1
    split at hv
    · simp at hv
    · rename_i hee
      simp only [if_neg hee]
      cases mx with
      | some mo => 
        try simp only at hv ⊢
        split at hv
        · rename_i mb z em
          split at hv
          · rename_i hb eh
            split at hv
            · rename_i lb el
              split at hv
              · rename_i hmh
                simp only [Option.some.injEq] at hv; subst hv
                simp [em, eh, el, hmh]
              · simp at hv
            · simp at hv
          · simp at hv
        · simp at hv
      | none =>
        try simp only at hv ⊢
        have hh : ∀ h, obnd env n n hi = some h → hbnd env H l q n e x' hi = some h := by
          intro h hh
          cases hi with
          | none => exact hh
          | some z =>
            simp only [obnd, bnd] at hh
            simp only [hbnd]
            split at hh
            · rename_i k i ez
              split at hh
              · rename_i hc
                try simp only [ez]
                rw [if_pos ⟨hc.1, .inl hc.2⟩]; exact hh
              · simp at hh
            · simp at hh
        split at hv
        · rename_i hb eh
          rw [hh _ eh]
          split at hv
          · rename_i lb el
            simp only [el]
            split at hv
            · simp at hv
            · rename_i hxn
              rw [if_neg hxn]
              simp only [Option.some.injEq] at hv; subst hv; rfl
          · simp at hv
        · simp at hv
  · simp at hv

/-- Every operation that is no call. -/
theorem acts {c : COp} (h : mOp P o c = true) (hE : EnvR m env a.tmps) (hr : Rel base m H w) (hv : heapOp env H c = some (v, H1)) : Acts P o a base m H w v H1 := by
  have pure_ : ∀ {c : COp}, (∀ e x lo hi mx, c ≠ .sls e x lo hi mx) → mOp P o c = true → (pureOp env c).map (fun v => (v, H)) = some (v, H1) → Acts P o a base m H w v H1 := by
    intro c hns h hv
    obtain ⟨v0, h0, hv⟩ := Option.map_eq_some_iff.1 hv
    simp only [Prod.mk.injEq] at hv
    obtain ⟨rfl, rfl⟩ := hv
    obtain ⟨v', hrun, hvr⟩ := does_pure w hns h hE h0
    exact Acts.of_value hrun hvr (Ok.refl hr)
  cases c with
  | ld => exact acts_ld h hE hr hv
  | st => exact acts_st h hE hr hv
  | al => exact acts_alloc h hE hr hv
  | box => exact acts_alloc h hE hr hv
  | bsl => exact acts_alloc h hE hr hv
  | mk => exact acts_alloc h hE hr hv
  | slx => exact acts_slx h hE hr hv
  | sls e x lo hi mx =>
    obtain ⟨v0, h0, hv⟩ := Option.map_eq_some_iff.1 (show (pureOp env (.sls e x lo hi mx)).map (fun v => (v, H)) = some (v, H1) from hv)
    simp only [Prod.mk.injEq] at hv
    obtain ⟨rfl, rfl⟩ := hv
    exact acts_slx (e := e) (x := x) (lo := lo) (hi := hi) (mx := mx) h hE hr (sls_slx h0)
  | b2s => exact acts_b2s h hE hr hv
  | app => exact acts_app h hE hr hv
  | appm => exact acts_appm h hE hr hv
  | cpy => exact acts_cpy h hE hr hv
  | clr => exact acts_clr h hE hr hv
  | _ => exact pure_ (by simp) h hv
end

end Go.Proofs.YtabmomjfdondnaaH
