/- Operations on memory. -/
import Derived.Test.YtabmomjfdondnaaHm5
import Derived.Laws.BytesArg
set_option linter.unusedVariables false
set_option linter.unusedSimpArgs false
namespace Go.Proofs.YtabmomjfdondnaaH
open Go

section
variable {P : Program} {o : Oper} {env : Env} {a : Act} {base : Nat} {m : Map} {H H1 : Heap} {w : World} {v : AV}

/-- What an operation on memory comes to. -/
def Acts (P : Program) (o : Oper) (a : Act) (base : Nat) (m : Map) (H : Heap) (w : World) (v : AV) (H1 : Heap) : Prop :=
  ∃ nx w' m' v', (execOp a.eval o).run P w = .ok nx w' ∧ (nx = .value v' ∨ (nx = .skip ∧ v' = undef)) ∧ VR m' v v' ∧ Ok base m H w m' H1 w'

theorem Acts.of_value {w' : World} {m' : Map} {v' : Value} (h : (execOp a.eval o).run P w = .ok (.value v') w') (hv : VR m' v v') (hk : Ok base m H w m' H1 w') : Acts P o a base m H w v H1 :=
  ⟨_, w', m', v', h, .inl rfl, hv, hk⟩

theorem isAggT_ok {T : TypeId} {ag : Bool} {n : Nat} (h : isAggT P T ag n = true) : ∃ i, P.info? T = some i ∧ i.size = n ∧ (isAgg T).run P w = .ok ag w := by
  unfold isAggT at h
  split at h
  · rename_i fs i hu hi
    simp only [Bool.and_eq_true, beq_iff_eq] at h
    obtain ⟨rfl, h2⟩ := h
    exact ⟨i, hi, h2, by simp [isAgg, Sem.run_bind, run_underlying hu]⟩
  · simp at h
  · rename_i d i hn1 hn2 hu hi
    simp only [Bool.and_eq_true, beq_iff_eq, Bool.not_eq_true'] at h
    obtain ⟨rfl, h2⟩ := h
    refine ⟨i, hi, h2, ?_⟩
    simp only [isAgg, Sem.run_bind, run_underlying hu, Result.andThen_ok]
    cases d <;> first | rfl | exact absurd rfl (hn1 _) | exact absurd rfl (hn2 _ _) | exact (hn1 _ _ hu hi).elim | exact (hn2 _ _ hu hi).elim | (exfalso; simp_all)
  · simp at h

theorem acts_ld {n : Nat} {ag : Bool} {p : Opd} (h : mOp P o (.ld n ag p) = true) (hE : EnvR m env a.tmps) (hr : Rel base m H w) (hv : heapOp env H (.ld n ag p) = some (v, H1)) : Acts P o a base m H w v H1 := by
  simp only [mOp] at h
  split at h
  · rename_i T X ho
    simp only [Bool.and_eq_true] at h
    obtain ⟨hx, hT⟩ := h
    obtain ⟨inf, hinf, hsize, hagg⟩ := isAggT_ok (w := w) hT
    have h1 := mO_ok hx hE
    simp only [heapOp] at hv
    split at hv
    · rename_i l q e1
      rw [e1] at h1; obtain ⟨i, hm, he⟩ := h1
      obtain ⟨vs, hrd, hv⟩ := Option.bind_eq_some_iff.1 hv
      obtain ⟨hvl, hle, us, hul, hus, hcell⟩ := hr.rd hm hrd
      have hcell' : ∀ j u, us[j]? = some u → w.cell? ((⟨i.b, i.off + q, none⟩ : Addr).add j) = some u := by
        intro j u hj; rw [Addr.add_lit]; exact hcell j u hj
      cases ag with
      | true =>
        simp only [if_true, Option.some.injEq, Prod.mk.injEq] at hv
        obtain ⟨rfl, rfl⟩ := hv
        refine Acts.of_value (v' := .agg us.toArray) (w' := w) (m' := m) ?_ ⟨_, rfl, by simpa using hus⟩ (Ok.refl hr)
        simp only [execOp, ho]
        refine run_v (P := P) w ?_
        have hld := run_loadCells_list (P := P) w _ us hcell'
        simp only [Instr.loadAt, Instr.sureAddr, he, Sem.run_bind, Sem.run_pure, Result.andThen_ok, loadVar, hagg, if_true, run_sizeOf w hinf, hsize, ← hul, hld]
      | false =>
        simp only [Bool.false_eq_true, if_false] at hv
        split at hv
        · rename_i v0
          simp only [Option.some.injEq, Prod.mk.injEq] at hv
          obtain ⟨rfl, rfl⟩ := hv
          obtain ⟨u, us', rfl, hu0, hn⟩ := hus
          have hc0 := hcell 0 u (by simp)
          refine Acts.of_value (v' := u) (w' := w) (m' := m) ?_ hu0 (Ok.refl hr)
          simp only [execOp, ho]
          refine run_v (P := P) w ?_
          simp only [Instr.loadAt, Instr.sureAddr, he, Sem.run_bind, Sem.run_pure, Result.andThen_ok, loadVar, hagg, Bool.false_eq_true, if_false, run_load]
          rw [Nat.add_zero] at hc0
          simp only [hc0]
        · simp at hv
    · simp at hv
  · simp at h

theorem acts_st {n : Nat} {p x : Opd} (h : mOp P o (.st n p x) = true) (hE : EnvR m env a.tmps) (hr : Rel base m H w) (hv : heapOp env H (.st n p x) = some (v, H1)) : Acts P o a base m H w v H1 := by
  simp only [mOp] at h
  split at h
  · rename_i T X V ho
    simp only [Bool.and_eq_true] at h
    obtain ⟨⟨hx, hV⟩, hT⟩ := h
    have hinf : ∃ inf, P.info? T = some inf ∧ inf.size = n := by
      revert hT; cases P.info? T with
      | none => simp
      | some i => simp
    obtain ⟨inf, hinf, hsize⟩ := hinf
    have h1 := mO_ok hx hE
    have h2 := mO_ok hV hE
    simp only [heapOp] at hv
    split at hv
    · rename_i l q e1
      rw [e1] at h1; obtain ⟨i, hm, he⟩ := h1
      split at hv
      · rename_i hn
        obtain ⟨H', hw, hv⟩ := Option.map_eq_some_iff.1 hv
        simp only [Prod.mk.injEq] at hv
        obtain ⟨rfl, rfl⟩ := hv
        have hall : ∀ y ∈ (x.ev env).cells, y.one = true := by
          have hw' := hw
          unfold Heap.wr at hw'
          split at hw'
          · rename_i hc; intro y hy; exact (List.all_eq_true.1 hc.2.2.2) y hy
          · simp at hw'
        have hcs := h2.cells hall
        obtain ⟨hc, hf, hone, hk⟩ := Ok.put hr hm hw hcs
        have hst := run_storeCells_cells (P := P) i.b (i.off + q) (a.eval V).cells.toList 0 w (by simpa using hc) (by simpa using hf) hone
        rw [Nat.add_zero] at hst
        have hlen : (a.eval V).cells.size = n := by rw [← Array.length_toList, hcs.length, hn]
        refine ⟨.skip, _, m, undef, ?_, .inr ⟨rfl, rfl⟩, trivial, hk⟩
        simp only [execOp, ho, Sem.run_bind, Instr.storeAt, Instr.sureAddr, he, Sem.run_pure, Result.andThen_ok, storeVar, run_sizeOf w hinf, hsize, hlen, ne_eq, not_true_eq_false, if_false, hst]
      · simp at hv
    · simp at hv
  · simp at h

theorem run_newVar {T : TypeId} {V : Value} : (newVar T V).run P w = .ok ⟨w.heap.size, 0, none⟩ (w.alloc (.cells V.cells T)) := by
  simp only [newVar, newRow, newObj, Sem.run_bind]; rfl

/-- New memory: what is made. -/
def Makes (P : Program) (o : Oper) (a : Act) (m : Map) (w : World) (k : Nat) (v : AV) (cs : List AV) : Prop :=
  ∃ v' arr T us rest, (execOp a.eval o).run P w = .ok (.value v') (w.alloc (.cells arr T)) ∧ VRs m cs us ∧ arr.toList = us ++ rest ∧ ∀ m' : Map, m' k = some ⟨w.heap.size, 0, cs.length, arr.size⟩ → VR m' v v'

theorem makes_al {k : Nat} {cs zs : List AV} (h : mOp P o (.al zs) = true) (hE : EnvR m env a.tmps) (hv : allocOp env k (.al zs) = some (v, cs)) : Makes P o a m w k v cs := by
  simp only [mOp] at h
  split at h
  · rename_i T ho
    obtain ⟨i, z, hi, hz, hzr⟩ := zeroOk_ok h
    simp only [allocOp, Option.some.injEq, Prod.mk.injEq] at hv
    obtain ⟨rfl, rfl⟩ := hv
    refine ⟨.pointer (some ⟨w.heap.size, 0, none⟩), z.cells, T, z.cells.toList, [], ?_, hzr m, by simp, fun m' hm' => ⟨_, hm', rfl⟩⟩
    simp only [execOp, ho]
    refine run_v (P := P) w ?_
    simp only [Instr.alloc, zeroValue, typeInfo, Sem.run_bind, hi, hz, Result.andThen_ok]
    simp [hi, hz, run_newVar, Sem.run]
  · simp at h

theorem makes_box {k n : Nat} {cs : List AV} {x : Opd} (h : mOp P o (.box n x) = true) (hE : EnvR m env a.tmps) (hv : allocOp env k (.box n x) = some (v, cs)) : Makes P o a m w k v cs := by
  simp only [mOp] at h
  split at h
  · rename_i T V ho
    have h1 := mO_ok h hE
    simp only [allocOp] at hv
    split at hv
    · rename_i hc
      simp only [Option.some.injEq, Prod.mk.injEq] at hv
      obtain ⟨rfl, rfl⟩ := hv
      have hcs := h1.cells (fun y hy => (List.all_eq_true.1 hc.2) y hy)
      refine ⟨.pointer (some ⟨w.heap.size, 0, none⟩), (a.eval V).cells, T, (a.eval V).cells.toList, [], ?_, hcs, by simp, fun m' hm' => ⟨_, hm', rfl⟩⟩
      simp only [execOp, ho]
      refine run_v (P := P) w ?_
      simp only [Instr.box, Sem.run_bind, run_newVar, Result.andThen_ok, Sem.run_pure]
    · simp at hv
  · simp at h

theorem flat_length (zs : List AV) : ∀ n, (List.replicate n zs).flatten.length = n * zs.length
  | 0 => by simp
  | n + 1 => by rw [List.replicate_succ, List.flatten_cons, List.length_append, flat_length zs n, Nat.add_mul]; omega
theorem flat_getD (zs : List AV) : ∀ n j, j < n * zs.length → (List.replicate n zs).flatten.getD j .und = zs.getD (j % zs.length) .und
  | 0, j, h => by simp at h
  | n + 1, j, h => by
    rw [List.replicate_succ, List.flatten_cons]
    simp only [List.getD_eq_getElem?_getD]
    by_cases hj : j < zs.length
    · rw [List.getElem?_append_left hj, Nat.mod_eq_of_lt hj]
    · rw [List.getElem?_append_right (by omega)]
      have := flat_getD zs n (j - zs.length) (by rw [Nat.add_mul] at h; omega)
      simp only [List.getD_eq_getElem?_getD] at this
      rw [this, ← Nat.mod_eq_sub_mod (by omega)]
theorem zeros_ok {zs : List AV} {z : Array Value} {e : Nat} (hzr : VRs m zs z.toList) (he : z.size = e) (n : Nat) : VRs m (List.replicate n zs).flatten ((Array.range (n * e)).map (z[· % z.size]!)).toList := by
  have hl : zs.length = e := by rw [← hzr.length]; simpa using he
  refine VRs.of (by rw [flat_length, hl]; simp) fun j v hv => ?_
  have hj : j < n * e := by
    have := (List.getElem?_eq_some_iff.1 hv).1
    simpa using this
  rw [flat_getD zs n j (by rw [hl]; exact hj)]
  have hpos : 0 < e := by
    rcases Nat.eq_zero_or_pos e with h0 | h0
    · subst h0; simp at hj
    · exact h0
  have hjm : j % e < e := Nat.mod_lt _ hpos
  obtain ⟨u, hu, hr⟩ := hzr.at (j % zs.length) (by rw [hl]; exact hjm)
  have : v = u := by
    simp only [Array.toList_map, List.getElem?_map, Array.toList_range, List.getElem?_range hj, Option.map_some, Option.some.injEq] at hv
    rw [← hv, he]
    rw [hl] at hu
    have hlt : j % e < z.size := by omega
    rw [getElem!_pos z (j % e) hlt]
    rw [Array.getElem?_toList, Array.getElem?_eq_getElem hlt, Option.some.injEq] at hu
    exact hu
  rw [this]; exact hr

theorem run_newRow {T : TypeId} {cs : Array Value} : (newRow T cs).run P w = .ok ⟨w.heap.size, 0, none⟩ (w.alloc (.cells cs T)) := by
  simp only [newRow, newObj, Sem.run_bind]; rfl

theorem run_zero {E : TypeId} {i : TypeInfo} {z : Value} (hi : P.info? E = some i) (hz : i.zero = some z) : (zeroValue E).run P w = .ok z w := by
  simp [zeroValue, typeInfo, Sem.run_bind, hi, hz]

theorem makes_bsl {k e n : Nat} {cs zs : List AV} {ps : List (Nat × Nat × Opd)} (h : mOp P o (.bsl e n zs ps) = true) (hE : EnvR m env a.tmps) (hv : allocOp env k (.bsl e n zs ps) = some (v, cs)) : Makes P o a m w k v cs := by
  simp only [mOp] at h
  split at h
  · rename_i T n' parts ho
    simp only [Bool.and_eq_true, beq_iff_eq] at h
    obtain ⟨rfl, hT⟩ := h
    have hu : ∃ E i z, P.underlying T = some (.slice E) ∧ P.info? E = some i ∧ i.size = e ∧ i.zero = some z ∧ isSlB.mCs zs z.cells.toList = true ∧ z.cells.size = e ∧ partsOk (fun i => some (i * e, e)) ps parts.toList = true := by
      revert hT
      cases hu : P.underlying T with
      | none => simp
      | some d =>
        cases d <;> simp
        rename_i E
        cases hi : P.info? E with
        | none => simp
        | some i =>
          simp
          cases hz : i.zero with
          | none => simp
          | some z => simp; exact fun h1 h2 h3 h4 => ⟨h1, h2, h3, h4⟩
    obtain ⟨E, i, z, hu, hi, hsize, hz, hzr, hzs, hps⟩ := hu
    simp only [allocOp] at hv
    split at hv
    · rename_i hc
      obtain ⟨hlim, hzl, hpos⟩ := hc
      obtain ⟨cs0, hlay, hv⟩ := Option.map_eq_some_iff.1 hv
      simp only [Prod.mk.injEq] at hv
      obtain ⟨rfl, rfl⟩ := hv
      obtain ⟨vs', hf, hrr⟩ := lay_ok (a := a) (fun i => some (i * e, e)) hE ps parts.toList _ cs0 _ hps hlay (zeros_ok (mCs_ok hzr) hzs n)
      have hcl : cs0.length = n * e := by
        have : ∀ (ps : List (Nat × Nat × Opd)) (c c' : List AV), layAll env c ps = some c' → c'.length = c.length := by
          intro ps
          induction ps with
          | nil => intro c c' h; simp only [layAll, Option.some.injEq] at h; rw [h]
          | cons q ps ih =>
            obtain ⟨o, n, x⟩ := q
            intro c c' h
            simp only [layAll] at h
            split at h
            · rename_i hc
              rw [ih _ _ h]
              unfold splice
              simp only [List.length_append, List.length_take, List.length_drop]
              omega
            · simp at h
        rw [this ps _ _ hlay, flat_length, hzl]
      have hvl : vs'.size = n * e := by rw [← hcl, ← hrr.length]; simp
      refine ⟨.slice (some ⟨w.heap.size, 0, none⟩) n n, vs', E, vs'.toList, [], ?_, hrr, by simp, fun m' hm' => ⟨_, _, n, hm', rfl, Nat.le_refl _, fun h => by simp at h, by simp only; omega, fun _ => by simp only; omega, by simp only; omega, fun _ => rfl, hpos⟩⟩
      simp only [execOp, ho]
      refine run_v (P := P) w ?_
      have hlim' : ¬ (n * e > 2 ^ 24) := by omega
      have hf' : Instr.fill (fun i => some (i * e, e)) ((Array.range (n * e)).map (z.cells[· % z.cells.size]!)) (parts.map fun x => (x.1, a.eval x.2)).toList = some vs' := by
        rw [← hf]; simp
      have hzv := run_zero (P := P) (w := w) hi hz
      simp only [Instr.buildSlice, Sem.run_bind, run_underlying hu, Result.andThen_ok, run_sizeOf w hi, hsize, if_neg hlim']
      by_cases h0 : n * e = 0
      · have hf0 : Instr.fill (fun i => some (i * e, e)) ((Array.range (n * e)).map ((#[] : Array Value)[· % (#[] : Array Value).size]!)) (parts.map fun x => (x.1, a.eval x.2)).toList = some vs' := by
          rw [← hf']; congr 1; rw [h0]; apply Array.ext; · simp
          · intro i h1 _; simp at h1
        simp only [if_pos h0, Sem.run_bind, Sem.run_pure, Result.andThen_ok, hf0, run_newRow]
      · simp only [if_neg h0, Sem.run_bind, hzv, Sem.run_pure, Result.andThen_ok, hf', run_newRow]
    · simp at hv
  · simp at h

theorem isSlB_ok {T : TypeId} {e bs : Nat} {zs : List AV} (h : isSlB P T e bs zs = true) : ∃ E i z, P.underlying T = some (.slice E) ∧ P.info? E = some i ∧ i.size = e ∧ i.bytes = bs ∧ i.zero = some z ∧ isSlB.mCs zs z.cells.toList = true ∧ z.cells.size = e := by
  unfold isSlB at h
  split at h
  · rename_i E hu
    split at h
    · rename_i i hi
      simp only [Bool.and_eq_true, beq_iff_eq] at h
      obtain ⟨⟨h1, h2⟩, h3⟩ := h
      split at h3
      · rename_i z hz
        simp only [Bool.and_eq_true, beq_iff_eq] at h3
        exact ⟨E, i, z, hu, hi, h1, h2, hz, h3.1, h3.2⟩
      · simp at h3
    · simp at h
  · simp at h

theorem wrap64_id {n : Int} (h0 : 0 ≤ n) (h : n ≤ 9223372036854775807) : IntKind.i64.wrap n = n := by
  rw [IntKind.wrap_i64]; omega

theorem makes_mk {k e bs : Nat} {cs zs : List AV} {l c : Opd} (h : mOp P o (.mk e bs zs l c) = true) (hE : EnvR m env a.tmps) (hv : allocOp env k (.mk e bs zs l c) = some (v, cs)) : Makes P o a m w k v cs := by
  simp only [mOp] at h
  split at h
  · rename_i T L C ho
    simp only [Bool.and_eq_true] at h
    obtain ⟨⟨hl, hc⟩, hT⟩ := h
    obtain ⟨E, i, z, hu, hi, hsize, hbytes, hz, hzr, hzs⟩ := isSlB_ok hT
    have h1 := mO_ok hl hE
    have h2 := mO_ok hc hE
    simp only [allocOp] at hv
    split at hv
    · rename_i x y e1 e2
      rw [e1] at h1; rw [e2] at h2; simp only [VR] at h1 h2
      split at hv
      · rename_i hcond
        obtain ⟨hx0, hxy, hb, hy, hzl, hpos⟩ := hcond
        simp only [Option.some.injEq, Prod.mk.injEq] at hv
        obtain ⟨rfl, rfl⟩ := hv
        have hzo := zeros_ok (m := m) (mCs_ok hzr) hzs y.toNat
        have hlen : (List.replicate y.toNat zs).flatten.length = y.toNat * e := by rw [flat_length, hzl]
        have hsz : ((Array.range (y.toNat * e)).map (z.cells[· % z.cells.size]!)).size = y.toNat * e := by simp
        have hle : x.toNat ≤ y.toNat := by omega
        have hle2 : x.toNat * e ≤ y.toNat * e := Nat.mul_le_mul_right _ hle
        refine ⟨.slice (some ⟨w.heap.size, 0, none⟩) x.toNat y.toNat, (Array.range (y.toNat * e)).map (z.cells[· % z.cells.size]!), E, _, [], ?_, hzo, by simp, fun m' hm' => ⟨_, _, y.toNat, hm', rfl, hle, fun h => by simp at h, by simp only [hlen]; omega, fun _ => by simp only [hlen]; omega, by simp only [hsz]; omega, fun _ => rfl, hpos⟩⟩
        simp only [execOp, ho]
        refine run_v (P := P) w ?_
        have hty : (typeInfo E).run P w = .ok i w := by simp [typeInfo, hi]
        have wx : IntKind.i64.wrap x = x := wrap64_id hx0 (by omega)
        have wy : IntKind.i64.wrap y = y := wrap64_id (by omega) hy
        have c1 : (decide (y < 0) || decide ((i.bytes : Int) * y > 2 ^ 48) || decide (x < 0) || decide (x > y)) = false := by
          rw [hbytes]
          simp only [Bool.or_eq_false_iff, decide_eq_false_iff_not]
          refine ⟨⟨⟨by omega, by omega⟩, by omega⟩, by omega⟩
        have hroom : ∀ k, (askRoom k).run P w = .ok () w := by
          intro k; unfold askRoom; split <;> rfl
        have hzv := run_zero (P := P) (w := w) hi hz
        simp only [Instr.makeSlice, Sem.run_bind, run_underlying hu, Result.andThen_ok, h1, h2, asInt, asIntOf, Sem.run_pure, hty, wx, wy, hbytes] at c1 ⊢
        rw [if_neg (by rw [c1]; simp)]
        simp only [Sem.run_bind, hroom, Result.andThen_ok, run_sizeOf w hi, hsize]
        by_cases h0 : y.toNat * e = 0
        · have e0 : (Array.range (y.toNat * e)).map ((#[] : Array Value)[· % (#[] : Array Value).size]!) = (Array.range (y.toNat * e)).map (z.cells[· % z.cells.size]!) := by
            rw [h0]; apply Array.ext; · simp
            · intro i h1 _; simp at h1
          simp only [if_pos h0, Sem.run_bind, Sem.run_pure, Result.andThen_ok, e0, run_newRow]
        · simp only [if_neg h0, Sem.run_bind, hzv, Sem.run_pure, Result.andThen_ok, run_newRow]
      · simp at hv
    · simp at hv
  · simp at h

theorem makes {k : Nat} {c : COp} {cs : List AV} (h : mOp P o c = true) (hE : EnvR m env a.tmps) (hv : allocOp env k c = some (v, cs)) : Makes P o a m w k v cs := by
  cases c with
  | al => exact makes_al h hE hv
  | box => exact makes_box h hE hv
  | bsl => exact makes_bsl h hE hv
  | mk => exact makes_mk h hE hv
  | _ => simp [allocOp] at hv

theorem acts_alloc {c : COp} (h : mOp P o c = true) (hE : EnvR m env a.tmps) (hr : Rel base m H w) (hv : (allocOp env H.sz c).map (fun (v, cs) => (v, H.new cs)) = some (v, H1)) : Acts P o a base m H w v H1 := by
  obtain ⟨⟨v0, cs⟩, h0, hv⟩ := Option.map_eq_some_iff.1 hv
  simp only [Prod.mk.injEq] at hv
  obtain ⟨rfl, rfl⟩ := hv
  obtain ⟨v', arr, T, us, rest, hrun, hcs, harr, hvr⟩ := makes (w := w) h hE h0
  exact Acts.of_value hrun (hvr _ (by unfold Map.add; rw [if_pos rfl])) (Ok.new hr hcs harr rfl rfl rfl rfl)

theorem acts_b2s {x : Opd} (h : mOp P o (.b2s x) = true) (hE : EnvR m env a.tmps) (hr : Rel base m H w) (hv : heapOp env H (.b2s x) = some (v, H1)) : Acts P o a base m H w v H1 := by
  simp only [mOp] at h
  split at h
  · rename_i S D X ho
    simp only [Bool.and_eq_true] at h
    obtain ⟨hx, hT⟩ := h
    have hu : ∃ E, P.underlying S = some (.slice E) ∧ P.underlying D = some .string ∧ P.underlying E = some (.int .u8) := by
      revert hT
      cases P.underlying S with
      | none => simp
      | some d =>
        cases P.underlying D with
        | none => simp
        | some d' =>
          cases d <;> simp
          rename_i E
          cases d' <;> simp
          cases P.underlying E with
          | none => simp
          | some d'' =>
            cases d'' <;> simp
            rename_i k
            cases k <;> simp
    obtain ⟨E, hS, hD, hEu⟩ := hu
    have h1 := mO_ok hx hE
    simp only [heapOp] at hv
    split at hv
    · rename_i e1
      rw [e1] at h1; simp only [VR] at h1
      simp only [Option.some.injEq, Prod.mk.injEq] at hv
      obtain ⟨rfl, rfl⟩ := hv
      refine Acts.of_value (v' := .string ByteArray.empty) (w' := w) (m' := m) ?_ ⟨_, rfl, rfl⟩ (Ok.refl hr)
      simp only [execOp, ho]
      refine run_v (P := P) w ?_
      rw [h1]
      exact run_convert_bytes_nil w S E hS hEu 0 0 D hD
    · rename_i l q n e x' e1
      rw [e1] at h1
      obtain ⟨i, ad, cap, hm, he, hcap, _, hfit, _, _, had, _⟩ := h1
      split at hv
      · rename_i hone
        subst hone
        obtain ⟨vs, hrd, hv⟩ := Option.bind_eq_some_iff.1 hv
        obtain ⟨s, hs, hv⟩ := Option.map_eq_some_iff.1 hv
        simp only [Prod.mk.injEq] at hv
        obtain ⟨rfl, rfl⟩ := hv
        obtain ⟨hvl, hle, us, hul, hus, hcell⟩ := hr.rd0 hm (by omega) hrd
        have key : ∀ (vs : List AV) (us : List Value) (s : List UInt8), vs.mapM byteA = some s → VRs m vs us → ∃ xs : List Int, us = xs.map (Value.int .u8) ∧ xs.map (fun n => UInt8.ofNat n.toNat) = s := by
          intro vs
          induction vs with
          | nil => intro us s h1 h2; simp only [VRs] at h2; subst h2; simp at h1; subst h1; exact ⟨[], rfl, rfl⟩
          | cons c vs ih =>
            intro us s h1 h2
            obtain ⟨u, us', rfl, hu, hr2⟩ := h2
            simp only [List.mapM_cons, Option.bind_eq_bind, Option.pure_def] at h1
            obtain ⟨b, hb, h1⟩ := Option.bind_eq_some_iff.1 h1
            obtain ⟨s', hs', h1⟩ := Option.bind_eq_some_iff.1 h1
            simp only [Option.some.injEq] at h1
            subst h1
            obtain ⟨xs, rfl, hxs⟩ := ih us' s' hs' hr2
            unfold byteA at hb
            split at hb
            · rename_i n
              simp only [VR] at hu; subst hu
              split at hb
              · simp only [Option.some.injEq] at hb; subst hb
                exact ⟨n :: xs, rfl, by simp [hxs]⟩
              · simp at hb
            · simp at hb
        obtain ⟨xs, rfl, hxs⟩ := key vs us s hs hus
        have hxl : xs.length = n := by simpa using hul
        refine Acts.of_value (v' := .string (strOfNums xs)) (w' := w) (m' := m) ?_ ⟨_, rfl, by rw [strOfNums_data, hxs]⟩ (Ok.refl hr)
        simp only [execOp, ho]
        refine run_v (P := P) w ?_
        rw [he]
        rcases Nat.eq_zero_or_pos cap with h0 | h0
        · have hn0 : n = 0 := by omega
          subst hn0
          have : xs = [] := List.eq_nil_of_length_eq_zero hxl
          subst this
          obtain ⟨ab, ao, asp⟩ := ad
          simp only [convert, Sem.run_bind, run_underlying hS, run_underlying hD, run_underlying hEu, Result.andThen_ok, Conv.bytesToString]
          rfl
        · rw [had h0]
          exact run_convert_bytes_arg w S E hS hEu i.b (i.off + q) n cap xs hxl (fun j hj => hcell j _ (by simp [List.getElem?_eq_getElem (show j < xs.length by omega), List.getD_eq_getElem?_getD])) D hD
      · simp at hv
    · simp at hv
  · simp at h
end

end Go.Proofs.YtabmomjfdondnaaH
