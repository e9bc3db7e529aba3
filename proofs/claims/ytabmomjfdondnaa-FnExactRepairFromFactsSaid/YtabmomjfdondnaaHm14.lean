/- Every abstract run of a function of the table is a call of the model. -/
import Derived.Test.YtabmomjfdondnaaHm13
set_option linter.unusedVariables false
set_option linter.unusedSimpArgs false
namespace Go.Proofs.YtabmomjfdondnaaH
open Go

section
variable {P : Program} {base : Nat} {m : Map} {H : Heap} {w : World} {env : Env} {a : Act}

theorem loadVar_ok {T : TypeId} {ag : Bool} {n l q : Nat} {vs : List AV} {v : AV} {V : Value} (hT : isAggT P T ag n = true) (hr : Rel base m H w) (h1 : VR m (.ptr l q) V) (hrd : H.rd l q n = some vs)
    (hv : (if ag then some (.agg vs) else match vs with | [v] => some v | _ => none) = some v) : ∃ v' A, V = .pointer (some A) ∧ (loadVar T A).run P w = .ok v' w ∧ VR m v v' := by
  obtain ⟨inf, hinf, hsize, hagg⟩ := isAggT_ok (w := w) hT
  obtain ⟨i, hm, he⟩ := h1
  obtain ⟨hvl, hle, us, hul, hus, hcell⟩ := hr.rd hm hrd
  have hcell' : ∀ j u, us[j]? = some u → w.cell? ((⟨i.b, i.off + q, none⟩ : Addr).add j) = some u := by
    intro j u hj; rw [Addr.add_lit]; exact hcell j u hj
  cases ag with
  | true =>
    simp only [if_true, Option.some.injEq] at hv
    subst hv
    refine ⟨.agg us.toArray, _, he, ?_, ⟨_, rfl, by simpa using hus⟩⟩
    have hld := run_loadCells_list (P := P) w _ us hcell'
    simp only [loadVar, Sem.run_bind, Result.andThen_ok, hagg, if_true, run_sizeOf w hinf, hsize, ← hul, hld, Sem.run_pure]
  | false =>
    simp only [Bool.false_eq_true, if_false] at hv
    split at hv
    · rename_i v0
      simp only [Option.some.injEq] at hv
      subst hv
      obtain ⟨u, us', rfl, hu0, hn⟩ := hus
      have hc0 := hcell 0 u (by simp)
      refine ⟨u, _, he, ?_, hu0⟩
      simp only [loadVar, Sem.run_bind, Result.andThen_ok, hagg, Bool.false_eq_true, if_false, run_load]
      rw [Nat.add_zero] at hc0
      simp only [hc0]
    · simp at hv

def resSem (ts : Array Value) : ResultVar → Sem Value
  | .tmp t => pure (ts.getD t undef)
  | .cell a t => do loadVar t (← asAddr (ts.getD a undef))
theorem res_ok {c : CRes} {r : ResultVar} {v : AV} (hm : mRes P c r = true) (hr : Rel base m H w) (hE : EnvL m env a) (h : resOf env H c = some v) :
    ∃ v', (resSem a.tmps r).run P w = .ok v' w ∧ VR m v v' := by
  cases c with
  | t i =>
    cases r with
    | tmp j =>
      simp only [mRes, beq_iff_eq] at hm
      subst hm
      simp only [resOf, Option.some.injEq] at h
      subst h
      exact ⟨_, rfl, hE.r i⟩
    | cell => simp [mRes] at hm
  | m i n ag =>
    cases r with
    | tmp j => simp [mRes] at hm
    | cell j T =>
      simp only [mRes, Bool.and_eq_true, beq_iff_eq] at hm
      obtain ⟨rfl, hT⟩ := hm
      simp only [resOf] at h
      split at h
      · rename_i l q e1
        obtain ⟨vs, hrd, hv⟩ := Option.bind_eq_some_iff.1 h
        have h1 := hE.r i
        rw [e1] at h1
        obtain ⟨v', A, hA, hl, hvr⟩ := loadVar_ok hT hr h1 hrd hv
        refine ⟨v', ?_, hvr⟩
        simp only [resSem, hA, asAddr, Sem.run_bind, Sem.run_pure, Result.andThen_ok, hl]
      · simp at h

theorem ress_ok : ∀ {rs : List CRes} {Rs : List ResultVar} {vs : List AV}, mRess P rs Rs = true → Rel base m H w → EnvL m env a → rs.mapM (resOf env H) = some vs →
    ∃ vs', (Rs.mapM (resSem a.tmps)).run P w = .ok vs' w ∧ VRs m vs vs'
  | [], [], vs, _, hr, hE, h => by
    simp only [List.mapM_nil] at h
    cases h
    exact ⟨[], rfl, rfl⟩
  | c :: cs, R :: Rs, vs, hm, hr, hE, h => by
    simp only [mRess, Bool.and_eq_true] at hm
    simp only [List.mapM_cons] at h
    obtain ⟨v, h1, h⟩ := Option.bind_eq_some_iff.1 h
    obtain ⟨us, h2, h⟩ := Option.bind_eq_some_iff.1 h
    cases h
    obtain ⟨v', e1, r1⟩ := res_ok hm.1 hr hE h1
    obtain ⟨us', e2, r2⟩ := ress_ok hm.2 hr hE h2
    refine ⟨v' :: us', ?_, v', us', rfl, r1, r2⟩
    rw [List.mapM_cons, Sem.run_bind, e1, Result.andThen_ok, Sem.run_bind, e2, Result.andThen_ok]
    rfl
  | [], _ :: _, _, h, _, _, _ => by simp [mRess] at h
  | _ :: _, [], _, h, _, _, _ => by simp [mRess] at h

theorem results_ok {rs : List CRes} {fn : Func} {v : AV} (hm : mRess P rs fn.results.toList = true) (hr : Rel base m H w) (hE : EnvL m env a) (h : results env H rs = some v) :
    ∃ v', (Go.results fn a.tmps).run P w = .ok v' w ∧ VR m v v' := by
  obtain ⟨vs, hvs, hv⟩ := Option.map_eq_some_iff.1 h
  obtain ⟨vs', e, r⟩ := ress_ok hm hr hE hvs
  have hrun : (Go.results fn a.tmps).run P w = .ok (if h : vs'.toArray.size = 1 then vs'.toArray[0] else .tuple vs'.toArray) w := by
    have : Go.results fn a.tmps = (do let vs ← fn.results.mapM (resSem a.tmps); pure (if h : vs.size = 1 then vs[0] else .tuple vs)) := by
      unfold Go.results
      congr 1
    rw [this, Array.mapM_eq_mapM_toList, Sem.run_bind]
    have : ∀ (x : Sem (List Value)), (x.run P w = .ok vs' w) → (List.toArray <$> x).run P w = .ok vs'.toArray w := by
      intro x hx
      rw [map_eq_pure_bind, Sem.run_bind, hx]; rfl
    rw [this _ e, Result.andThen_ok]
    rfl
  refine ⟨_, hrun, ?_⟩
  match vs, hv, r with
  | [], hv, r =>
    simp only [VRs] at r
    subst r; subst hv
    exact ⟨#[], by simp, by simp [VRs]⟩
  | [x], hv, r =>
    obtain ⟨u, us, rfl, h1, h2⟩ := r
    simp only [VRs] at h2
    subst h2; subst hv
    simpa using h1
  | x :: y :: vs, hv, r =>
    obtain ⟨u, us, rfl, h1, h2⟩ := r
    obtain ⟨u2, us2, rfl, h3, h4⟩ := h2
    subst hv
    refine ⟨(u :: u2 :: us2).toArray, by simp, ?_⟩
    exact ⟨u, _, rfl, h1, u2, _, rfl, h3, h4⟩
end

/-! ### The run -/
def Motive (P : Program) : Judg → Prop
  | .co c env H ex env' H' => (∀ ts, c = .kill ts → ex = .normal ∧ env' = killT env ts ∧ H' = H) ∧ H.sz ≤ H'.sz ∧ ∀ C, chk P c C = true → ∀ base m a w, Rel base m H w → EnvL m env a →
      WpL P C (fun e a' w' => e = ex.toExit ∧ ∃ m', EnvL m' env' a' ∧ a'.defers = a.defers ∧ Ok base m H w m' H' w') a w
  | .op ops env H env' H' => H.sz ≤ H'.sz ∧ OpsSim P ops env H env' H'
  | .ca f args H v H' => H.sz ≤ H'.sz ∧ SimCa P f args H v H' ∧ Callable P f

/-- The contracts given for functions that are not run. -/
def ExtOk (P : Program) (X : Ext) : Prop := ∀ f args H v H', X f args H v H' → H.sz ≤ H'.sz ∧ SimCa P f args H v H' ∧ Callable P f
def TabOk (P : Program) (T : Nat → Option CFn) : Prop := ∀ f cf, T f = some cf → chkFn P f cf = true

theorem WpL.mono {P : Program} {C : Code} {Q Q' : Exit → Act → World → Prop} {a : Act} {w : World} (h : WpL P C Q a w) (hq : ∀ e a w, Q e a w → Q' e a w) : WpL P C Q' a w := by
  cases C with
  | loop c => exact fun b k cs => let ⟨e, a', w', q, r⟩ := h b k cs; ⟨e, a', w', hq _ _ _ q, r⟩
  | _ => exact wp_mono (P := P) h hq

theorem chk_nk {P : Program} {c : CCode} {C : Code} (h : chk P c C = true) : c.isKill = false := by
  cases c <;> first | rfl | simp [chk] at h
theorem EnvL.killed {m : Map} {env : Env} {a : Act} {ts : List Nat} (hE : EnvL m env a) : EnvL m (killT env ts) a := hE.kill ts
theorem isKill_eq {c : CCode} (h : c.isKill = true) : ∃ ts, c = .kill ts := by
  cases c <;> simp [CCode.isKill] at h
  exact ⟨_, rfl⟩

theorem putD_len {env : Env} {d : Option Nat} {v : AV} : (putD env d v).length = env.length := by cases d <;> simp [putD]


section
variable {P : Program} {base : Nat} {m m' : Map} {H H' : Heap} {w w' : World}

theorem env_start {args : List AV} {args' : List Value} {n k : Nat} (hn : args.length = k) (hk : k ≤ n) (h : VRs m args args') :
    EnvL m (args ++ List.replicate (n - k) .und) { tmps := args'.toArray ++ Array.replicate (n - args'.toArray.size) undef, defers := [] } := by
  have hl := VRs.length h
  refine ⟨fun i => ?_, by simp; omega⟩
  by_cases hi : i < args.length
  · obtain ⟨v, hv, hr⟩ := VRs.at h i hi
    have e1 : (args ++ List.replicate (n - k) AV.und).getD i .und = args.getD i .und := by
      rw [List.getD_eq_getElem?_getD, List.getElem?_append_left hi, ← List.getD_eq_getElem?_getD]
    rw [e1]
    have e2 : (args'.toArray ++ Array.replicate (n - args'.toArray.size) undef).getD i undef = v := by
      rw [Array.getD_eq_getD_getElem?, Array.getElem?_append_left (by simpa using (by omega : i < args'.length))]
      simpa using congrArg (·.getD undef) hv
    rw [e2]; exact hr
  · have e1 : (args ++ List.replicate (n - k) AV.und).getD i .und = .und := by
      rw [List.getD_eq_getElem?_getD, List.getElem?_append_right (by omega), List.getElem?_replicate]
      split <;> rfl
    rw [e1]; trivial

theorem motive {T : Nat → Option CFn} {X : Ext} (hmx : P.follows .mixedOrders = true) (hT : TabOk P T) (hX : ExtOk P X) {j : Judg} (h : J T X j) : Motive P j := by
  induction h with
  | skip =>
    refine ⟨fun ts h => by simp at h, Nat.le_refl _, fun C hC base m a w hr hE => ?_⟩
    cases C <;> simp [chk] at hC
    exact wp_skip ⟨rfl, m, hE, rfl, .refl hr⟩
  | @kill ts env H =>
    refine ⟨fun ts' h => by simp only [CCode.kill.injEq] at h; subst h; exact ⟨rfl, rfl, rfl⟩, Nat.le_refl _, fun C hC => by simp [chk] at hC⟩
  | @reg d ops env H env' H' _ ih =>
    obtain ⟨hsz, hs⟩ := ih
    refine ⟨fun ts h => by simp at h, hsz, fun C hC base m a w hr hE => ?_⟩
    cases C <;> simp [chk] at hC
    rename_i id ops' d'
    obtain ⟨rfl, hC⟩ := hC
    cases d with
    | true =>
      simp only [regChk, if_true] at hC
      exact draw_ok hmx hC hs hr hE fun a' w' m' h1 h2 h3 => ⟨rfl, m', h1, h2, h3⟩
    | false =>
      simp only [regChk, Bool.false_eq_true, if_false, Bool.and_eq_true, beq_iff_eq, List.all_eq_true] at hC
      refine wp_region ?_
      rw [← hC.2]
      exact ops_ok ops hC.1 hs hr hE fun a' w' m' h1 h2 h3 => ⟨rfl, m', h1, h2, h3⟩
  | @seqN x y env H env1 H1 ex env2 H2 _ _ ih1 ih2 =>
    obtain ⟨k1, s1, i1⟩ := ih1
    obtain ⟨k2, s2, i2⟩ := ih2
    refine ⟨fun ts h => by simp at h, Nat.le_trans s1 s2, fun C hC base m a w hr hE => ?_⟩
    unfold chk at hC
    split at hC
    · rename_i hk
      obtain ⟨ts, rfl⟩ := isKill_eq hk
      obtain ⟨_, rfl, rfl⟩ := k1 ts rfl
      exact i2 C hC base m a w hr (hE.kill ts)
    · split at hC
      · rename_i hk
        obtain ⟨ts, rfl⟩ := isKill_eq hk
        obtain ⟨rfl, rfl, rfl⟩ := k2 ts rfl
        refine (i1 C hC base m a w hr hE).mono fun e a' w' h => ?_
        obtain ⟨rfl, m', h1, h2, h3⟩ := h
        exact ⟨rfl, m', h1.kill ts, h2, h3⟩
      · split at hC
        · rename_i A B
          simp only [Bool.and_eq_true] at hC
          refine wp_seq ?_
          refine wp_mono (i1 A hC.1 base m a w hr hE).wp fun e a' w' h => ?_
          obtain ⟨rfl, m', h1, h2, h3⟩ := h
          refine wp_mono (i2 B hC.2 base m' a' w' h3.rel h1).wp fun e a'' w'' h => ?_
          obtain ⟨rfl, m'', h4, h5, h6⟩ := h
          exact ⟨rfl, m'', h4, h5.trans h2, h3.trans h6⟩
        · simp at hC
  | @seqX x y env H ex env1 H1 hne _ ih1 =>
    obtain ⟨k1, s1, i1⟩ := ih1
    refine ⟨fun ts h => by simp at h, s1, fun C hC base m a w hr hE => ?_⟩
    unfold chk at hC
    split at hC
    · rename_i hk
      obtain ⟨ts, rfl⟩ := isKill_eq hk
      exact absurd (k1 ts rfl).1 hne
    · split at hC
      · exact i1 C hC base m a w hr hE
      · split at hC
        · rename_i A B
          simp only [Bool.and_eq_true] at hC
          refine wp_seq ?_
          refine wp_mono (i1 A hC.1 base m a w hr hE).wp fun e a' w' h => ?_
          obtain ⟨rfl, h⟩ := h
          cases ex with
          | normal => exact absurd rfl hne
          | exit id => exact ⟨rfl, h⟩
          | ret => exact ⟨rfl, h⟩
        · simp at hC
  | @condT c x y env H ex env1 H1 hc _ ih =>
    obtain ⟨k1, s1, i1⟩ := ih
    refine ⟨fun ts h => by simp at h, s1, fun C hC base m a w hr hE => ?_⟩
    cases C <;> simp [chk] at hC
    have h1 := mO_ok hC.1.1 hE.r
    rw [hc] at h1
    exact wp_cond_true h1 (i1 _ hC.1.2 base m a w hr hE).wp
  | @condF c x y env H ex env1 H1 hc _ ih =>
    obtain ⟨k1, s1, i1⟩ := ih
    refine ⟨fun ts h => by simp at h, s1, fun C hC base m a w hr hE => ?_⟩
    cases C <;> simp [chk] at hC
    have h1 := mO_ok hC.1.1 hE.r
    rw [hc] at h1
    exact wp_cond_false h1 (i1 _ hC.2 base m a w hr hE).wp
  | @blockE id c env H env1 H1 _ ih =>
    obtain ⟨k1, s1, i1⟩ := ih
    refine ⟨fun ts h => by simp at h, s1, fun C hC base m a w hr hE => ?_⟩
    cases C <;> simp [chk] at hC
    rename_i id' B
    obtain ⟨rfl, hC⟩ := hC
    refine wp_block ?_
    refine wp_mono (i1 _ hC base m a w hr hE).wp fun e a' w' h => ?_
    obtain ⟨rfl, h⟩ := h
    simp only [Ex.toExit, Exit.inBlock, if_true]
    exact ⟨by first | rfl | trivial, h⟩
  | @blockN id c env H ex env1 H1 hne _ ih =>
    obtain ⟨k1, s1, i1⟩ := ih
    refine ⟨fun ts h => by simp at h, s1, fun C hC base m a w hr hE => ?_⟩
    cases C <;> simp [chk] at hC
    rename_i id' B
    obtain ⟨rfl, hC⟩ := hC
    refine wp_block ?_
    refine wp_mono (i1 _ hC base m a w hr hE).wp fun e a' w' h => ?_
    obtain ⟨rfl, h⟩ := h
    cases ex with
    | normal => exact ⟨rfl, h⟩
    | ret => exact ⟨rfl, h⟩
    | exit i2 =>
      have : i2 ≠ id := fun e => hne (by rw [e])
      simp only [Ex.toExit, Exit.inBlock, if_neg this]
      exact ⟨by first | rfl | trivial, h⟩
  | @loopN c env H env1 H1 ex env2 H2 _ _ ih1 ih2 =>
    obtain ⟨k1, s1, i1⟩ := ih1
    obtain ⟨k2, s2, i2⟩ := ih2
    refine ⟨fun ts h => by simp at h, Nat.le_trans s1 s2, fun C hC base m a w hr hE => ?_⟩
    cases C <;> simp [chk] at hC
    rename_i B
    refine LoopWp.round ?_
    refine wp_mono (i1 _ hC base m a w hr hE).wp fun e a' w' h => ?_
    obtain ⟨rfl, m', h1, h2, h3⟩ := h
    have := i2 (.loop B) (by simpa [chk] using hC) base m' a' w' h3.rel h1
    refine WpL.mono (C := .loop B) this fun e a'' w'' h => ?_
    obtain ⟨rfl, m'', h4, h5, h6⟩ := h
    exact ⟨rfl, m'', h4, h5.trans h2, h3.trans h6⟩
  | @loopX c env H ex env1 H1 hne _ ih =>
    obtain ⟨k1, s1, i1⟩ := ih
    refine ⟨fun ts h => by simp at h, s1, fun C hC base m a w hr hE => ?_⟩
    cases C <;> simp [chk] at hC
    rename_i B
    refine LoopWp.round ?_
    refine wp_mono (i1 _ hC base m a w hr hE).wp fun e a' w' h => ?_
    obtain ⟨rfl, h⟩ := h
    cases ex with
    | normal => exact absurd rfl hne
    | exit id => exact ⟨rfl, h⟩
    | ret => exact ⟨rfl, h⟩
  | exit =>
    refine ⟨fun ts h => by simp at h, Nat.le_refl _, fun C hC base m a w hr hE => ?_⟩
    cases C <;> simp [chk] at hC
    subst hC
    exact wp_exit ⟨rfl, m, hE, rfl, .refl hr⟩
  | ret =>
    refine ⟨fun ts h => by simp at h, Nat.le_refl _, fun C hC base m a w hr hE => ?_⟩
    cases C <;> simp [chk] at hC
    exact wp_ret ⟨rfl, m, hE, rfl, .refl hr⟩
  | opNil => exact ⟨Nat.le_refl _, rfl, rfl⟩
  | opSkip hk hw _ ih => exact ⟨ih.1, .tup [], _, ⟨hk, .inl ⟨hw, rfl, rfl⟩⟩, fun h => by rw [hw] at h; simp at h, Nat.le_refl _, ih.2⟩
  | opDo hk hw hop hkept _ ih => exact ⟨Nat.le_trans (heap_sz hop) ih.1, _, _, ⟨hk, .inr ⟨hw, .inl hop⟩⟩, fun _ => hkept, heap_sz hop, ih.2⟩
  | opCall hk hw hc _ hkept _ ih1 ih2 => exact ⟨Nat.le_trans ih1.1 ih2.1, _, _, ⟨hk, .inr ⟨hw, .inr ⟨_, _, hc, ih1.2.1, ih1.2.2⟩⟩⟩, fun _ => hkept, ih1.1, ih2.2⟩
  | @call f cf args H ex env' H' v hf hl hn _ hex hres ih =>
    obtain ⟨_, s1, i1⟩ := ih
    have hc := hT f cf hf
    unfold chkFn at hc
    split at hc
    · rename_i fn hfn
      split at hc
      · rename_i C hb
        simp only [Bool.and_eq_true, beq_iff_eq, Bool.not_eq_true'] at hc
        obtain ⟨⟨⟨hC, hnt⟩, hR⟩, hnm⟩ := hc
        refine ⟨s1, fun base m w args' hr hargs => ?_, fn, hfn, by rw [hb]; rfl, hnm⟩
        refine calls_of_wp hfn hb ?_
        have hE := env_start hl hn hargs
        rw [hnt]
        refine wp_mono (i1 C hC base m _ w hr hE).wp fun e a' w' h => ?_
        obtain ⟨rfl, m', h1, h2, h3⟩ := h
        obtain ⟨v', hv', hvr⟩ := results_ok hR h3.rel h1 hres
        rcases hex with rfl | rfl
        · exact ⟨h2, v', hv', v', m', rfl, hvr, h3⟩
        · exact ⟨h2, v', hv', v', m', rfl, hvr, h3⟩
      · simp at hc
    · simp at hc
  | ext h => exact hX _ _ _ _ _ h
end

/-- Every abstract run of a call is a call of the model. -/
theorem sim {P : Program} {T : Nat → Option CFn} {X : Ext} (hmx : P.follows .mixedOrders = true) (hT : TabOk P T) (hX : ExtOk P X) {f : Nat} {args : List AV} {H H' : Heap} {v : AV} (h : J T X (.ca f args H v H')) : SimCa P f args H v H' :=
  (motive hmx hT hX h).2.1

end Go.Proofs.YtabmomjfdondnaaH
