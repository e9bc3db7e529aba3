/- Regions in the text's order, code, calls: an abstract run is a run of the model. -/
import Derived.Test.YtabmomjfdondnaaHm7
set_option linter.unusedVariables false
set_option linter.unusedSimpArgs false
namespace Go.Proofs.YtabmomjfdondnaaH
open Go

/-! ### Which code is meant -/
def gMatch (ops : Array Oper) : Option (Nat × Bool) → Option (Nat × Bool) → Bool
  | none, none => true
  | some (j, b), some (s, b') => b == b' && (match ops[j]? with | some o => o.dst == some s | none => false)
  | _, _ => false
def opMatch (P : Program) (ops : Array Oper) (p : Nat × COper) : Bool :=
  match ops[p.1]? with
  | some o => mOp P o p.2.op && p.2.dst == o.dst && gMatch ops o.guard p.2.guard
  | none => false

section
variable {P : Program} {base : Nat} {m : Map} {H H1 : Heap} {w : World}

structure EnvL (m : Map) (env : Env) (a : Act) : Prop where
  r : EnvR m env a.tmps
  l : env.length ≤ a.tmps.size
theorem EnvL.mono {m' : Map} {env : Env} {a : Act} (h : MLe m m') (hE : EnvL m env a) : EnvL m' env a := ⟨hE.r.mono h, hE.l⟩
theorem EnvL.put {env : Env} {a : Act} {v : AV} {v' : Value} (d : Option Nat) (hE : EnvL m env a) (h : VR m v v') : EnvL m (putD env d v) (a.put d v') := by
  cases d with
  | none => exact hE
  | some d =>
    refine ⟨fun i => ?_, by simpa [putD, Act.put] using hE.l⟩
    simp only [putD, Act.put]
    by_cases hi : i = d
    · subst hi
      by_cases hl : i < env.length
      · have hs : i < a.tmps.size := Nat.lt_of_lt_of_le hl hE.l
        simp [List.getD_eq_getElem?_getD, hl, Array.getD_eq_getD_getElem?, hs, h]
      · have : (env.set i v).getD i .und = .und := by
          rw [List.getD_eq_getElem?_getD, List.getElem?_eq_none (by rw [List.length_set]; omega)]; rfl
        rw [this]; trivial
    · have e1 : (env.set d v).getD i .und = env.getD i .und := by
        simp [List.getD_eq_getElem?_getD, List.getElem?_set_ne (Ne.symm hi)]
      have e2 : (a.tmps.setIfInBounds d v').getD i undef = a.tmps.getD i undef := by
        simp [Array.getD_eq_getD_getElem?, Array.getElem?_setIfInBounds_ne (Ne.symm hi)]
      rw [e1, e2]; exact hE.r i
theorem EnvL.kill {env : Env} {a : Act} (hE : EnvL m env a) : ∀ ts, EnvL m (killT env ts) a := by
  intro ts
  unfold killT
  induction ts generalizing env with
  | nil => exact hE
  | cons t ts ih =>
    refine ih ⟨fun i => ?_, by simpa using hE.l⟩
    by_cases hi : i = t
    · subst hi
      have : (env.set i .und).getD i .und = .und := by
        rw [List.getD_eq_getElem?_getD]
        by_cases hl : i < env.length
        · simp [hl]
        · rw [List.getElem?_eq_none (by rw [List.length_set]; omega)]; rfl
      rw [this]; trivial
    · have e1 : (env.set t .und).getD i .und = env.getD i .und := by
        simp [List.getD_eq_getElem?_getD, List.getElem?_set_ne (Ne.symm hi)]
      rw [e1]; exact hE.r i

/-- A guard's outcome. -/
theorem guard_ok {ops : Array Oper} {o : Oper} {g : Option (Nat × Bool)} {env : Env} {a : Act} (h : gMatch ops o.guard g = true) (hE : EnvL m env a) (hk : known env g = true) : Region.wanted o (yielded ops a.tmps) = wanted env g := by
  unfold Region.wanted
  cases hg : o.guard with
  | none =>
    rw [hg] at h
    cases g with
    | none => rfl
    | some g => simp [gMatch] at h
  | some p =>
    obtain ⟨j, b⟩ := p
    rw [hg] at h
    cases g with
    | none => simp [gMatch] at h
    | some q =>
      obtain ⟨s, b'⟩ := q
      simp only [gMatch, Bool.and_eq_true, beq_iff_eq] at h
      obtain ⟨rfl, h2⟩ := h
      cases ho : ops[j]? with
      | none => simp [ho] at h2
      | some oj =>
        simp only [ho, beq_iff_eq] at h2
        simp only [known] at hk
        split at hk
        · rename_i c hc
          have hr := hE.r s
          rw [hc] at hr; simp only [VR] at hr
          have hts : a.tmps[s]? = some (.bool c) := by
            rw [Array.getD_eq_getD_getElem?] at hr
            cases hx : a.tmps[s]? with
            | none => rw [hx] at hr; simp [undef] at hr
            | some y => rw [hx] at hr; simpa using hr
          have hy : yielded ops a.tmps j = some c := by
            unfold yielded
            simp [ho, h2, hts]
          simp only [wanted, hc, hy]
          cases c <;> cases b <;> rfl
        · rename_i hc
          have hr := hE.r s
          rw [hc] at hr
          obtain ⟨vs, hv, hvs⟩ := hr
          have hy : yielded ops a.tmps j = none := by
            unfold yielded
            simp only [ho, h2, Option.bind_some]
            cases hx : a.tmps[s]? with
            | none => rfl
            | some y =>
              rw [Array.getD_eq_getD_getElem?, hx] at hv
              simp only [Option.getD_some] at hv
              subst hv; rfl
          simp only [wanted, hc, hy]; rfl
        · simp at hk

/-! ### One operation -/
/-- What a call of an abstract function stands for. -/
def SimCa (P : Program) (f : Nat) (args : List AV) (H : Heap) (v : AV) (H' : Heap) : Prop :=
  ∀ base m w args', Rel base m H w → VRs m args args' → Calls P f args'.toArray w fun e w' => ∃ v' m', e = .returned v' ∧ VR m' v v' ∧ Ok base m H w m' H' w'
def Callable (P : Program) (f : Nat) : Prop := ∃ fn, P.funcs[f]? = some fn ∧ fn.body.isSome = true ∧ (fn.name == "runtime.NumGoroutine") = false

def StepSim (P : Program) (o : COper) (env : Env) (H : Heap) (v : AV) (H1 : Heap) : Prop :=
  known env o.guard = true ∧ ((wanted env o.guard = false ∧ v = .tup [] ∧ H1 = H) ∨
    (wanted env o.guard = true ∧ (heapOp env H o.op = some (v, H1) ∨ ∃ f args, callee env o.op = some (f, args) ∧ SimCa P f args H v H1 ∧ Callable P f)))

theorem run_call {o : Oper} {c : COp} {env : Env} {a : Act} {f : Nat} {args : List AV} (h : mOp P o c = true) (hE : EnvR m env a.tmps) (hc : callee env c = some (f, args)) (hf : Callable P f) :
    ∃ args', VRs m args args' ∧ (execOp a.eval o).run P w = .ok (.enter f args'.toArray) w := by
  obtain ⟨fn, hfn, hb, hn⟩ := hf
  have hfun : ∀ as, (callFunc f as).run P w = .ok (.enter f as) w := by
    intro as
    have hb' : ¬ fn.body = none := by cases hx : fn.body with | none => rw [hx] at hb; simp at hb | some _ => simp
    have hn' : ¬ fn.name = "runtime.NumGoroutine" := by simpa using hn
    simp [callFunc, Sem.run_bind, program, Sem.run, hfn, hn', hb']
  cases c with
  | call f' xs =>
    simp only [callee, Option.some.injEq, Prod.mk.injEq] at hc
    obtain ⟨rfl, rfl⟩ := hc
    simp only [mOp] at h
    split at h
    · rename_i c ho
      split at h
      · rename_i f'' hcal
        simp only [Bool.and_eq_true, beq_iff_eq] at h
        obtain ⟨⟨rfl, hx⟩, _⟩ := h
        refine ⟨_, mOs_ok hx hE, ?_⟩
        have : (c.args.toList.map a.eval).toArray = c.args.map a.eval := by apply Array.ext'; simp
        rw [this]
        simp only [execOp, ho, resolve, hcal, Act.eval, Deferred.ofValue, run_pure_bind, invoke]
        simpa using hfun (c.args.map a.eval)
      · simp at h
    · simp at h
  | callv x xs =>
    simp only [callee] at hc
    split at hc
    · rename_i f'' caps hx
      simp only [Option.some.injEq, Prod.mk.injEq] at hc
      obtain ⟨rfl, rfl⟩ := hc
      simp only [mOp] at h
      split at h
      · rename_i c ho
        split at h
        · rename_i X hcal
          simp only [Bool.and_eq_true] at h
          obtain ⟨h1, h2⟩ := h
          have hX := mO_ok h1 hE
          rw [hx] at hX
          obtain ⟨vs, he, hvs⟩ := hX
          refine ⟨_, (mOs_ok h2 hE).append hvs, ?_⟩
          have : (c.args.toList.map a.eval ++ vs.toList).toArray = c.args.map a.eval ++ vs := by apply Array.ext'; simp
          rw [this]
          simp only [execOp, ho, resolve, hcal, he, Deferred.ofValue, run_pure_bind, invoke]
          simpa using hfun (c.args.map a.eval ++ vs)
        · simp at h
      · simp at h
    · simp at hc
  | _ => simp [callee] at hc

theorem step_ok {ops : Array Oper} {Q : Exit → Act → World → Prop} {i : Nat} {o : COper} {env : Env} {a : Act} {v : AV} {K : Act → World → Prop} (hm : opMatch P ops (i, o) = true) (hs : StepSim P o env H v H1) (hr : Rel base m H w) (hE : EnvL m env a)
    (hK : ∀ a' w' m', EnvL m' (putD env o.dst v) a' → a'.defers = a.defers → Ok base m H w m' H1 w' → K a' w') : wpOp P ops Q i K a w := by
  unfold opMatch at hm
  split at hm
  · rename_i oo hoo
    simp only at hoo
    simp only [Bool.and_eq_true, beq_iff_eq] at hm
    obtain ⟨⟨h1, h2⟩, h3⟩ := hm
    obtain ⟨hk, hs⟩ := hs
    have hw := guard_ok h3 hE hk
    unfold wpOp
    simp only [hoo]
    rcases hs with ⟨hwf, rfl, rfl⟩ | ⟨hwt, hs⟩
    · rw [hw, hwf]
      simp only [Bool.false_eq_true, if_false]
      rw [← h2]
      exact hK _ _ m (hE.put o.dst ⟨#[], rfl, rfl⟩) (by cases o.dst <;> rfl) (Ok.refl hr)
    · rw [hw, hwt]
      simp only [if_true]
      refine .inl ?_
      unfold Oper.wp
      rcases hs with hop | ⟨f, args, hc, hsim, hf⟩
      · obtain ⟨nx, w', m', v', hrun, hnx, hvr, hok⟩ := acts h1 hE.r hr hop
        rw [hrun]
        rcases hnx with rfl | ⟨rfl, rfl⟩
        · rw [Oper.upon_value, ← h2]
          exact hK _ _ m' ((hE.mono hok.le).put o.dst hvr) (by cases o.dst <;> rfl) hok
        · rw [Oper.upon_skip, ← h2]
          exact hK _ _ m' ((hE.mono hok.le).put o.dst hvr) (by cases o.dst <;> rfl) hok
      · obtain ⟨args', hargs, hrun⟩ := run_call (w := w) h1 hE.r hc hf
        rw [hrun, Oper.upon_enter]
        refine (hsim base m w args' hr hargs).mono fun e w' he => ?_
        obtain ⟨v', m', rfl, hvr, hok⟩ := he
        simp only
        rw [← h2]
        exact hK _ _ m' ((hE.mono hok.le).put o.dst hvr) (by cases o.dst <;> rfl) hok
  · simp at hm

def OpsSim (P : Program) : List (Nat × COper) → Env → Heap → Env → Heap → Prop
  | [], env, H, env', H' => env' = env ∧ H' = H
  | (_, o) :: rest, env, H, env', H' => ∃ v H1, StepSim P o env H v H1 ∧ (wanted env o.guard = true → Kept env o.us H H1) ∧ H.sz ≤ H1.sz ∧ OpsSim P rest (putD env o.dst v) H1 env' H'

/-- Operations in the text's order. -/
theorem ops_ok {ops : Array Oper} {Q : Exit → Act → World → Prop} : ∀ (l : List (Nat × COper)) {env env' : Env} {H H' : Heap} {a : Act} {m : Map} {w : World}, (∀ p ∈ l, opMatch P ops p = true) → OpsSim P l env H env' H' → Rel base m H w → EnvL m env a →
    (∀ a' w' m', EnvL m' env' a' → a'.defers = a.defers → Ok base m H w m' H' w' → Q .normal a' w') → wpOps P ops Q (l.map (·.1)) a w
  | [], env, env', H, H', a, m, w, _, hs, hr, hE, hQ => by
    obtain ⟨rfl, rfl⟩ := hs
    exact hQ a w m hE rfl (Ok.refl hr)
  | (i, o) :: l, env, env', H, H', a, m, w, hm, hs, hr, hE, hQ => by
    obtain ⟨v, H1, hst, _, _, hrest⟩ := hs
    simp only [List.map_cons]
    rw [wpOps_cons]
    refine step_ok (hm (i, o) (by simp)) hst hr hE fun a1 w1 m1 hE1 hd1 hok1 => ?_
    refine ops_ok l (fun p hp => hm p (by simp [hp])) hrest hok1.rel hE1 fun a2 w2 m2 hE2 hd2 hok2 => ?_
    exact hQ a2 w2 m2 hE2 (hd2.trans hd1) (hok1.trans hok2)
end

end Go.Proofs.YtabmomjfdondnaaH
