/- Regions whose order is open: every order comes to the abstract run's end. -/
import Derived.Test.YtabmomjfdondnaaHm11
set_option linter.unusedVariables false
set_option linter.unusedSimpArgs false
namespace Go.Proofs.YtabmomjfdondnaaH
open Go

theorem topo_at {ops : Array Oper} : ∀ {L : List (Nat × COper)} {seen : List Nat}, topoOk ops seen L = true → ∀ p (hp : p < L.length), ∃ o, ops[L[p].1]? = some o ∧ ∀ e ∈ o.after, Region.binds .any e = true → e.on ∈ seen ∨ ∃ q, ∃ (hq : q < p), (L[q]'(by omega)).1 = e.on
  | [], seen, _, p, hp => by simp at hp
  | x :: L, seen, h, 0, _ => by
    simp only [topoOk, Bool.and_eq_true] at h
    obtain ⟨h1, _⟩ := h
    split at h1
    · rename_i o ho
      refine ⟨o, ho, fun e he hb => .inl ?_⟩
      have := (List.all_eq_true.1 h1) e (by simpa using he)
      simpa [hb] using this
    · simp at h1
  | x :: L, seen, h, p + 1, hp => by
    simp only [topoOk, Bool.and_eq_true] at h
    obtain ⟨o, h1, h2⟩ := topo_at h.2 p (by simpa using hp)
    refine ⟨o, h1, fun e he hb => ?_⟩
    rcases h2 e he hb with h3 | ⟨q, hq, h3⟩
    · rcases List.mem_cons.1 h3 with h4 | h4
      · exact .inr ⟨0, by omega, by simpa using h4.symm⟩
      · exact .inl h4
    · exact .inr ⟨q + 1, by omega, by simpa using h3⟩

section
open Classical
variable {P : Program} {ops : Array Oper} {L : List (Nat × COper)} {E : Nat → Env} {K : Nat → Heap} {V : Nat → AV}

def Written (L : List (Nat × COper)) (S : Nat → Prop) (s : Nat) : Prop := ∃ p, ∃ hp : p < L.length, S L[p].1 ∧ L[p].2.dst = some s
/-- The environment when just the operations of S have been run. -/
noncomputable def envS (L : List (Nat × COper)) (E : Nat → Env) (S : Nat → Prop) : Env := (List.range (E 0).length).map fun s => if Written L S s then (E L.length).getD s .und else (E 0).getD s .und
theorem envS_length (S : Nat → Prop) : (envS L E S).length = (E 0).length := by simp [envS]
theorem envS_at (h : Run P L E K V) (S : Nat → Prop) (s : Nat) : (envS L E S).getD s .und = if Written L S s then (E L.length).getD s .und else (E 0).getD s .und := by
  by_cases hs : s < (E 0).length
  · simp [envS, List.getD_eq_getElem?_getD, hs]
  · have h1 : (envS L E S).getD s .und = .und := by
      rw [List.getD_eq_getElem?_getD, List.getElem?_eq_none (by rw [envS_length]; omega)]; rfl
    have h2 : (E 0).getD s .und = .und := by
      rw [List.getD_eq_getElem?_getD, List.getElem?_eq_none (by omega)]; rfl
    have h3 : (E L.length).getD s .und = .und := by
      rw [List.getD_eq_getElem?_getD, List.getElem?_eq_none (by rw [h.length _ (Nat.le_refl _)]; omega)]; rfl
    rw [h1, h2, h3]; split <;> rfl

structure Chk (P : Program) (ops : Array Oper) (L : List (Nat × COper)) : Prop where
  m : ∀ p ∈ L, opMatch P ops p = true
  topo : topoOk ops [] L = true
  one : ∀ p ∈ L, oneOk p = true
  pair : ∀ p q, p < q → ∀ (hq : q < L.length) (hp : p < L.length), Pair (ancTbl ops.toList []) L[p] L[q]
  all : ∀ i, i < ops.size → ∃ p, ∃ hp : p < L.length, L[p].1 = i
theorem chk_of (h : drawChk P ops L = true) : Chk P ops L := by
  unfold drawChk at h
  simp only [Bool.and_eq_true] at h
  obtain ⟨⟨⟨⟨h1, h2⟩, h3⟩, h4⟩, h5⟩ := h
  refine ⟨List.all_eq_true.1 h1, h2, List.all_eq_true.1 h3, fun p q hlt hq hp => pair_of (pairsOk_at h4 p q hlt hq hp), fun i hi => ?_⟩
  have := (List.all_eq_true.1 h5) i (List.mem_range.2 hi)
  obtain ⟨x, hx, he⟩ := List.any_eq_true.1 this
  obtain ⟨p, hp, rfl⟩ := List.mem_iff_getElem.1 hx
  exact ⟨p, hp, by simpa using he⟩

theorem Chk.dst (h : Chk P ops L) {p q s : Nat} (hp : p < L.length) (hq : q < L.length) (h1 : L[p].2.dst = some s) (h2 : L[q].2.dst = some s) : p = q := by
  rcases Nat.lt_trichotomy p q with hlt | heq | hgt
  · exact absurd h2 ((h.pair p q hlt hq hp).dst s h1).1
  · exact heq
  · exact absurd h1 ((h.pair q p hgt hp hq).dst s h2).1
theorem Chk.ix (h : Chk P ops L) {p q : Nat} (hp : p < L.length) (hq : q < L.length) (he : L[p].1 = L[q].1) : p = q := by
  rcases Nat.lt_trichotomy p q with hlt | heq | hgt
  · exact absurd he (h.pair p q hlt hq hp).ne
  · exact heq
  · exact absurd he.symm (h.pair q p hgt hp hq).ne

/-- An operation whose time has come reads what it reads in the abstract run. -/
theorem agree (hc : Chk P ops L) (hr : Run P L E K V) {S : Nat → Prop} (hcl : Closed ops S) {p : Nat} (hp : p < L.length) (hn : ¬ S L[p].1) (hA : ∀ j, anc (ancTbl ops.toList []) L[p].1 j = true → S j) :
    ∀ s ∈ rds L[p].2, (envS L E S).getD s .und = (E p).getD s .und := by
  intro s hs
  rw [envS_at hr]
  by_cases hw : ∃ q, ∃ hq : q < L.length, L[q].2.dst = some s
  · obtain ⟨q, hq, hd⟩ := hw
    rcases Nat.lt_trichotomy q p with hlt | heq | hgt
    · have hSq : S L[q].1 := hA _ (((hc.pair q p hlt hp hq).dst s hd).2 hs)
      rw [if_pos ⟨q, hq, hSq, hd⟩]
      refine hr.same L.length (by omega) (Nat.le_refl _) fun r hr' h1 _ he => ?_
      have := hc.dst hr' hq he hd
      omega
    · subst heq
      rw [if_neg]
      · refine (hr.same q (Nat.zero_le _) (by omega) fun r hr' _ h2 he => ?_).symm
        have := hc.dst hr' hq he hd
        omega
      · rintro ⟨r, hr', hSr, he⟩
        have := hc.dst hr' hq he hd
        subst this
        exact hn hSr
    · rw [if_neg]
      · refine (hr.same p (Nat.zero_le _) (by omega) fun r hr' _ h2 he => ?_).symm
        have := hc.dst hr' hq he hd
        omega
      · rintro ⟨r, hr', hSr, he⟩
        have := hc.dst hr' hq he hd
        subst this
        exact hn (closed_anc hcl _ _ hSr ((hc.pair p r hgt hq hp).dst' s hd hs))
  · rw [if_neg]
    · exact (hr.same p (Nat.zero_le _) (by omega) fun r hr' _ h2 he => hw ⟨r, hr', he⟩).symm
    · rintro ⟨r, hr', _, he⟩
      exact hw ⟨r, hr', he⟩

theorem Run.mono (hr : Run P L E K V) : ∀ p q, p ≤ q → q ≤ L.length → (K p).sz ≤ (K q).sz := by
  intro p q hpq hq
  induction q with
  | zero => have : p = 0 := by omega
            subst this; exact Nat.le_refl _
  | succ q ih =>
    rcases Nat.lt_or_ge p (q + 1) with h | h
    · exact Nat.le_trans (ih (by omega) (by omega)) (hr.sz q (by omega))
    · have : p = q + 1 := by omega
      subst this; exact Nat.le_refl _

/-- A load tells the same at any later time at which it may come. -/
theorem load_stays (hc : Chk P ops L) (hr : Run P L E K V) {S : Nat → Prop} (hcl : Closed ops S) {p T : Nat} (hp : p < L.length) (hT : T ≤ L.length) (hn : ¬ S L[p].1) (hbef : ∀ q (hq : q < L.length), q < T → isOther L[q].2.op = true → S L[q].1)
    {n s l o : Nat} {ag : Bool} {vs : List AV} (hop : L[p].2.op = .ld n ag (.t s)) (he : (E p).getD s .und = .ptr l o) (hrd : (K p).rd l o n = some vs) : ∀ q, p ≤ q → q ≤ T → (K q).rd l o n = some vs := by
  intro q hpq hqT
  induction q with
  | zero => have : p = 0 := by omega
            subst this; exact hrd
  | succ q ih =>
    rcases Nat.lt_or_ge p (q + 1) with h | h
    · have hq : q < L.length := by omega
      have ih' := ih (by omega) (by omega)
      by_cases ho : isOther L[q].2.op = true
      · have hpq' : p < q := by
          rcases Nat.lt_or_ge p q with h1 | h1
          · exact h1
          · have : p = q := by omega
            subst this; rw [hop] at ho; simp [isOther] at ho
        have hS := hbef q hq (by omega) ho
        have hpair := hc.pair p q hpq' hq hp
        have hus : (s, n) ∈ L[q].2.us := by
          rcases (hpair.load n ag s hop).1 ho with h1 | h1
          · exact absurd (closed_anc hcl _ _ hS h1) hn
          · exact h1
        obtain ⟨hk, hst⟩ := hr.step q hq
        rcases hst with ⟨_, _, h1⟩ | ⟨hw, _⟩
        · rw [h1]; exact ih'
        · refine hr.kept q hq hw s n hus l o ?_ vs ih'
          rw [hr.same q (by omega) (by omega) (p := p) fun r hr' h1 h2 hd => ?_, he]
          rcases Nat.lt_or_ge p r with h3 | h3
          · exact absurd hd ((hc.pair p r h3 hr' hp).load n ag s hop).2
          · have : r = p := by omega
            subst this
            have := hc.one L[r] (List.getElem_mem _)
            unfold oneOk at this
            rw [hop] at this
            simp [hd] at this
      · rcases hr.quiet hq (by simpa using ho) with h1 | ⟨cs, _, _, h1⟩
        · rw [h1]; exact ih'
        · rw [h1]; exact rd_new ih'
    · have : p = q + 1 := by omega
      subst this; exact hrd

theorem next_other (T : Nat) (hT : T ≤ L.length) : ∃ T', T ≤ T' ∧ T' ≤ L.length ∧ (∀ r (hr : r < L.length), T ≤ r → r < T' → isOther L[r].2.op = false) ∧ ∀ h : T' < L.length, isOther L[T'].2.op = true := by
  obtain ⟨k, hk⟩ : ∃ k, L.length - T = k := ⟨_, rfl⟩
  induction k generalizing T with
  | zero => exact ⟨T, Nat.le_refl _, hT, fun r hr h1 h2 => by omega, fun h => by omega⟩
  | succ k ih =>
    have hlt : T < L.length := by omega
    by_cases ho : isOther L[T].2.op = true
    · exact ⟨T, Nat.le_refl _, hT, fun r hr h1 h2 => by omega, fun _ => ho⟩
    · obtain ⟨T', h1, h2, h3, h4⟩ := ih (T + 1) (by omega) (by omega)
      refine ⟨T', by omega, h2, fun r hr h5 h6 => ?_, h4⟩
      rcases Nat.lt_or_ge T r with h7 | h7
      · exact h3 r hr h7 h6
      · have : r = T := by omega
        subst this; simpa using ho

structure Inv (P : Program) (ops : Array Oper) (L : List (Nat × COper)) (E : Nat → Env) (K : Nat → Heap) (base : Nat) (m0 : Map) (w0 : World) (ds : List Deferred) (S : Nat → Prop) (T : Nat) (m : Map) (a : Act) (w : World) : Prop where
  closed : Closed ops S
  tle : T ≤ L.length
  tst : ∀ hT : T < L.length, isOther L[T].2.op = true
  before : ∀ p (hp : p < L.length), p < T → isOther L[p].2.op = true → S L[p].1
  after : ∀ p (hp : p < L.length), T ≤ p → ¬ S L[p].1
  ok : Ok base m0 (K 0) w0 m (K T) w
  env : EnvL m (envS L E S) a
  fresh : ∀ p (hp : p < L.length) cs, p < T → ¬ S L[p].1 → isOther L[p].2.op = false → K (p + 1) = (K p).new cs → m (K p).sz = none ∧ (K T).get (K p).sz = ⟨cs, .own⟩ ∧ (K p).sz < (K T).sz
  defers : a.defers = ds

/-- At the begin. -/
theorem Inv.start {base : Nat} {m : Map} {a : Act} {w : World} (hr : Run P L E K V) (hrel : Rel base m (K 0) w) (hE : EnvL m (E 0) a) : ∃ T, Inv P ops L E K base m w a.defers (fun _ => False) T m a w := by
  obtain ⟨T, h1, h2, h3, h4⟩ := next_other (L := L) 0 (Nat.zero_le _)
  have hcalm := hr.calm T (Nat.zero_le _) h2 h3
  refine ⟨T, fun i o e h => h.elim, h2, h4, fun p hp hlt ho => ?_, fun p hp _ h => h, (Ok.refl hrel).ext hcalm.2 hcalm.1, ⟨fun s => ?_, by rw [envS_length]; exact hE.l⟩, fun p hp cs hlt _ ho hk => ?_, rfl⟩
  · rw [h3 p hp (Nat.zero_le _) hlt] at ho; simp at ho
  · rw [envS_at hr, if_neg (by rintro ⟨q, _, h, _⟩; exact h)]
    exact hE.r s
  · have h5 := hr.calm p (Nat.zero_le _) (by omega) fun r hr' a b => h3 r hr' a (by omega)
    have h6 := hr.calm (p := p + 1) T (by omega) h2 fun r hr' a b => h3 r hr' (by omega) b
    have h7 : (K p).sz < (K (p + 1)).sz := by rw [hk]; simp [Heap.new]
    refine ⟨?_, ?_, by omega⟩
    · cases hm : m (K p).sz with
      | none => rfl
      | some i => have := hrel.dom _ _ hm; omega
    · rw [h6.2 _ h7, hk]; simp [Heap.new]

/-- The environment behind one more operation. -/
theorem envS_put (hc : Chk P ops L) (hr : Run P L E K V) {S S' : Nat → Prop} {p : Nat} (hp : p < L.length) (hS' : ∀ q (hq : q < L.length), S' L[q].1 ↔ S L[q].1 ∨ q = p) (s : Nat) : (envS L E S').getD s .und = (putD (envS L E S) L[p].2.dst (V p)).getD s .und := by
  by_cases hd : L[p].2.dst = some s
  · rw [envS_at hr, if_pos ⟨p, hp, (hS' p hp).2 (.inr rfl), hd⟩, hd]
    have h1 : (E L.length).getD s .und = (E (p + 1)).getD s .und := hr.same L.length (by omega) (Nat.le_refl _) fun r hr' h1 _ he => by
      have := hc.dst hr' hp he hd
      omega
    rw [h1, hr.env p hp, hd]
    simp only [putD, List.getD_eq_getElem?_getD]
    by_cases hs : s < (E 0).length
    · have hl := hr.length p (by omega)
      rw [List.getElem?_set_self (by omega), List.getElem?_set_self (by rw [envS_length]; omega)]
    · have hl := hr.length p (by omega)
      rw [List.getElem?_eq_none (by rw [List.length_set]; omega), List.getElem?_eq_none (by rw [List.length_set, envS_length]; omega)]
  · rw [putD_ne hd, envS_at hr, envS_at hr]
    have : Written L S' s ↔ Written L S s := by
      constructor
      · rintro ⟨q, hq, h1, h2⟩
        rcases (hS' q hq).1 h1 with h3 | h3
        · exact ⟨q, hq, h3, h2⟩
        · subst h3; exact absurd h2 hd
      · rintro ⟨q, hq, h1, h2⟩
        exact ⟨q, hq, (hS' q hq).2 (.inl h1), h2⟩
    simp only [this]

theorem EnvL.of_eq {m : Map} {env env' : Env} {a : Act} (h : EnvL m env a) (he : ∀ s, env'.getD s .und = env.getD s .und) (hl : env'.length = env.length) : EnvL m env' a :=
  ⟨fun s => by rw [he s]; exact h.r s, by rw [hl]; exact h.l⟩

/-- A step that leaves the heap alone or fills in what is made: what the abstract run says of it. -/
theorem quiet_cases {env : Env} {H H1 : Heap} {v : AV} {c : COp} (ho : isOther c = false) (h : heapOp env H c = some (v, H1)) : ((∀ H', heapOp env H' c = some (v, H')) ∧ H1 = H) ∨ (∃ n ag x, c = .ld n ag x) ∨ ∃ cs, allocOp env H.sz c = some (v, cs) ∧ H1 = H.new cs := by
  have pure_ : (pureOp env c).map (fun v => (v, H)) = some (v, H1) → (∀ H' : Heap, (pureOp env c).map (fun v => (v, H')) = some (v, H')) ∧ H1 = H := by
    intro h
    obtain ⟨v0, h0, h⟩ := Option.map_eq_some_iff.1 h
    simp only [Prod.mk.injEq] at h
    exact ⟨fun H' => by rw [h0, h.1]; rfl, h.2.symm⟩
  have alloc_ : (allocOp env H.sz c).map (fun (v, cs) => (v, H.new cs)) = some (v, H1) → ∃ cs, allocOp env H.sz c = some (v, cs) ∧ H1 = H.new cs := by
    intro h
    obtain ⟨⟨v0, cs⟩, h0, h⟩ := Option.map_eq_some_iff.1 h
    simp only [Prod.mk.injEq] at h
    exact ⟨cs, by rw [h0, h.1], h.2.symm⟩
  cases c with
  | ld n ag p => exact .inr (.inl ⟨n, ag, p, rfl⟩)
  | al zs => exact .inr (.inr (alloc_ h))
  | box n x => exact .inr (.inr (alloc_ h))
  | bsl e n zs ps => exact .inr (.inr (alloc_ h))
  | mk e bs zs l c => exact .inr (.inr (alloc_ h))
  | st => simp [isOther] at ho
  | app => simp [isOther] at ho
  | appm => simp [isOther] at ho
  | cpy => simp [isOther] at ho
  | clr => simp [isOther] at ho
  | call => simp [isOther] at ho
  | callv => simp [isOther] at ho
  | slx => simp [isOther] at ho
  | b2s => simp [isOther] at ho
  | fail => simp [isOther] at ho
  | _ => exact .inl (pure_ h)

/-- One more operation. -/
theorem Inv.step {Q : Exit → Act → World → Prop} {base : Nat} {m0 m : Map} {w0 w : World} {a : Act} {ds : List Deferred} {S S' : Nat → Prop} {T p : Nat} {NX : Act → World → Prop} (hc : Chk P ops L) (hr : Run P L E K V) (hI : Inv P ops L E K base m0 w0 ds S T m a w)
    (hp : p < L.length) (hn : ¬ S L[p].1) (hS' : ∀ i, S' i ↔ S i ∨ i = L[p].1) (hrdy : ∀ o, ops[L[p].1]? = some o → ∀ e ∈ o.after, Region.binds .any e = true → S e.on)
    (hK : ∀ T' m' a' w', Inv P ops L E K base m0 w0 ds S' T' m' a' w' → NX a' w') : wpOp P ops Q L[p].1 NX a w := by
  have hmp := hc.m L[p] (List.getElem_mem _)
  obtain ⟨oo, hoo⟩ : ∃ oo, ops[L[p].1]? = some oo := by
    unfold opMatch at hmp
    split at hmp
    · rename_i oo hoo; exact ⟨oo, hoo⟩
    · simp at hmp
  have hA : ∀ j, anc (ancTbl ops.toList []) L[p].1 j = true → S j := fun j hj => ready_anc hI.closed hoo (hrdy oo hoo) hj
  have hag := agree hc hr hI.closed hp hn hA
  have hcl' : Closed ops S' := by
    intro i o e hi ho he hb
    rw [hS'] at hi ⊢
    rcases hi with hi | hi
    · exact .inl (hI.closed i o e hi ho he hb)
    · subst hi; exact .inl (hrdy o ho e he hb)
  have hSq : ∀ q (hq : q < L.length), S' L[q].1 ↔ S L[q].1 ∨ q = p := by
    intro q hq
    rw [hS']
    exact or_congr Iff.rfl ⟨fun he => hc.ix hq hp he, fun he => by subst he; rfl⟩
  have hpT : p ≤ T := by
    rcases Nat.lt_or_ge T p with hlt | hge
    · have hTn : T < L.length := by omega
      exact absurd (hA _ ((hc.pair T p hlt hp hTn).other (hI.tst hTn))) (hI.after T hTn (Nat.le_refl _))
    · exact hge
  obtain ⟨hkn, hst⟩ := hr.step p hp
  have hg := guard_congr (g := L[p].2.guard) fun s hs => hag s (by simp [rds, hs])
  have hsl : ∀ s ∈ L[p].2.op.slots, (envS L E S).getD s .und = (E p).getD s .und := fun s hs => hag s (by simp [rds, hs])
  by_cases ho : isOther L[p].2.op = true
  · -- an other: it is the next one
    have hpT' : p = T := by
      rcases Nat.lt_or_ge p T with hlt | hge
      · exact absurd (hI.before p hp hlt ho) hn
      · omega
    subst hpT'
    have hss : StepSim P L[p].2 (envS L E S) (K p) (V p) (K (p + 1)) := by
      refine ⟨by rw [hg.1]; exact hkn, ?_⟩
      rw [hg.2, heap_congr hsl, callee_congr hsl]
      exact hst
    refine step_ok hmp hss hI.ok.rel hI.env fun a' w' m' hE' hd' hok' => ?_
    obtain ⟨T', h1, h2, h3, h4⟩ := next_other (L := L) (p + 1) (by omega)
    have hcalm := hr.calm T' h1 h2 h3
    refine hK T' m' a' w' ⟨hcl', h2, h4, fun q hq hlt hoq => ?_, fun q hq hge => ?_, (hI.ok.trans hok').ext hcalm.2 hcalm.1, hE'.of_eq (envS_put hc hr hp hSq) (by rw [envS_length, putD_length, envS_length]), fun q hq cs hlt hnq hoq hkq => ?_, hd'.trans hI.defers⟩
    · rw [hSq q hq]
      rcases Nat.lt_trichotomy q p with hlt' | heq | hgt
      · exact .inl (hI.before q hq hlt' hoq)
      · exact .inr heq
      · rw [h3 q hq (by omega) hlt] at hoq; simp at hoq
    · rw [hSq q hq]
      rintro (h5 | h5)
      · exact hI.after q hq (by omega) h5
      · omega
    · rw [hSq q hq] at hnq
      have hqp : q ≠ p := fun h => hnq (.inr h)
      rcases Nat.lt_or_ge q p with hlt' | hge'
      · obtain ⟨f1, f2, f3⟩ := hI.fresh q hq cs hlt' (fun h => hnq (.inl h)) hoq hkq
        obtain ⟨u1, u2⟩ := hok'.un _ f3 f1
        have hs1 := hr.sz p hp
        exact ⟨u1, by rw [hcalm.2 _ (by omega), u2, f2], by omega⟩
      · have h5 := hr.calm (p := p + 1) q (by omega) (by omega) fun r hr' a b => h3 r hr' a (by omega)
        have h6 := hr.calm (p := q + 1) T' (by omega) h2 fun r hr' a b => h3 r hr' (by omega) b
        have h7 : (K q).sz < (K (q + 1)).sz := by rw [hkq]; simp [Heap.new]
        refine ⟨?_, ?_, by omega⟩
        · cases hm : m' (K q).sz with
          | none => rfl
          | some i => have := hok'.rel.dom _ _ hm; omega
        · rw [h6.2 _ h7, hkq]; simp [Heap.new]
  · -- a quiet one
    have ho' : isOther L[p].2.op = false := by simpa using ho
    have hpT' : p < T := by
      rcases Nat.lt_or_ge p T with hlt | hge
      · exact hlt
      · have hTp : T = p := by omega
        subst hTp
        exact absurd (hI.tst hp) ho
    -- what holds behind it, if the heap that stands for all stays
    have next : ∀ {a' : Act} {w' : World} {m' : Map}, EnvL m' (putD (envS L E S) L[p].2.dst (V p)) a' → a'.defers = a.defers → Ok base m0 (K 0) w0 m' (K T) w' → (∀ q (hq : q < L.length) cs, q < T → q ≠ p → ¬ S L[q].1 → isOther L[q].2.op = false → K (q + 1) = (K q).new cs → m' (K q).sz = none) → NX a' w' := by
      intro a' w' m' hE' hd' hok' hfr
      refine hK T m' a' w' ⟨hcl', hI.tle, hI.tst, fun q hq hlt hoq => (hSq q hq).2 (.inl (hI.before q hq hlt hoq)), fun q hq hge => ?_, hok', hE'.of_eq (envS_put hc hr hp hSq) (by rw [envS_length, putD_length, envS_length]), fun q hq cs hlt hnq hoq hkq => ?_, hd'.trans hI.defers⟩
      · rw [hSq q hq]
        rintro (h5 | h5)
        · exact hI.after q hq hge h5
        · omega
      · rw [hSq q hq] at hnq
        obtain ⟨f1, f2, f3⟩ := hI.fresh q hq cs hlt (fun h => hnq (.inl h)) hoq hkq
        exact ⟨hfr q hq cs hlt (fun h => hnq (.inr h)) (fun h => hnq (.inl h)) hoq hkq, f2, f3⟩
    have stay : StepSim P L[p].2 (envS L E S) (K T) (V p) (K T) → wpOp P ops Q L[p].1 NX a w := by
      intro hss
      refine step_ok hmp hss hI.ok.rel hI.env fun a' w' m' hE' hd' hok' => next hE' hd' (hI.ok.trans hok') fun q hq cs hlt hqp hnq hoq hkq => ?_
      obtain ⟨f1, f2, f3⟩ := hI.fresh q hq cs hlt hnq hoq hkq
      exact (hok'.un _ f3 f1).1
    rcases hst with ⟨hw, hv, hk1⟩ | ⟨hw, hop | ⟨f, args, hcal, _⟩⟩
    · exact stay ⟨by rw [hg.1]; exact hkn, .inl ⟨by rw [hg.2]; exact hw, hv, rfl⟩⟩
    · rcases quiet_cases ho' hop with ⟨hall, _⟩ | ⟨n, ag, x, hld⟩ | ⟨cs, hal, hk1⟩
      · exact stay ⟨by rw [hg.1]; exact hkn, .inr ⟨by rw [hg.2]; exact hw, .inl (by rw [heap_congr hsl]; exact hall _)⟩⟩
      · refine stay ⟨by rw [hg.1]; exact hkn, .inr ⟨by rw [hg.2]; exact hw, .inl ?_⟩⟩
        rw [heap_congr hsl]
        have hone := hc.one L[p] (List.getElem_mem _)
        unfold oneOk at hone
        rw [hld] at hop hone ⊢
        cases x with
        | c v => simp at hone
        | t s =>
          simp only [heapOp, Opd.ev] at hop ⊢
          split at hop
          · rename_i l o' hpt
            obtain ⟨vs, hrd, hop⟩ := Option.bind_eq_some_iff.1 hop
            have hrd' := load_stays hc hr hI.closed hp hI.tle hn hI.before hld hpt hrd T (by omega) (Nat.le_refl _)
            simp only [hrd', Option.bind_some]
            split at hop
            · rename_i hag'
              simp only [Option.some.injEq, Prod.mk.injEq] at hop
              rw [if_pos hag', hop.1]
            · rename_i hag'
              rw [if_neg hag']
              split at hop
              · simp only [Option.some.injEq, Prod.mk.injEq] at hop
                simp only [hop.1]
              · simp at hop
          · simp at hop
      · -- memory is made
        obtain ⟨f1, f2, f3⟩ := hI.fresh p hp cs hpT' hn ho' hk1
        have hmp' := hmp
        unfold opMatch at hmp'
        rw [hoo] at hmp'
        simp only [Bool.and_eq_true, beq_iff_eq] at hmp'
        obtain ⟨⟨q1, q2⟩, q3⟩ := hmp'
        have hgw := guard_ok q3 hI.env (by rw [hg.1]; exact hkn)
        rw [← alloc_congr hsl] at hal
        obtain ⟨v', arr, Ty, us, rest, hrun, hcs, harr, hvr⟩ := makes (m := m) (w := w) q1 hI.env.r hal
        unfold wpOp
        simp only [hoo]
        rw [hgw, hg.2, hw]
        simp only [if_true]
        refine .inl ?_
        unfold Oper.wp
        rw [hrun, Oper.upon_value, ← q2]
        have hmade := hI.ok.made f1 (hr.mono 0 p (Nat.zero_le _) (by omega)) f3 f2 hcs harr (w' := w.alloc (.cells arr Ty)) rfl rfl rfl rfl
        refine next ((hI.env.mono (MLe.add f1)).put _ (hvr _ (by unfold Map.add; rw [if_pos rfl]))) (by cases L[p].2.dst <;> rfl) hmade fun q hq cs' hlt hqp hnq hoq hkq => ?_
        obtain ⟨g1, g2, g3⟩ := hI.fresh q hq cs' hlt hnq hoq hkq
        have hne : (K q).sz ≠ (K p).sz := by
          rcases Nat.lt_or_ge q p with h5 | h5
          · have := hr.mono (q + 1) p (by omega) (by omega)
            rw [hkq] at this; simp [Heap.new] at this; omega
          · have := hr.mono (p + 1) q (by omega) (by omega)
            rw [hk1] at this; simp [Heap.new] at this; omega
        unfold Map.add
        rw [if_neg hne, g1]
    · rw [quiet_call ho'] at hcal; simp at hcal
end

end Go.Proofs.YtabmomjfdondnaaH
