/- The machine of trees: rules for proofs. -/
import Derived.Test.YtabmomjfdondnaaHm29
set_option linter.unusedVariables false
set_option linter.unusedSimpArgs false
namespace Go.Proofs.YtabmomjfdondnaaH
open Go

/-- What runs are made of: the functions, which parameters they write, what is given. -/
structure Cx where
  fns : Nat → Option CFn
  io : Nat → List Nat
  X : Nat → List T → T → List T → Prop

abbrev VJx (x : Cx) (j : VJudg) : Prop := VJ x.fns x.io x.X j
def Wc (x : Cx) (n : Nat) (c : CCode) (V : VEnv) (Q : Ex → VEnv → Prop) : Prop := ∃ ex V', VJx x (.co n c V ex V') ∧ Q ex V'
def Wo (x : Cx) (n : Nat) (ops : List (Nat × COper)) (V : VEnv) (Q : VEnv → Prop) : Prop := ∃ V', VJx x (.op n ops V V') ∧ Q V'
def thenQ (x : Cx) (n : Nat) (c : CCode) (Q : Ex → VEnv → Prop) : Ex → VEnv → Prop
  | .normal, V => Wc x n c V Q
  | ex, V => Q ex V
def blockQ (id : Nat) (Q : Ex → VEnv → Prop) : Ex → VEnv → Prop
  | .exit id', V => if id' = id then Q .normal V else Q (.exit id') V
  | ex, V => Q ex V

variable {x : Cx} {n : Nat} {V : VEnv} {Q : Ex → VEnv → Prop}

theorem Wc.mono {c : CCode} {Q' : Ex → VEnv → Prop} (h : Wc x n c V Q) (hq : ∀ ex V, Q ex V → Q' ex V) : Wc x n c V Q' := by
  obtain ⟨ex, V', h1, h2⟩ := h
  exact ⟨ex, V', h1, hq _ _ h2⟩
theorem Wc.skip (h : Q .normal V) : Wc x n .skip V Q := ⟨_, _, .skip, h⟩
theorem Wc.kill {ts : List Nat} (h : Q .normal (V.drops ts)) : Wc x n (.kill ts) V Q := ⟨_, _, .kill, h⟩
theorem Wc.exit {id : Nat} (h : Q (.exit id) V) : Wc x n (.exit id) V Q := ⟨_, _, .exit, h⟩
theorem Wc.ret (h : Q .ret V) : Wc x n .ret V Q := ⟨_, _, .ret, h⟩
theorem Wc.seq {a b : CCode} (h : Wc x n a V (thenQ x n b Q)) : Wc x n (.seq a b) V Q := by
  obtain ⟨ex, V1, h1, h2⟩ := h
  cases ex with
  | normal =>
    obtain ⟨ex2, V2, h3, h4⟩ := h2
    exact ⟨ex2, V2, .seqN h1 h3, h4⟩
  | exit id => exact ⟨_, V1, .seqX (by simp) h1, h2⟩
  | ret => exact ⟨_, V1, .seqX (by simp) h1, h2⟩
theorem Wc.block {id : Nat} {c : CCode} (h : Wc x n c V (blockQ id Q)) : Wc x n (.block id c) V Q := by
  obtain ⟨ex, V1, h1, h2⟩ := h
  cases ex with
  | normal => exact ⟨_, V1, .blockN (by simp) h1, h2⟩
  | ret => exact ⟨_, V1, .blockN (by simp) h1, h2⟩
  | exit id' =>
    simp only [blockQ] at h2
    split at h2
    · rename_i e; subst e; exact ⟨_, V1, .blockE h1, h2⟩
    · rename_i e; exact ⟨_, V1, .blockN (by simpa using e) h1, h2⟩
theorem Wc.loop {c : CCode} (h : Wc x n c V (fun ex V' => match ex with | .normal => Wc x n (.loop c) V' Q | ex => Q ex V')) : Wc x n (.loop c) V Q := by
  obtain ⟨ex, V1, h1, h2⟩ := h
  cases ex with
  | normal =>
    obtain ⟨ex2, V2, h3, h4⟩ := h2
    exact ⟨ex2, V2, .loopN h1 h3, h4⟩
  | exit id => exact ⟨_, V1, .loopX (by simp) h1, h2⟩
  | ret => exact ⟨_, V1, .loopX (by simp) h1, h2⟩
theorem Wc.cond {c : Opd} {a b : CCode} {t : Bool} (hc : sca V c = .bool t) (ht : t = true → Wc x n a V Q) (hf : t = false → Wc x n b V Q) : Wc x n (.cond c a b) V Q := by
  cases t with
  | true =>
    obtain ⟨ex, V1, h1, h2⟩ := ht rfl
    exact ⟨ex, V1, .condT hc h1, h2⟩
  | false =>
    obtain ⟨ex, V1, h1, h2⟩ := hf rfl
    exact ⟨ex, V1, .condF hc h1, h2⟩
theorem Wc.reg {d : Bool} {ops : List (Nat × COper)} (h : Wo x n ops V (fun V' => Q .normal V')) : Wc x n (.reg d ops) V Q := by
  obtain ⟨V', h1, h2⟩ := h
  exact ⟨_, V', .reg h1, h2⟩
theorem Wo.nil {Q : VEnv → Prop} (h : Q V) : Wo x n [] V Q := ⟨_, .opNil, h⟩

/-- Operations that are no calls, one behind the other, as far as they go. -/
def evalO (n : Nat) : List (Nat × COper) → VEnv → Option (List (Nat × COper) × VEnv)
  | [], V => some ([], V)
  | (i, o) :: ops, V => match gV V o.guard with
    | some false => match dstLt n o.dst with
      | true => evalO n ops ((match o.dst with | some d => (unroot d V).set d (.v (.tup [])) | none => V).drops o.ks)
      | false => none
    | some true => match o.op with
      | .call _ _ => some ((i, o) :: ops, V)
      | .callv _ _ => some ((i, o) :: ops, V)
      | c => match dstLt n o.dst with
        | true => match needUs V o with
          | true => match stepV o.ks V c with
            | some (r, V1) => match putR V1 o.dst r with
              | some V2 => evalO n ops (V2.drops o.ks)
              | none => none
            | none => none
          | false => none
        | false => none
    | none => none
theorem Wo.eval : ∀ {ops ops' : List (Nat × COper)} {V V' : VEnv} {Q : VEnv → Prop}, evalO n ops V = some (ops', V') → Wo x n ops' V' Q → Wo x n ops V Q
  | [], ops', V, V', Q, h, hw => by
    simp only [evalO, Option.some.injEq, Prod.mk.injEq] at h
    obtain ⟨rfl, rfl⟩ := h
    exact hw
  | (i, o) :: ops, ops', V, V', Q, h, hw => by
    have key : ∀ {r : RV} {V1 V2 : VEnv}, dstLt n o.dst = true → gV V o.guard = some true → needUs V o = true → stepV o.ks V o.op = some (r, V1) → putR V1 o.dst r = some V2 → evalO n ops (V2.drops o.ks) = some (ops', V') → Wo x n ((i, o) :: ops) V Q := by
      intro r V1 V2 h1 h2 h3 h4 h5 h6
      obtain ⟨W, h7, h8⟩ := Wo.eval h6 hw
      exact ⟨W, .opDo h2 h1 h3 h4 h5 h7, h8⟩
    have skip : dstLt n o.dst = true → gV V o.guard = some false → evalO n ops ((match o.dst with | some d => (unroot d V).set d (.v (.tup [])) | none => V).drops o.ks) = some (ops', V') → Wo x n ((i, o) :: ops) V Q := by
      intro h1 h2 h6
      obtain ⟨W, h7, h8⟩ := Wo.eval h6 hw
      exact ⟨W, .opSkip h2 h1 h7, h8⟩
    simp only [evalO] at h
    split at h
    · rename_i hg
      split at h
      · rename_i hd; exact skip hd hg h
      · simp at h
    · rename_i hg
      split at h
      · simp only [Option.some.injEq, Prod.mk.injEq] at h
        obtain ⟨rfl, rfl⟩ := h
        exact hw
      · simp only [Option.some.injEq, Prod.mk.injEq] at h
        obtain ⟨rfl, rfl⟩ := h
        exact hw
      · rename_i c hc1 hc2
        split at h
        · rename_i hd
          split at h
          · rename_i hn
            split at h
            · rename_i r V1 hs
              split at h
              · rename_i V2 hp; exact key hd hg hn hs hp h
              · simp at h
            · simp at h
          · simp at h
        · simp at h
    · simp at h
theorem Wo.evala : ∀ {ops ops' more : List (Nat × COper)} {V V' : VEnv} {Q : VEnv → Prop}, evalO n ops V = some (ops', V') → Wo x n (ops' ++ more) V' Q → Wo x n (ops ++ more) V Q
  | [], ops', more, V, V', Q, h, hw => by
    simp only [evalO, Option.some.injEq, Prod.mk.injEq] at h
    obtain ⟨rfl, rfl⟩ := h
    exact hw
  | (i, o) :: ops, ops', more, V, V', Q, h, hw => by
    have key : ∀ {r : RV} {V1 V2 : VEnv}, dstLt n o.dst = true → gV V o.guard = some true → needUs V o = true → stepV o.ks V o.op = some (r, V1) → putR V1 o.dst r = some V2 → evalO n ops (V2.drops o.ks) = some (ops', V') → Wo x n ((i, o) :: (ops ++ more)) V Q := by
      intro r V1 V2 h1 h2 h3 h4 h5 h6
      obtain ⟨W, h7, h8⟩ := Wo.evala h6 hw
      exact ⟨W, .opDo h2 h1 h3 h4 h5 h7, h8⟩
    have skip : dstLt n o.dst = true → gV V o.guard = some false → evalO n ops ((match o.dst with | some d => (unroot d V).set d (.v (.tup [])) | none => V).drops o.ks) = some (ops', V') → Wo x n ((i, o) :: (ops ++ more)) V Q := by
      intro h1 h2 h6
      obtain ⟨W, h7, h8⟩ := Wo.evala h6 hw
      exact ⟨W, .opSkip h2 h1 h7, h8⟩
    simp only [evalO] at h
    simp only [List.cons_append]
    split at h
    · rename_i hg
      split at h
      · rename_i hd; exact skip hd hg h
      · simp at h
    · rename_i hg
      split at h
      · simp only [Option.some.injEq, Prod.mk.injEq] at h
        obtain ⟨rfl, rfl⟩ := h
        exact hw
      · simp only [Option.some.injEq, Prod.mk.injEq] at h
        obtain ⟨rfl, rfl⟩ := h
        exact hw
      · rename_i c hc1 hc2
        split at h
        · rename_i hd
          split at h
          · rename_i hn
            split at h
            · rename_i r V1 hs
              split at h
              · rename_i V2 hp; exact key hd hg hn hs hp h
              · simp at h
            · simp at h
          · simp at h
        · simp at h
    · simp at h
/-- The first k operations. -/
theorem Wo.evk {ops : List (Nat × COper)} {V V' : VEnv} {Q : VEnv → Prop} (k : Nat) (h : evalO n (ops.take k) V = some ([], V')) (hw : Wo x n (ops.drop k) V' Q) : Wo x n ops V Q := by
  have := Wo.evala (more := ops.drop k) h hw
  rwa [List.take_append_drop] at this
theorem Wc.evk {d : Bool} {ops : List (Nat × COper)} {V V' : VEnv} (k : Nat) (h : evalO n (ops.take k) V = some ([], V')) (hw : Wo x n (ops.drop k) V' (fun V' => Q .normal V')) : Wc x n (.reg d ops) V Q := Wc.reg (Wo.evk k h hw)
/-- A call. -/
theorem Wo.call {i : Nat} {o : COper} {ops : List (Nat × COper)} {Q : VEnv → Prop} {f : Nat} {ts : List T} {rs : List Nat} {V1 V2 V3 : VEnv} {xs : List Opd} {t : T} {outs : List T} (hg : gV V o.guard = some true) (hd : dstLt n o.dst = true) (hc : callV x.io V o.op = some (f, ts, rs, V1, xs))
    (hca : VJx x (.ca f ts t outs)) (hus : (o.us.isEmpty || xs.isEmpty || usOk V1 o.us []) = true) (hal : (rs.isEmpty || (t.alone && alones outs)) = true) (hb : backs V V1 n V1 xs outs = some V2) (hp : putR V2 o.dst (.v t) = some V3) (h : Wo x n ops (V3.drops o.ks) Q) : Wo x n ((i, o) :: ops) V Q := by
  obtain ⟨V', h1, h2⟩ := h
  exact ⟨V', .opCall hg hd hc hus hca hal hb hp h1, h2⟩
theorem Wo.skip {i : Nat} {o : COper} {ops : List (Nat × COper)} {Q : VEnv → Prop} (hg : gV V o.guard = some false) (hd : dstLt n o.dst = true) (h : Wo x n ops ((match o.dst with | some d => (unroot d V).set d (.v (.tup [])) | none => V).drops o.ks) Q) : Wo x n ((i, o) :: ops) V Q := by
  obtain ⟨V', h1, h2⟩ := h
  exact ⟨V', .opSkip hg hd h1, h2⟩

/-- A function's run. -/
theorem ca_of {f nt na : Nat} {rs : List CRes} {b : CCode} {ts : List T} {t : T} {outs : List T} (hf : x.fns f = some ⟨nt, na, rs, b⟩) (hl : ts.length = na) (hn : na ≤ nt) (hio : ((x.io f).all fun j => !(wrs b).contains j) = true)
    (h : Wc x nt b (startV 0 ts []) fun ex V' => (ex = .normal ∨ ex = .ret) ∧ ∃ rts V2 V3, resV V' rs = some (rts, V2) ∧ takesV V2 (ioOpds (x.io f) na) = some (outs, V3) ∧ tupT rts = t) : VJx x (.ca f ts t outs) := by
  obtain ⟨ex, V', h1, hex, rts, V2, V3, h2, h3, rfl⟩ := h
  exact VJ.call (cf := ⟨nt, na, rs, b⟩) hf hl hn hio h1 hex h2 h3
theorem Wc.start {c : CCode} {V1 : VEnv} (h : V = V1) (hw : Wc x n c V1 Q) : Wc x n c V Q := by rw [h]; exact hw
theorem res_of {rs : List CRes} {ex : Ex} {ios : List Opd} {outs : List T} {t : T} (hex : ex = .normal ∨ ex = .ret) (h : ∃ rts V2 V3, resV V rs = some (rts, V2) ∧ takesV V2 ios = some (outs, V3) ∧ tupT rts = t) :
    (ex = .normal ∨ ex = .ret) ∧ ∃ rts V2 V3, resV V rs = some (rts, V2) ∧ takesV V2 ios = some (outs, V3) ∧ tupT rts = t := ⟨hex, h⟩

theorem Wo.ev {ops : List (Nat × COper)} {Q : VEnv → Prop} {R : Option (List (Nat × COper) × VEnv)} (h : evalO n ops V = R) (hw : match R with | some (ops', V') => Wo x n ops' V' Q | none => False) : Wo x n ops V Q := by
  match R, h, hw with
  | some (ops', V'), h, hw => exact Wo.eval h hw
theorem Wc.ev {d : Bool} {ops : List (Nat × COper)} {R : Option (List (Nat × COper) × VEnv)} (h : evalO n ops V = R) (hw : match R with | some (ops', V') => Wo x n ops' V' (fun V' => Q .normal V') | none => False) : Wc x n (.reg d ops) V Q := Wc.reg (Wo.ev h hw)
theorem Wc.kil {ts : List Nat} {V1 : VEnv} (h : V.drops ts = V1) (hq : Q .normal V1) : Wc x n (.kill ts) V Q := Wc.kill (by rw [h]; exact hq)

attribute [simp] back0 isUnd b2sV bytesT evalO startV gV stepV opV mvV VEnv.get VEnv.set VEnv.drop VEnv.del VEnv.upd unroot S.rooted Cap.rooted VEnv.drops putR dstLt sca T.av T.ofAV needUs see slOf adrOf T.bare scaOp binA binI T.plain plains osca bnd lend lendC takeV T.frz T.cells T.one cut pre keepS keepC T.node T.kids T.setNode T.setKids callV ioTakes ioLends ioSel backs back1 appV moreV exV tupOf sliceV cutT layV spliceT ofAVs capsV capTs tupT resV resV1 ioOpds takesV target tgt usOk rootOf baseOf thenQ blockQ

@[simp] theorem rng_one (cs : List T) (k : Nat) : rng cs k 1 false = cs[k]? := by
  unfold rng
  by_cases h : k + 1 ≤ cs.length
  · simp [h]
  · rw [if_neg h, List.getElem?_eq_none (by omega)]
@[simp] theorem rng_agg (cs : List T) (k n : Nat) : rng cs k n true = if k + n ≤ cs.length then some (.agg ((cs.drop k).take n)) else none := rfl
@[simp] theorem wrap_in (n : Int) (h : -9223372036854775808 ≤ n ∧ n ≤ 9223372036854775807) : IntKind.i64.wrap n = n := by
  rw [IntKind.wrap_i64]; omega

def ints (l : List Int) : List T := l.map fun n => .int .i64 n
@[simp] theorem ints_len (l : List Int) : (ints l).length = l.length := by simp [ints]
@[simp] theorem ints_get (l : List Int) (i : Nat) : (ints l)[i]? = l[i]?.map fun n => .int .i64 n := by simp [ints]
@[simp] theorem ints_at (l : List Int) (i : Nat) (h : i < (ints l).length) : (ints l)[i] = .int .i64 (l[i]'(by simpa using h)) := by simp [ints]
/-- A shared slice of whole numbers. -/
def tInts (l : List Int) : T := .sl false false 1 0 (ints l)

end Go.Proofs.YtabmomjfdondnaaH
