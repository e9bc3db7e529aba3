import Derived.Test.YtabmomjfdondnaaX2
import Derived.ChangeSlices
set_option linter.unusedVariables false
set_option linter.unusedSimpArgs false
namespace Go.Proofs.YtabmomjfdondnaaH
open Go
structure Cx where
 fns : Nat → Option CFn
 io : Nat → List Nat
 X : Nat → List T → T → List T → Prop
abbrev VJx (x : Cx) (j : VJudg) : Prop := VJ x.fns x.io x.X j
def Wc (x : Cx) (n : Nat) (c : CCode) (V : VEnv) (Q : Ex → VEnv → Prop) : Prop := ∃ ex V', VJx x (.co n c V ex V') ∧ Q ex V'
def Wo (x : Cx) (n : Nat) (ops : List (Nat × COper)) (V : VEnv) (Q : VEnv → Prop) : Prop := ∃ V', VJx x (.op n ops V V') ∧ Q V'
def thenQ (x : Cx) (n : Nat) (c : CCode) (Q : Ex → VEnv → Prop) : Ex → VEnv → Prop
 | .normal, V => Wc x n c V Q
 | ex, V => Q ex V
def blockQ (id : Nat) (Q : Ex → VEnv → Prop) : Ex → VEnv → Prop
 | .exit id', V => if id' = id then Q .normal V else Q (.exit id') V
 | ex, V => Q ex V
variable {x : Cx} {n : Nat} {V : VEnv} {Q : Ex → VEnv → Prop}
theorem Wc.mono {c : CCode} {Q' : Ex → VEnv → Prop} (h : Wc x n c V Q) (hq : ∀ ex V, Q ex V → Q' ex V) : Wc x n c V Q' := by
 obtain ⟨ex, V', h1, h2⟩ := h
 exact ⟨ex, V', h1, hq _ _ h2⟩
theorem Wc.skip (h : Q .normal V) : Wc x n .skip V Q := ⟨_, _, .skip, h⟩
theorem Wc.kill {ts : List Nat} (h : Q .normal (V.drops ts)) : Wc x n (.kill ts) V Q := ⟨_, _, .kill, h⟩
theorem Wc.exit {id : Nat} (h : Q (.exit id) V) : Wc x n (.exit id) V Q := ⟨_, _, .exit, h⟩
theorem Wc.ret (h : Q .ret V) : Wc x n .ret V Q := ⟨_, _, .ret, h⟩
theorem Wc.seq {a b : CCode} (h : Wc x n a V (thenQ x n b Q)) : Wc x n (.seq a b) V Q := by
 obtain ⟨ex, V1, h1, h2⟩ := h
 cases ex with
 | normal =>
  obtain ⟨ex2, V2, h3, h4⟩ := h2
  exact ⟨ex2, V2, .seqN h1 h3, h4⟩
 | exit id => exact ⟨_, V1, .seqX (by simp) h1, h2⟩
 | ret => exact ⟨_, V1, .seqX (by simp) h1, h2⟩
theorem Wc.block {id : Nat} {c : CCode} (h : Wc x n c V (blockQ id Q)) : Wc x n (.block id c) V Q := by
 obtain ⟨ex, V1, h1, h2⟩ := h
 cases ex with
 | normal => exact ⟨_, V1, .blockN (by simp) h1, h2⟩
 | ret => exact ⟨_, V1, .blockN (by simp) h1, h2⟩
 | exit id' =>
  simp only [blockQ] at h2
  split at h2
  ·rename_i e; subst e; exact ⟨_, V1, .blockE h1, h2⟩
  ·rename_i e; exact ⟨_, V1, .blockN (by simpa using e) h1, h2⟩
theorem Wc.loop {c : CCode} (h : Wc x n c V (fun ex V' => match ex with | .normal => Wc x n (.loop c) V' Q | ex => Q ex V')) : Wc x n (.loop c) V Q := by
 obtain ⟨ex, V1, h1, h2⟩ := h
 cases ex with
 | normal =>
  obtain ⟨ex2, V2, h3, h4⟩ := h2
  exact ⟨ex2, V2, .loopN h1 h3, h4⟩
 | exit id => exact ⟨_, V1, .loopX (by simp) h1, h2⟩
 | ret => exact ⟨_, V1, .loopX (by simp) h1, h2⟩
theorem Wc.cond {c : Opd} {a b : CCode} {t : Bool} (hc : sca V c = .bool t) (ht : t = true → Wc x n a V Q) (hf : t = false → Wc x n b V Q) : Wc x n (.cond c a b) V Q := by
 cases t with
 | true =>
  obtain ⟨ex, V1, h1, h2⟩ := ht rfl
  exact ⟨ex, V1, .condT hc h1, h2⟩
 | false =>
  obtain ⟨ex, V1, h1, h2⟩ := hf rfl
  exact ⟨ex, V1, .condF hc h1, h2⟩
theorem Wc.reg {d : Bool} {ops : List (Nat × COper)} (h : Wo x n ops V (fun V' => Q .normal V')) : Wc x n (.reg d ops) V Q := by
 obtain ⟨V', h1, h2⟩ := h
 exact ⟨_, V', .reg h1, h2⟩
theorem Wo.nil {Q : VEnv → Prop} (h : Q V) : Wo x n [] V Q := ⟨_, .opNil, h⟩
def evalO (n : Nat) : List (Nat × COper) → VEnv → Option (List (Nat × COper) × VEnv)
 | [], V => some ([], V)
 | (i, o) :: ops, V => match gV V o.guard with
  | some false => match dstLt n o.dst with
   | true => evalO n ops ((match o.dst with | some d => (unroot d V).set d (.v (.tup [])) | none => V).drops o.ks)
   | false => none
  | some true => match o.op with
   | .call _ _ => some ((i, o) :: ops, V)
   | .callv _ _ => some ((i, o) :: ops, V)
   | c => match dstLt n o.dst with
    | true => match needUs V o with
     | true => match stepV o.ks V c with
      | some (r, V1) => match putR V1 o.dst r with
       | some V2 => evalO n ops (V2.drops o.ks)
       | none => none
      | none => none
     | false => none
    | false => none
  | none => none
theorem Wo.eval : ∀ {ops ops' : List (Nat × COper)} {V V' : VEnv} {Q : VEnv → Prop}, evalO n ops V = some (ops', V') → Wo x n ops' V' Q → Wo x n ops V Q
 | [], ops', V, V', Q, h, hw => by
  simp only [evalO, Option.some.injEq, Prod.mk.injEq] at h
  obtain ⟨rfl, rfl⟩ := h
  exact hw
 | (i, o) :: ops, ops', V, V', Q, h, hw => by
  have key : ∀ {r : RV} {V1 V2 : VEnv}, dstLt n o.dst = true → gV V o.guard = some true → needUs V o = true → stepV o.ks V o.op = some (r, V1) → putR V1 o.dst r = some V2 → evalO n ops (V2.drops o.ks) = some (ops', V') → Wo x n ((i, o) :: ops) V Q := by
   intro r V1 V2 h1 h2 h3 h4 h5 h6
   obtain ⟨W, h7, h8⟩ := Wo.eval h6 hw
   exact ⟨W, .opDo h2 h1 h3 h4 h5 h7, h8⟩
  have skip : dstLt n o.dst = true → gV V o.guard = some false → evalO n ops ((match o.dst with | some d => (unroot d V).set d (.v (.tup [])) | none => V).drops o.ks) = some (ops', V') → Wo x n ((i, o) :: ops) V Q := by
   intro h1 h2 h6
   obtain ⟨W, h7, h8⟩ := Wo.eval h6 hw
   exact ⟨W, .opSkip h2 h1 h7, h8⟩
  simp only [evalO] at h
  split at h
  ·rename_i hg
   split at h
   ·rename_i hd; exact skip hd hg h
   ·simp at h
  ·rename_i hg
   split at h
   ·simp only [Option.some.injEq, Prod.mk.injEq] at h
    obtain ⟨rfl, rfl⟩ := h
    exact hw
   ·simp only [Option.some.injEq, Prod.mk.injEq] at h
    obtain ⟨rfl, rfl⟩ := h
    exact hw
   ·rename_i c hc1 hc2
    split at h
    ·rename_i hd
     split at h
     ·rename_i hn
      split at h
      ·rename_i r V1 hs
       split at h
       ·rename_i V2 hp; exact key hd hg hn hs hp h
       ·simp at h
      ·simp at h
     ·simp at h
    ·simp at h
  ·simp at h
theorem Wo.evala : ∀ {ops ops' more : List (Nat × COper)} {V V' : VEnv} {Q : VEnv → Prop}, evalO n ops V = some (ops', V') → Wo x n (ops' ++ more) V' Q → Wo x n (ops ++ more) V Q
 | [], ops', more, V, V', Q, h, hw => by
  simp only [evalO, Option.some.injEq, Prod.mk.injEq] at h
  obtain ⟨rfl, rfl⟩ := h
  exact hw
 | (i, o) :: ops, ops', more, V, V', Q, h, hw => by
  have key : ∀ {r : RV} {V1 V2 : VEnv}, dstLt n o.dst = true → gV V o.guard = some true → needUs V o = true → stepV o.ks V o.op = some (r, V1) → putR V1 o.dst r = some V2 → evalO n ops (V2.drops o.ks) = some (ops', V') → Wo x n ((i, o) :: (ops ++ more)) V Q := by
   intro r V1 V2 h1 h2 h3 h4 h5 h6
   obtain ⟨W, h7, h8⟩ := Wo.evala h6 hw
   exact ⟨W, .opDo h2 h1 h3 h4 h5 h7, h8⟩
  have skip : dstLt n o.dst = true → gV V o.guard = some false → evalO n ops ((match o.dst with | some d => (unroot d V).set d (.v (.tup [])) | none => V).drops o.ks) = some (ops', V') → Wo x n ((i, o) :: (ops ++ more)) V Q := by
   intro h1 h2 h6
   obtain ⟨W, h7, h8⟩ := Wo.evala h6 hw
   exact ⟨W, .opSkip h2 h1 h7, h8⟩
  simp only [evalO] at h
  simp only [List.cons_append]
  split at h
  ·rename_i hg
   split at h
   ·rename_i hd; exact skip hd hg h
   ·simp at h
  ·rename_i hg
   split at h
   ·simp only [Option.some.injEq, Prod.mk.injEq] at h
    obtain ⟨rfl, rfl⟩ := h
    exact hw
   ·simp only [Option.some.injEq, Prod.mk.injEq] at h
    obtain ⟨rfl, rfl⟩ := h
    exact hw
   ·rename_i c hc1 hc2
    split at h
    ·rename_i hd
     split at h
     ·rename_i hn
      split at h
      ·rename_i r V1 hs
       split at h
       ·rename_i V2 hp; exact key hd hg hn hs hp h
       ·simp at h
      ·simp at h
     ·simp at h
    ·simp at h
  ·simp at h
theorem Wo.evk {ops : List (Nat × COper)} {V V' : VEnv} {Q : VEnv → Prop} (k : Nat) (h : evalO n (ops.take k) V = some ([], V')) (hw : Wo x n (ops.drop k) V' Q) : Wo x n ops V Q := by
 have := Wo.evala (more := ops.drop k) h hw
 rwa [List.take_append_drop] at this
theorem Wc.evk {d : Bool} {ops : List (Nat × COper)} {V V' : VEnv} (k : Nat) (h : evalO n (ops.take k) V = some ([], V')) (hw : Wo x n (ops.drop k) V' (fun V' => Q .normal V')) : Wc x n (.reg d ops) V Q := Wc.reg (Wo.evk k h hw)
theorem Wo.call {i : Nat} {o : COper} {ops : List (Nat × COper)} {Q : VEnv → Prop} {f : Nat} {ts : List T} {rs : List Nat} {V1 V2 V3 : VEnv} {xs : List Opd} {t : T} {outs : List T} (hg : gV V o.guard = some true) (hd : dstLt n o.dst = true) (hc : callV x.io V o.op = some (f, ts, rs, V1, xs))
  (hca : VJx x (.ca f ts t outs)) (hus : (o.us.isEmpty || xs.isEmpty || usOk V1 o.us []) = true) (hal : (rs.isEmpty || (t.alone && alones outs)) = true) (hb : backs V V1 n V1 xs outs = some V2) (hp : putR V2 o.dst (.v t) = some V3) (h : Wo x n ops (V3.drops o.ks) Q) : Wo x n ((i, o) :: ops) V Q := by
 obtain ⟨V', h1, h2⟩ := h
 exact ⟨V', .opCall hg hd hc hus hca hal hb hp h1, h2⟩
theorem Wo.skip {i : Nat} {o : COper} {ops : List (Nat × COper)} {Q : VEnv → Prop} (hg : gV V o.guard = some false) (hd : dstLt n o.dst = true) (h : Wo x n ops ((match o.dst with | some d => (unroot d V).set d (.v (.tup [])) | none => V).drops o.ks) Q) : Wo x n ((i, o) :: ops) V Q := by
 obtain ⟨V', h1, h2⟩ := h
 exact ⟨V', .opSkip hg hd h1, h2⟩
theorem ca_of {f nt na : Nat} {rs : List CRes} {b : CCode} {ts : List T} {t : T} {outs : List T} (hf : x.fns f = some ⟨nt, na, rs, b⟩) (hl : ts.length = na) (hn : na ≤ nt) (hio : ((x.io f).all fun j => !(wrs b).contains j) = true)
    (h : Wc x nt b (startV 0 ts []) fun ex V' => (ex = .normal ∨ ex = .ret) ∧ ∃ rts V2 V3, resV V' rs = some (rts, V2) ∧ takesV V2 (ioOpds (x.io f) na) = some (outs, V3) ∧ tupT rts = t) : VJx x (.ca f ts t outs) := by
  obtain ⟨ex, V', h1, hex, rts, V2, V3, h2, h3, rfl⟩ := h
  exact VJ.call (cf := ⟨nt, na, rs, b⟩) hf hl hn hio h1 hex h2 h3
theorem Wc.start {c : CCode} {V1 : VEnv} (h : V = V1) (hw : Wc x n c V1 Q) : Wc x n c V Q := by rw [h]; exact hw
theorem res_of {rs : List CRes} {ex : Ex} {ios : List Opd} {outs : List T} {t : T} (hex : ex = .normal ∨ ex = .ret) (h : ∃ rts V2 V3, resV V rs = some (rts, V2) ∧ takesV V2 ios = some (outs, V3) ∧ tupT rts = t) :
  (ex = .normal ∨ ex = .ret) ∧ ∃ rts V2 V3, resV V rs = some (rts, V2) ∧ takesV V2 ios = some (outs, V3) ∧ tupT rts = t := ⟨hex, h⟩
theorem Wo.ev {ops : List (Nat × COper)} {Q : VEnv → Prop} {R : Option (List (Nat × COper) × VEnv)} (h : evalO n ops V = R) (hw : match R with | some (ops', V') => Wo x n ops' V' Q | none => False) : Wo x n ops V Q := by
 match R, h, hw with
 | some (ops', V'), h, hw => exact Wo.eval h hw
theorem Wc.ev {d : Bool} {ops : List (Nat × COper)} {R : Option (List (Nat × COper) × VEnv)} (h : evalO n ops V = R) (hw : match R with | some (ops', V') => Wo x n ops' V' (fun V' => Q .normal V') | none => False) : Wc x n (.reg d ops) V Q := Wc.reg (Wo.ev h hw)
theorem Wc.kil {ts : List Nat} {V1 : VEnv} (h : V.drops ts = V1) (hq : Q .normal V1) : Wc x n (.kill ts) V Q := Wc.kill (by rw [h]; exact hq)
attribute [simp] back0 isUnd b2sV bytesT evalO startV gV stepV opV mvV VEnv.get VEnv.set VEnv.drop VEnv.del VEnv.upd unroot S.rooted Cap.rooted VEnv.drops putR dstLt sca T.av T.ofAV needUs see slOf adrOf T.bare scaOp binA binI T.plain plains osca bnd lend lendC takeV T.frz T.cells T.one cut pre keepS keepC T.node T.kids T.setNode T.setKids callV ioTakes ioLends ioSel backs back1 appV moreV exV tupOf sliceV cutT layV spliceT ofAVs capsV capTs tupT resV resV1 ioOpds takesV target tgt usOk rootOf baseOf thenQ blockQ
@[simp] theorem rng_one (cs : List T) (k : Nat) : rng cs k 1 false = cs[k]? := by
 unfold rng
 by_cases h : k + 1 ≤ cs.length
 ·simp [h]
 ·rw [if_neg h, List.getElem?_eq_none (by omega)]
@[simp] theorem rng_agg (cs : List T) (k n : Nat) : rng cs k n true = if k + n ≤ cs.length then some (.agg ((cs.drop k).take n)) else none := rfl
@[simp] theorem wrap_in (n : Int) (h : -9223372036854775808 ≤ n ∧ n ≤ 9223372036854775807) : IntKind.i64.wrap n = n := by
 rw [IntKind.wrap_i64]; omega
end Go.Proofs.YtabmomjfdondnaaH
namespace Go.Proofs.YtabmomjfdondnaaH
open Go Go.ChangeShapes
theorem RdVs.append {W : World} : ∀ {ts us : List T} {vs ws : List Value}, RdVs W ts vs → RdVs W us ws → RdVs W (ts ++ us) (vs ++ ws)
 | [], us, vs, ws, h, h' => by rw [RdVs] at h; subst h; simpa using h'
 | t :: ts, us, vs, ws, h, h' => by
  rw [RdVs] at h
  obtain ⟨v, vs', rfl, h1, h2⟩ := h
  rw [List.cons_append, List.cons_append, RdVs]
  exact ⟨v, vs' ++ ws, rfl, h1, RdVs.append h2 h'⟩
theorem rdvs_one {W : World} {t : T} {v : Value} (h : RdV W t v) : RdVs W [t] [v] := by
 rw [RdVs]; exact ⟨v, [], rfl, h, by rw [RdVs]⟩
theorem spot_of_cell {W : World} {a : Addr} {v : Value} (h : W.cell? a = some v) : a.spot = none := by
 unfold World.cell? at h
 split at h
 ·split at h
  ·simp at h
  ·rename_i hs; simpa using hs
 ·simp at h
end Go.Proofs.YtabmomjfdondnaaH
namespace Go.Proofs.YtabmomjfdondnaaH
open Go
structure En (α : Type) where
 w : Nat
 c : Bool → α → List T
 hw : ∀ b a, (c b a).length = w
 hp : 0 < w
 hf : ∀ b a, frzs (c b a) = c false a
 hpl : ∀ a, plains (c false a) = true
 hal : ∀ a, alones (c true a) = true
 ho : ∀ b a, (c b a).all T.one = true
def arr {α : Type} (E : En α) (b : Bool) (l : List α) : List T := l.flatMap (E.c b)
variable {α β : Type} {E : En α} {b : Bool} {l l' : List α}
@[simp] theorem arr_nil : arr E b [] = [] := rfl
@[simp] theorem arr_cons {a : α} : arr E b (a :: l) = E.c b a ++ arr E b l := by simp [arr]
@[simp] theorem arr_app : arr E b l ++ arr E b l' = arr E b (l ++ l') := by simp [arr]
theorem arr_snoc {a : α} : arr E b l ++ E.c b a = arr E b (l ++ [a]) := by simp [arr]
theorem arr_len : (arr E b l).length = l.length * E.w := by
 induction l with
 | nil => simp
 | cons a l ih => rw [arr_cons, List.length_append, E.hw, ih, List.length_cons, Nat.add_mul]; omega
theorem frzs_append : ∀ (ts us : List T), frzs (ts ++ us) = frzs ts ++ frzs us
 | [], us => rfl
 | t :: ts, us => by simp [frzs, frzs_append ts us]
theorem plains_append : ∀ (ts us : List T), plains (ts ++ us) = (plains ts && plains us)
 | [], us => by simp
 | t :: ts, us => by simp [plains, plains_append ts us, Bool.and_assoc]
theorem alones_append : ∀ (ts us : List T), alones (ts ++ us) = (alones ts && alones us)
 | [], us => by simp [alones]
 | t :: ts, us => by simp [alones, alones_append ts us, Bool.and_assoc]
@[simp] theorem arr_frz : frzs (arr E b l) = arr E false l := by
 induction l with
 | nil => rfl
 | cons a l ih => rw [arr_cons, frzs_append, E.hf, ih, arr_cons]
@[simp] theorem arr_plain : plains (arr E false l) = true := by
 induction l with
 | nil => rfl
 | cons a l ih => rw [arr_cons, plains_append, E.hpl, ih]; rfl
@[simp] theorem arr_alone : alones (arr E true l) = true := by
 induction l with
 | nil => rfl
 | cons a l ih => rw [arr_cons, alones_append, E.hal, ih]; rfl
@[simp] theorem arr_ones : (arr E b l).all T.one = true := by
 induction l with
 | nil => rfl
 | cons a l ih => rw [arr_cons, List.all_append, E.ho, ih]; rfl
theorem arr_take (n : Nat) : (arr E b l).take (n * E.w) = arr E b (l.take n) := by
 induction n generalizing l with
 | zero => simp
 | succ n ih => cases l with
  | nil => simp
  | cons a l =>
   rw [arr_cons, List.take_succ_cons, arr_cons, Nat.add_mul, Nat.one_mul, Nat.add_comm, ← ih]
   rw [← E.hw b a, List.take_length_add_append]
theorem arr_drop (n : Nat) : (arr E b l).drop (n * E.w) = arr E b (l.drop n) := by
 induction n generalizing l with
 | zero => simp
 | succ n ih => cases l with
  | nil => simp
  | cons a l =>
   rw [arr_cons, List.drop_succ_cons, Nat.add_mul, Nat.one_mul, Nat.add_comm, ← ih]
   rw [← E.hw b a, List.drop_length_add_append]
theorem arr_at {i : Nat} {a : α} (h : l[i]? = some a) : (arr E b l).drop (i * E.w) = E.c b a ++ arr E b (l.drop (i + 1)) := by
 rw [arr_drop]
 obtain ⟨h1, h2⟩ := List.getElem?_eq_some_iff.1 h
 rw [List.drop_eq_getElem_cons h1, arr_cons, h2]
theorem arr_get {i o : Nat} {a : α} (h : l[i]? = some a) (ho : o < E.w) : (arr E b l)[i * E.w + o]? = (E.c b a)[o]? := by
 rw [← List.getElem?_drop, arr_at h, List.getElem?_append_left (by rw [E.hw]; exact ho)]
theorem arr_fit {i : Nat} (h : i < l.length) : i * E.w + E.w ≤ (arr E b l).length := by
 rw [arr_len]
 have := Nat.mul_le_mul_right E.w (show i + 1 ≤ l.length by omega)
 rw [Nat.add_mul] at this; omega
theorem arr_set {i : Nat} {a : α} (h : i < l.length) : (arr E b l).take (i * E.w) ++ (E.c b a ++ (arr E b l).drop (i * E.w + E.w)) = arr E b (l.set i a) := by
 rw [arr_take, show i * E.w + E.w = (i + 1) * E.w by rw [Nat.add_mul]; omega, arr_drop, List.set_eq_take_append_cons_drop, if_pos h, ← arr_app, arr_cons]
abbrev osl (E : En α) (b : Bool) (l : List α) : T := .sl true true E.w 0 (arr E b l)
abbrev ssl (E : En α) (l : List α) : T := .sl false false E.w 1 (arr E false l)
attribute [simp] osl ssl T.alone alones T.mayNil frzs
def slT (E : En α) (b : Bool) (l : List α) : T := .sl b b E.w (if b then 0 else 1) (arr E b l)
def eInt (k : IntKind) : En Int := ⟨1, fun _ n => [.int k n], by simp, by simp, by simp [frzs], by simp, by simp [alones, T.alone], by simp⟩
abbrev eI : En Int := eInt .i64
def eB : En Bool := ⟨1, fun _ n => [.bool n], by simp, by simp, by simp [frzs], by simp, by simp [alones, T.alone], by simp⟩
def eS : En (List UInt8) := ⟨1, fun _ n => [.str n], by simp, by simp, by simp [frzs], by simp, by simp [alones, T.alone], by simp⟩
theorem slT_frz : (slT E b l).frz = slT E false l := by cases b <;> simp [slT, T.frz]
def eL (E : En α) : En (List α) := ⟨1, fun b l => [slT E b l], by simp, by simp, fun b l => by simp [frzs, slT_frz], fun l => by simp [slT], fun l => by simp [slT, alones, T.alone], fun b l => by simp [slT]⟩
@[simp] theorem eInt_w {k : IntKind} : (eInt k).w = 1 := rfl
@[simp] theorem eB_w : eB.w = 1 := rfl
@[simp] theorem eS_w : eS.w = 1 := rfl
@[simp] theorem eL_w {E : En α} : (eL E).w = 1 := rfl
@[simp] theorem eInt_c {k : IntKind} {n : Int} : (eInt k).c b n = [.int k n] := rfl
@[simp] theorem eB_c {n : Bool} : eB.c b n = [.bool n] := rfl
@[simp] theorem eS_c {n : List UInt8} : eS.c b n = [.str n] := rfl
@[simp] theorem eL_ct {E : En α} {l : List α} : (eL E).c true l = [osl E true l] := rfl
@[simp] theorem eL_cf {E : En α} {l : List α} : (eL E).c false l = [ssl E l] := rfl
@[simp] theorem arr_eq_nil : arr E b l = [] ↔ l = [] := by
 cases l with
 | nil => simp
 | cons a l =>
  rw [arr_cons]
  have h := E.hw b a
  have h2 := E.hp
  constructor
  ·intro e
   simp only [List.append_eq_nil_iff] at e
   rw [e.1] at h; simp at h; omega
  ·intro e; cases e
@[simp] theorem arr_isEmpty : (arr E b l).isEmpty = l.isEmpty := by
 cases l with
 | nil => simp
 | cons a l =>
  simp only [List.isEmpty_cons]
  cases h : (arr E b (a :: l)).isEmpty with
  | false => rfl
  | true =>
   rw [List.isEmpty_iff] at h
   cases arr_eq_nil.1 h
def ix (l : List α) (i : Int) : Option α := if 0 ≤ i then l[i.toNat]? else none
theorem ix_ne {i : Int} {a : α} (h : ix l i = some a) : l ≠ [] := by
 rintro rfl
 unfold ix at h
 split at h <;> simp at h
theorem ix_some {i : Int} {a : α} (h : ix l i = some a) : 0 ≤ i ∧ i < l.length ∧ l[i.toNat]? = some a := by
 unfold ix at h
 split at h
 ·exact ⟨by omega, by have := (List.getElem?_eq_some_iff.1 h).1; omega, h⟩
 ·simp at h
def app (bs : Nat) (l l' : List α) : Option (List α) := if l'.length = 0 ∨ (l.length + l'.length) * bs ≤ room then some (l ++ l') else none
theorem appT_arr {bs : Nat} {y : Bool} {v : List α} (h : app bs l l' = some v) (hb : bs ≠ 0) : appT E.w bs (.sl true y E.w 0 (arr E b l)) (arr E b l') = some (.sl true y E.w 0 (arr E b v)) := by
 unfold app at h
 have hw := E.hp
 have hw0 : E.w ≠ 0 := by omega
 unfold appT
 by_cases h0 : l' = []
 ·subst h0
  simp at h
  simp [h]
 ·have hl : 0 < l'.length := List.length_pos_iff.2 h0
  split at h
  ·rename_i hr
   simp only [Option.some.injEq] at h
   subst h
   have hr' : (l.length + l'.length) * bs ≤ room := by omega
   have e1 : (arr E b l').length / E.w = l'.length := by rw [arr_len, Nat.mul_div_cancel _ hw]
   have e2 : (arr E b l).length / E.w = l.length := by rw [arr_len, Nat.mul_div_cancel _ hw]
   have hne : ¬ ((arr E b l').length = 0) := by
    rw [arr_len]
    have := Nat.mul_pos hl hw
    omega
   have hg : ¬ (E.w = 0 ∨ bs = 0 ∨ (arr E b l').all T.one = false) := by
    rw [arr_ones]; simp; omega
   rw [if_neg hne, if_neg hg]
   simp only [e1, e2, true_and]
   rw [if_pos hr', if_neg (by omega), if_pos trivial, arr_app]
  ·simp at h
theorem arr_sc {b' : Bool} (h : E.c b' = E.c b) (l : List α) : arr E b' l = arr E b l := by unfold arr; rw [h]
theorem appT_arr2 {bs : Nat} {y b' : Bool} {v : List α} (h : app bs l l' = some v) (hb : bs ≠ 0) (he : arr E b' l' = arr E b l') : appT E.w bs (.sl true y E.w 0 (arr E b l)) (arr E b' l') = some (.sl true y E.w 0 (arr E b v)) := by
 rw [he]; exact appT_arr h hb
def mkl (bs : Int) (n : Int) (a : α) : Option (List α) := if 0 ≤ n ∧ bs * n ≤ 281474976710656 ∧ n ≤ 9223372036854775807 then some (List.replicate n.toNat a) else none
theorem mkl_some {bs : Int} {n : Int} {a : α} {v : List α} (h : mkl bs n a = some v) : 0 ≤ n ∧ bs * n ≤ 281474976710656 ∧ n ≤ 9223372036854775807 ∧ List.replicate n.toNat a = v := by
 unfold mkl at h
 split at h
 ·rename_i hc
  simp only [Option.some.injEq] at h
  exact ⟨hc.1, hc.2.1, hc.2.2, h⟩
 ·simp at h
theorem rep_arr {n : Nat} {a : α} {v : List α} (h : List.replicate n a = v) : (List.replicate n (E.c b a)).flatten = arr E b v := by
 subst h
 induction n with
 | zero => rfl
 | succ n ih => rw [List.replicate_succ, List.flatten_cons, ih, List.replicate_succ, arr_cons]
def cutL (l : List α) (lo hi : Int) : Option (List α) := if 0 ≤ lo ∧ lo ≤ hi ∧ hi ≤ l.length then some ((l.take hi.toNat).drop lo.toNat) else none
theorem cut_some {lo hi : Int} {v : List α} (h : cutL l lo hi = some v) : 0 ≤ lo ∧ lo ≤ hi ∧ hi ≤ l.length ∧ (l.take hi.toNat).drop lo.toNat = v := by
 unfold cutL at h
 split at h
 ·rename_i hc
  simp only [Option.some.injEq] at h
  exact ⟨hc.1, hc.2.1, hc.2.2, h⟩
 ·simp at h
def nn (n : Int) : Option Unit := if n < 0 then none else some ()
theorem nn_some {n : Int} {v : Unit} (h : nn n = some v) : ¬ n < 0 := by
 unfold nn at h
 split at h
 ·simp at h
 ·assumption
def band (k : IntKind) (x y : Int) : Int := k.wrap (BitVec.ofInt k.bits x &&& BitVec.ofInt k.bits y).toNat
def bxor (k : IntKind) (x y : Int) : Int := k.wrap (BitVec.ofInt k.bits x ^^^ BitVec.ofInt k.bits y).toNat
def sshl (k : IntKind) (x y : Int) : Int := k.wrap (x * 2 ^ (min y.toNat k.bits))
def sshr (k : IntKind) (x y : Int) : Int := x.fdiv (2 ^ (min y.toNat k.bits))
theorem lay_set {i : Nat} (a : α) (h : i < l.length) : layT (arr E b l) (i * E.w) E.w (E.c b a) = arr E b (l.set i a) := arr_set h
abbrev w64 (n : Int) : Int := IntKind.i64.wrap n
abbrev w8 (n : Int) : Int := IntKind.u8.wrap n
attribute [simp] w64 w8
def iterN {σ ρ : Type} (f : σ → Option (σ ⊕ ρ)) : Nat → σ → Option ρ
 | 0, _ => none
 | n + 1, s => match f s with
  | some (.inl s') => iterN f n s'
  | some (.inr r) => some r
  | none => none
theorem iterN_mono {σ ρ : Type} {f : σ → Option (σ ⊕ ρ)} : ∀ {n m : Nat} {s : σ} {r : ρ}, n ≤ m → iterN f n s = some r → iterN f m s = some r
 | 0, _, _, _, _, h => by simp [iterN] at h
 | n + 1, 0, _, _, hnm, _ => by omega
 | n + 1, m + 1, s, r, hnm, h => by
  simp only [iterN] at h ⊢
  split at h
  ·rename_i s' hs; exact iterN_mono (by omega) h
  ·exact h
  ·simp at h
open Classical in
noncomputable def iter {σ ρ : Type} (f : σ → Option (σ ⊕ ρ)) (s : σ) : Option ρ :=
 if h : ∃ n, (iterN f n s).isSome then iterN f h.choose s else none
theorem iter_of {σ ρ : Type} {f : σ → Option (σ ⊕ ρ)} {n : Nat} {s : σ} {r : ρ} (h : iterN f n s = some r) : iter f s = some r := by
 unfold iter
 have hx : ∃ n, (iterN f n s).isSome := ⟨n, by rw [h]; rfl⟩
 rw [dif_pos hx]
 obtain ⟨r', hr'⟩ := Option.isSome_iff_exists.1 hx.choose_spec
 rw [hr']
 have h1 := iterN_mono (Nat.le_max_left n hx.choose) h
 have h2 := iterN_mono (Nat.le_max_right n hx.choose) hr'
 rw [h1] at h2
 exact h2.symm
theorem iter_some {σ ρ : Type} {f : σ → Option (σ ⊕ ρ)} {s : σ} {r : ρ} (h : iter f s = some r) : ∃ n, iterN f n s = some r := by
 unfold iter at h
 split at h
 ·exact ⟨_, h⟩
 ·simp at h
theorem iter_eq {σ ρ : Type} (f : σ → Option (σ ⊕ ρ)) (s : σ) : iter f s = match f s with
  | some (.inl s') => iter f s'
  | some (.inr r) => some r
  | none => none := by
 have key : ∀ r, iter f s = some r ↔ (match f s with
  | some (.inl s') => iter f s'
  | some (.inr r) => some r
  | none => none) = some r := by
  intro r
  constructor
  ·intro h
   obtain ⟨n, hn⟩ := iter_some h
   cases n with
   | zero => simp [iterN] at hn
   | succ n =>
    simp only [iterN] at hn
    split at hn
    ·rename_i s' hs; exact iter_of hn
    ·exact hn
    ·simp at hn
  ·intro h
   split at h
   ·rename_i s' hs
    obtain ⟨n, hn⟩ := iter_some h
    exact iter_of (n := n + 1) (by simp only [iterN, hs]; exact hn)
   ·rename_i r' hs
    exact iter_of (n := 1) (by simp only [iterN, hs]; exact h)
   ·simp at h
 exact Option.ext key
theorem iter_run {σ ρ : Type} {f : σ → Option (σ ⊕ ρ)} {P : σ → ρ → Prop} (hs : ∀ s o r, f s = some o → (∀ s', o = .inl s' → P s' r) → (∀ r', o = .inr r' → r' = r) → P s r) {s : σ} {r : ρ} (h : iter f s = some r) : P s r := by
 obtain ⟨n, hn⟩ := iter_some h
 clear h
 induction n generalizing s with
 | zero => simp [iterN] at hn
 | succ n ih =>
  simp only [iterN] at hn
  split at hn
  ·rename_i s' hf
   exact hs s _ r hf (fun s'' e => by cases e; exact ih hn) (fun r' e => by cases e)
  ·rename_i r' hf
   simp only [Option.some.injEq] at hn
   exact hs s _ r hf (fun s'' e => by cases e) (fun r'' e => by cases e; exact hn)
  ·simp at hn
def QX (id : Nat) {σ : Type} (m : σ → VEnv) (o : σ) (ex : Ex) (V : VEnv) : Prop := ex = .exit id ∧ V = m o
def QR {ρ : Type} (m : ρ → VEnv) (o : ρ) (ex : Ex) (V : VEnv) : Prop := ex = .ret ∧ V = m o
def QN {σ : Type} (m : σ → VEnv) (o : σ) (ex : Ex) (V : VEnv) : Prop := ex = .normal ∧ V = m o
def QO {σ ρ : Type} (q : σ → Ex → VEnv → Prop) (q' : ρ → Ex → VEnv → Prop) : σ ⊕ ρ → Ex → VEnv → Prop
 | .inl s => q s
 | .inr r => q' r
theorem bind_some {α β : Type} {x : Option α} {g : α → Option β} {r : β} (h : x.bind g = some r) : ∃ a, x = some a ∧ g a = some r := Option.bind_eq_some_iff.1 h
variable {x : Cx} {n : Nat} {V V1 : VEnv} {Q : Ex → VEnv → Prop}
theorem Wc.condT {c : Opd} {a b : CCode} (hc : sca V c = .bool true) (h : Wc x n a V Q) : Wc x n (.cond c a b) V Q := by
 obtain ⟨ex, V1, h1, h2⟩ := h
 exact ⟨ex, V1, .condT hc h1, h2⟩
theorem Wc.condF {c : Opd} {a b : CCode} (hc : sca V c = .bool false) (h : Wc x n b V Q) : Wc x n (.cond c a b) V Q := by
 obtain ⟨ex, V1, h1, h2⟩ := h
 exact ⟨ex, V1, .condF hc h1, h2⟩
theorem Wo.evs {ops ops' : List (Nat × COper)} {Q : VEnv → Prop} (h : evalO n ops V = some (ops', V1)) (hw : Wo x n ops' V1 Q) : Wo x n ops V Q := Wo.eval h hw
theorem Wc.evs {d : Bool} {ops ops' : List (Nat × COper)} (h : evalO n ops V = some (ops', V1)) (hw : Wo x n ops' V1 (fun V' => Q .normal V')) : Wc x n (.reg d ops) V Q := Wc.reg (Wo.eval h hw)
theorem Wc.condT' {c : Opd} {a b : CCode} {t : Bool} (hc : sca V c = .bool t) (ht : t = true) (h : Wc x n a V Q) : Wc x n (.cond c a b) V Q := Wc.condT (by rw [hc, ht]) h
theorem Wc.condF' {c : Opd} {a b : CCode} {t : Bool} (hc : sca V c = .bool t) (ht : t = false) (h : Wc x n b V Q) : Wc x n (.cond c a b) V Q := Wc.condF (by rw [hc, ht]) h
theorem Wc.gh {c : CCode} (hv : VLe V V1) (h : Wc x n c V1 Q) : Wc x n c V Q := by
 obtain ⟨ex, V2, h1, h2⟩ := h
 exact ⟨ex, V2, .ghC hv h1, h2⟩
theorem Wo.gh {ops : List (Nat × COper)} {Q : VEnv → Prop} (hv : VLe V V1) (h : Wo x n ops V1 Q) : Wo x n ops V Q := by
 obtain ⟨V2, h1, h2⟩ := h
 exact ⟨V2, .ghO hv h1, h2⟩
theorem Wo.mono {ops : List (Nat × COper)} {Q Q' : VEnv → Prop} (h : Wo x n ops V Q) (hq : ∀ V, Q V → Q' V) : Wo x n ops V Q' := by
 obtain ⟨V', h1, h2⟩ := h
 exact ⟨V', h1, hq _ h2⟩
theorem vle_co {s : Nat} {t t1 : T} (hs : V.get s = .v t) (hu : t ≠ .und) (h : TLe t t1) (hv : (unroot s V).set s (.v t1) = V1) : VLe V V1 := hv ▸ vle_see hs hu h
theorem vle_fz {s : Nat} {t : T} (hs : V.get s = .v t) (hu : t ≠ .und) (hv : (unroot s V).set s (.v t.frz) = V1) : VLe V V1 := hv ▸ vle_frz hs hu
theorem tle_bool {a b : Bool} (h : a = b) : TLe (.bool a) (.bool b) := by subst h; exact TLe.refl _
theorem TLes.of_eq {cs cs1 : List T} (h : cs = cs1) : TLes cs cs1 := by subst h; exact TLes.refl _
theorem TLe.own0 {e : Nat} {cs cs1 : List T} (h : TLes cs cs1) : TLe (.sl true false e 0 cs) (.sl true true e 0 cs1) := by
 intro H F v ls hd
 have : cs.length = cs1.length ∨ ¬ cs.length = cs1.length := Decidable.em _
 rw [Den] at hd ⊢
 rcases hd with ⟨h1, _⟩ | ⟨l, o, n, avs, e1, e2, e3, e4, e5⟩
 ·simp [nilOk] at h1
 refine .inr ⟨l, o, n, avs, e1, e2, e3, e4, ?_⟩
 rcases e5 with ⟨f1, f2, f3, f4, f5, l1, f6, f7⟩ | ⟨f1, _⟩
 ·exact .inl ⟨f1, f2, f3, f4, f5, l1, f6, h _ _ _ _ f7⟩
 ·cases f1
theorem TLes.append {ts us ts1 us1 : List T} (h : TLes ts ts1) (h' : TLes us us1) : TLes (ts ++ us) (ts1 ++ us1) := by
 intro H F vs ls hd
 obtain ⟨c1, c2, l1, l2, rfl, rfl, d1, d2⟩ := hd.split
 exact (h _ _ _ _ d1).append (h' _ _ _ _ d2)
theorem tles_rep {n : Nat} {a : α} {v : List α} {zs : List T} (h : List.replicate n a = v) (hz : TLes zs (E.c b a)) : TLes (List.replicate n zs).flatten (arr E b v) := by
 subst h
 induction n with
 | zero => exact TLes.refl _
 | succ n ih => rw [List.replicate_succ, List.flatten_cons, List.replicate_succ, arr_cons]; exact hz.append ih
theorem tle_own {e : Nat} {cs cs1 : List T} (h : cs = cs1) : TLe (.sl true false e 0 cs) (.sl true true e 0 cs1) := by subst h; exact TLe.own (TLes.refl _) rfl
theorem tle_eq {t t1 : T} (h : t = t1) : TLe t t1 := by subst h; exact TLe.refl _
theorem VJx.res {f : Nat} {ts ts1 : List T} {t t1 : T} {outs outs1 : List T} (h : VJx x (.ca f ts1 t outs)) (ha : TLes ts ts1) (ht : TLe t t1) (ho : TLes outs outs1) : VJx x (.ca f ts t1 outs1) := .ghR ha ht ho h
@[simp] theorem beq_dec (x y : Int) : (x == y) = decide (x = y) := rfl
@[simp] theorem bne_dec (x y : Int) : (x != y) = decide (¬ x = y) := by simp [bne]
theorem holes_len {cs : List T} {k n : Nat} (h : k + n ≤ cs.length) : (holes cs k n).length = cs.length := by unfold holes; simp; omega
@[simp] theorem holes_isEmpty {cs : List T} {k n : Nat} (h : k + n ≤ cs.length) : (holes cs k n).isEmpty = cs.isEmpty := by
 have := holes_len h
 cases cs with
 | nil =>
  simp only [List.length_nil] at this
  rw [List.eq_nil_of_length_eq_zero this]
 | cons c cs =>
  cases hh : holes (c :: cs) k n with
  | nil => rw [hh] at this; simp at this
  | cons => rfl
@[simp] theorem holes_eq_nil {cs : List T} {k n : Nat} (h : k + n ≤ cs.length) : holes cs k n = [] ↔ cs = [] := by
 have := holes_isEmpty h
 rw [← List.isEmpty_iff, this, List.isEmpty_iff]
attribute [simp] holes_len
@[simp] theorem holes_lay {cs c : List T} {k n : Nat} (h : k + n ≤ cs.length) : layT (holes cs k n) k n c = layT cs k n c := by
 unfold layT holes
 have h1 : (cs.take k).length = k := by simp; omega
 have h2 : (cs.take k ++ List.replicate n T.und).length = k + n := by simp; omega
 congr 1
 ·rw [List.take_append_of_le_length (by omega), List.take_take, Nat.min_self]
 ·congr 1
  rw [← List.append_assoc, ← h2, List.drop_left, h2]
@[simp] theorem holes_get {cs : List T} {k : Nat} (h : k + 1 ≤ cs.length) : (holes cs k 1)[k]? = some .und := by
 have hk : (cs.take k).length = k := by rw [List.length_take, Nat.min_eq_left (by omega)]
 unfold holes
 rw [List.getElem?_append_right (by omega), hk, Nat.sub_self]
 rfl
@[simp] theorem holes_set {cs : List T} {k : Nat} {t : T} (h : k + 1 ≤ cs.length) : (holes cs k 1).set k t = cs.set k t := by
 have hk : (cs.take k).length = k := by rw [List.length_take, Nat.min_eq_left (by omega)]
 have h2 : cs.set k t = cs.take k ++ t :: cs.drop (k + 1) := by rw [List.set_eq_take_append_cons_drop, if_pos (by omega)]
 rw [h2]
 unfold holes
 rw [List.set_append, if_neg (by omega), hk, Nat.sub_self]
 rfl
@[simp] theorem layT_zero {x : T} {cs c : List T} {n : Nat} : layT (x :: cs) 0 n c = c ++ (x :: cs).drop n := by simp [layT]
@[simp] theorem layT_succ {x : T} {cs c : List T} {k n : Nat} : layT (x :: cs) (k + 1) n c = x :: layT cs k n c := by simp [layT, Nat.add_right_comm]
theorem arr_take1 (h : E.w = 1) (n : Nat) : (arr E b l).take n = arr E b (l.take n) := by
 have := arr_take (E := E) (b := b) (l := l) n
 rwa [h, Nat.mul_one] at this
@[simp] theorem arrI_take {k : IntKind} {l : List Int} (n : Nat) : (arr (eInt k) b l).take n = arr (eInt k) b (l.take n) := arr_take1 rfl n
@[simp] theorem arrB_take {l : List Bool} (n : Nat) : (arr eB b l).take n = arr eB b (l.take n) := arr_take1 rfl n
@[simp] theorem arrS_take {l : List (List UInt8)} (n : Nat) : (arr eS b l).take n = arr eS b (l.take n) := arr_take1 rfl n
@[simp] theorem arrL_take {E : En α} {l : List (List α)} (n : Nat) : (arr (eL E) b l).take n = arr (eL E) b (l.take n) := arr_take1 rfl n
@[simp] theorem bits_and {k : IntKind} {x y : Int} : bitsOp .and k x y = some (band k x y) := rfl
@[simp] theorem bits_xor {k : IntKind} {x y : Int} : bitsOp .xor k x y = some (bxor k x y) := rfl
theorem shl_eq {k : IntKind} {x y : Int} (h : ¬ y < 0) : shI .shl k x y = some (.int k (sshl k x y)) := by unfold shI; rw [if_neg h]; rfl
theorem shr_eq {k : IntKind} {x y : Int} (h : ¬ y < 0) : shI .shr k x y = some (.int k (sshr k x y)) := by unfold shI; rw [if_neg h]; rfl
attribute [simp] shl_eq shr_eq binS
@[simp] theorem arrI_len {k : IntKind} {l : List Int} : (arr (eInt k) b l).length = l.length := by rw [arr_len]; simp [eInt]
@[simp] theorem arrB_len {l : List Bool} : (arr eB b l).length = l.length := by rw [arr_len]; simp [eB]
@[simp] theorem arrS_len {l : List (List UInt8)} : (arr eS b l).length = l.length := by rw [arr_len]; simp [eS]
@[simp] theorem arrL_len {E : En α} {l : List (List α)} : (arr (eL E) b l).length = l.length := by rw [arr_len]; simp [eL]
@[simp] theorem arrI_snoc {k : IntKind} {l : List Int} {n : Int} : arr (eInt k) b l ++ [.int k n] = arr (eInt k) b (l ++ [n]) := by rw [← arr_snoc]; rfl
@[simp] theorem arrB_snoc {l : List Bool} {n : Bool} : arr eB b l ++ [.bool n] = arr eB b (l ++ [n]) := by rw [← arr_snoc]; rfl
@[simp] theorem arrS_snoc {l : List (List UInt8)} {n : List UInt8} : arr eS b l ++ [.str n] = arr eS b (l ++ [n]) := by rw [← arr_snoc]; rfl
end Go.Proofs.YtabmomjfdondnaaH
namespace Go.Proofs.YtabmomjfdondnaaH
open Go Go.ChangeShapes
class Sz (α : Type) where
 ok : α → Prop
abbrev ok {α : Type} [Sz α] (a : α) : Prop := Sz.ok a
instance : Sz Int := ⟨fun n => -9223372036854775808 ≤ n ∧ n ≤ 9223372036854775807⟩
instance : Sz Bool := ⟨fun _ => True⟩
instance : Sz UInt8 := ⟨fun _ => True⟩
instance {α : Type} [Sz α] : Sz (List α) := ⟨fun l => l.length ≤ 9223372036854775807 ∧ ∀ a ∈ l, ok a⟩
section
variable {H : Type} {enc : TypeId × Value → H} {P : Program} {W : World} {held : Bool} {α : Type} [Sz α]
def Reads (enc : TypeId × Value → H) (P : Program) (W : World) (held : Bool) (E : En α) (t : TypeId) : Prop :=
 ∀ n cs y, DataW.trod enc P W 0 (fun _ => true) held n t cs = some y → ∃ a, RdVs W (E.c false a) cs ∧ ok a
theorem reads_int {k : IntKind} {t : TypeId} (ht : P.underlying t = some (.int k)) (hk : -9223372036854775808 ≤ k.min ∧ k.max ≤ 9223372036854775807 := by decide) : Reads enc P W held (eInt k) t := by
 intro n cs y h
 obtain ⟨m, rfl, _, hm⟩ := DataW.trod_int ht h
 simp only [Lit.wf, Bool.and_eq_true, decide_eq_true_eq] at hm
 exact ⟨m, by rw [eInt_c]; exact rdvs_one (by rw [RdV]), by have := hm.1; omega, by have := hm.2; omega⟩
theorem str_le {s : ByteArray} (h : s.size ≤ maxLen) : s.data.toList.length ≤ 9223372036854775807 := by
 rw [Array.length_toList]; exact h
theorem reads_str {t : TypeId} (ht : P.underlying t = some .string) : Reads enc P W held eS t := by
 intro n cs y h
 obtain ⟨s, rfl, _, hs⟩ := DataW.trod_string ht h
 exact ⟨s.data.toList, by rw [eS_c]; exact rdvs_one (by rw [RdV]; exact ⟨s, rfl, rfl⟩), str_le hs, fun _ _ => trivial⟩
theorem rdvs_drop {W : World} : ∀ {ts : List T} {vs : List Value}, RdVs W ts vs → vs.length = ts.length
 | [], vs, h => by rw [RdVs] at h; simp [h]
 | t :: ts, vs, h => by
  rw [RdVs] at h
  obtain ⟨v, vs', rfl, _, h2⟩ := h
  simp [rdvs_drop h2]
theorem rd_elems {E : En α} {a : Addr} : ∀ (n : Nat), (∀ i, i < n → ∃ x cs, RdVs W (E.c false x) cs ∧ ok x ∧ ∀ j, j < E.w → W.cell? (a.add (i * E.w + j)) = cs[j]?) →
  ∃ (l : List α) (vs : List Value), l.length = n ∧ vs.length = n * E.w ∧ (∀ j v, vs[j]? = some v → W.cell? (a.add j) = some v) ∧ RdVs W (arr E false l) vs ∧ ∀ x ∈ l, ok x
 | 0, _ => ⟨[], [], rfl, by simp, by simp, by rw [arr_nil, RdVs], by simp⟩
 | n + 1, h => by
  obtain ⟨l, vs, h1, h2, h3, h4, h5⟩ := rd_elems n fun i hi => h i (by omega)
  obtain ⟨x, cs, g1, g3, g2⟩ := h n (by omega)
  have hl := rdvs_drop g1
  rw [E.hw] at hl
  refine ⟨l ++ [x], vs ++ cs, by simp [h1], by rw [List.length_append, h2, hl, Nat.add_mul]; omega, ?_, by rw [← arr_snoc]; exact h4.append g1, by intro y hy; rw [List.mem_append, List.mem_singleton] at hy; rcases hy with hy | hy; exact h5 y hy; rw [hy]; exact g3⟩
  intro j v hj
  by_cases hlt : j < n * E.w
  ·rw [List.getElem?_append_left (by omega)] at hj; exact h3 j v hj
  ·rw [List.getElem?_append_right (by omega), h2] at hj
   have hjw : j - n * E.w < E.w := by
    have := (List.getElem?_eq_some_iff.1 hj).1; omega
   have := g2 (j - n * E.w) hjw
   rw [hj] at this
   rwa [show n * E.w + (j - n * E.w) = j by omega] at this
theorem cell_add {a : Addr} {i j : Nat} {v : Value} (h : W.cell? ((a.add i).add j) = some v) : W.cell? (a.add (i + j)) = some v := by
 unfold Addr.add at h ⊢
 by_cases hj : j = 0
 ·subst hj
  simpa using h
 ·by_cases hi : i = 0
  ·subst hi
   simpa [hj] using h
  ·rw [if_neg (by omega)]
   simp only [if_neg hi, if_neg hj] at h
   rw [Nat.add_assoc] at h
   exact h
theorem reads_slice {E : En α} {t e : TypeId} (ht : P.underlying t = some (.slice e)) (hc : P.cellsOf e = E.w) (one : Reads enc P W held E e) : Reads enc P W held (eL E) t := by
  intro fuel cs x h
  rcases DataW.trod_slice ht h with ⟨rfl, _⟩ | ⟨a, len, cap, elems, rest, n, _, rfl, _, hb, hl, hm, hlen, hel, hsp, hns⟩
  · refine ⟨[], ?_⟩
    rw [eL_cf]
    exact ⟨rdvs_one (by rw [RdV]; exact ⟨rfl, rfl, E.hp, .inl ⟨rfl, rfl, rfl⟩⟩), by simp, by simp⟩
  · have hw := E.hp
    have each : ∀ i, i < cap → ∃ x cs, RdVs W (E.c false x) cs ∧ ok x ∧ ∀ j, j < E.w → W.cell? (a.add (i * E.w + j)) = cs[j]? := by
      intro i hi
      have hb' : ∃ y, (W.cells? 0 (a.add (i * P.cellsOf e)) (P.cellsOf e)).bind (DataW.trod enc P W 0 (fun _ => true) held n e) = some y := by
        by_cases hil : i < len
        · exact ⟨elems[i]'(by omega), by rw [hel i hil, List.getElem?_eq_getElem (by omega)]⟩
        · obtain ⟨hrl, hr⟩ := hsp rfl
          have := hr (i - len) (by omega)
          rw [show len + (i - len) = i by omega] at this
          exact ⟨rest[i - len]'(by omega), by rw [this, List.getElem?_eq_getElem (by omega)]⟩
      obtain ⟨y, hy⟩ := hb'
      rw [Option.bind_eq_some_iff] at hy
      obtain ⟨cs', hcs', hy'⟩ := hy
      obtain ⟨x, hx, hx'⟩ := one _ _ _ hy'
      obtain ⟨_, c1, c2⟩ := World.cells?_some hcs'
      rw [hc] at c1 c2
      refine ⟨x, cs', hx, hx', fun j hj => ?_⟩
      have h1 := c2 j hj
      rw [List.getElem?_eq_getElem (by omega)] at h1 ⊢
      exact cell_add h1
    obtain ⟨l, vs, h1, h2, h3, h4, h5⟩ := rd_elems (a := a) (W := W) len fun i hi => each i (by omega)
    refine ⟨l, ?_, by have hm' : cap ≤ 9223372036854775807 := hm
                      omega, h5⟩
    rw [eL_cf]
    refine rdvs_one ?_
    rw [RdV]
    refine ⟨rfl, rfl, hw, .inr ⟨a, len, cap, rfl, hl, by rw [arr_len, h1], fun hcap => ?_, vs, by rw [h2, arr_len, h1], fun j w hj => ?_, h4⟩⟩
    · obtain ⟨x, cs', e1, _, e2⟩ := each 0 hcap
      have := e2 0 hw
      have hl := rdvs_drop e1
      rw [E.hw] at hl
      rw [List.getElem?_eq_getElem (by omega)] at this
      simp [Addr.add] at this
      exact spot_of_cell this
    · have e1 := h3 j w hj
      unfold Addr.add at e1
      split at e1
      · rename_i hj0; subst hj0
        have hs := spot_of_cell e1
        cases a; simp at hs; subst hs; simpa using e1
      · exact e1
end
end Go.Proofs.YtabmomjfdondnaaH
namespace Go.Proofs.YtabmomjfdondnaaH
open Go
def cloneB (tail : CCode) : CCode :=
 .seq (.reg false [(0, ⟨some 2, .mv (.c .nils), none, [], [2]⟩)])
  (.seq (.seq (.reg false [(0, ⟨some 3, .mv (.t 0), none, [], []⟩), (1, ⟨some 4, .isnil false (.t 3), none, [], [3]⟩)])
    (.cond (.t 4) (.seq (.kill [0, 4]) (.seq (.reg false [(0, ⟨some 2, .mv (.c .nils), none, [], []⟩)]) .ret)) (.seq (.kill [4]) .skip)))
   tail)
theorem clone_of {Tb : Nat → Option CFn} {X : Ext} {io : Nat → List Nat} {XV : Nat → List T → T → List T → Prop} {f n : Nat} {tail : CCode} {t0 t : T} {V' V2 : VEnv} {rts : List T} {ex : Ex}
  (hXV : ∀ f ts t outs, XV f ts t outs → CallOk Tb X io f ts t outs) (hT : Tb f = some ⟨n, 1, [.t 2], cloneB tail⟩) (hn : 5 ≤ n) (hio : io f = [])
  (hk : VJ Tb io XV (.co n tail [(0, .v t0)] ex V')) (hex : ex = .normal ∨ ex = .ret) (hres : resV V' [.t 2] = some (rts, V2)) (htup : tupT rts = t)
  (hnil : ∀ (H : Heap) (F : Nat → Prop) (ls : List Nat), Den H F .nils t0 ls → ls = [] ∧ Den H F .nils t [])
  (hsl : ∀ (H : Heap) (F : Nat → Prop) (v : AV) (ls : List Nat), Den H F v t0 ls → v = .nils ∨ ∃ l o n e x, v = .sl l o n e x) : CallOk Tb X io f [t0] t [] := by
 intro H F vs ls hd hnd hfz
 have hvl := hd.length
 match vs, hvl, hd with
 | [v], _, hd =>
 rw [dens_one] at hd
 have ev0 : ([v] ++ List.replicate (n - 1) AV.und).getD 0 .und = v := by simp
 have hl0 : ([v] ++ List.replicate (n - 1) AV.und).length = n := by simp; omega
 generalize henv : [v] ++ List.replicate (n - 1) AV.und = env0 at ev0 hl0
 have ga : J Tb X (.co (.reg false [(0, ⟨some 2, .mv (.c .nils), none, [], [2]⟩)]) env0 H .normal (env0.set 2 .nils) H) :=
  .reg (.opDo rfl rfl rfl (fun s n h => by simp at h) .opNil)
 generalize he1 : env0.set 2 .nils = env1 at ga
 have ev1 : env1.getD 0 .und = v := by
  rw [← he1, List.getD_eq_getElem?_getD, List.getElem?_set_ne (by omega), ← List.getD_eq_getElem?_getD]; exact ev0
 have hl1 : env1.length = n := by rw [← he1]; simp [hl0]
 have gb : ∀ b, pureOp (env1.set 3 v) (.isnil false (.t 3)) = some (.bool b) →
   J Tb X (.co (.reg false [(0, ⟨some 3, .mv (.t 0), none, [], []⟩), (1, ⟨some 4, .isnil false (.t 3), none, [], [3]⟩)]) env1 H .normal ((env1.set 3 v).set 4 (.bool b)) H) := by
  intro b hb
  refine .reg (.opDo (v := v) (H1 := H) rfl rfl ?_ (fun s n h => by simp at h) (.opDo (v := .bool b) (H1 := H) rfl rfl ?_ (fun s n h => by simp at h) .opNil))
  ·simp only [heapOp, pureOp, Opd.ev, ev1, Option.map_some]
  ·simp only [heapOp]
   show (pureOp (env1.set 3 v) (.isnil false (.t 3))).map _ = _
   rw [hb]; rfl
 have ev3 : (env1.set 3 v).getD 3 .und = v := by
  rw [List.getD_eq_getElem?_getD, List.getElem?_set_self (by omega)]; rfl
 have ev4 : ∀ b, ((env1.set 3 v).set 4 (.bool b)).getD 4 .und = .bool b := fun b => by
  rw [List.getD_eq_getElem?_getD, List.getElem?_set_self (by simp; omega)]; rfl
 rcases hsl H F v ls hd with hv | ⟨l, o, k, e, x, hv⟩
 ·subst hv
  obtain ⟨rfl, hd2⟩ := hnil H F ls hd
  have hb : pureOp (env1.set 3 .nils) (.isnil false (.t 3)) = some (.bool true) := by simp only [pureOp, Opd.ev, ev3]; rfl
  refine ⟨.nils, H, F, [], ?_, hfz, ?_, List.nodup_nil, ?_⟩
  ·refine .call hT rfl (by show 1 ≤ n; omega) (env' := (killT ((env1.set 3 .nils).set 4 (.bool true)) [0, 4]).set 2 .nils) (H' := H) (ex := .ret) ?_ (.inr rfl) ?_
   ·show J Tb X (.co (cloneB tail) ([AV.nils] ++ List.replicate (n - 1) AV.und) H .ret _ H)
    rw [henv]
    refine .seqN ga (.seqX (by simp) (.seqN (gb true hb) (.condT ?_ (.seqN .kill (.seqN (.reg (.opDo (v := .nils) (H1 := H) rfl rfl rfl (fun s n h => by simp at h) .opNil)) .ret)))))
    simp only [Opd.ev]; exact ev4 true
   ·have : ((killT ((env1.set 3 .nils).set 4 (.bool true)) [0, 4]).set 2 AV.nils).getD 2 .und = .nils := by
     rw [List.getD_eq_getElem?_getD, List.getElem?_set_self (by simp [killT]; omega)]; rfl
    simp only [results, List.mapM_cons, List.mapM_nil, resOf, this]; rfl
  ·rw [hio, ioSel_nil, dens_one]; exact hd2
  ·exact Tr.refl _ _ _
 ·have hb : pureOp (env1.set 3 v) (.isnil false (.t 3)) = some (.bool false) := by simp only [pureOp, Opd.ev, ev3]; rw [hv]
  generalize he4 : killT ((env1.set 3 v).set 4 (.bool false)) [4] = env4
  have hl4 : env4.length = n := by rw [← he4, killT_len]; simp [hl1]
  have e40 : env4.getD 0 .und = v := by
   rw [← he4]
   simp only [killT, List.foldl_cons, List.foldl_nil]
   rw [List.getD_eq_getElem?_getD, List.getElem?_set_ne (by omega), List.getElem?_set_ne (by omega), List.getElem?_set_ne (by omega), ← List.getD_eq_getElem?_getD]; exact ev1
  have s0 : Sta H F env4 [] (fun _ => []) := ⟨hfz, fun s => by simp only [VEnv.get, SR]; rw [Den], fun s => List.nodup_nil, by simp, fun s _ => rfl⟩
  have s1 := s0.fill (s := 0) (t := t0) (l1 := ls) rfl (by omega) (by rw [e40]; exact hd) hnd (fun q l _ h => by simp at h)
  obtain ⟨env', H', F', Lf', h1, h2, h3, h4⟩ := vsound hXV hk H F env4 _ hl4 s1
  obtain ⟨rvs, m1, Lf1, e1, e2, e3⟩ := res_ok' h3 Lo.nil hres
  simp only [List.nil_append] at e2
  obtain ⟨w, hw1, hw2⟩ := results_eq e1 e2.lo.den
  refine ⟨w, H', F', m1, .call hT rfl (by show 1 ≤ n; omega) (ex := ex) ?_ hex hw1, h3.fz, ?_, e2.lo.nd, ?_⟩
  ·show J Tb X (.co (cloneB tail) ([v] ++ List.replicate (n - 1) AV.und) H ex _ _)
   rw [henv]
   refine .seqN ga (.seqN (.seqN (gb false hb) (.condF (by simp only [Opd.ev]; exact ev4 false) (.seqN .kill .skip))) ?_)
   rw [he4]; exact h1
  ·rw [hio, ioSel_nil, dens_one]; exact htup ▸ hw2
  ·have h0 : ∀ l, Pl (upL (fun _ => []) 0 ls) l → l ∈ ls := fun l ⟨s, hl⟩ => by
    unfold upL at hl; split at hl
    ·exact hl
    ·simp at hl
   refine ⟨h4.sz, fun l hl hn => h4.fr l hl fun hp => hn (h0 l hp), fun l hl => ?_, h4.fm, fun l hl => ?_⟩
   ·exact (h4.pl l (e3 l hl)).imp (h0 l) id
   ·exact (h4.fp l hl).imp id (Or.imp (h0 l) id)
theorem cl_nil {α : Type} {E : En α} {b : Bool} {l : List α} (H : Heap) (F : Nat → Prop) (ls : List Nat) (h : Den H F .nils (ssl E l) ls) : ls = [] ∧ Den H F .nils (osl E b l) [] := by
 rw [Den] at h
 rcases h with ⟨h1, h2, h3, h4, h5⟩ | ⟨_, _, _, _, h, _⟩
 ·have : l = [] := by
   have h6 := congrArg List.length h2
   rw [arr_len] at h6
   simp only [List.length_nil, Nat.mul_eq_zero] at h6
   rcases h6 with h6 | h6
   ·exact List.length_eq_zero_iff.1 h6
   ·omega
  subst this
  refine ⟨h4, ?_⟩
  rw [Den]
  exact .inl ⟨rfl, by simp, .inl rfl, rfl, h5⟩
 ·cases h
theorem cl_sl {α : Type} {E : En α} {l : List α} (H : Heap) (F : Nat → Prop) (v : AV) (ls : List Nat) (h : Den H F v (ssl E l) ls) : v = .nils ∨ ∃ l o n e x, v = .sl l o n e x := by
 rw [Den] at h
 rcases h with ⟨_, _, h3, _, _⟩ | ⟨l, o, n, cs, h, _⟩
 ·rcases h3 with h3 | ⟨l, o, h3⟩
  ·exact .inl h3
  ·exact .inr ⟨_, _, _, _, _, h3⟩
 ·exact .inr ⟨_, _, _, _, _, h⟩
theorem cl_eq {α : Type} {bs : Nat} {l r : List α} (h : ((app bs [] l).bind fun x => some x) = some r) : r = l := by
 unfold app at h
 split at h
 ·simpa using h.symm
 ·simp at h
theorem ca_clone {x : Cx} {X : Ext} {α : Type} {E : En α} {b : Bool} {l r : List α} {f nt : Nat} {tail : CCode} {outs : List T}
  (hx1 : ∀ f ts t outs, CallOk x.fns X x.io f ts t outs → x.X f ts t outs) (hx2 : ∀ f ts t outs, x.X f ts t outs → CallOk x.fns X x.io f ts t outs)
  (hf : x.fns f = some ⟨nt, 1, [.t 2], cloneB tail⟩) (hn : 5 ≤ nt) (hio : x.io f = []) (hr : r = l)
  (h : Wc x nt tail (startV 0 [ssl E l] []) fun ex V' => (ex = .normal ∨ ex = .ret) ∧ ∃ rts V2 V3, resV V' [.t 2] = some (rts, V2) ∧ takesV V2 (ioOpds (x.io f) 1) = some (outs, V3) ∧ tupT rts = osl E b r) : VJx x (.ca f [ssl E l] (osl E b r) outs) := by
 subst hr
 obtain ⟨ex, V', h1, hex, rts, V2, V3, h2, h3, h4⟩ := h
 have : outs = [] := by
  rw [hio] at h3
  have e : ioOpds [] 1 = [] := ioSel_nil _ _
  rw [e] at h3
  simp only [takesV, Option.some.injEq, Prod.mk.injEq] at h3
  exact h3.1.symm
 subst this
 exact VJ.ext (hx1 _ _ _ _ (clone_of hx2 hf hn hio h1 hex h2 h4 cl_nil cl_sl))
@[simp] theorem wrap_u8_nonneg {n : Int} : 0 ≤ IntKind.u8.wrap n := by unfold IntKind.wrap IntKind.signed IntKind.bits; simp; omega
@[simp] theorem wrap_u8_lt {n : Int} : IntKind.u8.wrap n < 256 := by unfold IntKind.wrap IntKind.signed IntKind.bits; simp; omega
theorem cut_arr {α : Type} {E : En α} {b : Bool} {l v : List α} {lo hi : Int} (h : cutL l lo hi = some v) : ((arr E b l).take (hi.toNat * E.w)).drop (lo.toNat * E.w) = arr E b v := by
 rw [arr_take, arr_drop, (cut_some h).2.2.2]
end Go.Proofs.YtabmomjfdondnaaH
namespace Go.Proofs.YtabmomjfdondnaaH
open Go Go.ChangeShapes
section
variable {H : Type} {enc : TypeId × Value → H} {P : Program} {W : World} {held : Bool}
def Fld (P : Program) (fs : Array Field) (i : Nat) (t : TypeId) (o w : Nat) : Prop := ∃ f, fs[i]? = some f ∧ f.type = t ∧ f.offset = o ∧ P.cellsOf t = w
theorem read_fld {α : Type} [Sz α] {E : En α} {ft : TypeId} {fs : Array Field} {i o w : Nat} {n : Nat} {cs : List Value} {xs : List (DataW H × List MemPlace)} (hf : Fld P fs i ft o w) (hr : Reads enc P W held E ft) (hi : i < xs.length)
  (h : ∀ (i : Nat) (f : Field), fs[i]? = some f → DataW.trod enc P W 0 (fun _ => true) held n f.type ((cs.drop f.offset).take (P.cellsOf f.type)) = xs[i]?) : ∃ a, RdVs W (E.c false a) ((cs.drop o).take w) ∧ ok a := by
 obtain ⟨f, h1, rfl, rfl, rfl⟩ := hf
 have h2 := h i f h1
 rw [List.getElem?_eq_getElem hi] at h2
 exact hr _ _ _ h2
theorem cells_split {cs : List Value} {o w : Nat} (h : o + w ≤ cs.length) : cs.drop o = (cs.drop o).take w ++ cs.drop (o + w) := by
 conv => lhs; rw [← List.take_append_drop w (cs.drop o)]
 rw [List.drop_drop]
theorem rdvs_agg {ts : List T} {cs : Array Value} (h : RdVs W ts (Value.cells (.agg cs)).toList) : RdVs W [.agg ts] [.agg cs] := by
 refine rdvs_one ?_
 rw [RdV]
 exact ⟨_, rfl, h⟩
end
end Go.Proofs.YtabmomjfdondnaaH
namespace Go.Proofs.YtabmomjfdondnaaH
open Go
variable {x : Cx} {n : Nat} {V V1 : VEnv} {Q : Ex → VEnv → Prop}
theorem Wo.sem {i : Nat} {o : COper} {ops : List (Nat × COper)} {Q : VEnv → Prop} {r : RV} {V1 V2 : VEnv} (hg : gV V o.guard = some true) (hd : dstLt n o.dst = true) (hu : needUs V o = true) (hs : SemOp V o.op V1 r) (hp : putR V1 o.dst r = some V2) (h : Wo x n ops (V2.drops o.ks) Q) : Wo x n ((i, o) :: ops) V Q := by
 obtain ⟨V', h1, h2⟩ := h
 exact ⟨V', .opSem hg hd hu hs hp h1, h2⟩
theorem Wo.lend {k : Nat} {ops : List (Nat × COper)} {Q : VEnv → Prop} {s : Nat} {t : T} (asd : List Nat) (V2 : VEnv) (hs : V.get s = .v t) (hu : t ≠ .und) (hw : (opsWrs (ops.take k)).contains s = false)
  (h : Wo x n (ops.take k) (((unroot s V).set s (.v t.frz)).drops asd) (fun V1 => Unl s t (opsWrs (ops.take k)) asd V V1 V2)) (h2 : Wo x n (ops.drop k) V2 Q) : Wo x n ops V Q := by
 obtain ⟨V1, h3, h4⟩ := h
 obtain ⟨V', h5, h6⟩ := h2
 refine ⟨V', ?_, h6⟩
 have := VJ.lendO (ops2 := ops.drop k) asd hs hu h3 hw h4 h5
 rwa [List.take_append_drop] at this
theorem Wo.rew {i : Nat} {o : COper} {ops : List (Nat × COper)} {Q : VEnv → Prop} {s f : Nat} {xs : List Opd} {avs : List AV} {u : T} (ss : List Nat) (hop : o.op = .callv (.t s) xs) (hs : V.get s = .v (.at (.fn f avs) u)) (hc : AtCaps V avs ss)
  (h : Wo x n ((i, { o with op := .call f (xs ++ ss.map Opd.t) }) :: ops) V Q) : Wo x n ((i, o) :: ops) V Q := by
 obtain ⟨V', h1, h2⟩ := h
 exact ⟨V', .rew hop rfl hs hc h1, h2⟩
attribute [simp] Unl opsWrs AtCaps
theorem sem_slide {e : Nat} {x lo : Opd} {cs : List T} {a : Nat} {V2 : VEnv} (ht : takeV V x = some (.slo e cs, V2)) (hl : sca V lo = .int .i64 a) (ha : a * e ≤ cs.length) : SemOp V (.sls e x (some lo) none none) V2 (.v (.slo e (cs.drop (a * e)))) := by
 intro H F env Lf h
 have hev : lo.ev env = .int .i64 a := sca_ev h hl (by simp)
 obtain ⟨ls, Lf', k1, p1⟩ := take_ok h Lo.nil ht
 have hlo := k1.lo
 simp only [List.nil_append] at hlo
 have hd := dens_one.1 hlo.den
 have htr : ∀ {m : List Nat}, (∀ l ∈ m, l ∈ ls) → Tr H F (Pl Lf) H F (fun l => Pl Lf' l ∨ l ∈ m) := fun hm =>
  ⟨Nat.le_refl _, fun _ _ _ => rfl, fun l hq => .inl (hq.elim (fun ⟨q, hq⟩ => ⟨q, k1.sub q l hq⟩) fun hq => p1 l (hm l hq)), fun _ h => h, fun _ h => .inl h⟩
 rw [Den] at hd
 rcases hd with ⟨rfl, hv, hls, he⟩ | ⟨l, o, m, avs, pre, l1, hv, he, hm, hl2, h4, h5, h6, h7, h8, h9⟩
 ·have ha0 : a = 0 := by
   simp only [List.length_nil, Nat.le_zero_eq] at ha
   rcases Nat.mul_eq_zero.1 ha with h | h <;> omega
  subst ha0
  have hb : obnd env 0 0 (some lo) = some 0 := by simp only [obnd, hev, bnd]; rfl
  rcases hv with hv | ⟨l, o, hv⟩
  ·refine ⟨.nils, H, Lf', [], ?_, k1.st, htr (by simp), Lo.plain ?_⟩
   ·simp only [heapOp, pureOp, hv, hb]; rfl
   ·rw [Den]; exact .inl ⟨by simp, .inl rfl, rfl, he⟩
  ·refine ⟨.sl l (o + 0 * e) 0 e true, H, Lf', [], ?_, k1.st, htr (by simp), Lo.plain ?_⟩
   ·simp only [heapOp, pureOp, hv]
    rw [if_neg (by omega)]
    simp only [obnd] at hb
    simp only [hb, obnd]
    simp
   ·rw [Den]; exact .inl ⟨by simp, .inr ⟨_, _, rfl⟩, rfl, he⟩
 ·have hcl := h9.length
  have ham : a ≤ m := by
   rw [← hcl, hm] at ha
   exact Nat.le_of_mul_le_mul_right ha he
  have hb : obnd env m 0 (some lo) = some a := by simp only [obnd, hev, bnd]; rw [if_pos (by omega)]; simp
  have hcs : cs = cs.take (a * e) ++ cs.drop (a * e) := (List.take_append_drop _ _).symm
  rw [hcs] at h9
  obtain ⟨a1, a2, m1, m2, rfl, rfl, d1, d2⟩ := h9.split
  have hl1 : a1.length = a * e := by rw [d1.length, List.length_take]; omega
  have hnd := hlo.nd
  have hdj := hlo.dj
  rw [h8] at hnd hdj
  refine ⟨.sl l (o + a * e) (m - a) e false, H, Lf', l :: m2, ?_, k1.st, htr (by intro k hk; rw [h8]; simp at hk ⊢; grind), ?_, ?_, ?_⟩
  ·simp only [heapOp, pureOp, hv]
   rw [if_neg (by omega)]
   simp only [obnd] at hb
   simp only [obnd, hb]
   simp
  ·rw [dens_one, Den]
   refine .inr ⟨l, o + a * e, m - a, a2, pre ++ a1, m2, rfl, he, ?_, hl2, h4, h5, by simpa using h6, by simp; omega, rfl, d2⟩
   rw [List.length_append, hl1] at hm
   rw [Nat.sub_mul]; omega
  ·refine List.Sublist.nodup ?_ hnd
   exact List.Sublist.cons_cons _ (List.sublist_append_right _ _)
  ·exact fun s' k hk => hdj s' k (by simp at hk ⊢; grind)
theorem sem_slideL {α : Type} {E : En α} {x lo : Opd} {l v : List α} {i n : Int} {V2 : VEnv} (h : cutL l i n = some v) (hn : n = l.length) (ht : takeV V x = some (.slo E.w (arr E true l), V2)) (hl : sca V lo = .int .i64 i) : SemOp V (.sls E.w x (some lo) none none) V2 (.v (.slo E.w (arr E true v))) := by
 obtain ⟨h1, h2, h3, h4⟩ := cut_some h
 obtain ⟨a, rfl⟩ : ∃ a : Nat, i = a := ⟨i.toNat, by omega⟩
 have := sem_slide (V := V) (a := a) ht hl (by rw [arr_len]; exact Nat.mul_le_mul_right _ (by omega))
 rw [arr_drop] at this
 rw [← h4, hn]
 simpa using this
theorem sem_slen {e s : Nat} {x : Opd} {cs : List T} (hx : x = .t s) (hs : see V (.t s) = some (.slo e cs)) : SemOp V (.len x) V (.v (.int .i64 (cs.length / e : Nat))) := by
 intro H F env Lf h
 subst hx
 obtain ⟨ls, hd⟩ := see_ok h hs
 rw [Den] at hd
 rcases hd with ⟨rfl, hv, _, he⟩ | ⟨l, o, m, avs, pre, l1, hv, he, hm, _, _, _, _, _, _, h9⟩
 ·have hz : ((([] : List T).length / e : Nat) : Int) = 0 := by simp
  rw [hz]
  rcases hv with hv | ⟨l, o, hv⟩
  ·exact Out.plain h (v := .int .i64 0) (by simp only [heapOp, pureOp, hv, lenA]; rfl) (by rw [Den]; exact ⟨rfl, rfl⟩)
  ·exact Out.plain h (v := .int .i64 0) (by simp only [heapOp, pureOp, hv, lenA]; rfl) (by rw [Den]; exact ⟨rfl, rfl⟩)
 ·refine Out.plain h (v := .int .i64 m) (by simp only [heapOp, pureOp, hv, lenA]; rfl) ?_
  have hq : cs.length / e = m := by rw [← h9.length, hm, Nat.mul_div_cancel _ he]
  rw [hq]
  simp [Den]
theorem sem_slenL {α : Type} {E : En α} {x : Opd} {l : List α} (hs : see V x = some (.slo E.w (arr E true l))) : SemOp V (.len x) V (.v (.int .i64 l.length)) := by
 cases x with
 | c a =>
  exfalso
  simp only [see] at hs
  unfold T.ofAV at hs
  split at hs <;> simp at hs
 | t s =>
  have := sem_slen (V := V) (s := s) rfl hs
  rwa [arr_len, Nat.mul_div_cancel _ E.hp] at this
theorem TLe.slo {y : Bool} {e : Nat} {cs cs1 : List T} (h : cs = cs1) : TLe (.sl true y e 0 cs) (.slo e cs1) := by
 subst h
 intro H F v ls hd
 rw [Den] at hd
 rw [Den]
 rcases hd with ⟨h1, rfl, hv, rfl, he⟩ | ⟨l, o, n, avs, rfl, he, hn, hl, hd⟩
 ·exact .inl ⟨rfl, hv, rfl, he⟩
 ·rcases hd with ⟨_, rfl, h4, h5, ⟨rest, h6, h7⟩, l1, rfl, h8⟩ | ⟨h1, _⟩
  ·have : rest = [] := List.eq_nil_of_length_eq_zero (by omega)
   subst this
   exact .inr ⟨l, 0, n, avs, [], l1, rfl, he, hn, hl, h4, h5, by simpa using h6, rfl, rfl, h8⟩
  ·cases h1
theorem sem_sapp {e bs : Nat} {s x : Opd} {V1 V2 : VEnv} {ys cs : List T} (hm : moreV V e x = some (ys, V1)) (ht : takeV V1 s = some (.slo e cs, V2)) (hy0 : ys.length ≠ 0) (hg : ¬ (e = 0 ∨ bs = 0 ∨ ys.all T.one = false))
    (hroom : (cs.length / e + ys.length / e) * bs ≤ room) : SemOp V (.app e bs s x) V2 (.v (.sl true false e 0 (cs ++ ys))) := by
  intro H F env Lf h
  obtain ⟨n, avs, l1, Lf1, hcell, hlen, k1, p1⟩ := more_ok h hm
  have hyl : ys.length = avs.length := k1.lo.den.length.symm
  obtain ⟨l2, Lf2, k2, p2⟩ := take_ok k1.st k1.lo ht
  obtain ⟨b1, b2, n1, n2, hb, hn, e1, e2⟩ := k2.lo.den.split
  have hbl : b1.length = avs.length := by rw [e1.length, hyl]
  obtain ⟨rfl, rfl⟩ := List.append_inj hb hbl.symm
  have e2' := dens_one.1 e2
  have hndl : (n1 ++ n2).Nodup := by rw [← hn]; exact k2.lo.nd
  have hdjl : ∀ s l, l ∈ n1 ++ n2 → l ∉ Lf2 s := by rw [← hn]; exact k2.lo.dj
  have hsub : ∀ s l, l ∈ Lf2 s → l ∈ Lf s := fun s l hm => k1.sub s l (k2.sub s l hm)
  have hpl : ∀ l ∈ n1 ++ n2, ∃ s, l ∈ Lf s := by
    intro l hm
    rw [← hn] at hm
    rcases List.mem_append.1 hm with hm | hm
    · exact p1 l hm
    · obtain ⟨s, hs⟩ := p2 l hm; exact ⟨s, k1.sub s l hs⟩
  have hnd2 : n2.Nodup := (List.nodup_append.1 hndl).2.1
  have hdj2 : ∀ s l, l ∈ n2 → l ∉ Lf2 s := fun s l hm => hdjl s l (by simp [hm])
  obtain ⟨hal, hepos⟩ : avs.length = n * e ∧ 0 < e := by
    rcases hlen with ⟨_, h2⟩ | h2
    · rw [h2] at hyl; simp at hyl; exact absurd (by simp [hyl]) hy0
    · exact h2
  have hk : ys.length / e = n := by rw [hyl, hal, Nat.mul_div_cancel _ hepos]
  have hn0 : n ≠ 0 := by rintro rfl; rw [hal] at hyl; simp at hyl; exact hy0 (by simp [hyl])
  have hbs : bs ≠ 0 := fun e => hg (.inr (.inl e))
  have hones : ys.all T.one = true := by
    cases hh : ys.all T.one with
    | true => rfl
    | false => exact absurd (.inr (.inr hh)) hg
  have hao : avs.all AV.one = true := e1.ones hones
  have hgg : ¬ (e = 0 ∨ bs = 0 ∨ (!(avs.all AV.one)) = true) := by
    rw [hao]; simp; omega
  rw [hk] at hroom
  rw [Den] at e2'
  rcases e2' with ⟨rfl, hs0, rfl, _⟩ | ⟨l, p, n', cavs, pre, l3, hs, _, hn', hl, hst, hnF, hc1, hc2, rfl, hdc⟩
  · simp only [List.length_nil, Nat.zero_div, Nat.zero_add] at hroom
    obtain ⟨a1, a2, a3, a4, a5, a6, a7, a8⟩ := alloc_ok (Lf := Lf) (l1 := n1) ⟨k2.st, ⟨e1, (List.nodup_append.1 hndl).1, fun s l hm => hdjl s l (by simp [hm])⟩, hsub⟩ fun l hm => hpl l (by simp [hm])
    refine ⟨.sl H.sz 0 n e false, H.new avs, Lf2, H.sz :: n1, ?_, a1, a8, dens_one.2 ?_, a6, a7⟩
    · rcases hs0 with hs | ⟨l, p, hs⟩
      · simp only [heapOp, hcell, Option.bind_some, if_neg hn0, if_neg hgg, hs, if_pos hroom]
      · simp only [heapOp, hcell, Option.bind_some, if_neg hn0, if_neg hgg, hs]
        rw [if_neg (by rw [Nat.zero_add]; omega : ¬ (e ≠ e ∨ (0 + n) * bs > room))]
        simp [Heap.rd0]
    · rw [List.nil_append, Den]
      exact .inr ⟨H.sz, 0, n, avs, by simp, hepos, hal, a3, .inl ⟨rfl, rfl, by rw [a4], a5, ⟨[], by rw [a4]; simp, by simp⟩, n1, rfl, a2⟩⟩
  · have hcl : cs.length / e = n' := by rw [← hdc.length, hn', Nat.mul_div_cancel _ hepos]
    rw [hcl] at hroom
    have hrd : H.rd l p (n' * e) = some cavs := by
      unfold Heap.rd
      rw [if_pos ⟨by rw [hst]; simp, hl, by rw [hc1]; simp; omega⟩, hc1, ← hc2, List.drop_left, ← hn', List.take_length]
    have hpre : heapOp env H (.app e bs s x) = (if p + (n' + n) * e ≤ (H.get l).cells.length then (H.wr l (p + n' * e) avs).map fun H' => (AV.sl l p (n' + n) e false, H')
        else if p + n' * e = (H.get l).cells.length ∧ (H.get l).st = .own then some (.sl H.sz 0 (n' + n) e false, (H.kill l).new (cavs ++ avs)) else none) := by
      simp only [heapOp, hcell, Option.bind_some, if_neg hn0, if_neg hgg, hs]
      rw [if_neg (by omega : ¬ (e ≠ e ∨ (n' + n) * bs > room))]
      simp only [rd0_of hrd, Option.bind_some, Bool.false_eq_true, if_false]
    have hclen : (H.get l).cells.length = p + n' * e := by rw [hc1, List.length_append, hn', hc2]
    have hln1 : l ∉ n1 := by
      intro hm
      exact (List.nodup_append.1 hndl).2.2 l hm l (by simp) rfl
    have hll3 : l ∉ l3 := (List.nodup_cons.1 hnd2).1
    have hlL : ∀ s, l ∉ Lf2 s := fun s => hdj2 s l (by simp)
    have hnofit : ¬ (p + (n' + n) * e ≤ (H.get l).cells.length) := by
      rw [hclen, Nat.add_mul]
      have : 0 < n * e := Nat.mul_pos (by omega) hepos
      omega
    have hH : ∀ k, k ≠ l → k < H.sz → ((H.kill l).new (cavs ++ avs)).get k = H.get k := fun k hk hlt => by simp [Heap.new, Heap.kill, hk, Nat.ne_of_lt hlt]
    have hFs : ¬ F H.sz := fun hf => Nat.lt_irrefl _ (k2.st.fz _ hf).1
    have hag : ∀ ls', (∀ k ∈ ls', k ≠ l ∧ k < H.sz ∧ ¬ F k) → Agree H ((H.kill l).new (cavs ++ avs)) F F ls' := fun ls' hls' =>
      ⟨by simp [Heap.new, Heap.kill], fun k hk => ⟨hH k (fun e => by subst e; exact hnF hk) (k2.st.fz k hk).1, hk⟩, fun k hk => ⟨hH k (hls' k hk).1 (hls' k hk).2.1, (hls' k hk).2.2⟩⟩
    have hown : ∀ s k, k ∈ Lf2 s → k < H.sz ∧ ¬ F k := by
      intro s k hk
      have hsr := k2.st.sr s
      cases hx : V2.get s with
      | v t => rw [hx] at hsr; have := Den.owned hsr k hk; exact ⟨this.1, this.2.2⟩
      | al | ref | adr | clo => rw [hx] at hsr; have := hsr.1; rw [this] at hk; simp at hk
    have hlow : ∀ k ∈ l3 ++ n1, k < H.sz ∧ ¬ F k ∧ k ≠ l := by
      intro k hk
      rcases List.mem_append.1 hk with hk | hk
      · exact ⟨(hdc.owned k hk).1, (hdc.owned k hk).2.2, fun e => by subst e; exact hll3 hk⟩
      · exact ⟨(e1.owned k hk).1, (e1.owned k hk).2.2, fun e => by subst e; exact hln1 hk⟩
    refine ⟨.sl H.sz 0 (n' + n) e false, _, Lf2, H.sz :: (l3 ++ n1), by rw [hpre, if_neg hnofit, if_pos ⟨by rw [hclen], hst⟩], k2.st.heap (fun s => hag _ fun k hk => ⟨fun e => by subst e; exact hlL s hk, hown s k hk⟩) (fun k hk => ?_), ⟨by simp [Heap.new, Heap.kill], fun k hlt hk => hH k (fun e => ?_) hlt, fun k hk => ?_, fun _ h => h, fun _ h => .inl h⟩, dens_one.2 ?_, ?_, ?_⟩
    · rw [hH k (fun e => by subst e; exact hnF hk) (k2.st.fz k hk).1]
      exact ⟨by simp [Heap.new, Heap.kill]; exact Nat.lt_succ_of_lt (k2.st.fz k hk).1, (k2.st.fz k hk).2⟩
    · subst e; exact hk (hpl k (by simp))
    · rcases hk with ⟨s, hk⟩ | hk
      · exact .inl ⟨s, hsub s k hk⟩
      · rcases List.mem_cons.1 hk with rfl | hk
        · exact .inr (Nat.le_refl _)
        · exact .inl (hpl k (by simp at hk ⊢; grind))
    · rw [Den]
      refine .inr ⟨H.sz, 0, n' + n, cavs ++ avs, by simp, hepos, by rw [List.length_append, hn', hal, Nat.add_mul], by simp [Heap.new, Heap.kill], .inl ⟨rfl, rfl, by simp [Heap.new, Heap.kill], hFs, ⟨[], by simp [Heap.new, Heap.kill], by simp⟩, l3 ++ n1, rfl, ?_⟩⟩
      exact (hdc.agree (hag _ fun k hk => by have := hlow k (by simp [hk]); exact ⟨this.2.2, this.1, this.2.1⟩)).append (e1.agree (hag _ fun k hk => by have := hlow k (by simp [hk]); exact ⟨this.2.2, this.1, this.2.1⟩))
    · refine List.nodup_cons.2 ⟨fun hm => Nat.lt_irrefl _ (hlow _ hm).1, ?_⟩
      simp only [List.nodup_append, List.nodup_cons, List.mem_append, List.mem_cons] at hndl ⊢
      grind
    · intro s k hk hk'
      rcases List.mem_cons.1 hk with rfl | hk
      · exact Nat.lt_irrefl _ (hown s _ hk').1
      · exact hdjl s k (by simp at hk ⊢; grind) hk'
theorem sem_appm {e bs : Nat} {zs : List AV} {zt : List T} {s x : Opd} {n : Int} (hs : see V s = some .nils) (hx : sca V x = .int .i64 n) (hz : ofAVs zs = some zt) (hl : zs.length = e) (he : 0 < e) (hb : 0 < bs) (h0 : 0 < n) (hr : n.toNat * bs ≤ room) :
  SemOp V (.appm e bs zs s x) V (.v (.sl true false e 0 (List.replicate n.toNat zt).flatten)) := by
 intro H F env Lf h
 have hev : x.ev env = .int .i64 n := sca_ev h hx (by simp)
 obtain ⟨ls, hd⟩ := see_ok h hs
 rw [Den] at hd
 have hzd := (ofAVs_ok (H := H) (F := F) hz).1
 have hfl := dens_flat hzd n.toNat
 obtain ⟨a1, a2, a3, a4, a5, a6, a7, a8⟩ := alloc_ok (Took.nil h hfl) (by simp)
 refine ⟨.sl H.sz 0 n.toNat e false, H.new (List.replicate n.toNat zs).flatten, Lf, [H.sz], ?_, a1, a8, dens_one.2 ?_, a6, a7⟩
 ·simp only [heapOp, hd.1, hev, if_pos (show 0 < n ∧ n.toNat * bs ≤ room ∧ zs.length = e ∧ 0 < e ∧ 0 < bs from ⟨h0, hr, hl, he, hb⟩)]
 ·rw [Den]
  exact .inr ⟨H.sz, 0, n.toNat, _, by simp, he, by rw [flat_len, hl], a3, .inl ⟨rfl, rfl, by rw [a4], a5, ⟨[], by rw [a4]; simp, by simp⟩, [], rfl, a2⟩⟩
theorem sem_front {e s k : Nat} {hi : Opd} {y : Bool} {cs : List T} (hs : V.get s = .v (.sl true y e 0 cs)) (hh : sca V hi = .int .i64 0) (hk : cs.length = k * e) (hk0 : 0 < k) (he : 0 < e) : SemOp V (.sls e (.t s) none (some hi) none) (V.drop s) (.v (.sl true true e k [])) := by
 intro H F env Lf h
 have hev : hi.ev env = .int .i64 0 := sca_ev h hh (by simp)
 have hd := h.den hs
 have hsub : ∀ s' l, l ∈ upL Lf s [] s' → l ∈ Lf s' := by
  intro s' l hm
  unfold upL at hm
  split at hm
  ·simp at hm
  ·exact hm
 rw [Den] at hd
 rcases hd with ⟨_, rfl, _⟩ | ⟨l, o, m, avs, hv, _, hm, hl2, hd⟩
 ·have := Nat.mul_pos hk0 he
  simp at hk; omega
 ·rcases hd with ⟨_, h3, h4, h5, ⟨rest, h6, h7⟩, l1, h8, h9⟩ | ⟨h1, _⟩
  ·subst h3
   have hmk : m = k := by
    have := h9.length
    rw [hm, hk] at this
    exact Nat.eq_of_mul_eq_mul_right he this
   subst hmk
   refine ⟨.sl l 0 0 e false, H, upL Lf s [], [l], ?_, h.drop s env rfl (fun _ _ => rfl), ⟨Nat.le_refl _, fun _ _ _ => rfl, fun k hk => .inl (hk.elim (fun ⟨q, hq⟩ => ⟨q, hsub q k hq⟩) fun hq => ⟨s, ?_⟩), fun _ h => h, fun _ h => .inl h⟩, dens_one.2 ?_, by simp, ?_⟩
   ·simp only [heapOp, pureOp, Opd.ev, hv]
    rw [if_neg (by omega)]
    simp only [obnd, hev, bnd]
    simp
   ·simp only [List.mem_singleton] at hq; subst hq; rw [h8]; simp
   ·rw [Den]
    have hr : rest = [] := List.eq_nil_of_length_eq_zero (by omega)
    subst hr
    exact .inr ⟨l, 0, 0, [], rfl, he, by simp, hl2, .inl ⟨rfl, rfl, h4, h5, ⟨avs, by simpa using h6, hm⟩, [], rfl, by rw [Dens]; exact ⟨rfl, rfl⟩⟩⟩
   ·intro s' k hk hk'
    simp only [List.mem_singleton] at hk; subst hk
    unfold upL at hk'
    split at hk'
    ·simp at hk'
    ·rename_i hne
     exact hne (h.dj _ _ _ (by rw [h8]; simp) hk')
  ·cases h1
def growB (e bs : Nat) (zs : List AV) : CCode :=
  (.seq
   (.reg false [
     (0, ⟨some 4, .mv (.c (.nils)), none, [], [4]⟩)])
   (.seq
    (.seq
     (.reg false [
       (0, ⟨some 5, .mv (.t 1), none, [], []⟩),
       (1, ⟨some 6, .bin .lss (.t 5) (.c (.int .i64 (0))), none, [], [5]⟩)])
     (.cond (.t 6)
      (.seq
       (.kill [6])
       (.reg false [
         (0, ⟨some 7, .fail, none, [], [7]⟩),
         (1, ⟨none, .fail, none, [], []⟩)]))
      (.seq
       (.kill [6])
       .skip)))
    (.seq
     (.seq
      (.reg false [
        (0, ⟨some 8, .mv (.t 1), none, [], [1]⟩),
        (1, ⟨some 9, .mv (.t 0), none, [], []⟩),
        (2, ⟨some 10, .cap (.t 9), none, [], [9]⟩),
        (3, ⟨some 11, .mv (.t 0), none, [], []⟩),
        (4, ⟨some 12, .len (.t 11), none, [], [11]⟩),
        (5, ⟨some 13, .bin .sub (.t 10) (.t 12), none, [], [10, 12]⟩),
        (6, ⟨some 14, .bin .sub (.t 8) (.t 13), none, [], [8, 13]⟩),
        (7, ⟨some 1, .mv (.t 14), none, [], [14]⟩)])
      (.seq
       (.reg false [
         (0, ⟨some 15, .mv (.t 1), none, [], []⟩),
         (1, ⟨some 16, .bin .gtr (.t 15) (.c (.int .i64 (0))), none, [], [15]⟩)])
       (.cond (.t 16)
        (.seq
         (.kill [16])
         (.reg false [
           (0, ⟨some 17, .mv (.t 0), none, [], []⟩),
           (1, ⟨some 18, .mv (.t 0), none, [], []⟩),
           (2, ⟨some 19, .cap (.t 18), none, [], [18]⟩),
           (3, ⟨some 20, .sls e (.t 17) none (some (.t 19)) none, none, [], [17, 19]⟩),
           (4, ⟨some 21, .mv (.t 1), none, [], [1]⟩),
           (5, ⟨some 22, .appm e bs zs (.t 20) (.t 21), none, [], [20, 21]⟩),
           (6, ⟨some 23, .mv (.t 0), none, [], [0]⟩),
           (7, ⟨some 24, .len (.t 23), none, [], [23]⟩),
           (8, ⟨some 25, .sls e (.t 22) none (some (.t 24)) none, none, [], [22, 24]⟩),
           (9, ⟨some 0, .mv (.t 25), none, [], [25]⟩)]))
        (.seq
         (.kill [1, 16])
         .skip))))
     (.seq
      (.reg false [
        (0, ⟨some 26, .mv (.t 0), none, [], [0]⟩),
        (1, ⟨some 4, .mv (.t 26), none, [], [26]⟩)])
      .ret))))
def growN (bs : Nat) (n : Int) : Option Nat := if 0 ≤ n ∧ n.toNat * bs ≤ room then some n.toNat else none
theorem ca_grow {x : Cx} {f e bs : Nat} {zs : List AV} {zt : List T} (hf : x.fns f = some ⟨27, 2, [.t 4], growB e bs zs⟩) (hio : x.io f = []) (hz : ofAVs zs = some zt) (hl : zs.length = e) (he : 0 < e) (hb : 0 < bs) {n : Int} {k : Nat} (hk : growN bs n = some k) :
  VJx x (.ca f [.nils, .int .i64 n] (.sl true true e k []) []) := by
 unfold growN at hk
 split at hk
 ·rename_i hc
  obtain ⟨h0, hr⟩ := hc
  simp only [Option.some.injEq] at hk
  subst hk
  have hmax : n ≤ 140737488355328 := by
   have : n.toNat * 1 ≤ n.toNat * bs := Nat.mul_le_mul_left _ hb
   unfold room at hr; omega
  refine ca_of hf rfl (by decide) (by rw [hio]; rfl) ?_
  refine Wc.start (V1 := [(0, .v .nils), (1, .v (.int .i64 n))]) (by simp) ?_
  refine Wc.seq (Wc.evs (by conv => lhs; simp) (Wo.nil ?_))
  refine Wc.seq (Wc.seq (Wc.evs (by conv => lhs; simp) (Wo.nil ?_)))
  refine Wc.condF' (t := _) (by conv => lhs; simp) (by simpa using h0) ?_
  refine Wc.seq (Wc.kil (by conv => lhs; simp) (Wc.skip ?_))
  refine Wc.seq (Wc.seq (Wc.evs (by conv => lhs; simp) (Wo.nil ?_)))
  refine Wc.seq (Wc.evs (by conv => lhs; simp) (Wo.nil ?_))
  have hw : IntKind.i64.wrap n = n := by rw [IntKind.wrap_i64]; omega
  by_cases hn : 0 < n
  ·refine Wc.condT' (t := _) (by conv => lhs; simp) (by simpa [hw] using hn) ?_
   refine Wc.seq (Wc.kil (by conv => lhs; simp) ?_)
   refine Wc.evk 5 (by conv => lhs; simp [hw]) ?_
   refine Wo.sem (by simp) (by simp) (by simp) (sem_appm (n := n) (zt := zt) (by simp) (by simp) hz hl he hb hn hr) (by conv => lhs; simp) ?_
   refine Wo.evk 2 (by conv => lhs; simp) ?_
   have hzl : zt.length = e := by
    rw [← hl]
    have : ∀ {as : List AV} {ts : List T}, ofAVs as = some ts → ts.length = as.length := by
     intro as
     induction as with
     | nil => intro ts h; simp only [ofAVs, Option.some.injEq] at h; subst h; rfl
     | cons a as ih =>
      intro ts h
      simp only [ofAVs] at h
      split at h
      ·rename_i t ts' h1 h2
       simp only [Option.some.injEq] at h; subst h
       simp [ih h2]
      ·simp at h
    exact this hz
   refine Wo.sem (by simp) (by simp) (by simp) (sem_front (k := n.toNat) (y := false) (cs := (List.replicate n.toNat zt).flatten) (by simp) (by simp) (by rw [flat_len, hzl]) (by omega) he) (by conv => lhs; simp) ?_
   refine Wo.evs (by conv => lhs; simp) (Wo.nil ?_)
   refine Wc.seq (Wc.evs (by conv => lhs; simp) (Wo.nil ?_))
   exact Wc.ret (res_of (.inr rfl) ⟨_, _, _, by conv => lhs; simp, by (conv => lhs; simp [hio, List.range, List.range.loop]) <;> rfl, rfl⟩)
  ·have hn0 : n = 0 := by omega
   subst hn0
   refine Wc.condF' (t := _) (by conv => lhs; simp) (by simp [hw]) ?_
   refine Wc.seq (Wc.kil (by conv => lhs; simp) (Wc.skip ?_))
   refine Wc.seq (Wc.evs (by conv => lhs; simp) (Wo.nil ?_))
   refine Wc.gh (vle_co (s := 4) (t1 := .sl true true e 0 []) rfl (by simp) (TLe.nil rfl he) (by conv => lhs; simp)) ?_
   exact Wc.ret (res_of (.inr rfl) ⟨_, _, _, by conv => lhs; simp, by (conv => lhs; simp [hio, List.range, List.range.loop]) <;> rfl, rfl⟩)
 ·simp at hk
end Go.Proofs.YtabmomjfdondnaaH
namespace Go.Proofs.YtabmomjfdondnaaH
def apps {α : Type} (bs : Nat) (l : List α) (sk : Nat) (l' : List α) : Option (List α × Nat) := if l'.length ≤ sk ∧ (l.length + l'.length) * bs ≤ room then some (l ++ l', sk - l'.length) else none
theorem appT_sk {α : Type} {E : En α} {b b' y : Bool} {bs sk : Nat} {l l' : List α} {v : List α × Nat} (h : apps bs l sk l' = some v) (hb : bs ≠ 0) (he : arr E b' l' = arr E b l') : appT E.w bs (.sl true y E.w sk (arr E b l)) (arr E b' l') = some (.sl true y E.w v.2 (arr E b v.1)) := by
 unfold apps at h
 split at h
 ·rename_i hc
  obtain ⟨h1, h2⟩ := hc
  simp only [Option.some.injEq] at h
  subst h
  rw [he]
  have hw := E.hp
  unfold appT
  by_cases h0 : l' = []
  ·subst h0; simp
  ·have hl : 0 < l'.length := List.length_pos_iff.2 h0
   have e1 : (arr E b l').length / E.w = l'.length := by rw [arr_len, Nat.mul_div_cancel _ hw]
   have e2 : (arr E b l).length / E.w = l.length := by rw [arr_len, Nat.mul_div_cancel _ hw]
   have hne : ¬ ((arr E b l').length = 0) := by
    rw [arr_len]
    have := Nat.mul_pos hl hw
    omega
   have hg : ¬ (E.w = 0 ∨ bs = 0 ∨ (arr E b l').all T.one = false) := by
    rw [arr_ones]; simp; omega
   rw [if_neg hne, if_neg hg]
   simp only [e1, e2, true_and]
   rw [if_pos h2, if_pos h1, arr_app]
 ·simp at h
def nsk (n : Nat) : Option Unit := if n = 0 then some () else none
theorem nsk_some {n : Nat} {u : Unit} (h : nsk n = some u) : n = 0 := by
 unfold nsk at h
 split at h
 ·assumption
 ·simp at h
theorem sem_sappL {V V1 V2 : VEnv} {α : Type} {E : En α} {bs : Nat} {b' : Bool} {s x : Opd} {l l' v : List α} (h : app bs l l' = some v) (hne : l' ≠ []) (hb : bs ≠ 0) (he : arr E b' l' = arr E true l') (hm : moreV V E.w x = some (arr E b' l', V1)) (ht : takeV V1 s = some (.slo E.w (arr E true l), V2)) :
  SemOp V (.app E.w bs s x) V2 (.v (.sl true false E.w 0 (arr E true v))) := by
 have hw := E.hp
 have hl : 0 < l'.length := List.length_pos_iff.2 hne
 unfold app at h
 split at h
 ·rename_i hc
  have hr : (l.length + l'.length) * bs ≤ room := by omega
  simp only [Option.some.injEq] at h
  subst h
  rw [← arr_app, ← he]
  refine sem_sapp hm ht ?_ ?_ ?_
  ·rw [arr_len]; have := Nat.mul_pos hl hw; omega
  ·rw [arr_ones]; simp; omega
  ·rw [arr_len, arr_len, Nat.mul_div_cancel _ hw, Nat.mul_div_cancel _ hw]; exact hr
 ·simp at h
end Go.Proofs.YtabmomjfdondnaaH
namespace Go.Proofs.YtabmomjfdondnaaH
open Go
def evalJ : List (Nat × COper) → Env → Heap → Option (Env × Heap)
  | [], env, H => some (env, H)
  | (_, o) :: ops, env, H => if o.guard = none then match heapOp env H o.op with
      | some (v, H1) => evalJ ops (putD env o.dst v) H1
      | none => none
    else none
theorem evalJ_ok {Tb : Nat → Option CFn} {X : Ext} : ∀ {ops : List (Nat × COper)} {env : Env} {H : Heap} {env' : Env} {H' : Heap}, (∀ p ∈ ops, p.2.us = []) → evalJ ops env H = some (env', H') → J Tb X (.op ops env H env' H')
 | [], env, H, env', H', _, h => by
  simp only [evalJ, Option.some.injEq, Prod.mk.injEq] at h
  obtain ⟨rfl, rfl⟩ := h
  exact .opNil
 | (i, o) :: ops, env, H, env', H', hu, h => by
  simp only [evalJ] at h
  split at h
  ·rename_i hg
   split at h
   ·rename_i v H1 hop
    have hus := hu (i, o) (by simp)
    refine .opDo (by rw [hg]; rfl) (by rw [hg]; rfl) hop ?_ (evalJ_ok (fun p hp => hu p (by simp [hp])) h)
    intro s n hs
    simp only at hus
    rw [hus] at hs; simp at hs
   ·simp at h
  ·simp at h
@[irreducible] def gt (env : Env) (j : Nat) : AV := env.getD j .und
theorem ev_t {env : Env} {i : Nat} : Opd.ev env (.t i) = gt env i := by unfold gt; rfl
theorem gs {env : Env} {i j : Nat} {a : AV} : gt (env.set i a) j = if i = j ∧ i < env.length then a else gt env j := by
 unfold gt
 simp only [List.getD_eq_getElem?_getD, List.getElem?_set]
 by_cases h : i = j
 ·subst h
  by_cases h2 : i < env.length
  ·simp [h2]
  ·simp [h2, List.getElem?_eq_none (by omega : env.length ≤ i)]
 ·simp [h]
def compactL : List Int → List Int
 | [] => []
 | [a] => [a]
 | a :: b :: r => if a = b then compactL (b :: r) else a :: compactL (b :: r)
def cptR1 : List (Nat × COper) := [
    (0, ⟨some 35, .mv (.t 4), none, [], []⟩),
    (1, ⟨some 36, .mv (.t 5), none, [], []⟩),
    (2, ⟨some 37, .ia 1 (.t 35) (.t 36), none, [], []⟩),
    (3, ⟨some 38, .ld 1 false (.t 37), none, [], [35, 36, 37]⟩),
    (4, ⟨some 39, .mv (.t 4), none, [], []⟩),
    (5, ⟨some 40, .mv (.t 5), none, [], []⟩),
    (6, ⟨some 41, .bin .sub (.t 40) (.c (.int .i64 (1))), none, [], [40]⟩),
    (7, ⟨some 42, .ia 1 (.t 39) (.t 41), none, [], []⟩),
    (8, ⟨some 43, .ld 1 false (.t 42), none, [], [39, 41, 42]⟩),
    (9, ⟨some 44, .bin .neq (.t 38) (.t 43), none, [], [38, 43]⟩)]
def cptL1 : CCode :=
  (.seq
   (.seq
    (.reg false [
      (0, ⟨some 29, .mv (.t 5), none, [], []⟩),
      (1, ⟨some 30, .mv (.t 4), none, [], []⟩),
      (2, ⟨some 31, .len (.t 30), none, [], [30]⟩),
      (3, ⟨some 32, .bin .lss (.t 29) (.t 31), none, [], [29, 31]⟩)])
    (.cond (.t 32)
     (.seq
      (.kill [32])
      .skip)
     (.seq
      (.kill [4, 5, 32])
      (.exit 2))))
   (.seq
    (.block 3
     (.seq
      (.reg true cptR1)
      (.cond (.t 44)
       (.seq
        (.kill [44])
        (.seq
         (.reg false [
           (0, ⟨some 45, .mv (.t 0), none, [], []⟩),
           (1, ⟨some 46, .mv (.t 3), none, [], []⟩),
           (2, ⟨some 47, .mv (.t 4), none, [], []⟩),
           (3, ⟨some 48, .mv (.t 5), none, [], []⟩),
           (4, ⟨some 49, .ia 1 (.t 47) (.t 48), none, [], []⟩),
           (5, ⟨some 50, .ld 1 false (.t 49), none, [], [47, 48, 49]⟩),
           (6, ⟨some 51, .ia 1 (.t 45) (.t 46), none, [], []⟩),
           (7, ⟨none, .st 1 (.t 51) (.t 50), none, [], [45, 46, 50, 51]⟩)])
         (.reg false [
           (0, ⟨some 52, .mv (.t 3), none, [], [3]⟩),
           (1, ⟨some 53, .bin .add (.t 52) (.c (.int .i64 (1))), none, [], [52]⟩),
           (2, ⟨some 3, .mv (.t 53), none, [], [53]⟩)])))
       (.seq
        (.kill [44])
        .skip))))
    (.reg false [
      (0, ⟨some 33, .mv (.t 5), none, [], [5]⟩),
      (1, ⟨some 34, .bin .add (.t 33) (.c (.int .i64 (1))), none, [], [33]⟩),
      (2, ⟨some 5, .mv (.t 34), none, [], [34]⟩)])))
def holdsI (H : Heap) (p : Nat) (cs : List Int) : Prop := p < H.sz ∧ (H.get p).st = .own ∧ (H.get p).cells = cs.map fun n => .int .i64 n
theorem holdsI_rd {H : Heap} {p i : Nat} {cs : List Int} (h : holdsI H p cs) (hi : i < cs.length) : H.rd p i 1 = some [.int .i64 cs[i]] := by
 obtain ⟨h1, h2, h3⟩ := h
 unfold Heap.rd
 rw [if_pos ⟨by rw [h2]; simp, h1, by rw [h3]; simp; omega⟩, h3]
 rw [List.drop_eq_getElem_cons (by simpa using hi)]
 simp
theorem holdsI_wr {H : Heap} {p i : Nat} {cs : List Int} {x : Int} (h : holdsI H p cs) (hi : i < cs.length) : ∃ H', H.wr p i [.int .i64 x] = some H' ∧ holdsI H' p (cs.set i x) ∧ H'.sz = H.sz ∧ ∀ q, q ≠ p → H'.get q = H.get q := by
 obtain ⟨h1, h2, h3⟩ := h
 refine ⟨H.put p (splice (H.get p).cells i [.int .i64 x]), ?_, ⟨h1, by simp [Heap.put], ?_⟩, rfl, fun q hq => by simp [Heap.put, hq]⟩
 ·unfold Heap.wr
  rw [if_pos ⟨h2, h1, by rw [h3]; simp; omega, by simp [AV.one]⟩]
 ·simp only [Heap.put, if_true, splice, h3]
  rw [List.map_set, List.set_eq_take_append_cons_drop, if_pos (by simpa using hi)]
  simp
section
variable {Tb : Nat → Option CFn} {X : Ext}
theorem J_regs {d : Bool} {ops : List (Nat × COper)} {env env' : Env} {H H' : Heap} (hu : ∀ p ∈ ops, p.2.us = []) (h : evalJ ops env H = some (env', H')) : J Tb X (.co (.reg d ops) env H .normal env' H') := .reg (evalJ_ok hu h)
theorem ev_c {env : Env} {a : AV} : Opd.ev env (.c a) = a := rfl
attribute [local simp] evalJ heapOp pureOp ev_t ev_c putD gs binA binI lenA
structure CS (env : Env) (p n k0 k k2 : Nat) : Prop where
 l : env.length = 61
 s : gt env 0 = .sl p 0 n 1 false
 k : gt env 3 = .int .i64 k
 s2 : gt env 4 = .sl p (0 + k0 * 1) (n - k0) 1 false
 k2 : gt env 5 = .int .i64 k2
theorem wrapn {n : Nat} (h : n < 9223372036854775807) : IntKind.i64.wrap ((n : Int) + 1) = ((n + 1 : Nat) : Int) := by
 rw [IntKind.wrap_i64]; omega
theorem wrapm {n : Nat} (h0 : 1 ≤ n) (h : n < 9223372036854775807) : IntKind.i64.wrap ((n : Int) - 1) = ((n - 1 : Nat) : Int) := by
 rw [IntKind.wrap_i64]; omega
theorem CS.of {env env' : Env} {p n k0 k k2 : Nat} (h : CS env p n k0 k k2) (hl : env'.length = env.length) (he : ∀ s, s = 0 ∨ s = 3 ∨ s = 4 ∨ s = 5 → gt env' s = gt env s) : CS env' p n k0 k k2 :=
 ⟨hl.trans h.l, (he 0 (by simp)).trans h.s, (he 3 (by simp)).trans h.k, (he 4 (by simp)).trans h.s2, (he 5 (by simp)).trans h.k2⟩
theorem cpt_round {H : Heap} {env : Env} {p n k0 k k2 : Nat} {cs : List Int} (h : CS env p n k0 k k2) (hc : holdsI H p cs) (hn : cs.length = n) (hmax : n < 9223372036854775807) (h1 : 1 ≤ k2) (h2 : k0 + k2 < n) (hk : k < n) :
  ∃ env' H', J Tb X (.co cptL1 env H .normal env' H') ∧ H'.sz = H.sz ∧ (∀ q, q ≠ p → H'.get q = H.get q) ∧
   CS env' p n k0 (if cs[k0 + k2]'(by omega) ≠ cs[k0 + k2 - 1]'(by omega) then k + 1 else k) (k2 + 1) ∧ holdsI H' p (if cs[k0 + k2]'(by omega) ≠ cs[k0 + k2 - 1]'(by omega) then cs.set k (cs[k0 + k2]'(by omega)) else cs) := by
 have hl := h.l
 -- the test
 obtain ⟨env1, a1, a2, a3⟩ : ∃ env1, evalJ [(0, ⟨some 29, .mv (.t 5), none, [], []⟩), (1, ⟨some 30, .mv (.t 4), none, [], []⟩), (2, ⟨some 31, .len (.t 30), none, [], [30]⟩), (3, ⟨some 32, .bin .lss (.t 29) (.t 31), none, [], [29, 31]⟩)] env H = some (env1, H) ∧ CS env1 p n k0 k k2 ∧ gt env1 32 = .bool true := by
  refine ⟨_, by simp [hl, h.s2, h.k2]; exact rfl, h.of (by simp) ?_, ?_⟩
  ·rintro s (rfl | rfl | rfl | rfl) <;> simp
  ·simp [hl]; omega
 have b1 : CS (killT env1 [32]) p n k0 k k2 := a2.of (by simp [killT]) (by rintro s (rfl | rfl | rfl | rfl) <;> simp [killT])
 have jA : J Tb X (.co (.seq (.reg false [(0, ⟨some 29, .mv (.t 5), none, [], []⟩), (1, ⟨some 30, .mv (.t 4), none, [], []⟩), (2, ⟨some 31, .len (.t 30), none, [], [30]⟩), (3, ⟨some 32, .bin .lss (.t 29) (.t 31), none, [], [29, 31]⟩)]) (.cond (.t 32) (.seq (.kill [32]) .skip) (.seq (.kill [4, 5, 32]) (.exit 2)))) env H .normal (killT env1 [32]) H) :=
  .seqN (J_regs (by simp) a1) (.condT (by rw [ev_t]; exact a3) (.seqN .kill .skip))
 generalize killT env1 [32] = env2 at b1 jA
 have hl2 := b1.l
 have r1 := holdsI_rd hc (i := k0 + k2) (by omega)
 have r2 := holdsI_rd hc (i := k0 + (k2 - 1)) (by omega)
 have hw1 : IntKind.i64.wrap ((k2 : Int) - 1) = ((k2 - 1 : Nat) : Int) := wrapm h1 (by omega)
 have f1 : (k2 : Int) < ((n - k0 : Nat) : Int) := by omega
 have f2 : ((k2 - 1 : Nat) : Int) < ((n - k0 : Nat) : Int) := by omega
 have e12 : k0 + (k2 - 1) = k0 + k2 - 1 := by omega
 obtain ⟨env3, c1, c2, c3, c4⟩ : ∃ env3, evalJ cptR1 env2 H = some (env3, H) ∧ CS env3 p n k0 k k2 ∧ gt env3 44 = .bool (decide (cs[k0 + k2]'(by omega) ≠ cs[k0 + (k2 - 1)]'(by omega))) ∧ True := by
  refine ⟨_, by simp [cptR1, hl2, b1.s2, b1.k2, hw1, f1, f2, r1, r2]; exact rfl, b1.of (by simp) ?_, ?_, trivial⟩
  ·rintro s (rfl | rfl | rfl | rfl) <;> simp
  ·simp [hl2]
 have jB : J Tb X (.co (.reg true cptR1) env2 H .normal env3 H) := J_regs (by simp [cptR1]) c1
 have b3 : CS (killT env3 [44]) p n k0 k k2 := c2.of (by simp [killT]) (by rintro s (rfl | rfl | rfl | rfl) <;> simp [killT])
 -- the step
 have last : ∀ {envx : Env} {k' : Nat} {Hx : Heap}, CS envx p n k0 k' k2 → ∃ envy, J Tb X (.co (.reg false [(0, ⟨some 33, .mv (.t 5), none, [], [5]⟩), (1, ⟨some 34, .bin .add (.t 33) (.c (.int .i64 (1))), none, [], [33]⟩), (2, ⟨some 5, .mv (.t 34), none, [], [34]⟩)]) envx Hx .normal envy Hx) ∧ CS envy p n k0 k' (k2 + 1) := by
  intro envx k' Hx hx
  have hlx := hx.l
  refine ⟨_, J_regs (by simp) (by simp [hlx, hx.k2]; exact rfl), ⟨by simp [hlx], by simp [hlx, hx.s], by simp [hlx, hx.k], by simp [hlx, hx.s2], ?_⟩⟩
  simp [hlx]
  exact_mod_cast wrapn (n := k2) (by omega)
 by_cases hne : cs[k0 + k2]'(by omega) ≠ cs[k0 + (k2 - 1)]'(by omega)
 ·have hne' : cs[k0 + k2]'(by omega) ≠ cs[k0 + k2 - 1]'(by omega) := by simpa [e12] using hne
  rw [if_pos hne', if_pos hne']
  have hl3 := b3.l
  obtain ⟨H1, w1, w2, w3, w4⟩ := holdsI_wr (x := cs[k0 + k2]'(by omega)) hc (i := k) (by omega)
  have f3 : (k : Int) < (n : Int) := by omega
  generalize hk3 : killT env3 [44] = env4 at b3
  rw [hk3] at hl3
  obtain ⟨env5, d1, d2⟩ : ∃ env5, evalJ [(0, ⟨some 45, .mv (.t 0), none, [], []⟩), (1, ⟨some 46, .mv (.t 3), none, [], []⟩), (2, ⟨some 47, .mv (.t 4), none, [], []⟩), (3, ⟨some 48, .mv (.t 5), none, [], []⟩), (4, ⟨some 49, .ia 1 (.t 47) (.t 48), none, [], []⟩), (5, ⟨some 50, .ld 1 false (.t 49), none, [], [47, 48, 49]⟩), (6, ⟨some 51, .ia 1 (.t 45) (.t 46), none, [], []⟩), (7, ⟨none, .st 1 (.t 51) (.t 50), none, [], [45, 46, 50, 51]⟩)] env4 H = some (env5, H1) ∧ CS env5 p n k0 k k2 := by
   refine ⟨_, by simp [hl3, b3.s, b3.k, b3.s2, b3.k2, f1, f3, r1, AV.cells, w1]; exact rfl, b3.of (by simp) ?_⟩
   rintro s (rfl | rfl | rfl | rfl) <;> simp
  have hl5 := d2.l
  obtain ⟨env6, g1, g2⟩ : ∃ env6, evalJ [(0, ⟨some 52, .mv (.t 3), none, [], [3]⟩), (1, ⟨some 53, .bin .add (.t 52) (.c (.int .i64 (1))), none, [], [52]⟩), (2, ⟨some 3, .mv (.t 53), none, [], [53]⟩)] env5 H1 = some (env6, H1) ∧ CS env6 p n k0 (k + 1) k2 := by
   refine ⟨_, by simp [hl5, d2.k]; exact rfl, ⟨by simp [hl5], by simp [hl5, d2.s], ?_, by simp [hl5, d2.s2], by simp [hl5, d2.k2]⟩⟩
   simp [hl5]
   exact_mod_cast wrapn (n := k) (by omega)
  obtain ⟨env7, g3, g4⟩ := last (Hx := H1) g2
  refine ⟨env7, H1, ?_, w3, w4, g4, w2⟩
  refine .seqN jA (.seqN (.blockN (by simp) (.seqN jB (.condT (by rw [ev_t, c3]; simp only [hne, ne_eq, not_false_eq_true, decide_true]) (.seqN .kill ?_)))) g3)
  rw [hk3]
  exact .seqN (J_regs (by simp) d1) (J_regs (by simp) g1)
 ·have hne' : ¬ cs[k0 + k2]'(by omega) ≠ cs[k0 + k2 - 1]'(by omega) := by simpa [e12] using hne
  rw [if_neg hne', if_neg hne']
  obtain ⟨env7, g3, g4⟩ := last (Hx := H) b3
  refine ⟨env7, H, ?_, rfl, fun _ _ => rfl, g4, hc⟩
  exact .seqN jA (.seqN (.blockN (by simp) (.seqN jB (.condF (by rw [ev_t, c3]; simp only [hne, decide_false]) (.seqN .kill .skip)))) g3)
theorem compactL_len : ∀ (l : List Int), (compactL l).length ≤ l.length
 | [] => by simp [compactL]
 | [a] => by simp [compactL]
 | a :: b :: r => by
  have := compactL_len (b :: r)
  simp only [compactL]
  split
  ·simp only [List.length_cons] at this ⊢; omega
  ·simp only [List.length_cons] at this ⊢; omega
theorem compactL_snoc (x y : Int) : ∀ (m : List Int), compactL (m ++ [x, y]) = if y ≠ x then compactL (m ++ [x]) ++ [y] else compactL (m ++ [x])
 | [] => by
  simp only [List.nil_append, compactL]
  by_cases h : x = y
  ·subst h; simp
  ·rw [if_neg h, if_pos (Ne.symm h)]; rfl
 | [a] => by
  simp only [List.cons_append, List.nil_append, compactL]
  by_cases h : x = y
  ·subst h; simp
  ·have h' : y ≠ x := Ne.symm h
   simp only [h, if_false, h', ne_eq, not_false_eq_true, if_true]
   split <;> simp
 | a :: b :: m => by
  have ih := compactL_snoc x y (b :: m)
  simp only [List.cons_append] at ih ⊢
  simp only [compactL]
  rw [ih]
  split <;> split <;> simp_all
theorem compactL_take {l : List Int} {j : Nat} (h1 : 1 ≤ j) (h : j < l.length) : compactL (l.take (j + 1)) = if l[j] ≠ l[j - 1]'(by omega) then compactL (l.take j) ++ [l[j]] else compactL (l.take j) := by
 obtain ⟨i, rfl⟩ : ∃ i, j = i + 1 := ⟨j - 1, by omega⟩
 have e1 : l.take (i + 1) = l.take i ++ [l[i]'(by omega)] := by rw [List.take_succ_eq_append_getElem]
 have e2 : l.take (i + 1 + 1) = l.take i ++ [l[i]'(by omega), l[i + 1]] := by rw [List.take_succ_eq_append_getElem h, e1, List.append_assoc]; rfl
 rw [e2, e1, compactL_snoc]
 rfl
theorem cpt_inner {l : List Int} {p n k0 : Nat} (hn : l.length = n) (hmax : n < 9223372036854775807) : ∀ (m : Nat) {H : Heap} {env : Env} {k k2 : Nat} {cs : List Int}, k0 + k2 + m = n → CS env p n k0 k k2 → holdsI H p cs → cs.length = n → 1 ≤ k2 → k + 1 ≤ k0 + k2 →
  cs.take k = compactL (l.take (k0 + k2)) → (compactL (l.take (k0 + k2))).length = k → cs.drop (k0 + k2 - 1) = l.drop (k0 + k2 - 1) →
  ∃ env' H' cs', J Tb X (.co (.loop cptL1) env H (.exit 2) env' H') ∧ H'.sz = H.sz ∧ (∀ q, q ≠ p → H'.get q = H.get q) ∧ env'.length = 61 ∧ gt env' 0 = .sl p 0 n 1 false ∧ gt env' 3 = .int .i64 (compactL l).length ∧
   holdsI H' p cs' ∧ cs'.length = n ∧ cs'.take (compactL l).length = compactL l ∧ (compactL l).length + 1 ≤ n
 | 0, H, env, k, k2, cs, hm, h, hc, hcl, h1, hk, ht, htl, hd => by
  have hl := h.l
  have hfull : l.take (k0 + k2) = l := List.take_of_length_le (by omega)
  rw [hfull] at ht htl
  obtain ⟨env1, a1, a2, a3⟩ : ∃ env1, evalJ [(0, ⟨some 29, .mv (.t 5), none, [], []⟩), (1, ⟨some 30, .mv (.t 4), none, [], []⟩), (2, ⟨some 31, .len (.t 30), none, [], [30]⟩), (3, ⟨some 32, .bin .lss (.t 29) (.t 31), none, [], [29, 31]⟩)] env H = some (env1, H) ∧ CS env1 p n k0 k k2 ∧ gt env1 32 = .bool false := by
   refine ⟨_, by simp [hl, h.s2, h.k2]; exact rfl, h.of (by simp) ?_, ?_⟩
   ·rintro s (rfl | rfl | rfl | rfl) <;> simp
   ·simp [hl]; omega
  have hl1 := a2.l
  refine ⟨killT env1 [4, 5, 32], H, cs, .loopX (by simp) (.seqX (by simp) (.seqN (J_regs (by simp) a1) (.condF (by rw [ev_t]; exact a3) (.seqN .kill .exit)))), rfl, fun _ _ => rfl, by simp [killT, hl1], by simp [killT, hl1, a2.s], by simp [killT, hl1, a2.k, htl], hc, hcl, by rw [htl]; exact ht, by omega⟩
 | m + 1, H, env, k, k2, cs, hm, h, hc, hcl, h1, hk, ht, htl, hd => by
  obtain ⟨env1, H1, j1, j2, j3, j4, j5⟩ := cpt_round (Tb := Tb) (X := X) h hc hcl hmax h1 (by omega) (by omega)
  have c1 : cs[k0 + k2]'(by omega) = l[k0 + k2]'(by omega) := by
   have e := congrArg (fun x => x[1]?) hd
   simp only [List.getElem?_drop] at e
   rw [show k0 + k2 - 1 + 1 = k0 + k2 by omega, List.getElem?_eq_getElem (by omega), List.getElem?_eq_getElem (by omega)] at e
   simpa using e
  have c2 : cs[k0 + k2 - 1]'(by omega) = l[k0 + k2 - 1]'(by omega) := by
   have e := congrArg (fun x => x[0]?) hd
   simp only [List.getElem?_drop] at e
   rw [show k0 + k2 - 1 + 0 = k0 + k2 - 1 by omega, List.getElem?_eq_getElem (by omega), List.getElem?_eq_getElem (by omega)] at e
   simpa using e
  rw [c1, c2] at j4 j5
  have hct := compactL_take (l := l) (j := k0 + k2) (by omega) (by omega)
  have hdd : cs.drop (k0 + k2) = l.drop (k0 + k2) := by
   have e := congrArg (List.drop 1) hd
   rw [List.drop_drop, List.drop_drop, show k0 + k2 - 1 + 1 = k0 + k2 by omega] at e
   exact e
  by_cases hne : l[k0 + k2]'(by omega) ≠ l[k0 + k2 - 1]'(by omega)
  ·rw [if_pos hne] at j4 j5 hct
   obtain ⟨env2, H2, cs2, g1, g2, g3, g4⟩ := cpt_inner hn hmax m (by omega) j4 j5 (by simp [hcl]) (by omega) (by omega) (by
    rw [show k0 + (k2 + 1) = k0 + k2 + 1 by omega, hct, ← ht, List.take_succ_eq_append_getElem (by simp; omega)]
    simp [List.take_set_of_le]) (by
    rw [show k0 + (k2 + 1) = k0 + k2 + 1 by omega, hct]; simp [htl]) (by
    rw [show k0 + (k2 + 1) - 1 = k0 + k2 by omega, List.drop_set_of_lt (by omega)]; exact hdd)
   exact ⟨env2, H2, cs2, .loopN j1 g1, g2.trans j2, fun q hq => (g3 q hq).trans (j3 q hq), g4⟩
  ·rw [if_neg hne] at j4 j5 hct
   obtain ⟨env2, H2, cs2, g1, g2, g3, g4⟩ := cpt_inner hn hmax m (by omega) j4 j5 hcl (by omega) (by omega) (by
    rw [show k0 + (k2 + 1) = k0 + k2 + 1 by omega, hct]; exact ht) (by
    rw [show k0 + (k2 + 1) = k0 + k2 + 1 by omega, hct]; exact htl) (by
    rw [show k0 + (k2 + 1) - 1 = k0 + k2 by omega]; exact hdd)
   exact ⟨env2, H2, cs2, .loopN j1 g1, g2.trans j2, fun q hq => (g3 q hq).trans (j3 q hq), g4⟩
def cptL0 : CCode :=
  (.seq
   (.seq
    (.reg false [
      (0, ⟨some 10, .mv (.t 3), none, [], []⟩),
      (1, ⟨some 11, .mv (.t 0), none, [], []⟩),
      (2, ⟨some 12, .len (.t 11), none, [], [11]⟩),
      (3, ⟨some 13, .bin .lss (.t 10) (.t 12), none, [], [10, 12]⟩)])
    (.cond (.t 13)
     (.seq
      (.kill [13])
      .skip)
     (.seq
      (.kill [3, 13])
      (.exit 0))))
   (.seq
    (.block 1
     (.seq
      (.reg true [
        (0, ⟨some 16, .mv (.t 0), none, [], []⟩),
        (1, ⟨some 17, .mv (.t 3), none, [], []⟩),
        (2, ⟨some 18, .ia 1 (.t 16) (.t 17), none, [], []⟩),
        (3, ⟨some 19, .ld 1 false (.t 18), none, [], [16, 17, 18]⟩),
        (4, ⟨some 20, .mv (.t 0), none, [], []⟩),
        (5, ⟨some 21, .mv (.t 3), none, [], []⟩),
        (6, ⟨some 22, .bin .sub (.t 21) (.c (.int .i64 (1))), none, [], [21]⟩),
        (7, ⟨some 23, .ia 1 (.t 20) (.t 22), none, [], []⟩),
        (8, ⟨some 24, .ld 1 false (.t 23), none, [], [20, 22, 23]⟩),
        (9, ⟨some 25, .bin .eql (.t 19) (.t 24), none, [], [19, 24]⟩)])
      (.cond (.t 25)
       (.seq
        (.kill [25])
        (.seq
         (.reg false [
           (0, ⟨some 26, .mv (.t 0), none, [], []⟩),
           (1, ⟨some 27, .mv (.t 3), none, [], []⟩),
           (2, ⟨some 28, .sls 1 (.t 26) (some (.t 27)) none none, none, [], [26, 27]⟩),
           (3, ⟨some 4, .mv (.t 28), none, [], [28]⟩)])
         (.seq
          (.seq
           (.reg false [
             (0, ⟨some 5, .mv (.c (.int .i64 (1))), none, [], []⟩)])
           (.block 2
            (.loop cptL1)))
          (.seq
           (.reg false [
             (0, ⟨some 54, .mv (.t 0), none, [], []⟩),
             (1, ⟨some 55, .mv (.t 3), none, [], []⟩),
             (2, ⟨some 56, .sls 1 (.t 54) (some (.t 55)) none none, none, [], [54, 55]⟩),
             (3, ⟨none, .clr 1 [.int .i64 (0)] (.t 56), none, [], [56]⟩)])
           (.seq
            (.reg false [
              (0, ⟨some 57, .mv (.t 0), none, [], []⟩),
              (1, ⟨some 58, .mv (.t 3), none, [], [3]⟩),
              (2, ⟨some 59, .sls 1 (.t 57) none (some (.t 58)) none, none, [], [57, 58]⟩),
              (3, ⟨some 2, .mv (.t 59), none, [], [59]⟩)])
            .ret)))))
       (.seq
        (.kill [25])
        .skip))))
    (.reg false [
      (0, ⟨some 14, .mv (.t 3), none, [], [3]⟩),
      (1, ⟨some 15, .bin .add (.t 14) (.c (.int .i64 (1))), none, [], [14]⟩),
      (2, ⟨some 3, .mv (.t 15), none, [], [15]⟩)])))
def cptB : CCode :=
  (.seq
   (.reg false [
     (0, ⟨some 2, .mv (.c (.nils)), none, [], [2]⟩)])
   (.seq
    (.seq
     (.reg false [
       (0, ⟨some 6, .mv (.t 0), none, [], []⟩),
       (1, ⟨some 7, .len (.t 6), none, [], [6]⟩),
       (2, ⟨some 8, .bin .lss (.t 7) (.c (.int .i64 (2))), none, [], [7]⟩)])
     (.cond (.t 8)
      (.seq
       (.kill [8])
       (.seq
        (.reg false [
          (0, ⟨some 9, .mv (.t 0), none, [], []⟩),
          (1, ⟨some 2, .mv (.t 9), none, [], [9]⟩)])
        .ret))
      (.seq
       (.kill [8])
       .skip)))
    (.seq
     (.seq
      (.reg false [
        (0, ⟨some 3, .mv (.c (.int .i64 (1))), none, [], []⟩)])
      (.block 0
       (.loop cptL0)))
     (.seq
      (.reg false [
        (0, ⟨some 60, .mv (.t 0), none, [], []⟩),
        (1, ⟨some 2, .mv (.t 60), none, [], [60]⟩)])
      .ret))))
def CR (l : List Int) (p : Nat) (H : Heap) (env' : Env) (H' : Heap) : Prop :=
 H'.sz = H.sz ∧ (∀ q, q ≠ p → H'.get q = H.get q) ∧ gt env' 2 = .sl p 0 (compactL l).length 1 false ∧ ∃ cs', holdsI H' p cs' ∧ cs'.take (compactL l).length = compactL l
theorem holdsI_wrs {H : Heap} {p i m : Nat} {cs : List Int} (h : holdsI H p cs) (hi : i + m = cs.length) : ∃ H', H.wr p i (List.replicate m [AV.int .i64 0]).flatten = some H' ∧ holdsI H' p (cs.take i ++ List.replicate m 0) ∧ H'.sz = H.sz ∧ ∀ q, q ≠ p → H'.get q = H.get q := by
 obtain ⟨h1, h2, h3⟩ := h
 have hf : (List.replicate m [AV.int .i64 0]).flatten = List.replicate m (AV.int .i64 0) := by rw [List.flatten_replicate_singleton]
 rw [hf]
 refine ⟨H.put p (splice (H.get p).cells i (List.replicate m (.int .i64 0))), ?_, ⟨h1, by simp [Heap.put], ?_⟩, rfl, fun q hq => by simp [Heap.put, hq]⟩
 ·unfold Heap.wr
  rw [if_pos ⟨h2, h1, by rw [h3]; simp; omega, by simp [AV.one]⟩]
 ·simp only [Heap.put, if_true, splice, h3]
  rw [List.drop_eq_nil_of_le (by simp; omega)]
  simp
theorem cpt_same {l : List Int} {k : Nat} (h : compactL (l.take k) = l.take k) (h1 : 1 ≤ k) (hk : k < l.length) (hne : l[k] ≠ l[k - 1]'(by omega)) : compactL (l.take (k + 1)) = l.take (k + 1) := by
 rw [compactL_take h1 hk, if_pos hne, h, List.take_succ_eq_append_getElem hk]
theorem cpt_outer {l : List Int} {p n : Nat} (hn : l.length = n) (hmax : n < 9223372036854775807) : ∀ (m : Nat) {H : Heap} {env : Env} {k : Nat}, k + m = n → env.length = 61 → gt env 0 = .sl p 0 n 1 false → gt env 3 = .int .i64 k → holdsI H p l → 1 ≤ k → compactL (l.take k) = l.take k →
  ∃ env' H', (J Tb X (.co (.loop cptL0) env H .ret env' H') ∧ CR l p H env' H') ∨ (J Tb X (.co (.loop cptL0) env H (.exit 0) env' H') ∧ H' = H ∧ env'.length = 61 ∧ gt env' 0 = .sl p 0 n 1 false ∧ compactL l = l)
 | 0, H, env, k, hm, hl, e0, e3, hc, h1, hcmp => by
  have hfull : l.take k = l := List.take_of_length_le (by omega)
  rw [hfull] at hcmp
  obtain ⟨env1, a1, a2, a3, a4⟩ : ∃ env1, evalJ [(0, ⟨some 10, .mv (.t 3), none, [], []⟩), (1, ⟨some 11, .mv (.t 0), none, [], []⟩), (2, ⟨some 12, .len (.t 11), none, [], [11]⟩), (3, ⟨some 13, .bin .lss (.t 10) (.t 12), none, [], [10, 12]⟩)] env H = some (env1, H) ∧ env1.length = 61 ∧ gt env1 0 = .sl p 0 n 1 false ∧ gt env1 13 = .bool false := by
   refine ⟨_, by simp [hl, e0, e3]; exact rfl, by simp [hl], by simp [hl, e0], ?_⟩
   simp [hl]; omega
  refine ⟨killT env1 [3, 13], H, .inr ⟨.loopX (by simp) (.seqX (by simp) (.seqN (J_regs (by simp) a1) (.condF (by rw [ev_t]; exact a4) (.seqN .kill .exit)))), rfl, by simp [killT, a2], by simp [killT, a2, a3], hcmp⟩⟩
 | m + 1, H, env, k, hm, hl, e0, e3, hc, h1, hcmp => by
  obtain ⟨env1, a1, a2, a3, a4, a5⟩ : ∃ env1, evalJ [(0, ⟨some 10, .mv (.t 3), none, [], []⟩), (1, ⟨some 11, .mv (.t 0), none, [], []⟩), (2, ⟨some 12, .len (.t 11), none, [], [11]⟩), (3, ⟨some 13, .bin .lss (.t 10) (.t 12), none, [], [10, 12]⟩)] env H = some (env1, H) ∧ env1.length = 61 ∧ gt env1 0 = .sl p 0 n 1 false ∧ gt env1 13 = .bool true ∧ gt env1 3 = .int .i64 k := by
   refine ⟨_, by simp [hl, e0, e3]; exact rfl, by simp [hl], by simp [hl, e0], ?_, by simp [hl, e3]⟩
   simp [hl]; omega
  have jA : J Tb X (.co (.seq (.reg false [(0, ⟨some 10, .mv (.t 3), none, [], []⟩), (1, ⟨some 11, .mv (.t 0), none, [], []⟩), (2, ⟨some 12, .len (.t 11), none, [], [11]⟩), (3, ⟨some 13, .bin .lss (.t 10) (.t 12), none, [], [10, 12]⟩)]) (.cond (.t 13) (.seq (.kill [13]) .skip) (.seq (.kill [3, 13]) (.exit 0)))) env H .normal (killT env1 [13]) H) :=
   .seqN (J_regs (by simp) a1) (.condT (by rw [ev_t]; exact a4) (.seqN .kill .skip))
  have b1 : (killT env1 [13]).length = 61 ∧ gt (killT env1 [13]) 0 = .sl p 0 n 1 false ∧ gt (killT env1 [13]) 3 = .int .i64 k := ⟨by simp [killT, a2], by simp [killT, a2, a3], by simp [killT, a2, a5]⟩
  generalize killT env1 [13] = env2 at b1 jA
  obtain ⟨hl2, b2, b3⟩ := b1
  have r1 := holdsI_rd hc (i := k) (by omega)
  have r2 := holdsI_rd hc (i := k - 1) (by omega)
  have hw1 : IntKind.i64.wrap ((k : Int) - 1) = ((k - 1 : Nat) : Int) := wrapm h1 (by omega)
  have f1 : (k : Int) < (n : Int) := by omega
  have f2 : ((k - 1 : Nat) : Int) < (n : Int) := by omega
  obtain ⟨env3, c1, c2, c3, c4, c5⟩ : ∃ env3, evalJ [(0, ⟨some 16, .mv (.t 0), none, [], []⟩), (1, ⟨some 17, .mv (.t 3), none, [], []⟩), (2, ⟨some 18, .ia 1 (.t 16) (.t 17), none, [], []⟩), (3, ⟨some 19, .ld 1 false (.t 18), none, [], [16, 17, 18]⟩), (4, ⟨some 20, .mv (.t 0), none, [], []⟩), (5, ⟨some 21, .mv (.t 3), none, [], []⟩), (6, ⟨some 22, .bin .sub (.t 21) (.c (.int .i64 (1))), none, [], [21]⟩), (7, ⟨some 23, .ia 1 (.t 20) (.t 22), none, [], []⟩), (8, ⟨some 24, .ld 1 false (.t 23), none, [], [20, 22, 23]⟩), (9, ⟨some 25, .bin .eql (.t 19) (.t 24), none, [], [19, 24]⟩)] env2 H = some (env3, H) ∧ env3.length = 61 ∧ gt env3 0 = .sl p 0 n 1 false ∧ gt env3 3 = .int .i64 k ∧ gt env3 25 = .bool (decide (l[k]'(by omega) = l[k - 1]'(by omega))) := by
   refine ⟨_, by simp [hl2, b2, b3, hw1, f1, f2, r1, r2]; exact rfl, by simp [hl2], by simp [hl2, b2], by simp [hl2, b3], by simp [hl2]⟩
  have d1 : (killT env3 [25]).length = 61 ∧ gt (killT env3 [25]) 0 = .sl p 0 n 1 false ∧ gt (killT env3 [25]) 3 = .int .i64 k := ⟨by simp [killT, c2], by simp [killT, c2, c3], by simp [killT, c2, c4]⟩
  by_cases heq : l[k]'(by omega) = l[k - 1]'(by omega)
  ·have hev : Opd.ev env3 (.t 25) = .bool true := by rw [ev_t, c5]; simp [heq]
   generalize hk3 : killT env3 [25] = env4 at d1
   obtain ⟨hl4, d2, d3⟩ := d1
   obtain ⟨env5, g1, g2⟩ : ∃ env5, evalJ [(0, ⟨some 26, .mv (.t 0), none, [], []⟩), (1, ⟨some 27, .mv (.t 3), none, [], []⟩), (2, ⟨some 28, .sls 1 (.t 26) (some (.t 27)) none none, none, [], [26, 27]⟩), (3, ⟨some 4, .mv (.t 28), none, [], [28]⟩)] env4 H = some (env5, H) ∧ env5.length = 61 ∧ gt env5 0 = .sl p 0 n 1 false ∧ gt env5 3 = .int .i64 k ∧ gt env5 4 = .sl p (0 + k * 1) (n - k) 1 false := by
    have hb : k ≤ n := by omega
    refine ⟨_, by simp [hl4, d2, d3, obnd, hb]; exact rfl, by simp [hl4], by simp [hl4, d2], by simp [hl4, d3], by simp [hl4]⟩
   obtain ⟨hl5, g3, g4, g5⟩ := g2
   obtain ⟨env6, i1, i2⟩ : ∃ env6, evalJ [(0, ⟨some 5, .mv (.c (.int .i64 (1))), none, [], []⟩)] env5 H = some (env6, H) ∧ CS env6 p n k k 1 := by
    refine ⟨_, by simp [hl5]; exact rfl, ⟨by simp [hl5], by simp [hl5, g3], by simp [hl5, g4], by simp [hl5, g5], by simp [hl5]⟩⟩
   have hct := compactL_take (l := l) (j := k) (by omega) (by omega)
   rw [if_neg (by simpa using heq), hcmp] at hct
   obtain ⟨env7, H7, cs', q1, q2, q3, q4, q5, q6, q7, q8, q9, q10⟩ := cpt_inner (Tb := Tb) (X := X) hn hmax m (k := k) (by omega) i2 hc hn (Nat.le_refl _) (Nat.le_refl _) hct.symm (by rw [hct]; simp; omega) rfl
   have hb7 : (compactL l).length ≤ n := by omega
   obtain ⟨H8, w1, w2, w3, w4⟩ := holdsI_wrs (i := (compactL l).length) (m := n - (compactL l).length) q7 (by omega)
   obtain ⟨env8, s1, s2, s3, s4⟩ : ∃ env8, evalJ [(0, ⟨some 54, .mv (.t 0), none, [], []⟩), (1, ⟨some 55, .mv (.t 3), none, [], []⟩), (2, ⟨some 56, .sls 1 (.t 54) (some (.t 55)) none none, none, [], [54, 55]⟩), (3, ⟨none, .clr 1 [.int .i64 (0)] (.t 56), none, [], [56]⟩)] env7 H7 = some (env8, H8) ∧ env8.length = 61 ∧ gt env8 0 = .sl p 0 n 1 false ∧ gt env8 3 = .int .i64 (compactL l).length := by
    have hne : ¬ n - (compactL l).length = 0 := by omega
    have w1' : H7.wr p (compactL l).length (List.replicate (n - (compactL l).length) (AV.int .i64 0)) = some H8 := by rw [← w1, List.flatten_replicate_singleton]
    refine ⟨_, by simp [q4, q5, q6, obnd, hb7, hne, w1']; exact rfl, by simp [q4], by simp [q4, q5], by simp [q4, q6]⟩
   obtain ⟨env9, t1, t2⟩ : ∃ env9, evalJ [(0, ⟨some 57, .mv (.t 0), none, [], []⟩), (1, ⟨some 58, .mv (.t 3), none, [], [3]⟩), (2, ⟨some 59, .sls 1 (.t 57) none (some (.t 58)) none, none, [], [57, 58]⟩), (3, ⟨some 2, .mv (.t 59), none, [], [59]⟩)] env8 H8 = some (env9, H8) ∧ gt env9 2 = .sl p 0 (compactL l).length 1 false := by
    refine ⟨_, by simp [s2, s3, s4, obnd, hb7]; exact rfl, by simp [s2]⟩
   refine ⟨env9, H8, .inl ⟨?_, w3.trans q2, fun q hq => (w4 q hq).trans (q3 q hq), t2, _, w2, ?_⟩⟩
   ·refine .loopX (by simp) (.seqN jA (.seqX (by simp) (.blockN (by simp) (.seqN (J_regs (by simp) c1) (.condT hev (.seqN .kill ?_))))))
    rw [hk3]
    exact .seqN (J_regs (by simp) g1) (.seqN (.seqN (J_regs (by simp) i1) (.blockE q1)) (.seqN (J_regs (by simp) s1) (.seqN (J_regs (by simp) t1) .ret)))
   ·rw [List.take_append_of_le_length (by simp; omega), List.take_take, Nat.min_self]
    exact q9
  ·have hev : Opd.ev env3 (.t 25) = .bool false := by rw [ev_t, c5]; simp [heq]
   generalize hk3 : killT env3 [25] = env4 at d1
   obtain ⟨hl4, d2, d3⟩ := d1
   obtain ⟨env5, g1, g2, g3, g4⟩ : ∃ env5, evalJ [(0, ⟨some 14, .mv (.t 3), none, [], [3]⟩), (1, ⟨some 15, .bin .add (.t 14) (.c (.int .i64 (1))), none, [], [14]⟩), (2, ⟨some 3, .mv (.t 15), none, [], [15]⟩)] env4 H = some (env5, H) ∧ env5.length = 61 ∧ gt env5 0 = .sl p 0 n 1 false ∧ gt env5 3 = .int .i64 ((k + 1 : Nat) : Int) := by
    refine ⟨_, by simp [hl4, d3]; exact rfl, by simp [hl4], by simp [hl4, d2], ?_⟩
    simp [hl4]
    exact_mod_cast wrapn (n := k) (by omega)
   have jB : J Tb X (.co cptL0 env H .normal env5 H) := by
    refine .seqN jA (.seqN (.blockN (by simp) (.seqN (J_regs (by simp) c1) (.condF hev (.seqN .kill .skip)))) ?_)
    rw [hk3]
    exact J_regs (by simp) g1
   obtain ⟨env6, H6, hres⟩ := cpt_outer hn hmax m (by omega) g2 g3 g4 hc (by omega) (cpt_same hcmp h1 (by omega) heq)
   refine ⟨env6, H6, hres.imp (fun ⟨a, b⟩ => ⟨.loopN jB a, b⟩) (fun ⟨a, b⟩ => ⟨.loopN jB a, b⟩)⟩
theorem dens_ints {H : Heap} {F : Nat → Prop} {b : Bool} : ∀ {l : List Int} {avs : List AV} {ls : List Nat}, Dens H F avs (arr eI b l) ls → avs = l.map (fun n => .int .i64 n) ∧ ls = []
 | [], avs, ls, h => by rw [arr_nil, Dens] at h; exact h
 | a :: l, avs, ls, h => by
  rw [arr_cons, eInt_c, List.singleton_append, Dens] at h
  obtain ⟨c, cs', l1, l2, rfl, rfl, h1, h2⟩ := h
  rw [Den] at h1
  obtain ⟨rfl, rfl⟩ := h1
  obtain ⟨rfl, rfl⟩ := dens_ints h2
  exact ⟨rfl, rfl⟩
theorem ints_dens {H : Heap} {F : Nat → Prop} {b : Bool} : ∀ {l : List Int}, Dens H F (l.map (fun n => AV.int .i64 n)) (arr eI b l) []
 | [] => by rw [arr_nil, Dens]; exact ⟨rfl, rfl⟩
 | a :: l => by
  rw [arr_cons, eInt_c, List.singleton_append, List.map_cons, Dens]
  exact ⟨_, _, [], [], rfl, rfl, by rw [Den]; exact ⟨rfl, rfl⟩, ints_dens⟩
def nOf : AV → Nat
 | .sl _ _ m _ _ => m
 | _ => 0
theorem compact_of {io : Nat → List Nat} {f : Nat} {l : List Int} (hT : Tb f = some ⟨61, 1, [.t 2], cptB⟩) (hio : io f = [0]) (hmax : l.length < 9223372036854775807) : CallOk Tb X io f [osl eI true l] (ssl eI (compactL l)) [.und] := by
 intro H F vs ls hd hnd hfz
 have hvl := hd.length
 match vs, hvl, hd with
 | [v], _, hd =>
 rw [dens_one] at hd
 have ev0 : gt ([v] ++ List.replicate 60 AV.und) 0 = v := by unfold gt; simp
 have hl0 : ([v] ++ List.replicate 60 AV.und).length = 61 := by simp
 generalize henv : [v] ++ List.replicate 60 AV.und = env0 at ev0 hl0
 obtain ⟨env1, a1, a2, a3⟩ : ∃ env1, evalJ [(0, ⟨some 2, .mv (.c (.nils)), none, [], [2]⟩)] env0 H = some (env1, H) ∧ env1.length = 61 ∧ gt env1 0 = v := ⟨_, by simp; exact rfl, by simp [hl0], by simp [hl0, ev0]⟩
 -- the answer is the argument itself
 have short : ∀ (n : Nat), nOf v = n → n < 2 → (∃ l o e x, v = .sl l o n e x) ∨ v = .nils → ∃ env' : Env, J Tb X (.ca f [v] H v H) ∧ List.length env' = 61 := by
  intro n hn h2 hv
  obtain ⟨env2, b1, b2, b3, b4⟩ : ∃ env2, evalJ [(0, ⟨some 6, .mv (.t 0), none, [], []⟩), (1, ⟨some 7, .len (.t 6), none, [], [6]⟩), (2, ⟨some 8, .bin .lss (.t 7) (.c (.int .i64 (2))), none, [], [7]⟩)] env1 H = some (env2, H) ∧ env2.length = 61 ∧ gt env2 0 = v ∧ gt env2 8 = .bool true := by
   rcases hv with ⟨l, o, e, x, hv⟩ | hv
   ·refine ⟨_, by simp [a2, a3, hv]; exact rfl, by simp [a2], by simp [a2, a3], ?_⟩
    simp [a2]; omega
   ·refine ⟨_, by simp [a2, a3, hv]; exact rfl, by simp [a2], by simp [a2, a3], ?_⟩
    simp [a2]
  have c1 : (killT env2 [8]).length = 61 ∧ gt (killT env2 [8]) 0 = v := ⟨by simp [killT, b2], by simp [killT, b2, b3]⟩
  generalize hk : killT env2 [8] = env3 at c1
  obtain ⟨c2, c3⟩ := c1
  obtain ⟨env4, d1, d2, d3⟩ : ∃ env4, evalJ [(0, ⟨some 9, .mv (.t 0), none, [], []⟩), (1, ⟨some 2, .mv (.t 9), none, [], [9]⟩)] env3 H = some (env4, H) ∧ env4.length = 61 ∧ gt env4 2 = v := ⟨_, by simp; exact rfl, by simp [c2], by simp [c2, c3]⟩
  refine ⟨env4, .call hT rfl (by decide) (env' := env4) (ex := .ret) ?_ (.inr rfl) ?_, d2⟩
  ·show J Tb X (.co cptB ([v] ++ List.replicate 60 AV.und) H .ret _ H)
   rw [henv]
   refine .seqN (J_regs (by simp) a1) (.seqX (by simp) (.seqN (J_regs (by simp) b1) (.condT (by rw [ev_t]; exact b4) (.seqN .kill ?_))))
   rw [hk]
   exact .seqN (J_regs (by simp) d1) .ret
  ·simp only [results, List.mapM_cons, List.mapM_nil, resOf]
   have : env4.getD 2 .und = v := by rw [← d3]; unfold gt; rfl
   rw [this]; rfl
 rw [Den] at hd
 rcases hd with ⟨_, hl, hv, rfl, he⟩ | ⟨p, o, n, avs, hv, he, hn, hp, hd⟩
 ·have hnil : l = [] := by simpa using hl
  subst hnil
  obtain ⟨_, h1, _⟩ := short 0 (by rcases hv with rfl | ⟨_, _, rfl⟩ <;> rfl) (by omega) (by rcases hv with rfl | ⟨q, o, rfl⟩; exact .inr rfl; exact .inl ⟨q, o, _, _, rfl⟩)
  refine ⟨v, H, F, [], h1, hfz, ?_, List.nodup_nil, Tr.refl _ _ _⟩
  rw [hio]
  rw [Dens]
  refine ⟨v, [v], [], [], rfl, rfl, ?_, by rw [dens_one, Den]⟩
  rw [Den]
  exact .inl ⟨rfl, by simp [compactL], hv, rfl, he⟩
 ·rcases hd with ⟨_, h3, h4, h5, ⟨rest, h6, h7⟩, l1, h8, h9⟩ | ⟨h1, _⟩
  ·subst h3
   obtain ⟨rfl, rfl⟩ := dens_ints h9
   have hrest : rest = [] := List.eq_nil_of_length_eq_zero (by simpa using h7)
   subst hrest
   have hln : l.length = n := by simpa using hn
   have hc : holdsI H p l := ⟨hp, h4, by simpa using h6⟩
   have hv' : v = .sl p 0 n 1 false := by rw [hv]; simp
   subst h8
   -- what is left to show of an answer
   have fin : ∀ {H' : Heap} {m : Nat} {cs' : List Int}, J Tb X (.ca f [v] H (.sl p 0 m 1 false) H') → m = (compactL l).length → H'.sz = H.sz → (∀ q, q ≠ p → H'.get q = H.get q) → holdsI H' p cs' → cs'.take (compactL l).length = compactL l →
     ∃ w H'' F'' l2, J Tb X (.ca f [v] H w H'') ∧ Fz H'' F'' ∧ Dens H'' F'' (w :: ioSel (io f) 0 [v]) (ssl eI (compactL l) :: [.und]) l2 ∧ l2.Nodup ∧ Tr H F (fun k => k ∈ [p]) H'' F'' (fun k => k ∈ l2) := by
    intro H' m cs' hJ hm hsz hoth hh htk
    subst hm
    refine ⟨_, H', fun k => F k ∨ k = p, [], hJ, ?_, ?_, List.nodup_nil, ⟨by rw [hsz]; exact Nat.le_refl _, fun k hk hn => hoth k (by simpa using hn), by simp, fun k hk => .inl hk, fun k hk => hk.imp id fun e => .inl (by simp [e])⟩⟩
    ·rintro k (hk | rfl)
     ·have hkp : k ≠ p := fun e => by subst e; exact h5 hk
      rw [hoth k hkp, hsz]; exact hfz k hk
     ·exact ⟨hh.1, by rw [hh.2.1]; simp⟩
    ·rw [hio, Dens]
     refine ⟨_, [v], [], [], rfl, rfl, ?_, by rw [dens_one, Den]⟩
     rw [Den]
     refine .inr ⟨p, 0, _, (compactL l).map (fun n => .int .i64 n), rfl, by decide, by simp, hh.1, .inr ⟨rfl, by rw [hh.2.1]; simp, .inr rfl, ⟨[], (cs'.drop (compactL l).length).map (fun n => .int .i64 n), ?_, rfl⟩, rfl, ints_dens⟩⟩
     rw [hh.2.2, List.nil_append, ← htk, ← List.map_append]
     rw [htk, ← htk, List.length_take]
     rw [show min (compactL l).length cs'.length = (compactL l).length by
      have := congrArg List.length htk
      rw [List.length_take] at this; omega]
     rw [List.take_append_drop]
   by_cases h2 : n < 2
   ·have hcl : compactL l = l := by
     match l, hln with
     | [], _ => rfl
     | [a], _ => rfl
     | a :: b :: r, hln => simp at hln; omega
    obtain ⟨_, h1, _⟩ := short n (by rw [hv']; rfl) h2 (.inl ⟨p, 0, _, _, hv'⟩)
    rw [hv'] at h1
    refine fin (m := n) (by rw [hv']; exact h1) (by rw [hcl, hln]) rfl (fun _ _ => rfl) hc (by rw [hcl]; simp)
   ·rw [hv'] at a3
    obtain ⟨env2, b1, b2, b3, b4⟩ : ∃ env2, evalJ [(0, ⟨some 6, .mv (.t 0), none, [], []⟩), (1, ⟨some 7, .len (.t 6), none, [], [6]⟩), (2, ⟨some 8, .bin .lss (.t 7) (.c (.int .i64 (2))), none, [], [7]⟩)] env1 H = some (env2, H) ∧ env2.length = 61 ∧ gt env2 0 = .sl p 0 n 1 false ∧ gt env2 8 = .bool false := by
     refine ⟨_, by simp [a2, a3]; exact rfl, by simp [a2], by simp [a2, a3], ?_⟩
     simp [a2]; omega
    have c1 : (killT env2 [8]).length = 61 ∧ gt (killT env2 [8]) 0 = .sl p 0 n 1 false := ⟨by simp [killT, b2], by simp [killT, b2, b3]⟩
    generalize hk : killT env2 [8] = env3 at c1
    obtain ⟨c2, c3⟩ := c1
    obtain ⟨env4, d1, d2, d3, d4⟩ : ∃ env4, evalJ [(0, ⟨some 3, .mv (.c (.int .i64 (1))), none, [], []⟩)] env3 H = some (env4, H) ∧ env4.length = 61 ∧ gt env4 0 = .sl p 0 n 1 false ∧ gt env4 3 = .int .i64 ((1 : Nat) : Int) := ⟨_, by simp; exact rfl, by simp [c2], by simp [c2, c3], by simp [c2]⟩
    have h11 : compactL (l.take 1) = l.take 1 := by
     match l, hln with
     | [], _ => rfl
     | a :: r, _ => rfl
    have jA : J Tb X (.co (.seq (.reg false [(0, ⟨some 6, .mv (.t 0), none, [], []⟩), (1, ⟨some 7, .len (.t 6), none, [], [6]⟩), (2, ⟨some 8, .bin .lss (.t 7) (.c (.int .i64 (2))), none, [], [7]⟩)]) (.cond (.t 8) (.seq (.kill [8]) (.seq (.reg false [(0, ⟨some 9, .mv (.t 0), none, [], []⟩), (1, ⟨some 2, .mv (.t 9), none, [], [9]⟩)]) .ret)) (.seq (.kill [8]) .skip))) env1 H .normal env3 H) := by
     refine .seqN (J_regs (by simp) b1) (.condF (by rw [ev_t]; exact b4) (.seqN .kill ?_))
     rw [hk]; exact .skip
    have fres : ∀ {e9 : Env} {H9 : Heap} {m : Nat}, gt e9 2 = .sl p 0 m 1 false → results e9 H9 [.t 2] = some (.sl p 0 m 1 false) := by
     intro e9 H9 m h
     simp only [results, List.mapM_cons, List.mapM_nil, resOf]
     have : e9.getD 2 .und = .sl p 0 m 1 false := by rw [← h]; unfold gt; rfl
     rw [this]; rfl
    obtain ⟨env5, H5, hres⟩ := cpt_outer (Tb := Tb) (X := X) hln (by omega) (n - 1) (k := 1) (by omega) d2 d3 d4 hc (Nat.le_refl _) h11
    rcases hres with ⟨j1, r1, r2, r3, cs', r4, r5⟩ | ⟨j1, rfl, r2, r3, r4⟩
    ·refine fin (m := (compactL l).length) (.call hT rfl (by decide) (env' := env5) (ex := .ret) ?_ (.inr rfl) (fres r3)) rfl r1 r2 r4 r5
     show J Tb X (.co cptB ([v] ++ List.replicate 60 AV.und) H .ret _ _)
     rw [henv]
     exact .seqN (J_regs (by simp) a1) (.seqN jA (.seqX (by simp) (.seqN (J_regs (by simp) d1) (.blockN (by simp) j1))))
    ·obtain ⟨env6, g1, g2⟩ : ∃ env6, evalJ [(0, ⟨some 60, .mv (.t 0), none, [], []⟩), (1, ⟨some 2, .mv (.t 60), none, [], [60]⟩)] env5 H5 = some (env6, H5) ∧ gt env6 2 = .sl p 0 n 1 false := ⟨_, by simp; exact rfl, by simp [r2, r3]⟩
     refine fin (m := n) (.call hT rfl (by decide) (env' := env6) (ex := .ret) ?_ (.inr rfl) (fres g2)) (by rw [r4, hln]) rfl (fun _ _ => rfl) hc (by rw [r4]; simp)
     show J Tb X (.co cptB ([v] ++ List.replicate 60 AV.und) H5 .ret _ _)
     rw [henv]
     exact .seqN (J_regs (by simp) a1) (.seqN jA (.seqN (.seqN (J_regs (by simp) d1) (.blockE j1)) (.seqN (J_regs (by simp) g1) .ret)))
  ·cases h1
end
def compactN (l : List Int) : Option (List Int) := if l.length < 9223372036854775807 then some (compactL l) else none
theorem ca_compact {x : Cx} {X : Ext} {f : Nat} {l r : List Int} (hx1 : ∀ f ts t outs, CallOk x.fns X x.io f ts t outs → x.X f ts t outs) (hf : x.fns f = some ⟨61, 1, [.t 2], cptB⟩) (hio : x.io f = [0]) (h : compactN l = some r) : VJx x (.ca f [osl eI true l] (ssl eI r) [.und]) := by
 unfold compactN at h
 split at h
 ·rename_i hm
  simp only [Option.some.injEq] at h
  subst h
  exact VJ.ext (hx1 _ _ _ _ (compact_of hf hio hm))
 ·simp at h
end Go.Proofs.YtabmomjfdondnaaH
namespace Go.Proofs.YtabmomjfdondnaaH
open Go
def PF (t t1 : T) : Prop := ∀ H F v ls, Den H F v t ls → ls.Nodup → ∃ l1, List.Sublist l1 ls ∧ ∀ G : Nat → Prop, (∀ l, F l → G l) → (∀ l ∈ ls, l ∉ l1 → G l) → (∀ l ∈ l1, ¬ G l) → Den H G v t1 l1
def PFs (ts ts1 : List T) : Prop := ∀ H F vs ls, Dens H F vs ts ls → ls.Nodup → ∃ l1, List.Sublist l1 ls ∧ ∀ G : Nat → Prop, (∀ l, F l → G l) → (∀ l ∈ ls, l ∉ l1 → G l) → (∀ l ∈ l1, ¬ G l) → Dens H G vs ts1 l1
theorem PF.le {t t1 : T} (h : TLe t t1) : PF t t1 := fun H F v ls hd _ => ⟨ls, List.Sublist.refl _, fun G h1 _ h3 => h _ _ _ _ (Den.agree ⟨Nat.le_refl _, fun l hl => ⟨rfl, h1 l hl⟩, fun l hl => ⟨rfl, h3 l hl⟩⟩ hd)⟩
theorem PF.refl (t : T) : PF t t := .le (TLe.refl t)
theorem PF.frz (t : T) : PF t t.frz := fun H F v ls hd _ => ⟨[], List.nil_sublist _, fun G h1 h2 _ => Den.frz h1 (fun l hl => h2 l hl (by simp)) hd⟩
theorem PFs.frzs (ts : List T) : PFs ts (frzs ts) := fun H F v ls hd _ => ⟨[], List.nil_sublist _, fun G h1 h2 _ => Dens.frz h1 (fun l hl => h2 l hl (by simp)) hd⟩
theorem PFs.nil : PFs [] [] := fun H F v ls hd _ => ⟨[], List.nil_sublist _, fun G _ _ _ => by rw [Dens] at hd ⊢; exact ⟨hd.1, rfl⟩⟩
theorem PFs.cons {t t1 : T} {ts ts1 : List T} (h : PF t t1) (h' : PFs ts ts1) : PFs (t :: ts) (t1 :: ts1) := by
 intro H F vs ls hd hnd
 rw [Dens] at hd
 obtain ⟨c, cs', a, b, rfl, rfl, h1, h2⟩ := hd
 obtain ⟨n1, n2, n3⟩ := List.nodup_append.1 hnd
 obtain ⟨a1, s1, f1⟩ := h _ _ _ _ h1 n1
 obtain ⟨b1, s2, f2⟩ := h' _ _ _ _ h2 n2
 refine ⟨a1 ++ b1, s1.append s2, fun G g1 g2 g3 => ?_⟩
 rw [Dens]
 refine ⟨c, cs', a1, b1, rfl, rfl, f1 G g1 (fun l hl hn => g2 l (by simp [hl]) ?_) (fun l hl => g3 l (by simp [hl])), f2 G g1 (fun l hl hn => g2 l (by simp [hl]) ?_) (fun l hl => g3 l (by simp [hl]))⟩
 ·rw [List.mem_append]
  rintro (hm | hm)
  ·exact hn hm
  ·exact n3 l hl l (s2.subset hm) rfl
 ·rw [List.mem_append]
  rintro (hm | hm)
  ·exact n3 l (s1.subset hm) l hl rfl
  ·exact hn hm
theorem PFs.len {ts ts1 : List T} (h : PFs ts ts1) (hd : ∃ H F vs ls, Dens H F vs ts ls ∧ ls.Nodup) : ts1.length = ts.length := by
 classical
 obtain ⟨H, F, vs, ls, hd, hnd⟩ := hd
 obtain ⟨l1, s1, f1⟩ := h _ _ _ _ hd hnd
 have hown := hd.owned
 have := f1 (fun l => F l ∨ (l ∈ ls ∧ l ∉ l1)) (fun l hl => .inl hl) (fun l hl hn => .inr ⟨hl, hn⟩) (fun l hl => by
  rintro (hf | ⟨_, hn⟩)
  ·exact (hown l (s1.subset hl)).2.2 hf
  ·exact hn hl)
 rw [← hd.length, ← this.length]
theorem PF.agg {ts ts1 : List T} (h : PFs ts ts1) : PF (.agg ts) (.agg ts1) := by
 intro H F v ls hd hnd
 rw [Den] at hd
 obtain ⟨cs, rfl, hd⟩ := hd
 obtain ⟨l1, s1, f1⟩ := h _ _ _ _ hd hnd
 exact ⟨l1, s1, fun G g1 g2 g3 => by rw [Den]; exact ⟨cs, rfl, f1 G g1 g2 g3⟩⟩
theorem PF.tup {ts ts1 : List T} (h : PFs ts ts1) : PF (.tup ts) (.tup ts1) := by
 intro H F v ls hd hnd
 rw [Den] at hd
 obtain ⟨cs, rfl, hd⟩ := hd
 obtain ⟨l1, s1, f1⟩ := h _ _ _ _ hd hnd
 exact ⟨l1, s1, fun G g1 g2 g3 => by rw [Den]; exact ⟨cs, rfl, f1 G g1 g2 g3⟩⟩
theorem PF.at {a : AV} {t t1 : T} (h : PF t t1) : PF (.at a t) (.at a t1) := by
 intro H F v ls hd hnd
 rw [Den] at hd
 obtain ⟨l1, s1, f1⟩ := h _ _ _ _ hd.2 hnd
 exact ⟨l1, s1, fun G g1 g2 g3 => by rw [Den]; exact ⟨hd.1, f1 G g1 g2 g3⟩⟩
theorem PF.ptr {ts ts1 : List T} (h : PFs ts ts1) : PF (.ptr true ts) (.ptr true ts1) := by
 intro H F v ls hd hnd
 rw [Den] at hd
 obtain ⟨l, o, cs, rfl, hl, hd⟩ := hd
 rcases hd with ⟨_, h3, h4, h5, h6, lc, rfl, h8⟩ | ⟨h1, _⟩
 ·obtain ⟨l1, s1, f1⟩ := h _ _ _ _ h8 (List.nodup_cons.1 hnd).2
  refine ⟨l :: l1, s1.cons_cons _, fun G g1 g2 g3 => ?_⟩
  rw [Den]
  refine ⟨l, o, cs, rfl, hl, .inl ⟨rfl, h3, h4, g3 l (by simp), h6, l1, rfl, f1 G g1 (fun k hk hn => g2 k (by simp [hk]) ?_) (fun k hk => g3 k (by simp [hk]))⟩⟩
  rw [List.mem_cons]
  rintro (rfl | hm)
  ·exact (List.nodup_cons.1 hnd).1 hk
  ·exact hn hm
 ·cases h1
theorem PF.sl {y : Bool} {e sk : Nat} {ts ts1 : List T} (h : PFs ts ts1) (hlen : ts1.length = ts.length) : PF (.sl true y e sk ts) (.sl true y e sk ts1) := by
 intro H F v ls hd hnd
 rw [Den] at hd
 rcases hd with ⟨h1, rfl, h3, rfl, h5⟩ | ⟨l, o, n, cs, rfl, he, hcs, hl, hd⟩
 ·refine ⟨[], List.Sublist.refl _, fun G _ _ _ => ?_⟩
  rw [Den]
  exact .inl ⟨h1, List.eq_nil_of_length_eq_zero (by simpa using hlen), h3, rfl, h5⟩
 ·rcases hd with ⟨_, h3, h4, h5, h6, lc, rfl, h8⟩ | ⟨h1, _⟩
  ·obtain ⟨l1, s1, f1⟩ := h _ _ _ _ h8 (List.nodup_cons.1 hnd).2
   refine ⟨l :: l1, s1.cons_cons _, fun G g1 g2 g3 => ?_⟩
   rw [Den]
   refine .inr ⟨l, o, n, cs, rfl, he, hcs, hl, .inl ⟨rfl, h3, h4, g3 l (by simp), h6, l1, rfl, f1 G g1 (fun k hk hn => g2 k (by simp [hk]) ?_) (fun k hk => g3 k (by simp [hk]))⟩⟩
   rw [List.mem_cons]
   rintro (rfl | hm)
   ·exact (List.nodup_cons.1 hnd).1 hk
   ·exact hn hm
  ·cases h1
theorem vle_pf {V V1 : VEnv} {s : Nat} {t t1 : T} (hs : V.get s = .v t) (hu : t ≠ .und) (h : PF t t1) (hv : (unroot s V).set s (.v t1) = V1) : VLe V V1 := by
 subst hv
 intro H F env Lf hst
 obtain ⟨l1, s1, f1⟩ := h _ _ _ _ (hst.den hs) (hst.nd s)
 have hd := f1 (fun l => F l ∨ (l ∈ Lf s ∧ l ∉ l1)) (fun l hl => .inl hl) (fun l hl hn => .inr ⟨hl, hn⟩) (fun l hl => by
  rintro (hf | ⟨_, hn⟩)
  ·exact (Den.owned (hst.den hs) l (s1.subset hl)).2.2 hf
  ·exact hn hl)
 refine ⟨fun l => F l ∨ (l ∈ Lf s ∧ l ∉ l1), _, hst.see (l1 := l1) hs hu (fun _ h => .inl h) (fun l h => h.imp id And.left) (fun l hl => s1.subset hl) (s1.nodup (hst.nd s)) hd, ?_⟩
 refine ⟨Nat.le_refl _, fun _ _ _ => rfl, fun l hl => .inl ?_, fun _ h => .inl h, fun l hl => hl.elim .inl fun h => .inr (.inl ⟨s, h.1⟩)⟩
 obtain ⟨q, hl⟩ := hl
 unfold upL at hl
 split at hl
 ·exact ⟨s, s1.subset hl⟩
 ·exact ⟨q, hl⟩
theorem Wc.monoG {x : Cx} {n : Nat} {c : CCode} {V : VEnv} {Q Q' : Ex → VEnv → Prop} (h : Wc x n c V (fun ex V => ∃ V2, VLe V V2 ∧ Q ex V2)) (hq : ∀ ex V, Q ex V → Q' ex V) : Wc x n c V Q' := by
 obtain ⟨ex, V', h1, V2, h2, h3⟩ := h
 exact ⟨ex, V2, .ghE h1 h2, hq _ _ h3⟩
theorem Wo.monoG {x : Cx} {n : Nat} {ops : List (Nat × COper)} {V : VEnv} {Q Q' : VEnv → Prop} (h : Wo x n ops V (fun V => ∃ V2, VLe V V2 ∧ Q V2)) (hq : ∀ V, Q V → Q' V) : Wo x n ops V Q' := by
 obtain ⟨V', h1, V2, h2, h3⟩ := h
 exact ⟨V2, .ghEO h1 h2, hq _ h3⟩
theorem Wc.postG {x : Cx} {n : Nat} {c : CCode} {V : VEnv} {Q : Ex → VEnv → Prop} (h : Wc x n c V (fun ex V => ∃ V2, VLe V V2 ∧ Q ex V2)) : Wc x n c V Q := h.monoG fun _ _ h => h
theorem vle_of {V V1 V2 : VEnv} (h : VLe V V1) (h' : VLe V1 V2) : VLe V V2 := h.trans h'
theorem Wc.en {x : Cx} {n : Nat} {V V1 : VEnv} {Q : Ex → VEnv → Prop} {d : Bool} {ops : List (Nat × COper)} (h : evalO n ops V = some ([], V1)) (hq : Q .normal V1) : Wc x n (.reg d ops) V Q := Wc.evs h (Wo.nil hq)
theorem Wc.se {x : Cx} {n : Nat} {V V1 : VEnv} {Q : Ex → VEnv → Prop} {d : Bool} {ops : List (Nat × COper)} {c : CCode} (h : evalO n ops V = some ([], V1)) (hq : Wc x n c V1 Q) : Wc x n (.seq (.reg d ops) c) V Q := Wc.seq (Wc.evs h (Wo.nil hq))
theorem Wc.sk {x : Cx} {n : Nat} {V V1 : VEnv} {Q : Ex → VEnv → Prop} {ts : List Nat} {c : CCode} (h : V.drops ts = V1) (hq : Wc x n c V1 Q) : Wc x n (.seq (.kill ts) c) V Q := Wc.seq (Wc.kil h hq)
theorem Wo.en {x : Cx} {n : Nat} {V V1 : VEnv} {Q : VEnv → Prop} {ops : List (Nat × COper)} (h : evalO n ops V = some ([], V1)) (hq : Q V1) : Wo x n ops V Q := Wo.evs h (Wo.nil hq)
theorem Wo.cl {x : Cx} {n i d : Nat} {p : COp} {ks : List Nat} {ops : List (Nat × COper)} {V V1 V2 V3 : VEnv} {Q : VEnv → Prop} {f : Nat} {ts : List T} {rs : List Nat} {xs : List Opd} {t : T} {outs : List T} (hd : dstLt n (some d) = true) (hc : callV x.io V p = some (f, ts, rs, V1, xs))
  (hca : VJx x (.ca f ts t outs)) (hal : (rs.isEmpty || (t.alone && alones outs)) = true) (hb : backs V V1 n V1 xs outs = some V2) (hp : putR V2 (some d) (.v t) = some V3) (h : Wo x n ops (V3.drops ks) Q) : Wo x n ((i, ⟨some d, p, none, [], ks⟩) :: ops) V Q := Wo.call rfl hd hc hca rfl hal hb hp h
theorem iter_all {σ ρ : Type} {f : σ → Option (σ ⊕ ρ)} {P : σ → ρ → Prop} (hs : ∀ s o r, f s = some o → (∀ s', o = .inl s' → P s' r) → (∀ r', o = .inr r' → r' = r) → P s r) : ∀ s r, iter f s = some r → P s r := fun _ _ h => iter_run hs h
end Go.Proofs.YtabmomjfdondnaaH
namespace Go.Proofs.YtabmomjfdondnaaH
open Go
variable {α β σ ρ : Type}
theorem ix_nat {l : List α} {i : Nat} (h : i < l.length) : ix l (i : Int) = some l[i] := by
 unfold ix
 rw [if_pos (by omega), Int.toNat_natCast, List.getElem?_eq_getElem h]
theorem ix_cast {l : List α} {i : Nat} : ix l (i : Int) = l[i]? := by
 unfold ix
 rw [if_pos (by omega), Int.toNat_natCast]
theorem ix_of {l : List α} {j : Int} (h0 : 0 ≤ j) : ix l j = l[j.toNat]? := by
 unfold ix; rw [if_pos h0]
theorem app_fits {bs : Nat} {l l' : List α} (h : (l.length + l'.length) * bs ≤ 140737488355328) : app bs l l' = some (l ++ l') := by
 unfold app; rw [if_pos (.inr h)]
theorem mkl_ok {bs n : Int} {a : α} (h0 : 0 ≤ n) (h : bs * n ≤ 281474976710656) (hn : n ≤ 9223372036854775807) : mkl bs n a = some (List.replicate n.toNat a) := by
 unfold mkl; rw [if_pos ⟨h0, h, hn⟩]
theorem w64_of {n : Int} (h : -9223372036854775808 ≤ n ∧ n ≤ 9223372036854775807) : w64 n = n := by
 unfold w64; rw [IntKind.wrap_i64]; omega
theorem w64_succ {i : Nat} (h : i < 9223372036854775807) : w64 ((i : Int) + 1) = ((i + 1 : Nat) : Int) := by
 rw [w64_of (by omega)]; omega
theorem cutL_ok {l : List α} {lo hi : Int} (h0 : 0 ≤ lo) (h1 : lo ≤ hi) (h2 : hi ≤ l.length) : cutL l lo hi = some ((l.take hi.toNat).drop lo.toNat) := by
 unfold cutL; rw [if_pos ⟨h0, h1, h2⟩]
theorem iter_steps {f : σ → Option (σ ⊕ ρ)} (st : Nat → σ) (n : Nat) (r : ρ) (hs : ∀ i, i < n → f (st i) = some (.inl (st (i + 1)))) (he : f (st n) = some (.inr r)) : iter f (st 0) = some r := by
 have : ∀ k i, k = n - i → i ≤ n → iter f (st i) = some r := by
  intro k
  induction k with
  | zero =>
   intro i hk hi
   have : i = n := by omega
   subst this
   rw [iter_eq, he]
  | succ k ih =>
   intro i hk hi
   rw [iter_eq, hs i (by omega)]
   exact ih (i + 1) (by omega) (by omega)
 exact this n 0 (by omega) (by omega)
end Go.Proofs.YtabmomjfdondnaaH
namespace Go.Proofs.YtabmomjfdondnaaH
open Go
variable {α β σ ρ : Type}
theorem iter_up {f : σ → Option (σ ⊕ ρ)} (n : Nat) (I : Nat → σ → Prop) (Q : ρ → Prop)
  (hs : ∀ i s, i < n → I i s → ∃ o, f s = some o ∧ (match o with | .inl s' => I (i + 1) s' | .inr r => Q r)) (he : ∀ s, I n s → ∃ r, f s = some (.inr r) ∧ Q r) :
  ∀ (s : σ), I 0 s → ∃ r, iter f s = some r ∧ Q r := by
 have : ∀ k i s, k = n - i → i ≤ n → I i s → ∃ r, iter f s = some r ∧ Q r := by
  intro k
  induction k with
  | zero =>
   intro i s hk hi h
   have : i = n := by omega
   subst this
   obtain ⟨r, h1, h2⟩ := he s h
   exact ⟨r, by rw [iter_eq, h1], h2⟩
  | succ k ih =>
   intro i s hk hi h
   obtain ⟨o, h1, h2⟩ := hs i s (by omega) h
   rw [iter_eq, h1]
   cases o with
   | inl s' => exact ih (i + 1) s' (by omega) (by omega) h2
   | inr r => exact ⟨r, rfl, h2⟩
 exact fun s h => this n 0 s (by omega) (by omega) h
theorem take_succ' {l : List α} {i : Nat} (h : i < l.length) : l.take (i + 1) = l.take i ++ [l[i]] := by
 rw [List.take_add_one, List.getElem?_eq_getElem h]; rfl
theorem set_copy {a L : List α} {i : Nat} (h : i < a.length) (hl : L.length = a.length) : (a.take i ++ L.drop i).set i a[i] = a.take (i + 1) ++ L.drop (i + 1) := by
 apply List.ext_getElem?
 intro j
 rw [List.getElem?_set]
 have e1 : (a.take i).length = i := by simp; omega
 have e2 : (a.take (i + 1)).length = i + 1 := by simp; omega
 by_cases hj : i = j
 ·subst hj
  rw [if_pos rfl, if_pos (by simp; omega), List.getElem?_append_left (by omega), List.getElem?_take, if_pos (by omega), List.getElem?_eq_getElem h]
 ·rw [if_neg hj]
  by_cases hlt : j < i
  ·rw [List.getElem?_append_left (by omega), List.getElem?_append_left (by omega), List.getElem?_take, List.getElem?_take, if_pos hlt, if_pos (by omega)]
  ·rw [List.getElem?_append_right (by omega), List.getElem?_append_right (by omega), e1, e2, List.getElem?_drop, List.getElem?_drop]
   congr 1; omega
theorem iter_copy {f : List α × Int → Option ((List α × Int) ⊕ List α)} {a L : List α} (hl : L.length = a.length)
  (hs : ∀ (i : Nat) (h : i < a.length) out, i < out.length → f (out, (i : Int)) = some (.inl (out.set i a[i], ((i + 1 : Nat) : Int)))) (he : ∀ out, f (out, (a.length : Int)) = some (.inr out)) :
  iter f (L, 0) = some a := by
 have := iter_steps (f := f) (fun i => (a.take i ++ L.drop i, (i : Int))) a.length a (fun i hi => by rw [hs i hi _ (by simp; omega), set_copy hi hl]) (by
  rw [he, List.take_of_length_le (Nat.le_refl _), List.drop_of_length_le (by omega), List.append_nil])
 simpa using this
theorem iter_ex {f : Int → Option (Int ⊕ (Unit ⊕ ρ))} (L : List α) (p : α → Bool) (c : ρ)
  (hs : ∀ (i : Nat) (h : i < L.length), f (i : Int) = some (if p L[i] = true then .inr (.inr c) else .inl ((i + 1 : Nat) : Int))) (he : f (L.length : Int) = some (.inr (.inl ()))) :
  iter f 0 = some (if L.any p = true then .inr c else .inl ()) := by
 obtain ⟨r, h1, h2⟩ := iter_up (f := f) L.length (fun i s => s = (i : Int) ∧ (L.take i).any p = false) (fun r => r = if L.any p = true then .inr c else .inl ()) (fun i s hi ⟨h, hp⟩ => by
   subst h
   refine ⟨_, hs i hi, ?_⟩
   by_cases hc : p L[i] = true
   ·rw [if_pos hc]
    dsimp only
    rw [if_pos (List.any_eq_true.2 ⟨L[i], List.getElem_mem hi, hc⟩)]
   ·rw [if_neg hc]
    refine ⟨rfl, ?_⟩
    rw [take_succ' hi, List.any_append, hp]
    simpa using hc) (fun s ⟨h, hp⟩ => by
   subst h
   refine ⟨_, he, ?_⟩
   rw [List.take_of_length_le (Nat.le_refl _)] at hp
   rw [hp]; rfl) 0 ⟨rfl, by simp⟩
 rw [h1, h2]
theorem iter_idx {f : Int → Option (Int ⊕ (Unit ⊕ Int))} (L : List α) (p : α → Bool)
  (hs : ∀ (i : Nat) (h : i < L.length), f (i : Int) = some (if p L[i] = true then .inr (.inr (i : Int)) else .inl ((i + 1 : Nat) : Int))) (he : f (L.length : Int) = some (.inr (.inl ()))) :
  ∃ o, iter f 0 = some o ∧ (match o with | .inl _ => L.any p = false | .inr x => 0 ≤ x ∧ L.any p = true) := by
 refine iter_up (f := f) L.length (fun i s => s = (i : Int) ∧ (L.take i).any p = false) (fun o => match o with | .inl _ => L.any p = false | .inr x => 0 ≤ x ∧ L.any p = true) (fun i s hi ⟨h, hp⟩ => ?_) (fun s ⟨h, hp⟩ => ?_) 0 ⟨rfl, by simp⟩
 ·subst h
  refine ⟨_, hs i hi, ?_⟩
  by_cases hc : p L[i] = true
  ·rw [if_pos hc]
   exact ⟨by omega, List.any_eq_true.2 ⟨L[i], List.getElem_mem hi, hc⟩⟩
  ·rw [if_neg hc]
   refine ⟨rfl, ?_⟩
   rw [take_succ' hi, List.any_append, hp]
   simpa using hc
 ·subst h
  refine ⟨_, he, ?_⟩
  rw [List.take_of_length_le (Nat.le_refl _)] at hp
  exact hp
def lft (n : Int) (s : Nat) : Int := if (s : Int) ≤ n then n - s else -1
theorem lft_neg {n : Int} {s : Nat} : lft n s < 0 ↔ n < s := by unfold lft; split <;> omega
theorem lft_pos {n : Int} {s : Nat} (h : ¬ lft n s < 0) : lft n s = n - s ∧ (s : Int) ≤ n := by
 unfold lft at h ⊢
 by_cases hc : (s : Int) ≤ n
 ·rw [if_pos hc]; exact ⟨rfl, hc⟩
 ·rw [if_neg hc] at h; omega
theorem lft_bad {n : Int} {s : Nat} (h : lft n s < 0) : lft n s = -1 := by
 unfold lft at h ⊢
 by_cases hc : (s : Int) ≤ n
 ·rw [if_pos hc] at h; omega
 ·rw [if_neg hc]
theorem iter_sz {f : Int × Int → Option ((Int × Int) ⊕ (Int ⊕ Int))} (s : α → Nat) (L : List α) (b0 : Int) (h0 : 0 ≤ b0)
  (hs : ∀ (i : Nat) (h : i < L.length) (b : Int), 0 ≤ b → b ≤ b0 → f (b, (i : Int)) = some (if lft b (s L[i]) < 0 then .inr (.inr (-1)) else .inl (lft b (s L[i]), ((i + 1 : Nat) : Int))))
  (he : ∀ b, f (b, (L.length : Int)) = some (.inr (.inl b))) : iter f (b0, 0) = some (if lft b0 (L.map s).sum < 0 then .inr (-1) else .inl (lft b0 (L.map s).sum)) := by
 obtain ⟨r, h1, h2⟩ := iter_up (f := f) L.length (fun i x => x = (b0 - ((L.take i).map s).sum, (i : Int)) ∧ (((L.take i).map s).sum : Int) ≤ b0) (fun r => r = (if lft b0 (L.map s).sum < 0 then .inr (-1) else .inl (lft b0 (L.map s).sum))) (fun i x hi ⟨h, hp⟩ => by
   subst h
   refine ⟨_, hs i hi _ (by omega) (by omega), ?_⟩
   have e1 : ((L.take (i + 1)).map s).sum = ((L.take i).map s).sum + s L[i] := by
    rw [take_succ' hi, List.map_append, List.sum_append]; simp
   have e2 : ((L.take (i + 1)).map s).sum ≤ (L.map s).sum := by
    conv => rhs; rw [← List.take_append_drop (i + 1) L, List.map_append, List.sum_append]
    omega
   by_cases hc : lft (b0 - ((L.take i).map s).sum) (s L[i]) < 0
   ·rw [if_pos hc]
    dsimp only
    rw [if_pos]
    rw [lft_neg] at hc ⊢
    omega
   ·rw [if_neg hc]
    obtain ⟨g1, g2⟩ := lft_pos hc
    refine ⟨?_, by omega⟩
    rw [g1, e1]
    congr 1; omega) (fun x ⟨h, hp⟩ => by
   subst h
   refine ⟨_, he _, ?_⟩
   rw [List.take_of_length_le (Nat.le_refl _)] at hp ⊢
   have e3 : lft b0 (L.map s).sum = b0 - (L.map s).sum := by unfold lft; rw [if_pos hp]
   rw [e3, if_neg (by omega)]) (b0, 0) ⟨by simp, by simpa using h0⟩
 rw [h1, h2]
theorem mem_le_sum {s : α → Nat} {l : List α} {a : α} (h : a ∈ l) : s a ≤ (l.map s).sum := by
 induction l with
 | nil => simp at h
 | cons b l ih =>
  rw [List.map_cons, List.sum_cons]
  rcases List.mem_cons.1 h with rfl | h
  ·omega
  ·have := ih h; omega
end Go.Proofs.YtabmomjfdondnaaH
namespace Go.Proofs.YtabmomjfdondnaaH
open Go
variable {α β γ σ ρ : Type}
theorem iter_foldl {f : β × Int → Option ((β × Int) ⊕ ρ)} (L : List α) (g : β → α → β) (fin : β → ρ) {b0 : β}
  (hs : ∀ (i : Nat) (h : i < L.length) b, f (b, (i : Int)) = some (.inl (g b L[i], ((i + 1 : Nat) : Int)))) (he : ∀ b, f (b, (L.length : Int)) = some (.inr (fin b))) :
  iter f (b0, 0) = some (fin (L.foldl g b0)) := by
 obtain ⟨r, h1, h2⟩ := iter_up (f := f) L.length (fun i s => s = ((L.take i).foldl g b0, (i : Int))) (fun r => r = fin (L.foldl g b0)) (fun i s hi h => by
   subst h
   refine ⟨_, hs i hi _, ?_⟩
   dsimp only
   rw [take_succ' hi, List.foldl_append]; rfl) (fun s h => by
   subst h
   refine ⟨_, he _, ?_⟩
   rw [List.take_of_length_le (Nat.le_refl _)]) (b0, 0) (by simp)
 rw [h1, h2]
theorem iter_flat {f : List γ × Int → Option ((List γ × Int) ⊕ ρ)} (L : List α) (g : α → List γ) (fin : List γ → ρ)
  (hs : ∀ (i : Nat) (h : i < L.length), f ((L.take i).flatMap g, (i : Int)) = some (.inl ((L.take i).flatMap g ++ g L[i], ((i + 1 : Nat) : Int)))) (he : f (L.flatMap g, (L.length : Int)) = some (.inr (fin (L.flatMap g)))) :
  iter f ([], 0) = some (fin (L.flatMap g)) := by
 obtain ⟨r, h1, h2⟩ := iter_up (f := f) L.length (fun i s => s = ((L.take i).flatMap g, (i : Int))) (fun r => r = fin (L.flatMap g)) (fun i s hi h => by
   subst h
   refine ⟨_, hs i hi, ?_⟩
   dsimp only
   rw [take_succ' hi, List.flatMap_append]; simp) (fun s h => by
   subst h
   rw [List.take_of_length_le (Nat.le_refl _)]
   exact ⟨_, he, rfl⟩) ([], 0) (by simp)
 rw [h1, h2]
theorem foldl_any {l : List α} {p : α → Bool} {b : Bool} : l.foldl (fun b a => b || p a) b = (b || l.any p) := by
 induction l generalizing b with
 | nil => simp
 | cons a l ih => rw [List.foldl_cons, ih, List.any_cons, Bool.or_assoc]
theorem any_not {l : List α} {p : α → Bool} : (l.any fun a => !p a) = !l.all p := by
 induction l with
 | nil => rfl
 | cons a l ih => simp [ih, Bool.not_and]
theorem take_flat_le {l : List α} {i : Nat} {g : α → List γ} {m : Nat} (h : ∀ a, (g a).length ≤ m) : ((l.take i).flatMap g).length ≤ i * m := by
 have : ∀ l : List α, (l.flatMap g).length ≤ l.length * m := by
  intro l
  induction l with
  | nil => simp
  | cons a l ih => rw [List.flatMap_cons, List.length_append, List.length_cons, Nat.add_mul]; have := h a; omega
 refine Nat.le_trans (this _) (Nat.mul_le_mul_right _ ?_)
 simp; omega
end Go.Proofs.YtabmomjfdondnaaH
namespace Go.Proofs.YtabmomjfdondnaaH
open Go
variable {α β : Type}
def Ens (x : Option α) (Q : α → Prop) : Prop := ∃ a, x = some a ∧ Q a
theorem Ens.of {a : α} {Q : α → Prop} (h : Q a) : Ens (some a) Q := ⟨a, rfl, h⟩
theorem Ens.bind {x : Option α} {f : α → Option β} {Q : α → Prop} {R : β → Prop} (h : Ens x Q) (g : ∀ a, Q a → Ens (f a) R) : Ens (x.bind f) R := by
 obtain ⟨a, rfl, ha⟩ := h
 exact g a ha
theorem Ens.mono {x : Option α} {Q R : α → Prop} (h : Ens x Q) (g : ∀ a, Q a → R a) : Ens x R := by
 obtain ⟨a, h1, h2⟩ := h
 exact ⟨a, h1, g a h2⟩
theorem Ens.eq {x : Option α} {Q : α → Prop} (h : Ens x Q) (a : α) (g : ∀ b, Q b → b = a) : x = some a := by
 obtain ⟨b, h1, h2⟩ := h
 rw [h1, g b h2]
end Go.Proofs.YtabmomjfdondnaaH
