/- The machine of trees: every run of it is a run of the abstract machine. -/
import Derived.Test.YtabmomjfdondnaaHm26
set_option linter.unusedVariables false
set_option linter.unusedSimpArgs false
namespace Go.Proofs.YtabmomjfdondnaaH
open Go

/-! ### What code writes -/
def opsWrs : List (Nat × COper) → List Nat
  | [] => []
  | (_, o) :: r => (match o.dst with | some d => [d] | none => []) ++ opsWrs r
def wrs : CCode → List Nat
  | .kill ts => ts
  | .reg _ ops => opsWrs ops
  | .seq a b => wrs a ++ wrs b
  | .cond _ a b => wrs a ++ wrs b
  | .block _ c => wrs c
  | .loop c => wrs c
  | _ => []
def KeepM : Judg → Prop
  | .co c env _ _ env' _ => env'.length = env.length ∧ ∀ s, s ∉ wrs c → env'.getD s .und = env.getD s .und
  | .op ops env _ env' _ => env'.length = env.length ∧ ∀ s, s ∉ opsWrs ops → env'.getD s .und = env.getD s .und
  | .ca .. => True
theorem putD_keep {env : Env} {d : Option Nat} {v : AV} {s : Nat} (h : s ∉ (match d with | some d => [d] | none => [])) : (putD env d v).getD s .und = env.getD s .und := by
  cases d with
  | none => rfl
  | some d => exact putD_ne (by simp only [List.mem_singleton] at h; intro e; exact h (by simpa using e.symm))
theorem killT_keep : ∀ (ss : List Nat) (env : Env) (s : Nat), s ∉ ss → (killT env ss).getD s .und = env.getD s .und
  | [], env, s, _ => rfl
  | d :: ss, env, s, h => by
    have h1 := killT_keep ss (env.set d .und) s (fun hm => h (by simp [hm]))
    have h2 : s ≠ d := fun e => h (by simp [e])
    have : killT env (d :: ss) = killT (env.set d .und) ss := rfl
    rw [this, h1]
    simp [List.getD_eq_getElem?_getD, List.getElem?_set_ne (Ne.symm h2)]
theorem J_keep {T : Nat → Option CFn} {X : Ext} {j : Judg} (h : J T X j) : KeepM j := by
  induction h with
  | skip => exact ⟨rfl, fun _ _ => rfl⟩
  | @kill ts env H => exact ⟨killT_len ts env, fun s hs => killT_keep ts env s hs⟩
  | reg _ ih => exact ih
  | seqN _ _ ih1 ih2 => exact ⟨ih2.1.trans ih1.1, fun s hs => (ih2.2 s (fun h => hs (by simp [wrs, h]))).trans (ih1.2 s (fun h => hs (by simp [wrs, h])))⟩
  | seqX _ _ ih1 => exact ⟨ih1.1, fun s hs => ih1.2 s (fun h => hs (by simp [wrs, h]))⟩
  | condT _ _ ih => exact ⟨ih.1, fun s hs => ih.2 s (fun h => hs (by simp [wrs, h]))⟩
  | condF _ _ ih => exact ⟨ih.1, fun s hs => ih.2 s (fun h => hs (by simp [wrs, h]))⟩
  | blockE _ ih => exact ih
  | blockN _ _ ih => exact ih
  | loopN _ _ ih1 ih2 => exact ⟨ih2.1.trans ih1.1, fun s hs => (ih2.2 s hs).trans (ih1.2 s hs)⟩
  | loopX _ _ ih => exact ih
  | exit => exact ⟨rfl, fun _ _ => rfl⟩
  | ret => exact ⟨rfl, fun _ _ => rfl⟩
  | opNil => exact ⟨rfl, fun _ _ => rfl⟩
  | opSkip _ _ _ ih => exact ⟨ih.1.trans putD_length, fun s hs => (ih.2 s (fun h => hs (by simp only [opsWrs, List.mem_append]; exact .inr h))).trans (putD_keep fun h => hs (by simp only [opsWrs, List.mem_append]; exact .inl h))⟩
  | opDo _ _ _ _ _ ih => exact ⟨ih.1.trans putD_length, fun s hs => (ih.2 s (fun h => hs (by simp only [opsWrs, List.mem_append]; exact .inr h))).trans (putD_keep fun h => hs (by simp only [opsWrs, List.mem_append]; exact .inl h))⟩
  | opCall _ _ _ _ _ _ _ ih => exact ⟨ih.1.trans putD_length, fun s hs => (ih.2 s (fun h => hs (by simp only [opsWrs, List.mem_append]; exact .inr h))).trans (putD_keep fun h => hs (by simp only [opsWrs, List.mem_append]; exact .inl h))⟩
  | call => trivial
  | ext => trivial

/-! ### Runs -/
inductive VJudg where
  | co (n : Nat) (c : CCode) (V : VEnv) (ex : Ex) (V' : VEnv)
  | op (n : Nat) (ops : List (Nat × COper)) (V V' : VEnv)
  | ca (f : Nat) (ts : List T) (t : T) (outs : List T)

def startV : Nat → List T → VEnv → VEnv
  | _, [], V => V
  | i, t :: ts, V => startV (i + 1) ts ((unroot i V).set i (.v t))
def resV1 (V : VEnv) : CRes → Option (T × VEnv)
  | .t i => takeV V (.t i)
  | .m i n ag => match adrOf V (.t i) with
    | some (.own r p k cs) => match rng cs k n ag, V.get r with
      | some u, .v t0 => if u.plain then some (u, V) else some (u, (cut r p V).set r (.v (T.setNode (holes cs k n) t0 p)))
      | _, _ => none
    | some (.sh cs) => (rng cs 0 n ag).map fun u => (u, V)
    | none => none
def resV (V : VEnv) : List CRes → Option (List T × VEnv)
  | [] => some ([], V)
  | r :: rs => match resV1 V r with
    | some (t, V1) => (resV V1 rs).map fun (ts, V2) => (t :: ts, V2)
    | none => none
def tupT : List T → T
  | [t] => t
  | ts => .tup ts
def ioOpds (io : List Nat) (k : Nat) : List Opd := ioSel io 0 ((List.range k).map Opd.t)

/-- What stands for the one stands for the other. -/
def TLe (t t1 : T) : Prop := ∀ H F v ls, Den H F v t ls → Den H F v t1 ls
def TLes (ts ts1 : List T) : Prop := ∀ H F vs ls, Dens H F vs ts ls → Dens H F vs ts1 ls
/-- A state may be seen as another. -/
def VLe (V V1 : VEnv) : Prop := ∀ H F env Lf, Sta H F env V Lf → ∃ F1 Lf1, Sta H F1 env V1 Lf1 ∧ Tr H F (Pl Lf) H F1 (Pl Lf1)

/-- An operation's step, by what it comes to. -/
def SemOp (V : VEnv) (c : COp) (V1 : VEnv) (r : RV) : Prop := ∀ H F env Lf, Sta H F env V Lf → Out H F env Lf V1 c r
/-- What is left behind operations for which a slot's memory was lent: the slot itself, slots that were not written, and what shares nothing. -/
def Unl (s : Nat) (t : T) (wr asd : List Nat) (Vf V1 : VEnv) : VEnv → Prop
  | [] => True
  | (q, x) :: r => ((q = s ∧ x = .v t) ∨ (q ≠ s ∧ ∃ u, x = .v u ∧ ((wr.contains q = false ∧ (u.plain = true ∨ asd.contains q = true) ∧ Vf.get q = .v u) ∨ (u.alone = true ∧ V1.get q = .v u)))) ∧ Unl s t wr asd Vf V1 r
/-- Captured values are what lies in slots. -/
def AtCaps (V : VEnv) : List AV → List Nat → Prop
  | [], [] => True
  | a :: as, s :: ss => (∃ t, V.get s = .v (.at a t)) ∧ AtCaps V as ss
  | _, _ => False

inductive VJ (Tb : Nat → Option CFn) (io : Nat → List Nat) (XV : Nat → List T → T → List T → Prop) : VJudg → Prop
  | skip {n V} : VJ Tb io XV (.co n .skip V .normal V)
  | kill {n ts V} : VJ Tb io XV (.co n (.kill ts) V .normal (V.drops ts))
  | reg {n d ops V V'} : VJ Tb io XV (.op n ops V V') → VJ Tb io XV (.co n (.reg d ops) V .normal V')
  | seqN {n a b V V1 ex V2} : VJ Tb io XV (.co n a V .normal V1) → VJ Tb io XV (.co n b V1 ex V2) → VJ Tb io XV (.co n (.seq a b) V ex V2)
  | seqX {n a b V ex V1} : ex ≠ .normal → VJ Tb io XV (.co n a V ex V1) → VJ Tb io XV (.co n (.seq a b) V ex V1)
  | condT {n c a b V ex V1} : sca V c = .bool true → VJ Tb io XV (.co n a V ex V1) → VJ Tb io XV (.co n (.cond c a b) V ex V1)
  | condF {n c a b V ex V1} : sca V c = .bool false → VJ Tb io XV (.co n b V ex V1) → VJ Tb io XV (.co n (.cond c a b) V ex V1)
  | blockE {n id c V V1} : VJ Tb io XV (.co n c V (.exit id) V1) → VJ Tb io XV (.co n (.block id c) V .normal V1)
  | blockN {n id c V ex V1} : ex ≠ .exit id → VJ Tb io XV (.co n c V ex V1) → VJ Tb io XV (.co n (.block id c) V ex V1)
  | loopN {n c V V1 ex V2} : VJ Tb io XV (.co n c V .normal V1) → VJ Tb io XV (.co n (.loop c) V1 ex V2) → VJ Tb io XV (.co n (.loop c) V ex V2)
  | loopX {n c V ex V1} : ex ≠ .normal → VJ Tb io XV (.co n c V ex V1) → VJ Tb io XV (.co n (.loop c) V ex V1)
  | exit {n id V} : VJ Tb io XV (.co n (.exit id) V (.exit id) V)
  | ret {n V} : VJ Tb io XV (.co n .ret V .ret V)
  | opNil {n V} : VJ Tb io XV (.op n [] V V)
  | opSkip {n i o ops V V'} : gV V o.guard = some false → dstLt n o.dst = true → VJ Tb io XV (.op n ops ((match o.dst with | some d => (unroot d V).set d (.v (.tup [])) | none => V).drops o.ks) V') → VJ Tb io XV (.op n ((i, o) :: ops) V V')
  | opDo {n i o ops V r V1 V2 V'} : gV V o.guard = some true → dstLt n o.dst = true → needUs V o = true → stepV o.ks V o.op = some (r, V1) → putR V1 o.dst r = some V2 → VJ Tb io XV (.op n ops (V2.drops o.ks) V') → VJ Tb io XV (.op n ((i, o) :: ops) V V')
  | opCall {n i o ops V f ts rs V1 xs t outs V2 V3 V'} : gV V o.guard = some true → dstLt n o.dst = true → callV io V o.op = some (f, ts, rs, V1, xs) → (o.us.isEmpty || xs.isEmpty || usOk V1 o.us []) = true → VJ Tb io XV (.ca f ts t outs) →
      (rs.isEmpty || (t.alone && alones outs)) = true → backs V V1 n V1 xs outs = some V2 → putR V2 o.dst (.v t) = some V3 → VJ Tb io XV (.op n ops (V3.drops o.ks) V') → VJ Tb io XV (.op n ((i, o) :: ops) V V')
  | opSem {n i o ops V r V1 V2 V'} : gV V o.guard = some true → dstLt n o.dst = true → needUs V o = true → SemOp V o.op V1 r → putR V1 o.dst r = some V2 → VJ Tb io XV (.op n ops (V2.drops o.ks) V') → VJ Tb io XV (.op n ((i, o) :: ops) V V')
  | loc {n c V s t ex V'} : V.get s = .v t → t ≠ .und → (∀ a, VJ Tb io XV (.co n c ((unroot s V).set s (.v (.at a t))) ex V')) → VJ Tb io XV (.co n c V ex V')
  | locO {n ops V s t V'} : V.get s = .v t → t ≠ .und → (∀ a, VJ Tb io XV (.op n ops ((unroot s V).set s (.v (.at a t))) V')) → VJ Tb io XV (.op n ops V V')
  | lendO {n ops ops2 V s t V1 V2 V'} (asd : List Nat) : V.get s = .v t → t ≠ .und → VJ Tb io XV (.op n ops (((unroot s V).set s (.v t.frz)).drops asd) V1) → (opsWrs ops).contains s = false → Unl s t (opsWrs ops) asd V V1 V2 → VJ Tb io XV (.op n ops2 V2 V') → VJ Tb io XV (.op n (ops ++ ops2) V V')
  | rew {n i o x xs f avs u ss ops V s V'} : o.op = .callv x xs → x = .t s → V.get s = .v (.at (.fn f avs) u) → AtCaps V avs ss → VJ Tb io XV (.op n ((i, { o with op := .call f (xs ++ ss.map Opd.t) }) :: ops) V V') → VJ Tb io XV (.op n ((i, o) :: ops) V V')
  | call {f cf ts ex V' rts V2 outs V3} : Tb f = some cf → ts.length = cf.nargs → cf.nargs ≤ cf.ntmps → ((io f).all fun j => !(wrs cf.body).contains j) = true → VJ Tb io XV (.co cf.ntmps cf.body (startV 0 ts []) ex V') → (ex = .normal ∨ ex = .ret) →
      resV V' cf.res = some (rts, V2) → takesV V2 (ioOpds (io f) cf.nargs) = some (outs, V3) → VJ Tb io XV (.ca f ts (tupT rts) outs)
  | ext {f ts t outs} : XV f ts t outs → VJ Tb io XV (.ca f ts t outs)
  | ghO {n ops V V1 V'} : VLe V V1 → VJ Tb io XV (.op n ops V1 V') → VJ Tb io XV (.op n ops V V')
  | ghC {n c V V1 ex V'} : VLe V V1 → VJ Tb io XV (.co n c V1 ex V') → VJ Tb io XV (.co n c V ex V')
  | ghE {n c V ex V1 V2} : VJ Tb io XV (.co n c V ex V1) → VLe V1 V2 → VJ Tb io XV (.co n c V ex V2)
  | ghEO {n ops V V1 V2} : VJ Tb io XV (.op n ops V V1) → VLe V1 V2 → VJ Tb io XV (.op n ops V V2)
  | ghR {f ts ts1 t t1 outs outs1} : TLes ts ts1 → TLe t t1 → TLes outs outs1 → VJ Tb io XV (.ca f ts1 t outs) → VJ Tb io XV (.ca f ts t1 outs1)

variable {H H' : Heap} {F F' : Nat → Prop} {env env' : Env} {V V' : VEnv} {Lf : Nat → List Nat} {v : AV} {ls : List Nat} {r : RV}

def Fz (H : Heap) (F : Nat → Prop) : Prop := ∀ l, F l → l < H.sz ∧ (H.get l).st ≠ .dead
/-- What a call of trees stands for. -/
def CallOk (Tb : Nat → Option CFn) (X : Ext) (io : Nat → List Nat) (f : Nat) (ts : List T) (t : T) (outs : List T) : Prop :=
  ∀ (H : Heap) (F : Nat → Prop) (vs : List AV) (ls : List Nat), Dens H F vs ts ls → ls.Nodup → Fz H F →
    ∃ v H' F' l1, J Tb X (.ca f vs H v H') ∧ Fz H' F' ∧ Dens H' F' (v :: ioSel (io f) 0 vs) (t :: outs) l1 ∧ l1.Nodup ∧ Tr H F (fun l => l ∈ ls) H' F' (fun l => l ∈ l1)
def VMot (Tb : Nat → Option CFn) (X : Ext) (io : Nat → List Nat) : VJudg → Prop
  | .co n c V ex V' => ∀ H F env Lf, env.length = n → Sta H F env V Lf → ∃ env' H' F' Lf', J Tb X (.co c env H ex env' H') ∧ env'.length = n ∧ Sta H' F' env' V' Lf' ∧ Tr H F (Pl Lf) H' F' (Pl Lf')
  | .op n ops V V' => ∀ H F env Lf, env.length = n → Sta H F env V Lf → ∃ env' H' F' Lf', J Tb X (.op ops env H env' H') ∧ env'.length = n ∧ Sta H' F' env' V' Lf' ∧ Tr H F (Pl Lf) H' F' (Pl Lf')
  | .ca f ts t outs => CallOk Tb X io f ts t outs

theorem gV_ok (h : Sta H F env V Lf) {g : Option (Nat × Bool)} {b : Bool} (hg : gV V g = some b) : known env g = true ∧ wanted env g = b := by
  cases g with
  | none =>
    simp only [gV, Option.some.injEq] at hg
    subst hg; exact ⟨rfl, rfl⟩
  | some p =>
    obtain ⟨j, b'⟩ := p
    simp only [gV] at hg
    split at hg
    · rename_i c hc
      simp only [Option.some.injEq] at hg
      subst hg
      have he := sca_ev h hc (by simp)
      simp only [Opd.ev] at he
      exact ⟨by simp only [known, he], by simp only [wanted, he]⟩
    · rename_i hc
      simp only [Option.some.injEq] at hg
      subst hg
      have he := sca_ev h hc (by simp)
      simp only [Opd.ev] at he
      exact ⟨by simp only [known, he], by simp only [wanted, he]⟩
    · simp at hg

theorem ioSel_map {α β : Type} (g : α → β) (io : List Nat) : ∀ (i : Nat) (xs : List α), ioSel io i (xs.map g) = (ioSel io i xs).map g
  | _, [] => rfl
  | i, x :: xs => by
    simp only [List.map_cons, ioSel]
    split
    · rw [List.map_cons, ioSel_map g io (i + 1) xs]
    · exact ioSel_map g io (i + 1) xs
theorem ioSel_nil {α : Type} : ∀ (i : Nat) (xs : List α), ioSel [] i xs = []
  | _, [] => rfl
  | i, x :: xs => by simp only [ioSel]; exact ioSel_nil (i + 1) xs

theorem Sta.own (h : Sta H F env V Lf) {s l : Nat} (hl : l ∈ Lf s) : l < H.sz ∧ (H.get l).st = .own ∧ ¬ F l := by
  have hsr := h.sr s
  cases hx : V.get s with
  | v t => rw [hx] at hsr; exact Den.owned hsr l hl
  | al | ref | adr | clo => rw [hx] at hsr; have := hsr.1; rw [this] at hl; simp at hl

theorem callV_ok {io : Nat → List Nat} {c : COp} {f : Nat} {ts : List T} {rs : List Nat} {V1 : VEnv} {xs : List Opd} (h : Sta H F env V Lf) (hx : callV io V c = some (f, ts, rs, V1, xs)) :
    ∃ vs tios l1 Lf1, callee env c = some (f, vs) ∧ Took H F env V1 Lf Lf1 (xs.map (Opd.ev env)) tios l1 ∧ (∀ l ∈ l1, ∃ s, l ∈ Lf s) ∧ Dens H (Lent F Lf1 rs) vs ts l1 ∧ ioSel (io f) 0 vs = xs.map (Opd.ev env) := by
  cases c with
  | call g ys =>
    simp only [callV] at hx
    split at hx
    · rename_i tios V2 h1
      obtain ⟨⟨ts', rs'⟩, h2, hx⟩ := Option.map_eq_some_iff.1 hx
      simp only [Prod.mk.injEq] at hx
      obtain ⟨rfl, rfl, rfl, rfl, rfl⟩ := hx
      obtain ⟨l1, Lf1, k1, p1⟩ := ioTakes_ok h Lo.nil h1
      simp only [List.nil_append] at k1
      refine ⟨ys.map (Opd.ev env), tios, l1, Lf1, rfl, k1, p1, ?_, ioSel_map _ _ _ _⟩
      refine ioLends_ok (G := Lent F Lf1 rs') k1.st (fun l hl => .inl hl) rfl k1.lo.den (fun l hl hG => ?_) h2 (fun l hl => hl)
      rcases hG with hG | ⟨r, _, hG⟩
      · exact (k1.lo.den.owned l hl).2.2 hG
      · exact k1.lo.dj r l hl hG
    · simp at hx
  | callv x ys =>
    cases x with
    | c a => simp [callV] at hx
    | t s =>
      have hsr := h.sr s
      simp only [callV] at hx
      split at hx
      · rename_i g cs hs
        rw [hs] at hsr
        split at hx
        · rename_i hio
          obtain ⟨⟨ts', rs'⟩, h2, hx⟩ := Option.map_eq_some_iff.1 hx
          simp only [Prod.mk.injEq] at hx
          obtain ⟨rfl, rfl, rfl, rfl, rfl⟩ := hx
          have hd : Den H F (env.getD s .und) (.fn g cs) (Lf s) := hsr
          rw [Den] at hd
          obtain ⟨cavs, he, _, hd⟩ := hd
          have hio' : io g = [] := by simpa using hio
          refine ⟨ys.map (Opd.ev env) ++ cavs, [], [], Lf, by simp only [callee, Opd.ev, he], Took.nil h (by rw [List.map_nil, Dens]; exact ⟨rfl, rfl⟩), by simp, ?_, by rw [hio', ioSel_nil]; rfl⟩
          have h3 := ioLends_ok (io := []) (G := Lent F Lf rs') (avs := []) (ls := []) h (fun l hl => .inl hl) (by rw [ioSel_nil]; rfl) (by rw [Dens]; exact ⟨rfl, rfl⟩) (by simp) h2 (fun l hl => hl)
          simpa using h3.append (hd.agree ⟨Nat.le_refl _, fun l hl => ⟨rfl, .inl hl⟩, by simp⟩)
        · simp at hx
      · rename_i g cs hs
        rw [hs] at hsr
        split at hx
        · rename_i hio
          split at hx
          · rename_i ts' rs1 us rs2 h2 h3
            simp only [Option.some.injEq, Prod.mk.injEq] at hx
            obtain ⟨rfl, rfl, rfl, rfl, rfl⟩ := hx
            obtain ⟨_, cavs, he, hc⟩ := hsr
            have hio' : io g = [] := by simpa using hio
            refine ⟨ys.map (Opd.ev env) ++ cavs, [], [], Lf, by simp only [callee, Opd.ev, he], Took.nil h (by rw [List.map_nil, Dens]; exact ⟨rfl, rfl⟩), by simp, ?_, by rw [hio', ioSel_nil]; rfl⟩
            have h4 := ioLends_ok (io := []) (G := Lent F Lf (rs1 ++ rs2)) (avs := []) (ls := []) h (fun l hl => .inl hl) (by rw [ioSel_nil]; rfl) (by rw [Dens]; exact ⟨rfl, rfl⟩) (by simp) h2 (fun l hl => hl.imp id fun ⟨r, hr, hl⟩ => ⟨r, by simp [hr], hl⟩)
            have h5 := lendC_ok h (G := Lent F Lf (rs1 ++ rs2)) hc h3 (fun l hl => hl.imp id fun ⟨r, hr, hl⟩ => ⟨r, by simp [hr], hl⟩)
            simpa using h4.append h5
          · simp at hx
        · simp at hx
      · simp at hx
  | _ => simp [callV] at hx

theorem rd_same {l o n : Nat} {vs : List AV} (hsz : H.sz ≤ H'.sz) (h : H.rd l o n = some vs) (hg : l < H.sz → H'.get l = H.get l) : H'.rd l o n = some vs := by
  unfold Heap.rd at h ⊢
  split at h
  · rename_i hc
    have := hg hc.2.1
    rw [if_pos ⟨by rw [this]; exact hc.1, Nat.lt_of_lt_of_le hc.2.1 hsz, by rw [this]; exact hc.2.2⟩, this]
    exact h
  · simp at h

theorem Tr.drop {P P' P'' : Nat → Prop} (h : Tr H F P H' F' P') (hp : ∀ l, P'' l → P' l) : Tr H F P H' F' P'' := ⟨h.sz, h.fr, fun l hl => h.pl l (hp l hl), h.fm, h.fp⟩

/-- A call, within a list of operations. -/
theorem call_step {Tb : Nat → Option CFn} {X : Ext} {io : Nat → List Nat} {o : COper} {f : Nat} {ts : List T} {rs : List Nat} {V1 V2 V3 : VEnv} {xs : List Opd} {t : T} {outs : List T} (h : Sta H F env V Lf) (hd : dstLt env.length o.dst = true)
    (hx : callV io V o.op = some (f, ts, rs, V1, xs)) (hus : (o.us.isEmpty || xs.isEmpty || usOk V1 o.us []) = true) (hca : CallOk Tb X io f ts t outs) (hal : (rs.isEmpty || (t.alone && alones outs)) = true) (hb : backs V V1 env.length V1 xs outs = some V2) (hp : putR V2 o.dst (.v t) = some V3) :
    ∃ vs v H' F' Lf', callee env o.op = some (f, vs) ∧ J Tb X (.ca f vs H v H') ∧ Kept env o.us H H' ∧ Sta H' F' (putD env o.dst v) V3 Lf' ∧ Tr H F (Pl Lf) H' F' (Pl Lf') := by
  obtain ⟨vs, tios, l1, Lf1, hc, k1, p1, hds, hsel⟩ := callV_ok h hx
  have hlo := k1.lo.den.owned
  have hGf : Fz H (Lent F Lf1 rs) := by
    intro l hl
    rcases hl with hl | ⟨r, _, hl⟩
    · exact h.fz l hl
    · have := k1.st.own hl; exact ⟨this.1, by rw [this.2.1]; simp⟩
  obtain ⟨v, H', F', l2, hj, hfz, hres, hnd, htr⟩ := hca H (Lent F Lf1 rs) vs l1 hds k1.lo.nd hGf
  rw [hsel, Dens] at hres
  obtain ⟨c, cs', m1, m2, e, rfl, hv, houts⟩ := hres
  simp only [List.cons.injEq] at e
  obtain ⟨rfl, rfl⟩ := e
  obtain ⟨n1, n2, n3⟩ := List.nodup_append.1 hnd
  -- what nobody may write is as it was
  have hsame : ∀ l, l < H.sz → l ∉ l1 → H'.get l = H.get l := fun l hl hn => htr.fr l hl hn
  have hLf1 : ∀ s l, l ∈ Lf1 s → H'.get l = H.get l := fun s l hl => hsame l (k1.st.own hl).1 fun hm => k1.lo.dj s l hm hl
  have hF1 : ∀ l, F l → H'.get l = H.get l := fun l hl => hsame l (h.fz l hl).1 fun hm => (hlo l hm).2.2 hl
  have hm12 : ∀ l, l ∈ m1 ++ m2 → l ∈ l1 ∨ H.sz ≤ l := fun l hl => htr.pl l hl
  have hdisj : ∀ q l, l ∈ m1 ++ m2 → l ∉ Lf1 q := by
    intro q l hl hl'
    rcases hm12 l hl with h1 | h1
    · exact k1.lo.dj q l h1 hl'
    · have := (k1.st.own hl').1; omega
  -- the state behind the call
  obtain ⟨F2, hst2, hv2, ho2, hfm, hfp⟩ : ∃ F2 : Nat → Prop, Sta H' F2 env V1 Lf1 ∧ Den H' F2 v t m1 ∧ Dens H' F2 (xs.map (Opd.ev env)) outs m2 ∧ (∀ l, F l → F2 l) ∧ (∀ l, F2 l → F l ∨ l ∈ l1 ∨ H.sz ≤ l) := by
    simp only [Bool.or_eq_true, Bool.and_eq_true] at hal
    rcases hal with hr | ⟨ha1, ha2⟩
    · have hrs : rs = [] := by simpa using hr
      subst hrs
      have hG : ∀ l, Lent F Lf1 [] l → F l := fun l hl => hl.elim id (fun ⟨r, hr, _⟩ => by simp at hr)
      refine ⟨F', k1.st.heap (fun s => ⟨htr.sz, fun l hl => ⟨hF1 l hl, htr.fm l (.inl hl)⟩, fun l hl => ⟨hLf1 s l hl, fun hf => ?_⟩⟩) hfz, hv, houts, fun l hl => htr.fm l (.inl hl), fun l hl => (htr.fp l hl).imp (hG l) id⟩
      rcases htr.fp l hf with h1 | h1 | h1
      · exact (k1.st.own hl).2.2 (hG l h1)
      · exact k1.lo.dj s l h1 hl
      · have := (k1.st.own hl).1; omega
    · have hnF : ∀ l, l ∈ m1 ++ m2 → ¬ F l := by
        intro l hl hf
        rcases hm12 l hl with h1 | h1
        · exact (hlo l h1).2.2 hf
        · have := (h.fz l hf).1; omega
      refine ⟨F, k1.st.heap (fun s => ⟨htr.sz, fun l hl => ⟨hF1 l hl, hl⟩, fun l hl => ⟨hLf1 s l hl, (k1.st.own hl).2.2⟩⟩) (fun l hl => ?_), Den.alone ha1 ⟨Nat.le_refl _, fun l hl => ⟨rfl, hnF l (by simp [hl])⟩⟩ hv, Dens.alone ha2 ⟨Nat.le_refl _, fun l hl => ⟨rfl, hnF l (by simp [hl])⟩⟩ houts, fun l hl => hl, fun l hl => .inl hl⟩
      rw [hF1 l hl]
      exact ⟨Nat.lt_of_lt_of_le (h.fz l hl).1 htr.sz, (h.fz l hl).2⟩
  obtain ⟨Lf2, hst3, hpl3⟩ := backs_ok h hst2 (fun x => cellAt h k1.st (fun s l hl => hLf1 s l hl) x) ho2 n2 (fun q l hl => hdisj q l (by simp [hl])) hb
  have hlo3 : Lo H' F2 Lf2 [v] [t] m1 := by
    refine ⟨dens_one.2 hv2, n1, fun s l hl hl' => ?_⟩
    rcases hpl3 l ⟨s, hl'⟩ with ⟨q, h1⟩ | h1
    · exact hdisj q l (by simp [hl]) h1
    · exact n3 l hl l h1 rfl
  obtain ⟨Lf3, hst4, hpl4⟩ := put_ok hst3 hd hlo3 hp
  refine ⟨vs, v, H', F2, Lf3, hc, hj, ?_, hst4, ⟨htr.sz, fun l hl hn => hsame l hl fun hm => hn (p1 l hm), fun l hl => ?_, hfm, fun l hl => ?_⟩⟩
  · simp only [Bool.or_eq_true] at hus
    rcases hus with (hu | hu) | hu
    · have : o.us = [] := by simpa using hu
      rw [this]; intro s n hs; simp at hs
    · have hxs : xs = [] := by simpa using hu
      subst hxs
      have hl1 : l1 = [] := by
        have hd1 := k1.lo.den
        rw [List.map_nil] at hd1
        cases tios with
        | nil => rw [Dens] at hd1; exact hd1.2
        | cons => rw [Dens] at hd1; obtain ⟨_, _, _, _, e, _⟩ := hd1; cases e
      subst hl1
      intro s n hs l o' he vs' hrd
      exact rd_same htr.sz hrd fun hl => hsame l hl (by simp)
    · exact kept_of k1.st hu htr.sz fun l hl hh => hh.elim (hF1 l) fun ⟨r, hr, _⟩ => hLf1 r l hr
  · rcases hpl4 l hl with h1 | h1
    · rcases hpl3 l h1 with ⟨s, h2⟩ | h2
      · exact .inl ⟨s, k1.sub s l h2⟩
      · rcases hm12 l (by simp [h2]) with h3 | h3
        · exact .inl (p1 l h3)
        · exact .inr h3
    · rcases hm12 l (by simp [h1]) with h3 | h3
      · exact .inl (p1 l h3)
      · exact .inr h3
  · rcases hfp l hl with h1 | h1 | h1
    · exact .inl h1
    · exact .inr (.inl (p1 l h1))
    · exact .inr (.inr h1)

end Go.Proofs.YtabmomjfdondnaaH
