/- The machine of trees: operations that are no calls. -/
import Derived.Test.YtabmomjfdondnaaHm19
set_option linter.unusedVariables false
set_option linter.unusedSimpArgs false
namespace Go.Proofs.YtabmomjfdondnaaH
open Go

/-- An operation's result: a value, or what leads elsewhere. -/
inductive RV where
  | v (t : T)
  | s (x : S)

def ofAVs : List AV → Option (List T)
  | [] => some []
  | a :: as => match T.ofAV a, ofAVs as with
    | some t, some ts => some (t :: ts)
    | _, _ => none
def mvV (ks : List Nat) (V : VEnv) : Opd → Option (RV × VEnv)
  | .c a => (T.ofAV a).map fun t => (.v t, V)
  | .t s => match V.get s with
    | .v t => if t.plain then some (.v t, V) else if ks.contains s then some (.v t, V.drop s) else some (.s (.al s), V)
    | .al r => match V.get r with
      | .v t => if t.plain then some (.v t, V) else some (.s (.al r), V)
      | _ => none
    | x => some (.s x, V)
def takesV (V : VEnv) : List Opd → Option (List T × VEnv)
  | [] => some ([], V)
  | x :: xs => match takeV V x with
    | some (t, V1) => match takesV V1 xs with
      | some (ts, V2) => some (t :: ts, V2)
      | none => none
    | none => none
def spliceT (cs : List T) (o : Nat) (vs : List T) : List T := cs.take o ++ (vs ++ cs.drop (o + vs.length))
def layV (V : VEnv) : List T → List (Nat × Nat × Opd) → Option (List T × VEnv)
  | cs, [] => some (cs, V)
  | cs, (o, n, x) :: ps => match takeV V x with
    | some (t, V1) => if t.cells.length = n ∧ o + n ≤ cs.length ∧ t.cells.all T.one = true then layV V1 (spliceT cs o t.cells) ps else none
    | none => none
def capsV (V : VEnv) : List Opd → Option (List Cap)
  | [] => some []
  | x :: xs => match adrOf V x, capsV V xs with
    | some (.own r p k _), some cs => some (.a r p k :: cs)
    | some (.sh ts), some cs => some (.t (.ptr false ts) :: cs)
    | _, _ => none
def capTs : List Cap → Option (List T)
  | [] => some []
  | .t t :: cs => (capTs cs).map (t :: ·)
  | .a .. :: _ => none

/-- Cells are laid over others. -/
def layT (cs : List T) (k n : Nat) (c : List T) : List T := cs.take k ++ (c ++ cs.drop (k + n))
def opV (ks : List Nat) (V : VEnv) : COp → Option (RV × VEnv)
  | .mv x => mvV ks V x
  | .pick c a b => match sca V c with
    | .bool true => mvV ks V a
    | .bool false => mvV ks V b
    | _ => none
  | .len x => match see V x with
    | some .nils => some (.v (.int .i64 0), V)
    | some (.sl _ _ e _ cs) => some (.v (.int .i64 (cs.length / e : Nat)), V)
    | _ => none
  | .cap x => match see V x with
    | some .nils => some (.v (.int .i64 0), V)
    | some (.sl false true e _ cs) => some (.v (.int .i64 (cs.length / e : Nat)), V)
    | _ => none
  | .isnil ng x => match see V x with
    | some .nils => some (.v (.bool !ng), V)
    | some (.sl o y _ sk cs) => if nilOk o y sk && cs.isEmpty then none else some (.v (.bool ng), V)
    | _ => none
  | .ld n ag p => match adrOf V p with
    | some (.own r q k cs) => match rng cs k n ag with
      | some u => if u.plain then some (.v u, V) else some (.s (.ref r q k n ag), V)
      | none => none
    | some (.sh cs) => match rng cs 0 n ag with
      | some u => some (.v u, V)
      | none => none
    | none => none
  | .st n p x => match takeV V x with
    | some (t, V1) => if t.cells.length = n ∧ t.cells.all T.one = true then match adrOf V1 p with
      | some (.own r q k cs) => if k + n ≤ cs.length then match V1.get r with
        | .v t0 => some (.v .und, (cut r q V1).set r (.v (T.setNode (layT cs k n t.cells) t0 q)))
        | _ => none
        else none
      | _ => none
      else none
    | none => none
  | .al zs => (ofAVs zs).map fun ts => (.v (.ptr true ts), V)
  | .box n x => match takeV V x with
    | some (t, V1) => if t.cells.length = n ∧ t.cells.all T.one = true then some (.v (.ptr true t.cells), V1) else none
    | none => none
  | .fa o x => match adrOf V x with
    | some (.own r q k cs) => some (.s (.adr r q (k + o)), V)
    | some (.sh cs) => if o ≤ cs.length then some (.v (.ptr false (cs.drop o)), V) else none
    | none => none
  | .nc x => match adrOf V x with
    | some (.own r q k cs) => some (.s (.adr r q k), V)
    | some (.sh cs) => some (.v (.ptr false cs), V)
    | none => none
  | .ia e x i => match sca V i with
    | .int _ j => match slOf V x with
      | some (.own r q e' cs) => if e = e' ∧ 0 ≤ j ∧ j < (cs.length / e : Nat) then some (.s (.adr r q (j.toNat * e)), V) else none
      | some (.sh _ e' cs) => if e = e' ∧ 0 ≤ j ∧ j < (cs.length / e : Nat) then some (.v (.ptr false (cs.drop (j.toNat * e))), V) else none
      | none => none
    | _ => none
  | .fn f xs => match capsV V xs with
    | some cs => match capTs cs with
      | some ts => some (.v (.fn f ts), V)
      | none => some (.s (.clo f cs), V)
    | none => none
  | .bld zs ps => match ofAVs zs with
    | some ts => (layV V ts ps).map fun (cs, V1) => (.v (.agg cs), V1)
    | none => none
  | .bsl e n zs ps => match ofAVs zs with
    | some ts => if n * e ≤ 16777216 ∧ zs.length = e ∧ 0 < e then (layV V (List.replicate n ts).flatten ps).map fun (cs, V1) => (.v (.sl true false e 0 cs), V1) else none
    | none => none
  | .mk e bs zs l c => match sca V l, sca V c, ofAVs zs with
    | .int .i64 a, .int .i64 b, some ts => if 0 ≤ a ∧ a ≤ b ∧ bs * b ≤ 281474976710656 ∧ b ≤ 9223372036854775807 ∧ zs.length = e ∧ 0 < e then
        some (.v (.sl true false e (b.toNat - a.toNat) (List.replicate a.toNat ts).flatten), V) else none
    | _, _, _ => none
  | c => match scaOp (sca V) c with
    | some r => (T.ofAV r).map fun t => (.v t, V)
    | none => none

variable {H H' : Heap} {F F' : Nat → Prop} {env env' : Env} {V V' : VEnv} {Lf : Nat → List Nat} {v : AV} {ls : List Nat}

def Pl (Lf : Nat → List Nat) : Nat → Prop := fun l => ∃ s, l ∈ Lf s
/-- What a step leaves as it was. -/
structure Tr (H : Heap) (F P : Nat → Prop) (H' : Heap) (F' P' : Nat → Prop) : Prop where
  sz : H.sz ≤ H'.sz
  fr : ∀ l, l < H.sz → ¬ P l → H'.get l = H.get l
  pl : ∀ l, P' l → P l ∨ H.sz ≤ l
  fm : ∀ l, F l → F' l
  fp : ∀ l, F' l → F l ∨ P l ∨ H.sz ≤ l
theorem Tr.refl (H : Heap) (F P : Nat → Prop) : Tr H F P H F P := ⟨Nat.le_refl _, fun _ _ _ => rfl, fun _ h => .inl h, fun _ h => h, fun _ h => .inl h⟩
theorem Tr.trans {H1 H2 H3 : Heap} {F1 F2 F3 P1 P2 P3 : Nat → Prop} (h : Tr H1 F1 P1 H2 F2 P2) (h' : Tr H2 F2 P2 H3 F3 P3) : Tr H1 F1 P1 H3 F3 P3 := by
  refine ⟨Nat.le_trans h.sz h'.sz, fun l hl hp => ?_, fun l hl => ?_, fun l hl => h'.fm l (h.fm l hl), fun l hl => ?_⟩
  · rw [h'.fr l (Nat.lt_of_lt_of_le hl h.sz) (fun hp2 => (h.pl l hp2).elim hp (by omega)), h.fr l hl hp]
  · rcases h'.pl l hl with h1 | h1
    · exact h.pl l h1
    · exact .inr (Nat.le_trans h.sz h1)
  · rcases h'.fp l hl with h1 | h1 | h1
    · exact h.fp l h1
    · rcases h.pl l h1 with h2 | h2
      · exact .inr (.inl h2)
      · exact .inr (.inr h2)
    · exact .inr (.inr (Nat.le_trans h.sz h1))
theorem Tr.less {P P' : Nat → Prop} (h : ∀ l, P' l → P l) : Tr H F P H F P' := ⟨Nat.le_refl _, fun _ _ _ => rfl, fun l hl => .inl (h l hl), fun _ h => h, fun _ h => .inl h⟩

/-- What an operation comes to. -/
def Out (H : Heap) (F : Nat → Prop) (env : Env) (Lf : Nat → List Nat) (V' : VEnv) (c : COp) (r : RV) : Prop :=
  ∃ v H1 Lf1 ls, heapOp env H c = some (v, H1) ∧ Sta H1 F env V' Lf1 ∧ Tr H F (Pl Lf) H1 F (fun l => Pl Lf1 l ∨ l ∈ ls) ∧
    match r with
    | .v t => Lo H1 F Lf1 [v] [t] ls
    | .s x => SR H1 F env V' v [] x

theorem Lo.nil : Lo H F Lf [] [] [] := ⟨by rw [Dens]; exact ⟨rfl, rfl⟩, List.nodup_nil, by simp⟩
theorem Lo.plain {t : T} (h : Den H F v t []) : Lo H F Lf [v] [t] [] := ⟨dens_one.2 h, List.nodup_nil, by simp⟩

theorem Out.plain {c : COp} {t : T} (h : Sta H F env V Lf) (h1 : heapOp env H c = some (v, H)) (h2 : Den H F v t []) : Out H F env Lf V c (.v t) :=
  ⟨v, H, Lf, [], h1, h, ⟨Nat.le_refl _, fun _ _ _ => rfl, fun l hl => hl.elim .inl (by simp), fun _ h => h, fun _ h => .inl h⟩, Lo.plain h2⟩
theorem Out.alias {c : COp} {x : S} (h : Sta H F env V Lf) (h1 : heapOp env H c = some (v, H)) (h2 : SR H F env V v [] x) : Out H F env Lf V c (.s x) :=
  ⟨v, H, Lf, [], h1, h, ⟨Nat.le_refl _, fun _ _ _ => rfl, fun l hl => hl.elim .inl (by simp), fun _ h => h, fun _ h => .inl h⟩, h2⟩

theorem takes_ok : ∀ {xs : List Opd} {V : VEnv} {Lf : Nat → List Nat} {ts : List T} {avs0 : List AV} {ts0 : List T} {ls : List Nat} {V' : VEnv}, Sta H F env V Lf → Lo H F Lf avs0 ts0 ls → takesV V xs = some (ts, V') →
    ∃ l1 Lf', Took H F env V' Lf Lf' (avs0 ++ xs.map (Opd.ev env)) (ts0 ++ ts) (ls ++ l1) ∧ ∀ l ∈ l1, ∃ s, l ∈ Lf s
  | [], V, Lf, ts, avs0, ts0, ls, V', h, hl, hx => by
    simp only [takesV, Option.some.injEq, Prod.mk.injEq] at hx
    obtain ⟨rfl, rfl⟩ := hx
    exact ⟨[], Lf, ⟨h, by simpa using hl, fun _ _ h => h⟩, by simp⟩
  | x :: xs, V, Lf, ts, avs0, ts0, ls, V', h, hl, hx => by
    simp only [takesV] at hx
    split at hx
    · rename_i t V1 h1
      split at hx
      · rename_i ts' V2 h2
        simp only [Option.some.injEq, Prod.mk.injEq] at hx
        obtain ⟨rfl, rfl⟩ := hx
        obtain ⟨l1, Lf1, k1, p1⟩ := take_ok h hl h1
        obtain ⟨l2, Lf2, k2, p2⟩ := takes_ok k1.st k1.lo h2
        refine ⟨l1 ++ l2, Lf2, ⟨k2.st, by simpa using k2.lo, fun s l hl => k1.sub s l (k2.sub s l hl)⟩, fun l hl => ?_⟩
        rcases List.mem_append.1 hl with hl | hl
        · exact p1 l hl
        · obtain ⟨s, hs⟩ := p2 l hl; exact ⟨s, k1.sub s l hs⟩
      · simp at hx
    · simp at hx

theorem mv_ok {ks : List Nat} {x : Opd} {r : RV} {c : COp} (h : Sta H F env V Lf) (hc : heapOp env H c = some (x.ev env, H)) (hx : mvV ks V x = some (r, V')) : Out H F env Lf V' c r := by
  cases x with
  | c a =>
    simp only [mvV] at hx
    obtain ⟨u, hu, hx⟩ := Option.map_eq_some_iff.1 hx
    simp only [Prod.mk.injEq] at hx
    obtain ⟨rfl, rfl⟩ := hx
    exact Out.plain h hc (ofAV_den hu).1
  | t s =>
    simp only [mvV] at hx
    have hsr := h.sr s
    split at hx
    · rename_i u hs
      split at hx
      · rename_i hp
        simp only [Option.some.injEq, Prod.mk.injEq] at hx
        obtain ⟨rfl, rfl⟩ := hx
        have hd := h.den hs
        rw [Den.plain hp hd] at hd
        exact Out.plain h hc hd
      · rename_i hp
        split at hx
        · simp only [Option.some.injEq, Prod.mk.injEq] at hx
          obtain ⟨rfl, rfl⟩ := hx
          obtain ⟨l1, Lf', k1, p1⟩ := take_ok (x := .t s) (t := u) (V' := V.drop s) h Lo.nil (by simp only [takeV, hs]; rw [if_neg hp])
          refine ⟨_, H, Lf', l1, hc, k1.st, ⟨Nat.le_refl _, fun _ _ _ => rfl, fun l hl => .inl ?_, fun _ h => h, fun _ h => .inl h⟩, by simpa using k1.lo⟩
          rcases hl with ⟨s, hl⟩ | hl
          · exact ⟨s, k1.sub s l hl⟩
          · exact p1 l hl
        · simp only [Option.some.injEq, Prod.mk.injEq] at hx
          obtain ⟨rfl, rfl⟩ := hx
          exact Out.alias h hc ⟨rfl, rfl, u, hs⟩
    · rename_i r' hs
      rw [hs] at hsr
      split at hx
      · rename_i u hr
        split at hx
        · rename_i hp
          simp only [Option.some.injEq, Prod.mk.injEq] at hx
          obtain ⟨rfl, rfl⟩ := hx
          have hd := h.den hr
          rw [Den.plain hp hd, ← hsr.2.1] at hd
          exact Out.plain h hc hd
        · simp only [Option.some.injEq, Prod.mk.injEq] at hx
          obtain ⟨rfl, rfl⟩ := hx
          exact Out.alias h hc ⟨rfl, hsr.2.1, u, hr⟩
      · simp at hx
    · rename_i x h1 h2
      simp only [Option.some.injEq, Prod.mk.injEq] at hx
      obtain ⟨rfl, rfl⟩ := hx
      have := hsr.alias (fun t e => h1 t e)
      rw [this] at hsr
      exact Out.alias h hc hsr

theorem ofAVs_ok : ∀ {zs : List AV} {ts : List T}, ofAVs zs = some ts → Dens H F zs ts [] ∧ plains ts = true
  | [], ts, h => by
    simp only [ofAVs, Option.some.injEq] at h; subst h
    exact ⟨by rw [Dens]; exact ⟨rfl, rfl⟩, rfl⟩
  | z :: zs, ts, h => by
    simp only [ofAVs] at h
    split at h
    · rename_i t ts' h1 h2
      simp only [Option.some.injEq] at h; subst h
      obtain ⟨a1, a2⟩ := ofAV_den (H := H) (F := F) h1
      obtain ⟨b1, b2⟩ := ofAVs_ok h2
      exact ⟨by rw [Dens]; exact ⟨z, zs, [], [], rfl, rfl, a1, b1⟩, by simp [plains, a2, b2]⟩
    · simp at h

/-- Den and the cells of a value. -/
theorem Den.cells {t : T} (h : Den H F v t ls) (ho : t.cells.all T.one = true) : Dens H F v.cells t.cells ls ∧ v.cells.all AV.one = true := by
  have one : ∀ {u : T} {w : AV} {l : List Nat}, Den H F w u l → u.one = true → w.one = true := by
    intro u w l hd hu
    cases u with
    | und => simp [T.one] at hu
    | agg => simp [T.one] at hu
    | tup => simp [T.one] at hu
    | int => rw [Den] at hd; rw [hd.1]; rfl
    | bool => rw [Den] at hd; rw [hd.1]; rfl
    | str => rw [Den] at hd; rw [hd.1]; rfl
    | nilp => rw [Den] at hd; rw [hd.1]; rfl
    | nils => rw [Den] at hd; rw [hd.1]; rfl
    | nilf => rw [Den] at hd; rw [hd.1]; rfl
    | sl => rw [Den] at hd; rcases hd with ⟨_, _, rfl | ⟨_, _, rfl⟩, _⟩ | ⟨_, _, _, _, rfl, _⟩ <;> rfl
    | ptr => rw [Den] at hd; obtain ⟨_, _, _, rfl, _⟩ := hd; rfl
    | fn => rw [Den] at hd; obtain ⟨_, rfl, _⟩ := hd; rfl
    | slo => rw [Den] at hd; rcases hd with ⟨_, rfl | ⟨_, _, rfl⟩, _⟩ | ⟨_, _, _, _, _, _, rfl, _⟩ <;> rfl
    | «at» a t => rw [Den] at hd; rw [hd.1]; exact hu
  have ones : ∀ {us : List T} {ws : List AV} {l : List Nat}, Dens H F ws us l → us.all T.one = true → ws.all AV.one = true := by
    intro us
    induction us with
    | nil => intro ws l hd _; rw [Dens] at hd; simp [hd.1]
    | cons u us ih =>
      intro ws l hd hu
      rw [Dens] at hd
      obtain ⟨c, cs', l1, l2, rfl, rfl, h1, h2⟩ := hd
      simp only [List.all_cons, Bool.and_eq_true] at hu ⊢
      exact ⟨one h1 hu.1, ih h2 hu.2⟩
  have nonagg : ∀ {u : T} {w : AV} {l : List Nat}, Den H F w u l → u.one = true → w.cells = [w] := by
    intro u w l hd hu
    have := one hd hu
    cases w <;> first | rfl | simp [AV.one] at this
  cases t with
  | agg cs =>
    rw [Den] at h
    obtain ⟨avs, rfl, h⟩ := h
    exact ⟨h, ones h ho⟩
  | tup cs => simp [T.cells, T.one] at ho
  | und => simp [T.cells, T.one] at ho
  | _ =>
    simp only [T.cells, List.all_cons, List.all_nil, Bool.and_true] at ho
    rw [nonagg h ho]
    exact ⟨dens_one.2 h, by simpa using one h ho⟩

/-- New memory. -/
theorem alloc_ok {Lf' : Nat → List Nat} {cs : List AV} {ts : List T} {l1 : List Nat} (h : Took H F env V' Lf Lf' cs ts l1) (hp : ∀ l ∈ l1, ∃ s, l ∈ Lf s) :
    Sta (H.new cs) F env V' Lf' ∧ Dens (H.new cs) F cs ts l1 ∧ H.sz < (H.new cs).sz ∧ (H.new cs).get H.sz = ⟨cs, .own⟩ ∧ ¬ F H.sz ∧ (H.sz :: l1).Nodup ∧ (∀ s l, l ∈ H.sz :: l1 → l ∉ Lf' s) ∧
      Tr H F (Pl Lf) (H.new cs) F (fun l => Pl Lf' l ∨ l ∈ H.sz :: l1) := by
  have hget : ∀ l, l < H.sz → (H.new cs).get l = H.get l := fun l hl => by simp [Heap.new, Nat.ne_of_lt hl]
  have hFs : ¬ F H.sz := fun hf => Nat.lt_irrefl _ (h.st.fz _ hf).1
  have hown : ∀ s l, l ∈ Lf' s → l < H.sz ∧ ¬ F l := by
    intro s l hl
    have hsr := h.st.sr s
    cases hx : V'.get s with
    | v t => rw [hx] at hsr; have := Den.owned hsr l hl; exact ⟨this.1, this.2.2⟩
    | al | ref | adr | clo => rw [hx] at hsr; have := hsr.1; rw [this] at hl; simp at hl
  have hlo := h.lo.den.owned
  refine ⟨h.st.heap (fun s => ⟨by simp [Heap.new], fun l hl => ⟨hget l (h.st.fz l hl).1, hl⟩, fun l hl => ⟨hget l (hown s l hl).1, (hown s l hl).2⟩⟩) (fun l hl => ?_), ?_, by simp [Heap.new], by simp [Heap.new], hFs, ?_, ?_, ?_⟩
  · rw [hget l (h.st.fz l hl).1]
    exact ⟨by simp [Heap.new]; exact Nat.lt_succ_of_lt (h.st.fz l hl).1, (h.st.fz l hl).2⟩
  · exact h.lo.den.agree ⟨by simp [Heap.new], fun l hl => ⟨hget l (h.st.fz l hl).1, hl⟩, fun l hl => ⟨hget l (hlo l hl).1, (hlo l hl).2.2⟩⟩
  · exact List.nodup_cons.2 ⟨fun hm => Nat.lt_irrefl _ (hlo _ hm).1, h.lo.nd⟩
  · intro s l hl hl'
    rcases List.mem_cons.1 hl with rfl | hl
    · exact Nat.lt_irrefl _ (hown s _ hl').1
    · exact h.lo.dj s l hl hl'
  · refine ⟨by simp [Heap.new], fun l hl _ => hget l hl, fun l hl => ?_, fun _ h => h, fun _ h => .inl h⟩
    rcases hl with ⟨s, hl⟩ | hl
    · exact .inl ⟨s, h.sub s l hl⟩
    · rcases List.mem_cons.1 hl with rfl | hl
      · exact .inr (Nat.le_refl _)
      · exact .inl (hp l hl)

theorem Took.nil (h : Sta H F env V Lf) {zs : List AV} {ts : List T} (hz : Dens H F zs ts []) : Took H F env V Lf Lf zs ts [] := ⟨h, ⟨hz, List.nodup_nil, by simp⟩, fun _ _ h => h⟩

end Go.Proofs.YtabmomjfdondnaaH
