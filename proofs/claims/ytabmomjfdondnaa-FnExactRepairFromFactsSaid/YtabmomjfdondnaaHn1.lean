/- Data as trees: what stands for numbers, lists and structs, owned or shared; loops as functions. -/
import Derived.Test.YtabmomjfdondnaaHm30
set_option linter.unusedVariables false
set_option linter.unusedSimpArgs false
namespace Go.Proofs.YtabmomjfdondnaaH
open Go

/-- How an element's cells stand for a value; owned or shared. -/
structure En (α : Type) where
  w : Nat
  c : Bool → α → List T
  hw : ∀ b a, (c b a).length = w
  hp : 0 < w
  hf : ∀ b a, frzs (c b a) = c false a
  hpl : ∀ a, plains (c false a) = true
  hal : ∀ a, alones (c true a) = true
  ho : ∀ b a, (c b a).all T.one = true

def arr {α : Type} (E : En α) (b : Bool) (l : List α) : List T := l.flatMap (E.c b)
variable {α β : Type} {E : En α} {b : Bool} {l l' : List α}

@[simp] theorem arr_nil : arr E b [] = [] := rfl
@[simp] theorem arr_cons {a : α} : arr E b (a :: l) = E.c b a ++ arr E b l := by simp [arr]
@[simp] theorem arr_app : arr E b l ++ arr E b l' = arr E b (l ++ l') := by simp [arr]
theorem arr_one {a : α} : arr E b [a] = E.c b a := by simp [arr]
theorem arr_snoc {a : α} : arr E b l ++ E.c b a = arr E b (l ++ [a]) := by simp [arr]
theorem arr_len : (arr E b l).length = l.length * E.w := by
  induction l with
  | nil => simp
  | cons a l ih => rw [arr_cons, List.length_append, E.hw, ih, List.length_cons, Nat.add_mul]; omega
theorem frzs_append : ∀ (ts us : List T), frzs (ts ++ us) = frzs ts ++ frzs us
  | [], us => rfl
  | t :: ts, us => by simp [frzs, frzs_append ts us]
theorem plains_append : ∀ (ts us : List T), plains (ts ++ us) = (plains ts && plains us)
  | [], us => by simp
  | t :: ts, us => by simp [plains, plains_append ts us, Bool.and_assoc]
theorem alones_append : ∀ (ts us : List T), alones (ts ++ us) = (alones ts && alones us)
  | [], us => by simp [alones]
  | t :: ts, us => by simp [alones, alones_append ts us, Bool.and_assoc]
@[simp] theorem arr_frz : frzs (arr E b l) = arr E false l := by
  induction l with
  | nil => rfl
  | cons a l ih => rw [arr_cons, frzs_append, E.hf, ih, arr_cons]
@[simp] theorem arr_plain : plains (arr E false l) = true := by
  induction l with
  | nil => rfl
  | cons a l ih => rw [arr_cons, plains_append, E.hpl, ih]; rfl
@[simp] theorem arr_alone : alones (arr E true l) = true := by
  induction l with
  | nil => rfl
  | cons a l ih => rw [arr_cons, alones_append, E.hal, ih]; rfl
@[simp] theorem arr_ones : (arr E b l).all T.one = true := by
  induction l with
  | nil => rfl
  | cons a l ih => rw [arr_cons, List.all_append, E.ho, ih]; rfl
theorem arr_take (n : Nat) : (arr E b l).take (n * E.w) = arr E b (l.take n) := by
  induction n generalizing l with
  | zero => simp
  | succ n ih => cases l with
    | nil => simp
    | cons a l =>
      rw [arr_cons, List.take_succ_cons, arr_cons, Nat.add_mul, Nat.one_mul, Nat.add_comm, ← ih]
      rw [← E.hw b a, List.take_length_add_append]
theorem arr_drop (n : Nat) : (arr E b l).drop (n * E.w) = arr E b (l.drop n) := by
  induction n generalizing l with
  | zero => simp
  | succ n ih => cases l with
    | nil => simp
    | cons a l =>
      rw [arr_cons, List.drop_succ_cons, Nat.add_mul, Nat.one_mul, Nat.add_comm, ← ih]
      rw [← E.hw b a, List.drop_length_add_append]

/-- The cells from an element on. -/
theorem arr_at {i : Nat} {a : α} (h : l[i]? = some a) : (arr E b l).drop (i * E.w) = E.c b a ++ arr E b (l.drop (i + 1)) := by
  rw [arr_drop]
  obtain ⟨h1, h2⟩ := List.getElem?_eq_some_iff.1 h
  rw [List.drop_eq_getElem_cons h1, arr_cons, h2]
theorem arr_get {i o : Nat} {a : α} (h : l[i]? = some a) (ho : o < E.w) : (arr E b l)[i * E.w + o]? = (E.c b a)[o]? := by
  rw [← List.getElem?_drop, arr_at h, List.getElem?_append_left (by rw [E.hw]; exact ho)]
theorem arr_fit {i : Nat} (h : i < l.length) : i * E.w + E.w ≤ (arr E b l).length := by
  rw [arr_len]
  have := Nat.mul_le_mul_right E.w (show i + 1 ≤ l.length by omega)
  rw [Nat.add_mul] at this; omega
theorem arr_set {i : Nat} {a : α} (h : i < l.length) : (arr E b l).take (i * E.w) ++ (E.c b a ++ (arr E b l).drop (i * E.w + E.w)) = arr E b (l.set i a) := by
  rw [arr_take, show i * E.w + E.w = (i + 1) * E.w by rw [Nat.add_mul]; omega, arr_drop, List.set_eq_take_append_cons_drop, if_pos h, ← arr_app, arr_cons]
/-- A cell of an element changes. -/
theorem arr_setc {i o : Nat} {a a' : α} {t : T} (h : l[i]? = some a) (ho : o < E.w) (hc : (E.c b a).take o ++ t :: (E.c b a).drop (o + 1) = E.c b a') :
    (arr E b l).take (i * E.w + o) ++ (t :: (arr E b l).drop (i * E.w + (o + 1))) = arr E b (l.set i a') := by
  obtain ⟨h1, h2⟩ := List.getElem?_eq_some_iff.1 h
  rw [List.take_add, arr_at h, List.take_append_of_le_length (by rw [E.hw]; omega), ← List.drop_drop, arr_at h, List.drop_append_of_le_length (by rw [E.hw]; omega)]
  rw [arr_take, List.append_assoc, ← List.cons_append, ← List.append_assoc ((E.c b a).take o), hc, List.set_eq_take_append_cons_drop, if_pos h1, ← arr_app, arr_cons]

/-! ### Slices -/
/-- A slice of a list: owned or shared, and its elements. -/
abbrev osl (E : En α) (b : Bool) (l : List α) : T := .sl true true E.w 0 (arr E b l)
abbrev ssl (E : En α) (l : List α) : T := .sl false false E.w 1 (arr E false l)
attribute [simp] osl ssl T.alone alones T.mayNil frzs
def slT (E : En α) (b : Bool) (l : List α) : T := .sl b b E.w (if b then 0 else 1) (arr E b l)

/-! ### Elements -/
def eInt (k : IntKind) : En Int := ⟨1, fun _ n => [.int k n], by simp, by simp, by simp [frzs], by simp, by simp [alones, T.alone], by simp⟩
abbrev eI : En Int := eInt .i64
abbrev eU : En Int := eInt .u8
def eB : En Bool := ⟨1, fun _ n => [.bool n], by simp, by simp, by simp [frzs], by simp, by simp [alones, T.alone], by simp⟩
def eS : En (List UInt8) := ⟨1, fun _ n => [.str n], by simp, by simp, by simp [frzs], by simp, by simp [alones, T.alone], by simp⟩
theorem slT_frz : (slT E b l).frz = slT E false l := by cases b <;> simp [slT, T.frz]
def eL (E : En α) : En (List α) := ⟨1, fun b l => [slT E b l], by simp, by simp, fun b l => by simp [frzs, slT_frz], fun l => by simp [slT], fun l => by simp [slT, alones, T.alone], fun b l => by simp [slT]⟩

@[simp] theorem eInt_w {k : IntKind} : (eInt k).w = 1 := rfl
@[simp] theorem eB_w : eB.w = 1 := rfl
@[simp] theorem eS_w : eS.w = 1 := rfl
@[simp] theorem eL_w {E : En α} : (eL E).w = 1 := rfl
@[simp] theorem eInt_c {k : IntKind} {n : Int} : (eInt k).c b n = [.int k n] := rfl
@[simp] theorem eB_c {n : Bool} : eB.c b n = [.bool n] := rfl
@[simp] theorem eS_c {n : List UInt8} : eS.c b n = [.str n] := rfl
@[simp] theorem eL_ct {E : En α} {l : List α} : (eL E).c true l = [osl E true l] := rfl
@[simp] theorem eL_cf {E : En α} {l : List α} : (eL E).c false l = [ssl E l] := rfl
@[simp] theorem arr_eq_nil : arr E b l = [] ↔ l = [] := by
  cases l with
  | nil => simp
  | cons a l =>
    rw [arr_cons]
    have h := E.hw b a
    have h2 := E.hp
    constructor
    · intro e
      simp only [List.append_eq_nil_iff] at e
      rw [e.1] at h; simp at h; omega
    · intro e; cases e
@[simp] theorem arr_isEmpty : (arr E b l).isEmpty = l.isEmpty := by
  cases l with
  | nil => simp
  | cons a l =>
    simp only [List.isEmpty_cons]
    cases h : (arr E b (a :: l)).isEmpty with
    | false => rfl
    | true =>
      rw [List.isEmpty_iff] at h
      cases arr_eq_nil.1 h

/-! ### Partial operations -/
def ix (l : List α) (i : Int) : Option α := if 0 ≤ i then l[i.toNat]? else none
theorem ix_ne {i : Int} {a : α} (h : ix l i = some a) : l ≠ [] := by
  rintro rfl
  unfold ix at h
  split at h <;> simp at h
theorem ix_some {i : Int} {a : α} (h : ix l i = some a) : 0 ≤ i ∧ i < l.length ∧ l[i.toNat]? = some a := by
  unfold ix at h
  split at h
  · exact ⟨by omega, by have := (List.getElem?_eq_some_iff.1 h).1; omega, h⟩
  · simp at h
/-- Appending, as long as there is room. -/
def app (bs : Nat) (l l' : List α) : Option (List α) := if l'.length = 0 ∨ (l.length + l'.length) * bs ≤ room then some (l ++ l') else none
theorem appT_arr {bs : Nat} {y : Bool} {v : List α} (h : app bs l l' = some v) (hb : bs ≠ 0) : appT E.w bs (.sl true y E.w 0 (arr E b l)) (arr E b l') = some (.sl true y E.w 0 (arr E b v)) := by
  unfold app at h
  have hw := E.hp
  have hw0 : E.w ≠ 0 := by omega
  unfold appT
  by_cases h0 : l' = []
  · subst h0
    simp at h
    simp [h]
  · have hl : 0 < l'.length := List.length_pos_iff.2 h0
    split at h
    · rename_i hr
      simp only [Option.some.injEq] at h
      subst h
      have hr' : (l.length + l'.length) * bs ≤ room := by omega
      have e1 : (arr E b l').length / E.w = l'.length := by rw [arr_len, Nat.mul_div_cancel _ hw]
      have e2 : (arr E b l).length / E.w = l.length := by rw [arr_len, Nat.mul_div_cancel _ hw]
      have hne : ¬ ((arr E b l').length = 0) := by
        rw [arr_len]
        have := Nat.mul_pos hl hw
        omega
      have hg : ¬ (E.w = 0 ∨ bs = 0 ∨ (arr E b l').all T.one = false) := by
        rw [arr_ones]; simp; omega
      rw [if_neg hne, if_neg hg]
      simp only [e1, e2, true_and]
      rw [if_pos hr', if_neg (by omega), if_pos trivial, arr_app]
    · simp at h
theorem arr_sc {b' : Bool} (h : E.c b' = E.c b) (l : List α) : arr E b' l = arr E b l := by unfold arr; rw [h]
theorem appT_arr2 {bs : Nat} {y b' : Bool} {v : List α} (h : app bs l l' = some v) (hb : bs ≠ 0) (he : arr E b' l' = arr E b l') : appT E.w bs (.sl true y E.w 0 (arr E b l)) (arr E b' l') = some (.sl true y E.w 0 (arr E b v)) := by
  rw [he]; exact appT_arr h hb
def mkl (bs : Int) (n : Int) (a : α) : Option (List α) := if 0 ≤ n ∧ bs * n ≤ 281474976710656 ∧ n ≤ 9223372036854775807 then some (List.replicate n.toNat a) else none
theorem mkl_some {bs : Int} {n : Int} {a : α} {v : List α} (h : mkl bs n a = some v) : 0 ≤ n ∧ bs * n ≤ 281474976710656 ∧ n ≤ 9223372036854775807 ∧ List.replicate n.toNat a = v := by
  unfold mkl at h
  split at h
  · rename_i hc
    simp only [Option.some.injEq] at h
    exact ⟨hc.1, hc.2.1, hc.2.2, h⟩
  · simp at h
theorem rep_arr {n : Nat} {a : α} {v : List α} (h : List.replicate n a = v) : (List.replicate n (E.c b a)).flatten = arr E b v := by
  subst h
  induction n with
  | zero => rfl
  | succ n ih => rw [List.replicate_succ, List.flatten_cons, ih, List.replicate_succ, arr_cons]
/-- A part of a list. -/
def cutL (l : List α) (lo hi : Int) : Option (List α) := if 0 ≤ lo ∧ lo ≤ hi ∧ hi ≤ l.length then some ((l.take hi.toNat).drop lo.toNat) else none
theorem cut_some {lo hi : Int} {v : List α} (h : cutL l lo hi = some v) : 0 ≤ lo ∧ lo ≤ hi ∧ hi ≤ l.length ∧ (l.take hi.toNat).drop lo.toNat = v := by
  unfold cutL at h
  split at h
  · rename_i hc
    simp only [Option.some.injEq] at h
    exact ⟨hc.1, hc.2.1, hc.2.2, h⟩
  · simp at h
def cat (a b : List UInt8) : Option (List UInt8) := if ((a.length + b.length : Nat) : Int) ≤ IntKind.i64.max then some (a ++ b) else none
theorem cat_some {a b v : List UInt8} (h : cat a b = some v) : ((a.length + b.length : Nat) : Int) ≤ IntKind.i64.max ∧ a ++ b = v := by
  unfold cat at h
  split at h
  · rename_i hc
    simp only [Option.some.injEq] at h
    exact ⟨hc, h⟩
  · simp at h
/-- Not zero; not negative. -/
def nz (n : Int) : Option Unit := if n = 0 then none else some ()
def nn (n : Int) : Option Unit := if n < 0 then none else some ()
theorem nz_some {n : Int} {v : Unit} (h : nz n = some v) : ¬ n = 0 := by
  unfold nz at h
  split at h
  · simp at h
  · assumption
theorem nn_some {n : Int} {v : Unit} (h : nn n = some v) : ¬ n < 0 := by
  unfold nn at h
  split at h
  · simp at h
  · assumption
def band (k : IntKind) (x y : Int) : Int := k.wrap (BitVec.ofInt k.bits x &&& BitVec.ofInt k.bits y).toNat
def bor (k : IntKind) (x y : Int) : Int := k.wrap (BitVec.ofInt k.bits x ||| BitVec.ofInt k.bits y).toNat
def bxor (k : IntKind) (x y : Int) : Int := k.wrap (BitVec.ofInt k.bits x ^^^ BitVec.ofInt k.bits y).toNat
def sshl (k : IntKind) (x y : Int) : Int := k.wrap (x * 2 ^ (min y.toNat k.bits))
def sshr (k : IntKind) (x y : Int) : Int := x.fdiv (2 ^ (min y.toNat k.bits))
/-- An element changes. -/
theorem lay_set {i : Nat} (a : α) (h : i < l.length) : layT (arr E b l) (i * E.w) E.w (E.c b a) = arr E b (l.set i a) := arr_set h
theorem lay_cell {i o : Nat} {a : α} (a' : α) {t : T} (h : l[i]? = some a) (ho : o < E.w) (hc : (E.c b a).take o ++ t :: (E.c b a).drop (o + 1) = E.c b a') : layT (arr E b l) (i * E.w + o) 1 [t] = arr E b (l.set i a') := arr_setc h ho hc
theorem set_cell {i o : Nat} {a : α} (a' : α) {t : T} (h : l[i]? = some a) (ho : o < E.w) (hc : (E.c b a).take o ++ t :: (E.c b a).drop (o + 1) = E.c b a') : (arr E b l).set (i * E.w + o) t = arr E b (l.set i a') := by
  obtain ⟨h1, h2⟩ := List.getElem?_eq_some_iff.1 h
  have := arr_setc (b := b) h ho hc
  rw [← this, List.set_eq_take_append_cons_drop, if_pos]
  · rfl
  · have := arr_fit (E := E) (b := b) h1; omega
abbrev w64 (n : Int) : Int := IntKind.i64.wrap n
abbrev w8 (n : Int) : Int := IntKind.u8.wrap n
attribute [simp] w64 w8

/-! ### Loops -/
def iterN {σ ρ : Type} (f : σ → Option (σ ⊕ ρ)) : Nat → σ → Option ρ
  | 0, _ => none
  | n + 1, s => match f s with
    | some (.inl s') => iterN f n s'
    | some (.inr r) => some r
    | none => none
theorem iterN_mono {σ ρ : Type} {f : σ → Option (σ ⊕ ρ)} : ∀ {n m : Nat} {s : σ} {r : ρ}, n ≤ m → iterN f n s = some r → iterN f m s = some r
  | 0, _, _, _, _, h => by simp [iterN] at h
  | n + 1, 0, _, _, hnm, _ => by omega
  | n + 1, m + 1, s, r, hnm, h => by
    simp only [iterN] at h ⊢
    split at h
    · rename_i s' hs; exact iterN_mono (by omega) h
    · exact h
    · simp at h
open Classical in
noncomputable def iter {σ ρ : Type} (f : σ → Option (σ ⊕ ρ)) (s : σ) : Option ρ :=
  if h : ∃ n, (iterN f n s).isSome then iterN f h.choose s else none
theorem iter_of {σ ρ : Type} {f : σ → Option (σ ⊕ ρ)} {n : Nat} {s : σ} {r : ρ} (h : iterN f n s = some r) : iter f s = some r := by
  unfold iter
  have hx : ∃ n, (iterN f n s).isSome := ⟨n, by rw [h]; rfl⟩
  rw [dif_pos hx]
  obtain ⟨r', hr'⟩ := Option.isSome_iff_exists.1 hx.choose_spec
  rw [hr']
  have h1 := iterN_mono (Nat.le_max_left n hx.choose) h
  have h2 := iterN_mono (Nat.le_max_right n hx.choose) hr'
  rw [h1] at h2
  exact h2.symm
theorem iter_some {σ ρ : Type} {f : σ → Option (σ ⊕ ρ)} {s : σ} {r : ρ} (h : iter f s = some r) : ∃ n, iterN f n s = some r := by
  unfold iter at h
  split at h
  · exact ⟨_, h⟩
  · simp at h
theorem iter_eq {σ ρ : Type} (f : σ → Option (σ ⊕ ρ)) (s : σ) : iter f s = match f s with
    | some (.inl s') => iter f s'
    | some (.inr r) => some r
    | none => none := by
  have key : ∀ r, iter f s = some r ↔ (match f s with
    | some (.inl s') => iter f s'
    | some (.inr r) => some r
    | none => none) = some r := by
    intro r
    constructor
    · intro h
      obtain ⟨n, hn⟩ := iter_some h
      cases n with
      | zero => simp [iterN] at hn
      | succ n =>
        simp only [iterN] at hn
        split at hn
        · rename_i s' hs; exact iter_of hn
        · exact hn
        · simp at hn
    · intro h
      split at h
      · rename_i s' hs
        obtain ⟨n, hn⟩ := iter_some h
        exact iter_of (n := n + 1) (by simp only [iterN, hs]; exact hn)
      · rename_i r' hs
        exact iter_of (n := 1) (by simp only [iterN, hs]; exact h)
      · simp at h
  exact Option.ext key
theorem iter_run {σ ρ : Type} {f : σ → Option (σ ⊕ ρ)} {P : σ → ρ → Prop} (hs : ∀ s o r, f s = some o → (∀ s', o = .inl s' → P s' r) → (∀ r', o = .inr r' → r' = r) → P s r) {s : σ} {r : ρ} (h : iter f s = some r) : P s r := by
  obtain ⟨n, hn⟩ := iter_some h
  clear h
  induction n generalizing s with
  | zero => simp [iterN] at hn
  | succ n ih =>
    simp only [iterN] at hn
    split at hn
    · rename_i s' hf
      exact hs s _ r hf (fun s'' e => by cases e; exact ih hn) (fun r' e => by cases e)
    · rename_i r' hf
      simp only [Option.some.injEq] at hn
      exact hs s _ r hf (fun s'' e => by cases e) (fun r'' e => by cases e; exact hn)
    · simp at hn

/-- How runs end: at an exit, with a state; at a return, with results. -/
def QX (id : Nat) {σ : Type} (m : σ → VEnv) (o : σ) (ex : Ex) (V : VEnv) : Prop := ex = .exit id ∧ V = m o
def QR {ρ : Type} (m : ρ → VEnv) (o : ρ) (ex : Ex) (V : VEnv) : Prop := ex = .ret ∧ V = m o
def QN {σ : Type} (m : σ → VEnv) (o : σ) (ex : Ex) (V : VEnv) : Prop := ex = .normal ∧ V = m o
def QO {σ ρ : Type} (q : σ → Ex → VEnv → Prop) (q' : ρ → Ex → VEnv → Prop) : σ ⊕ ρ → Ex → VEnv → Prop
  | .inl s => q s
  | .inr r => q' r
theorem bind_some {α β : Type} {x : Option α} {g : α → Option β} {r : β} (h : x.bind g = some r) : ∃ a, x = some a ∧ g a = some r := Option.bind_eq_some_iff.1 h

/-! ### Rules -/
variable {x : Cx} {n : Nat} {V V1 : VEnv} {Q : Ex → VEnv → Prop}
theorem Wc.condT {c : Opd} {a b : CCode} (hc : sca V c = .bool true) (h : Wc x n a V Q) : Wc x n (.cond c a b) V Q := by
  obtain ⟨ex, V1, h1, h2⟩ := h
  exact ⟨ex, V1, .condT hc h1, h2⟩
theorem Wc.condF {c : Opd} {a b : CCode} (hc : sca V c = .bool false) (h : Wc x n b V Q) : Wc x n (.cond c a b) V Q := by
  obtain ⟨ex, V1, h1, h2⟩ := h
  exact ⟨ex, V1, .condF hc h1, h2⟩
theorem Wo.evs {ops ops' : List (Nat × COper)} {Q : VEnv → Prop} (h : evalO n ops V = some (ops', V1)) (hw : Wo x n ops' V1 Q) : Wo x n ops V Q := Wo.eval h hw
theorem Wc.evs {d : Bool} {ops ops' : List (Nat × COper)} (h : evalO n ops V = some (ops', V1)) (hw : Wo x n ops' V1 (fun V' => Q .normal V')) : Wc x n (.reg d ops) V Q := Wc.reg (Wo.eval h hw)
theorem Wc.condT' {c : Opd} {a b : CCode} {t : Bool} (hc : sca V c = .bool t) (ht : t = true) (h : Wc x n a V Q) : Wc x n (.cond c a b) V Q := Wc.condT (by rw [hc, ht]) h
theorem Wc.condF' {c : Opd} {a b : CCode} {t : Bool} (hc : sca V c = .bool t) (ht : t = false) (h : Wc x n b V Q) : Wc x n (.cond c a b) V Q := Wc.condF (by rw [hc, ht]) h
theorem Wc.gh {c : CCode} (hv : VLe V V1) (h : Wc x n c V1 Q) : Wc x n c V Q := by
  obtain ⟨ex, V2, h1, h2⟩ := h
  exact ⟨ex, V2, .ghC hv h1, h2⟩
theorem Wo.gh {ops : List (Nat × COper)} {Q : VEnv → Prop} (hv : VLe V V1) (h : Wo x n ops V1 Q) : Wo x n ops V Q := by
  obtain ⟨V2, h1, h2⟩ := h
  exact ⟨V2, .ghO hv h1, h2⟩
theorem Wo.mono {ops : List (Nat × COper)} {Q Q' : VEnv → Prop} (h : Wo x n ops V Q) (hq : ∀ V, Q V → Q' V) : Wo x n ops V Q' := by
  obtain ⟨V', h1, h2⟩ := h
  exact ⟨V', h1, hq _ h2⟩
/-- A slot's tree is seen as another. -/
theorem vle_co {s : Nat} {t t1 : T} (hs : V.get s = .v t) (hu : t ≠ .und) (h : TLe t t1) (hv : (unroot s V).set s (.v t1) = V1) : VLe V V1 := hv ▸ vle_see hs hu h
theorem vle_fz {s : Nat} {t : T} (hs : V.get s = .v t) (hu : t ≠ .und) (hv : (unroot s V).set s (.v t.frz) = V1) : VLe V V1 := hv ▸ vle_frz hs hu
/-- What a slot leads to is taken from where it lies. -/
theorem vle_take {s : Nat} {t : T} {V0 : VEnv} (hs : V.get s ≠ .v .und) (ht : takeV V (.t s) = some (t, V0)) (hv : (unroot s V0).set s (.v t) = V1) : VLe V V1 := by
  subst hv
  intro H F env Lf hst
  have hlt : s < env.length := by
    rcases Nat.lt_or_ge s env.length with h | h
    · exact h
    · exact absurd (hst.ln s h) hs
  obtain ⟨l1, Lf1, k1, p1⟩ := take_ok hst Lo.nil ht
  have hlo := k1.lo
  simp only [List.nil_append] at hlo
  have := k1.st.put (d := s) (v := env.getD s .und) (t := t) (ls := l1) hlt hlo
  have he : env.set s (env.getD s .und) = env := by
    apply List.ext_getElem?
    intro i
    by_cases hi : s = i
    · subst hi
      rw [List.getElem?_set_self hlt, List.getD_eq_getElem?_getD, List.getElem?_eq_getElem hlt]; rfl
    · rw [List.getElem?_set_ne hi]
  rw [he] at this
  refine ⟨F, _, this, Tr.less ?_⟩
  rintro l ⟨q, hl⟩
  unfold upL at hl
  split at hl
  · exact p1 l hl
  · exact ⟨q, k1.sub q l hl⟩
theorem tle_bool {a b : Bool} (h : a = b) : TLe (.bool a) (.bool b) := by subst h; exact TLe.refl _
theorem TLes.of_eq {cs cs1 : List T} (h : cs = cs1) : TLes cs cs1 := by subst h; exact TLes.refl _
theorem TLe.own0 {e : Nat} {cs cs1 : List T} (h : TLes cs cs1) : TLe (.sl true false e 0 cs) (.sl true true e 0 cs1) := by
  intro H F v ls hd
  have : cs.length = cs1.length ∨ ¬ cs.length = cs1.length := Decidable.em _
  rw [Den] at hd ⊢
  rcases hd with ⟨h1, _⟩ | ⟨l, o, n, avs, e1, e2, e3, e4, e5⟩
  · simp [nilOk] at h1
  refine .inr ⟨l, o, n, avs, e1, e2, e3, e4, ?_⟩
  rcases e5 with ⟨f1, f2, f3, f4, f5, l1, f6, f7⟩ | ⟨f1, _⟩
  · exact .inl ⟨f1, f2, f3, f4, f5, l1, f6, h _ _ _ _ f7⟩
  · cases f1
theorem TLes.append {ts us ts1 us1 : List T} (h : TLes ts ts1) (h' : TLes us us1) : TLes (ts ++ us) (ts1 ++ us1) := by
  intro H F vs ls hd
  obtain ⟨c1, c2, l1, l2, rfl, rfl, d1, d2⟩ := hd.split
  exact (h _ _ _ _ d1).append (h' _ _ _ _ d2)
/-- Zero values. -/
theorem tles_rep {n : Nat} {a : α} {v : List α} {zs : List T} (h : List.replicate n a = v) (hz : TLes zs (E.c b a)) : TLes (List.replicate n zs).flatten (arr E b v) := by
  subst h
  induction n with
  | zero => exact TLes.refl _
  | succ n ih => rw [List.replicate_succ, List.flatten_cons, List.replicate_succ, arr_cons]; exact hz.append ih
theorem tles_rep1 {n : Nat} {a : α} {v : List α} {z : T} (h : List.replicate n a = v) (hz : TLes [z] (E.c b a)) : TLes (List.replicate n z) (arr E b v) := by
  have := tles_rep (b := b) h hz
  rwa [List.flatten_replicate_singleton] at this
theorem tle_own {e : Nat} {cs cs1 : List T} (h : cs = cs1) : TLe (.sl true false e 0 cs) (.sl true true e 0 cs1) := by subst h; exact TLe.own (TLes.refl _) rfl
theorem tle_sh {e : Nat} {cs cs1 : List T} (h : cs = cs1) : TLe (.sl false false e 0 cs) (.sl false false e 1 cs1) := by subst h; exact TLe.sh (TLes.refl _)
theorem tle_eq {t t1 : T} (h : t = t1) : TLe t t1 := by subst h; exact TLe.refl _

theorem VJx.res {f : Nat} {ts ts1 : List T} {t t1 : T} {outs outs1 : List T} (h : VJx x (.ca f ts1 t outs)) (ha : TLes ts ts1) (ht : TLe t t1) (ho : TLes outs outs1) : VJx x (.ca f ts t1 outs1) := .ghR ha ht ho h

@[simp] theorem beq_dec (x y : Int) : (x == y) = decide (x = y) := rfl
@[simp] theorem bne_dec (x y : Int) : (x != y) = decide (¬ x = y) := by simp [bne]
theorem holes_len {cs : List T} {k n : Nat} (h : k + n ≤ cs.length) : (holes cs k n).length = cs.length := by unfold holes; simp; omega
@[simp] theorem holes_isEmpty {cs : List T} {k n : Nat} (h : k + n ≤ cs.length) : (holes cs k n).isEmpty = cs.isEmpty := by
  have := holes_len h
  cases cs with
  | nil =>
    simp only [List.length_nil] at this
    rw [List.eq_nil_of_length_eq_zero this]
  | cons c cs =>
    cases hh : holes (c :: cs) k n with
    | nil => rw [hh] at this; simp at this
    | cons => rfl
@[simp] theorem holes_eq_nil {cs : List T} {k n : Nat} (h : k + n ≤ cs.length) : holes cs k n = [] ↔ cs = [] := by
  have := holes_isEmpty h
  rw [← List.isEmpty_iff, this, List.isEmpty_iff]
attribute [simp] holes_len
@[simp] theorem holes_lay {cs c : List T} {k n : Nat} (h : k + n ≤ cs.length) : layT (holes cs k n) k n c = layT cs k n c := by
  unfold layT holes
  have h1 : (cs.take k).length = k := by simp; omega
  have h2 : (cs.take k ++ List.replicate n T.und).length = k + n := by simp; omega
  congr 1
  · rw [List.take_append_of_le_length (by omega), List.take_take, Nat.min_self]
  · congr 1
    rw [← List.append_assoc, ← h2, List.drop_left, h2]
@[simp] theorem holes_get {cs : List T} {k : Nat} (h : k + 1 ≤ cs.length) : (holes cs k 1)[k]? = some .und := by
  have hk : (cs.take k).length = k := by rw [List.length_take, Nat.min_eq_left (by omega)]
  unfold holes
  rw [List.getElem?_append_right (by omega), hk, Nat.sub_self]
  rfl
@[simp] theorem holes_set {cs : List T} {k : Nat} {t : T} (h : k + 1 ≤ cs.length) : (holes cs k 1).set k t = cs.set k t := by
  have hk : (cs.take k).length = k := by rw [List.length_take, Nat.min_eq_left (by omega)]
  have h2 : cs.set k t = cs.take k ++ t :: cs.drop (k + 1) := by rw [List.set_eq_take_append_cons_drop, if_pos (by omega)]
  rw [h2]
  unfold holes
  rw [List.set_append, if_neg (by omega), hk, Nat.sub_self]
  rfl
@[simp] theorem layT_zero {x : T} {cs c : List T} {n : Nat} : layT (x :: cs) 0 n c = c ++ (x :: cs).drop n := by simp [layT]
@[simp] theorem layT_succ {x : T} {cs c : List T} {k n : Nat} : layT (x :: cs) (k + 1) n c = x :: layT cs k n c := by simp [layT, Nat.add_right_comm]
theorem arr_take1 (h : E.w = 1) (n : Nat) : (arr E b l).take n = arr E b (l.take n) := by
  have := arr_take (E := E) (b := b) (l := l) n
  rwa [h, Nat.mul_one] at this
theorem arr_drop1 (h : E.w = 1) (n : Nat) : (arr E b l).drop n = arr E b (l.drop n) := by
  have := arr_drop (E := E) (b := b) (l := l) n
  rwa [h, Nat.mul_one] at this
@[simp] theorem arrI_take {k : IntKind} {l : List Int} (n : Nat) : (arr (eInt k) b l).take n = arr (eInt k) b (l.take n) := arr_take1 rfl n
@[simp] theorem arrB_take {l : List Bool} (n : Nat) : (arr eB b l).take n = arr eB b (l.take n) := arr_take1 rfl n
@[simp] theorem arrS_take {l : List (List UInt8)} (n : Nat) : (arr eS b l).take n = arr eS b (l.take n) := arr_take1 rfl n
@[simp] theorem arrL_take {E : En α} {l : List (List α)} (n : Nat) : (arr (eL E) b l).take n = arr (eL E) b (l.take n) := arr_take1 rfl n
theorem arrI_drop {k : IntKind} {l : List Int} (n : Nat) : (arr (eInt k) b l).drop n = arr (eInt k) b (l.drop n) := arr_drop1 rfl n
theorem arrL_drop {E : En α} {l : List (List α)} (n : Nat) : (arr (eL E) b l).drop n = arr (eL E) b (l.drop n) := arr_drop1 rfl n
@[simp] theorem bits_and {k : IntKind} {x y : Int} : bitsOp .and k x y = some (band k x y) := rfl
@[simp] theorem bits_or {k : IntKind} {x y : Int} : bitsOp .or k x y = some (bor k x y) := rfl
@[simp] theorem bits_xor {k : IntKind} {x y : Int} : bitsOp .xor k x y = some (bxor k x y) := rfl
theorem shl_eq {k : IntKind} {x y : Int} (h : ¬ y < 0) : shI .shl k x y = some (.int k (sshl k x y)) := by unfold shI; rw [if_neg h]; rfl
theorem shr_eq {k : IntKind} {x y : Int} (h : ¬ y < 0) : shI .shr k x y = some (.int k (sshr k x y)) := by unfold shI; rw [if_neg h]; rfl
attribute [simp] shl_eq shr_eq binS
@[simp] theorem arrI_len {k : IntKind} {l : List Int} : (arr (eInt k) b l).length = l.length := by rw [arr_len]; simp [eInt]
@[simp] theorem arrB_len {l : List Bool} : (arr eB b l).length = l.length := by rw [arr_len]; simp [eB]
@[simp] theorem arrS_len {l : List (List UInt8)} : (arr eS b l).length = l.length := by rw [arr_len]; simp [eS]
@[simp] theorem arrL_len {E : En α} {l : List (List α)} : (arr (eL E) b l).length = l.length := by rw [arr_len]; simp [eL]
@[simp] theorem arrI_snoc {k : IntKind} {l : List Int} {n : Int} : arr (eInt k) b l ++ [.int k n] = arr (eInt k) b (l ++ [n]) := by rw [← arr_snoc]; rfl
@[simp] theorem arrB_snoc {l : List Bool} {n : Bool} : arr eB b l ++ [.bool n] = arr eB b (l ++ [n]) := by rw [← arr_snoc]; rfl
@[simp] theorem arrS_snoc {l : List (List UInt8)} {n : List UInt8} : arr eS b l ++ [.str n] = arr eS b (l ++ [n]) := by rw [← arr_snoc]; rfl
theorem arrI_rep {k : IntKind} {n : Nat} {a : Int} : List.replicate n (T.int k a) = arr (eInt k) b (List.replicate n a) := by
  induction n with
  | zero => rfl
  | succ n ih => rw [List.replicate_succ, List.replicate_succ, arr_cons, ih]; rfl
theorem arrB_rep {n : Nat} {a : Bool} : List.replicate n (T.bool a) = arr eB b (List.replicate n a) := by
  induction n with
  | zero => rfl
  | succ n ih => rw [List.replicate_succ, List.replicate_succ, arr_cons, ih]; rfl

end Go.Proofs.YtabmomjfdondnaaH
