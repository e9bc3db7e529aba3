/- Which operation of the text an abstract operation stands for; those that look at no memory do the same. -/
import Derived.Test.YtabmomjfdondnaaHm2
set_option linter.unusedVariables false
set_option linter.unusedSimpArgs false
namespace Go.Proofs.YtabmomjfdondnaaH
open Go

def isSl (P : Program) (T : TypeId) (e : Nat) : Bool :=
  match P.underlying T with
  | some (.slice E) => match P.info? E with
    | some i => i.size == e
    | none => false
  | _ => false
def isSlB (P : Program) (T : TypeId) (e bs : Nat) (zs : List AV) : Bool :=
  match P.underlying T with
  | some (.slice E) => match P.info? E with
    | some i => i.size == e && i.bytes == bs && (match i.zero with | some z => mCs zs z.cells.toList && z.cells.size == e | none => false)
    | none => false
  | _ => false
where mCs : List AV → List Value → Bool
  | [], [] => true
  | x :: xs, y :: ys => mC x y && mCs xs ys
  | _, _ => false
def isAggT (P : Program) (T : TypeId) (ag : Bool) (n : Nat) : Bool :=
  match P.underlying T, P.info? T with
  | some (.struct _), some i => ag && i.size == n
  | some (.array _ _), _ => false
  | some _, some i => !ag && i.size == n
  | _, _ => false
def zeroOk (P : Program) (T : TypeId) (zs : List AV) : Bool :=
  match P.info? T with
  | some i => match i.zero with | some z => isSlB.mCs zs z.cells.toList | none => false
  | none => false
def partsOk (places : Nat → Option (Nat × Nat)) : List (Nat × Nat × Opd) → List (Nat × Operand) → Bool
  | [], [] => true
  | (o, n, x) :: ps, (i, X) :: qs => mO x X && (match places i with | some (o', n') => o == o' && n == n' | none => false) && partsOk places ps qs
  | _, _ => false
def fieldPlaces (P : Program) (fields : Array Field) : Option (Array (Nat × Nat)) :=
  (fields.toList.mapM fun f => (P.info? f.type).map fun i => (f.offset, i.size)).map (·.toArray)

/-- A call of a builtin with these operands: its types. -/
def isB (o : Oper) (b : Builtin) (xs : List Opd) : Option (Array TypeId) :=
  match o.op with
  | .call c => match c.callee with
    | .builtin b' => if b == b' && mOs xs c.args.toList then some c.argTypes else none
    | _ => none
  | _ => none
def underB (P : Program) (Ts : Array TypeId) (q : TypeDesc → Bool) : Bool :=
  match Ts[0]? with
  | some T => match P.underlying T with
    | some d => q d
    | none => false
  | none => false

/-- Does an operation of the text do what an abstract one says? -/
def mOp (P : Program) (o : Oper) : COp → Bool
  | .mv x => match o.op with
    | .move X | .assign X => mO x X
    | _ => false
  | .pick c a b => match o.op with
    | .pick C A B => mO c C && mO a A && mO b B
    | _ => false
  | .bin op x y => match o.op with
    | .binOp op' _ X Y _ => op == op' && mO x X && mO y Y
    | _ => false
  | .beq ng x y => match o.op with
    | .binOp op' T X Y _ => op' == (if ng then .neq else .eql) && mO x X && mO y Y && (match P.underlying T with | some .bool => true | _ => false)
    | _ => false
  | .isnil ng x => match o.op with
    | .binOp op' T X (.const (.slice none 0 0)) _ => op' == (if ng then .neq else .eql) && mO x X && (match P.underlying T with | some (.slice _) => true | _ => false)
    | _ => false
  | .neg x => match o.op with
    | .unOp .neg _ X => mO x X
    | _ => false
  | .not x => match o.op with
    | .unOp .not _ X => mO x X
    | _ => false
  | .len x => match isB o .len [x] with
    | some Ts => underB P Ts fun | .slice _ => true | _ => false
    | none => false
  | .lens x => match isB o .len [x] with
    | some Ts => underB P Ts fun | .string => true | _ => false
    | none => false
  | .cap x => match isB o .cap [x] with
    | some Ts => underB P Ts fun | .slice _ => true | _ => false
    | none => false
  | .max x y => (isB o .max [x, y]).isSome
  | .conv k x => match o.op with
    | .convert S D X => mO x X && (match P.underlying S, P.underlying D with | some _, some (.int k') => k == k' | _, _ => false)
    | _ => false
  | .b2s x => match o.op with
    | .convert S D X => mO x X && (match P.underlying S, P.underlying D with
      | some (.slice E), some .string => (match P.underlying E with | some (.int .u8) => true | _ => false)
      | _, _ => false)
    | _ => false
  | .ld n ag p => match o.op with
    | .load T X => mO p X && isAggT P T ag n
    | _ => false
  | .st n p v => match o.op with
    | .store T X V => mO p X && mO v V && (match P.info? T with | some i => i.size == n | none => false)
    | _ => false
  | .al zs => match o.op with
    | .alloc T => zeroOk P T zs
    | _ => false
  | .box n v => match o.op with
    | .box T V => mO v V
    | _ => false
  | .bld zs ps => match o.op with
    | .build T parts => zeroOk P T zs && (match P.underlying T with
      | some (.struct fields) => (match fieldPlaces P fields with
        | some places => partsOk (fun i => places[i]?) ps parts.toList
        | none => false)
      | _ => false)
    | _ => false
  | .bsl e n zs ps => match o.op with
    | .buildSlice T n' parts => n == n' && (match P.underlying T with
      | some (.slice E) => (match P.info? E with
        | some i => i.size == e && (match i.zero with | some z => isSlB.mCs zs z.cells.toList && z.cells.size == e | none => false) && partsOk (fun i => some (i * e, e)) ps parts.toList
        | none => false)
      | _ => false)
    | _ => false
  | .mk e bs zs l c => match o.op with
    | .makeSlice T L C => mO l L && mO c C && isSlB P T e bs zs
    | _ => false
  | .sls e x lo hi mx => match o.op with
    | .slice T X L H M => mO x X && mOo lo L && mOo hi H && mOo mx M && isSl P T e
    | _ => false
  | .slx e x lo hi mx => match o.op with
    | .slice T X L H M => mO x X && mOo lo L && mOo hi H && mOo mx M && isSl P T e
    | _ => false
  | .sst x lo hi => match o.op with
    | .slice T X L H none => mO x X && mOo lo L && mOo hi H && (match P.underlying T with | some .string => true | _ => false)
    | _ => false
  | .fa off x => match o.op with
    | .fieldAddr T X f => mO x X && (match P.underlying T with
      | some (.struct fields) => (match fields[f]? with
        | some fd => fd.offset == off && (match P.info? fd.type with | some i => i.size != 0 | none => false)
        | none => false)
      | _ => false)
    | _ => false
  | .ia e x i => match o.op with
    | .indexAddr T X I => mO x X && mO i I && isSl P T e
    | _ => false
  | .ix x i => match o.op with
    | .index T X I => mO x X && mO i I && (match P.underlying T with | some .string => true | _ => false)
    | _ => false
  | .nc x => match o.op with
    | .nilCheck X => mO x X
    | _ => false
  | .fn f cs => match o.op with
    | .makeFunc (.func f') fs CS => f == f' && fs.size == 0 && mOs cs CS.toList
    | _ => false
  | .ex x i => match o.op with
    | .extract X j => mO x X && i == j
    | _ => false
  | .call f xs => match o.op with
    | .call c => (match c.callee with
      | .value (.func f') => f == f' && mOs xs c.args.toList && (match P.funcs[f]? with | some fn => fn.body.isSome && !(fn.name == "runtime.NumGoroutine") | none => false)
      | _ => false)
    | _ => false
  | .callv x xs => match o.op with
    | .call c => (match c.callee with
      | .value X => mO x X && mOs xs c.args.toList
      | _ => false)
    | _ => false
  | .app e bs s x => match isB o .append [s, x] with
    | some Ts => Ts.size == 2 && Ts[0]? == Ts[1]? && underB P Ts fun
      | .slice E => (match P.info? E with
        | some i => i.size == e && i.bytes == bs && (match i.zero with | some z => z.cells.size == e | none => false)
        | none => false)
      | _ => false
    | none => false
  | .appm e bs zs s x => match isB o .append [s, x] with
    | some Ts => Ts.size == 2 && (match Ts[1]? with | some T => (match P.underlying T with | some (.int _) => true | _ => false) | none => false) && underB P Ts fun
      | .slice E => (match P.info? E with
        | some i => i.size == e && i.bytes == bs && (match i.zero with | some z => isSlB.mCs zs z.cells.toList && z.cells.size == e | none => false)
        | none => false)
      | _ => false
    | none => false
  | .cpy e d s => match isB o .copy [d, s] with
    | some Ts => underB P Ts fun
      | .slice E => (match P.info? E with
        | some i => i.size == e
        | none => false)
      | _ => false
    | none => false
  | .clr e zs x => match isB o .clear [x] with
    | some Ts => underB P Ts fun
      | .slice E => (match P.info? E with
        | some i => i.size == e && (match i.zero with | some z => isSlB.mCs zs z.cells.toList && z.cells.size == e | none => false)
        | none => false)
      | _ => false
    | none => false
  | .eqs .. => false
  | .fail => true

/-! ### Operations that look at no memory -/
section
variable {P : Program} {o : Oper} {env : Env} {a : Act} {m : Map} {v : AV} (w : World)

/-- What an operation without memory comes to. -/
def Does (P : Program) (o : Oper) (a : Act) (m : Map) (v : AV) (w : World) : Prop := ∃ v', (execOp a.eval o).run P w = .ok (.value v') w ∧ VR m v v'

theorem binI_ok {op : BinOp} {k : IntKind} {x y : Int} {v : AV} (T : TypeId) (hv : binI op k x y = some v) (h1 : op ≠ .shl) (h2 : op ≠ .shr) : ∃ v', (binOp op T (.int k x) (.int k y)).run P w = .ok v' w ∧ VR m v v' := by
  cases op
  case shl => exact absurd rfl h1
  case shr => exact absurd rfl h2
  case quo =>
    simp only [binI] at hv
    split at hv
    · simp at hv
    · rename_i hz
      simp at hv; subst hv
      exact ⟨_, by simp [binOp, Op.intDiv, hz, pure, Sem.run], rfl⟩
  case rem =>
    simp only [binI] at hv
    split at hv
    · simp at hv
    · rename_i hz
      simp at hv; subst hv
      exact ⟨_, by simp [binOp, Op.intDiv, hz, pure, Sem.run], rfl⟩
  all_goals
    simp only [binI, bitsOp, Option.map_some, Option.map_none, Option.some.injEq, reduceCtorEq] at hv
  all_goals
    subst hv
    exact ⟨_, by simp only [binOp, Op.intArith, Op.intBits, Op.intCmp, pure, Sem.run, ne_eq, not_true_eq_false, if_false], rfl⟩
theorem shI_ok {op : BinOp} {k k' : IntKind} {x y : Int} {v : AV} (T : TypeId) (hv : shI op k x y = some v) : ∃ v', (binOp op T (.int k x) (.int k' y)).run P w = .ok v' w ∧ VR m v v' := by
  unfold shI at hv
  split at hv
  · simp at hv
  · rename_i hy
    cases op <;> simp only [Option.some.injEq, reduceCtorEq] at hv
    all_goals (subst hv; exact ⟨_, by simp only [binOp, Op.shift, hy, pure, Sem.run, if_false], rfl⟩)
theorem toList_eq (b : ByteArray) : b.toList = b.data.toList := by
  first | exact ByteArray.toList_eq b | rfl | simp
theorem binS_ok {op : BinOp} {x y : List UInt8} {X Y : ByteArray} {v : AV} (T : TypeId) (hX : X.data.toList = x) (hY : Y.data.toList = y) (hv : binS op x y = some v) :
    ∃ v', (binOp op T (.string X) (.string Y)).run P w = .ok v' w ∧ VR m v v' := by
  subst hX hY
  cases op
  case add =>
    simp only [binS] at hv
    split at hv
    · rename_i hle
      simp at hv; subst hv
      rw [Array.length_toList, Array.length_toList] at hle
      have hle' : ¬ (((X.size + Y.size : Nat) : Int) > IntKind.i64.max) := Int.not_lt.mpr hle
      exact ⟨_, by simp only [binOp, Op.stringOp, if_neg hle', pure, Sem.run], ⟨X ++ Y, rfl, by rw [ByteArray.data_append, Array.toList_append]⟩⟩
    · simp at hv
  all_goals
    simp only [binS, Option.some.injEq, reduceCtorEq] at hv
  all_goals
    subst hv
    exact ⟨_, by simp only [binOp, Op.stringOp, pure, Sem.run, toList_eq], rfl⟩

theorem does_mv {x : Opd} (h : mOp P o (.mv x) = true) (hE : EnvR m env a.tmps) (hv : pureOp env (.mv x) = some v) : Does P o a m v w := by
  simp only [pureOp, Option.some.injEq] at hv
  subst hv
  simp only [mOp] at h
  split at h
  · rename_i X ho
    exact ⟨a.eval X, by simp [execOp, ho, pure, Sem.run], mO_ok h hE⟩
  · rename_i X ho
    exact ⟨a.eval X, by simp [execOp, ho, pure, Sem.run], mO_ok h hE⟩
  · simp at h

theorem run_pure_bind {α β : Type} (x : α) (f : α → Sem β) : ((pure x : Sem α) >>= f).run P w = (f x).run P w := rfl
/-- An operation whose result is a value. -/
theorem run_v {s : Sem Value} {v' : Value} {w' : World} (h : s.run P w = .ok v' w') : (do pure (Next.value (← s)) : Sem Next).run P w = .ok (.value v') w' := by
  simp only [Sem.run_bind, h, Result.andThen_ok]; rfl

theorem does_pick {x y z : Opd} (h : mOp P o (.pick x y z) = true) (hE : EnvR m env a.tmps) (hv : pureOp env (.pick x y z) = some v) : Does P o a m v w := by
  simp only [mOp] at h
  split at h
  · rename_i X Y Z ho
    simp only [Bool.and_eq_true] at h
    have h1 := mO_ok h.1.1 hE
    have h2 := mO_ok h.1.2 hE
    have h3 := mO_ok h.2 hE
    simp only [pureOp] at hv
    split at hv
    · rename_i hc
      rw [hc] at h1; simp only [VR] at h1; simp only [Option.some.injEq] at hv; subst hv
      exact ⟨a.eval Y, by simp [execOp, ho, h1, asBool, pure, Sem.run, Sem.run_bind, bind, Sem.bind], h2⟩
    · rename_i hc
      rw [hc] at h1; simp only [VR] at h1; simp only [Option.some.injEq] at hv; subst hv
      exact ⟨a.eval Z, by simp [execOp, ho, h1, asBool, pure, Sem.run, Sem.run_bind, bind, Sem.bind], h3⟩
    · simp at hv
  · simp at h

theorem guard_scalar (op : BinOp) (T : TypeId) (X Y : Operand) (x y : Value) (hx : (∀ cs, x ≠ .agg cs) ∧ x ≠ .nilIface) : (eqGuard op T X Y x y).run P w = .ok () w := by
  obtain ⟨h1, h2⟩ := hx
  cases op
  case eql => cases x <;> first | exact absurd rfl h2 | exact absurd rfl (h1 _) | rfl
  case neq => cases x <;> first | exact absurd rfl h2 | exact absurd rfl (h1 _) | rfl
  all_goals rfl

theorem does_bin {op : BinOp} {x y : Opd} (h : mOp P o (.bin op x y) = true) (hE : EnvR m env a.tmps) (hv : pureOp env (.bin op x y) = some v) : Does P o a m v w := by
  simp only [mOp] at h
  split at h
  · rename_i op' T X Y U ho
    simp only [Bool.and_eq_true, beq_iff_eq] at h
    obtain ⟨⟨rfl, hx⟩, hy⟩ := h
    have h1 := mO_ok hx hE
    have h2 := mO_ok hy hE
    simp only [pureOp] at hv
    have key : ∃ v', (binOp op T (a.eval X) (a.eval Y)).run P w = .ok v' w ∧ VR m v v' ∧ (∀ cs, a.eval X ≠ .agg cs) ∧ a.eval X ≠ .nilIface := by
      revert h1 h2
      generalize a.eval X = A
      generalize a.eval Y = B
      intro h1 h2
      unfold binA at hv
      split at hv
      · rename_i k n k' n' e1 e2
        rw [e1] at h1; rw [e2] at h2; simp only [VR] at h1 h2; subst h1 h2
        obtain ⟨v', hr, hv'⟩ := shI_ok (P := P) (m := m) w (k' := k') T hv
        exact ⟨v', hr, hv', by simp, by simp⟩
      · rename_i k n k' n' e1 e2
        rw [e1] at h1; rw [e2] at h2; simp only [VR] at h1 h2; subst h1 h2
        obtain ⟨v', hr, hv'⟩ := shI_ok (P := P) (m := m) w (k' := k') T hv
        exact ⟨v', hr, hv', by simp, by simp⟩
      · rename_i k n k' n' n1 n2 e1 e2
        rw [e1] at h1; rw [e2] at h2; simp only [VR] at h1 h2; subst h1 h2
        split at hv
        · rename_i hk
          subst hk
          obtain ⟨v', hr, hv'⟩ := binI_ok (P := P) (m := m) w T hv (fun e => n1 e) (fun e => n2 e)
          exact ⟨v', hr, hv', by simp, by simp⟩
        · simp at hv
      · rename_i s s' _ _ e1 e2
        rw [e1] at h1; rw [e2] at h2
        obtain ⟨b1, rfl, hb1⟩ := h1
        obtain ⟨b2, rfl, hb2⟩ := h2
        obtain ⟨v', hr, hv'⟩ := binS_ok (P := P) (m := m) w T hb1 hb2 hv
        exact ⟨v', hr, hv', by simp, by simp⟩
      · simp at hv
    obtain ⟨v', hr, hv', hn⟩ := key
    refine ⟨v', ?_, hv'⟩
    simp only [execOp, ho]
    refine run_v (P := P) w ?_
    rw [Sem.run_bind, guard_scalar (P := P) w op T X Y _ _ hn, Result.andThen_ok, hr]
  · simp at h
theorem does_neg {x : Opd} (h : mOp P o (.neg x) = true) (hE : EnvR m env a.tmps) (hv : pureOp env (.neg x) = some v) : Does P o a m v w := by
  simp only [mOp] at h
  split at h
  · rename_i T X ho
    have h1 := mO_ok h hE
    simp only [pureOp] at hv
    split at hv
    · rename_i k n hc
      rw [hc] at h1; simp only [VR] at h1; simp only [Option.some.injEq] at hv; subst hv
      refine ⟨_, ?_, rfl⟩
      simp only [execOp, ho]
      exact run_v (P := P) w (by rw [h1]; simp only [Op.unary, Op.intArith]; rfl)
    · simp at hv
  · simp at h
theorem does_not {x : Opd} (h : mOp P o (.not x) = true) (hE : EnvR m env a.tmps) (hv : pureOp env (.not x) = some v) : Does P o a m v w := by
  simp only [mOp] at h
  split at h
  · rename_i T X ho
    have h1 := mO_ok h hE
    simp only [pureOp] at hv
    split at hv
    · rename_i b hc
      rw [hc] at h1; simp only [VR] at h1; simp only [Option.some.injEq] at hv; subst hv
      refine ⟨_, ?_, rfl⟩
      simp only [execOp, ho]
      exact run_v (P := P) w (by rw [h1]; simp only [Op.unary]; rfl)
    · simp at hv
  · simp at h
theorem run_equal {T : TypeId} {x y : Value} {b : Bool} (h : ∀ d, (Op.equalIn (d + 1) T x y).run P w = .ok b w) : (Op.equal T x y).run P w = .ok b w := h 9999
theorem run_equal_bool {T : TypeId} (hu : P.underlying T = some .bool) (b c : Bool) : (Op.equal T (.bool b) (.bool c)).run P w = .ok (b == c) w :=
  run_equal (P := P) w fun d => by simp only [Op.equalIn, Sem.run_bind, run_underlying hu, Result.andThen]; rfl
theorem run_equal_nil {T e : TypeId} (hu : P.underlying T = some (.slice e)) (n c : Nat) (a : Option Addr) : (Op.equal T (.slice a n c) (.slice none 0 0)).run P w = .ok a.isNone w :=
  run_equal (P := P) w fun d => by cases a <;> (simp only [Op.equalIn, Sem.run_bind, run_underlying hu, Result.andThen]; rfl)

theorem run_neq {T : TypeId} {x y : Value} {b ng : Bool} (hx : ∀ k n, x ≠ .int k n) (hf : ∀ k n, x ≠ .float k n) (hc : ∀ k r i, x ≠ .complex k r i) (hs : ∀ s, x ≠ .string s) (h : (Op.equal T x y).run P w = .ok b w) :
    (binOp (if ng then .neq else .eql) T x y).run P w = .ok (.bool (if ng then !b else b)) w := by
  have hr : ∀ f : Bool → Bool, ((do pure (Value.bool (f (← Op.equal T x y))) : Sem Value)).run P w = .ok (.bool (f b)) w := by
    intro f; simp only [Sem.run_bind, h, Result.andThen_ok]; rfl
  cases ng
  · cases x <;> first | exact absurd rfl (hx _ _) | exact absurd rfl (hf _ _) | exact absurd rfl (hc _ _ _) | exact absurd rfl (hs _) | exact hr id
  · cases x <;> first | exact absurd rfl (hx _ _) | exact absurd rfl (hf _ _) | exact absurd rfl (hc _ _ _) | exact absurd rfl (hs _) | exact hr (! ·)

theorem does_beq {ng : Bool} {x y : Opd} (h : mOp P o (.beq ng x y) = true) (hE : EnvR m env a.tmps) (hv : pureOp env (.beq ng x y) = some v) : Does P o a m v w := by
  simp only [mOp] at h
  split at h
  · rename_i op' T X Y U ho
    simp only [Bool.and_eq_true, beq_iff_eq] at h
    obtain ⟨⟨⟨rfl, hx⟩, hy⟩, hT⟩ := h
    have hu : P.underlying T = some .bool := by
      revert hT; cases P.underlying T with
      | none => simp
      | some d => cases d <;> simp
    have h1 := mO_ok hx hE
    have h2 := mO_ok hy hE
    simp only [pureOp] at hv
    split at hv
    · rename_i b c e1 e2
      rw [e1] at h1; rw [e2] at h2; simp only [VR] at h1 h2; simp only [Option.some.injEq] at hv; subst hv
      refine ⟨_, ?_, rfl⟩
      simp only [execOp, ho]
      refine run_v (P := P) w ?_
      rw [Sem.run_bind, guard_scalar (P := P) w _ T X Y _ _ (by rw [h1]; simp), Result.andThen_ok, h1, h2]
      rw [run_neq (P := P) w (by simp) (by simp) (by simp) (by simp) (run_equal_bool (P := P) w hu b c)]
      cases ng <;> rfl
    · simp at hv
  · simp at h
theorem does_isnil {ng : Bool} {x : Opd} (h : mOp P o (.isnil ng x) = true) (hE : EnvR m env a.tmps) (hv : pureOp env (.isnil ng x) = some v) : Does P o a m v w := by
  simp only [mOp] at h
  split at h
  · rename_i op' T X U ho
    simp only [Bool.and_eq_true, beq_iff_eq] at h
    obtain ⟨⟨rfl, hx⟩, hT⟩ := h
    have hu : ∃ e, P.underlying T = some (.slice e) := by
      revert hT; cases P.underlying T with
      | none => simp
      | some d => cases d <;> simp
    obtain ⟨e, hu⟩ := hu
    have h1 := mO_ok hx hE
    simp only [pureOp] at hv
    split at hv
    · rename_i e1
      rw [e1] at h1; simp only [VR] at h1; simp only [Option.some.injEq] at hv; subst hv
      refine ⟨_, ?_, rfl⟩
      simp only [execOp, ho]
      refine run_v (P := P) w ?_
      rw [Sem.run_bind, guard_scalar (P := P) w _ T X _ _ _ (by rw [h1]; simp), Result.andThen_ok, h1]
      rw [show a.eval (.const (.slice none 0 0)) = .slice none 0 0 from rfl, run_neq (P := P) w (by simp) (by simp) (by simp) (by simp) (run_equal_nil (P := P) w hu _ _ _)]
      cases ng <;> rfl
    · rename_i l' o' n' e' x' e1
      rw [e1] at h1; obtain ⟨i, ad, cap, hm, he, _⟩ := h1; simp only [Option.some.injEq] at hv; subst hv
      refine ⟨_, ?_, rfl⟩
      simp only [execOp, ho]
      refine run_v (P := P) w ?_
      rw [Sem.run_bind, guard_scalar (P := P) w _ T X _ _ _ (by rw [he]; simp), Result.andThen_ok, he]
      rw [show a.eval (.const (.slice none 0 0)) = .slice none 0 0 from rfl, run_neq (P := P) w (by simp) (by simp) (by simp) (by simp) (run_equal_nil (P := P) w hu _ _ _)]
      cases ng <;> rfl
    · simp at hv
  · simp at h

theorem isB_ok {b : Builtin} {xs : List Opd} {Ts : Array TypeId} (h : isB o b xs = some Ts) : ∃ c : Call, o.op = .call c ∧ c.callee = .builtin b ∧ c.argTypes = Ts ∧ mOs xs c.args.toList = true := by
  unfold isB at h
  split at h
  · rename_i c ho
    split at h
    · rename_i b' hb
      split at h
      · rename_i hc
        simp only [Bool.and_eq_true, beq_iff_eq] at hc
        obtain ⟨rfl, hm⟩ := hc
        exact ⟨c, ho, hb, by simpa using h, hm⟩
      · simp at h
    · simp at h
  · simp at h
theorem underB_ok {Ts : Array TypeId} {q : TypeDesc → Bool} (h : underB P Ts q = true) : ∃ T d, Ts[0]? = some T ∧ P.underlying T = some d ∧ q d = true := by
  unfold underB at h
  split at h
  · rename_i T hT
    split at h
    · rename_i d hd
      exact ⟨T, d, hT, hd, h⟩
    · simp at h
  · simp at h
/-- A builtin whose result is a value. -/
theorem run_builtin {b : Builtin} {c : Call} {s : Array TypeId → TypeId → Array Value → Sem Value} {v' : Value} {w' : World} (ho : o.op = .call c) (hc : c.callee = .builtin b)
    (hb : ∀ Ts ty cs vs, builtin b Ts ty cs vs = (do pure (Next.value (← s Ts ty vs)))) (h : (s c.argTypes o.type (c.args.map a.eval)).run P w = .ok v' w') : (execOp a.eval o).run P w = .ok (.value v') w' := by
  simp only [execOp, ho, resolve, hc, run_pure_bind, invoke, hb]
  exact run_v (P := P) w h
theorem args_eq {c : Call} {xs : List Opd} (h : mOs xs c.args.toList = true) (hE : EnvR m env a.tmps) : ∃ vs : List Value, c.args.map a.eval = vs.toArray ∧ VRs m (xs.map (Opd.ev env)) vs :=
  ⟨c.args.toList.map a.eval, by apply Array.ext'; simp, mOs_ok h hE⟩

theorem does_len {x : Opd} (h : mOp P o (.len x) = true) (hE : EnvR m env a.tmps) (hv : pureOp env (.len x) = some v) : Does P o a m v w := by
  simp only [mOp] at h
  split at h
  · rename_i Ts hB
    obtain ⟨c, ho, hc, rfl, hm⟩ := isB_ok hB
    obtain ⟨T, d, hT, hu, hq⟩ := underB_ok h
    obtain ⟨vs, hvs, v0, vs', rfl, h1, hn⟩ := args_eq hm hE
    simp only [List.map_nil, VRs] at hn; subst hn
    simp only [pureOp, lenA] at hv
    have key : ∃ v', (Builtin.len_ c.argTypes o.type #[v0]).run P w = .ok v' w ∧ VR m v v' := by
      cases d <;> simp at hq
      split at hv
      · rename_i l o n e x e1
        rw [e1] at h1; obtain ⟨i, ad, cap, hm, rfl, _⟩ := h1
        simp only [Option.some.injEq] at hv; subst hv
        exact ⟨_, by simp [Builtin.len_, hT, Sem.run_bind, run_underlying hu, Result.andThen, pure, Sem.run, goInt], rfl⟩
      · rename_i e1
        rw [e1] at h1; simp only [VR] at h1; subst h1
        simp only [Option.some.injEq] at hv; subst hv
        exact ⟨_, by simp [Builtin.len_, hT, Sem.run_bind, run_underlying hu, Result.andThen, pure, Sem.run, goInt], rfl⟩
      · simp at hv
    obtain ⟨v', hr, hv'⟩ := key
    exact ⟨v', run_builtin (P := P) w (s := Builtin.len_) ho hc (fun _ _ _ _ => rfl) (by rw [hvs]; exact hr), hv'⟩
  · simp at h
theorem does_lens {x : Opd} (h : mOp P o (.lens x) = true) (hE : EnvR m env a.tmps) (hv : pureOp env (.lens x) = some v) : Does P o a m v w := by
  simp only [mOp] at h
  split at h
  · rename_i Ts hB
    obtain ⟨c, ho, hc, rfl, hm⟩ := isB_ok hB
    obtain ⟨T, d, hT, hu, hq⟩ := underB_ok h
    obtain ⟨vs, hvs, v0, vs', rfl, h1, hn⟩ := args_eq hm hE
    simp only [List.map_nil, VRs] at hn; subst hn
    simp only [pureOp] at hv
    have key : ∃ v', (Builtin.len_ c.argTypes o.type #[v0]).run P w = .ok v' w ∧ VR m v v' := by
      cases d <;> simp at hq
      split at hv
      · rename_i s e1
        rw [e1] at h1; obtain ⟨b, rfl, rfl⟩ := h1
        simp only [Option.some.injEq] at hv; subst hv
        exact ⟨.int .i64 b.size, by simp [Builtin.len_, hT, Sem.run_bind, run_underlying hu, Result.andThen, pure, Sem.run, goInt], rfl⟩
      · simp at hv
    obtain ⟨v', hr, hv'⟩ := key
    exact ⟨v', run_builtin (P := P) w (s := Builtin.len_) ho hc (fun _ _ _ _ => rfl) (by rw [hvs]; exact hr), hv'⟩
  · simp at h
theorem does_cap {x : Opd} (h : mOp P o (.cap x) = true) (hE : EnvR m env a.tmps) (hv : pureOp env (.cap x) = some v) : Does P o a m v w := by
  simp only [mOp] at h
  split at h
  · rename_i Ts hB
    obtain ⟨c, ho, hc, rfl, hm⟩ := isB_ok hB
    obtain ⟨T, d, hT, hu, hq⟩ := underB_ok h
    obtain ⟨vs, hvs, v0, vs', rfl, h1, hn⟩ := args_eq hm hE
    simp only [List.map_nil, VRs] at hn; subst hn
    simp only [pureOp] at hv
    have key : ∃ v', (Builtin.cap_ c.argTypes o.type #[v0]).run P w = .ok v' w ∧ VR m v v' := by
      cases d <;> simp at hq
      split at hv
      · rename_i e1
        rw [e1] at h1; simp only [VR] at h1; subst h1
        simp only [Option.some.injEq] at hv; subst hv
        exact ⟨_, by simp [Builtin.cap_, hT, Sem.run_bind, run_underlying hu, Result.andThen, pure, Sem.run, goInt], rfl⟩
      · rename_i l o n e e1
        rw [e1] at h1; obtain ⟨i, ad, cap, hm, rfl, _, hx, _⟩ := h1
        simp only [Option.some.injEq] at hv; subst hv
        obtain rfl := hx rfl
        exact ⟨_, by simp [Builtin.cap_, hT, Sem.run_bind, run_underlying hu, Result.andThen, pure, Sem.run, goInt], rfl⟩
      · simp at hv
    obtain ⟨v', hr, hv'⟩ := key
    exact ⟨v', run_builtin (P := P) w (s := Builtin.cap_) ho hc (fun _ _ _ _ => rfl) (by rw [hvs]; exact hr), hv'⟩
  · simp at h
theorem does_max {x y : Opd} (h : mOp P o (.max x y) = true) (hE : EnvR m env a.tmps) (hv : pureOp env (.max x y) = some v) : Does P o a m v w := by
  simp only [mOp] at h
  obtain ⟨Ts, hB⟩ := Option.isSome_iff_exists.1 h
  obtain ⟨c, ho, hc, rfl, hm⟩ := isB_ok hB
  obtain ⟨vs, hvs, v0, vs', rfl, h1, v1, vs'', rfl, h2, hn⟩ := args_eq hm hE
  simp only [List.map_nil, VRs] at hn; subst hn
  simp only [pureOp] at hv
  have key : ∃ v', (Builtin.max_ c.argTypes o.type #[v0, v1]).run P w = .ok v' w ∧ VR m v v' := by
    split at hv
    · rename_i k n k' n' e1 e2
      rw [e1] at h1; rw [e2] at h2; simp only [VR] at h1 h2; subst h1 h2
      simp only [Option.some.injEq] at hv; subst hv
      exact ⟨_, by simp only [Builtin.max_, List.foldlM, Builtin.max2]; rfl, rfl⟩
    · simp at hv
  obtain ⟨v', hr, hv'⟩ := key
  exact ⟨v', run_builtin (P := P) w (s := Builtin.max_) ho hc (fun _ _ _ _ => rfl) (by rw [hvs]; exact hr), hv'⟩
theorem does_conv {k : IntKind} {x : Opd} (h : mOp P o (.conv k x) = true) (hE : EnvR m env a.tmps) (hv : pureOp env (.conv k x) = some v) : Does P o a m v w := by
  simp only [mOp] at h
  split at h
  · rename_i S D X ho
    simp only [Bool.and_eq_true] at h
    obtain ⟨hx, hT⟩ := h
    have hu : ∃ d, P.underlying S = some d ∧ P.underlying D = some (.int k) := by
      revert hT
      cases P.underlying S <;> cases P.underlying D <;> simp
      rename_i d d'
      cases d' <;> simp
      exact fun e => e.symm
    obtain ⟨d, hu1, hu2⟩ := hu
    have h1 := mO_ok hx hE
    simp only [pureOp] at hv
    split at hv
    · rename_i k' n e1
      rw [e1] at h1; simp only [VR] at h1; simp only [Option.some.injEq] at hv; subst hv
      refine ⟨_, ?_, rfl⟩
      simp only [execOp, ho]
      refine run_v (P := P) w ?_
      simp only [convert, Sem.run_bind, run_underlying hu1, run_underlying hu2, Result.andThen, h1, Conv.intToInt]
      cases d <;> rfl
    · simp at hv
  · simp at h
theorem does_nc {x : Opd} (h : mOp P o (.nc x) = true) (hE : EnvR m env a.tmps) (hv : pureOp env (.nc x) = some v) : Does P o a m v w := by
  simp only [mOp] at h
  split at h
  · rename_i X ho
    have h1 := mO_ok h hE
    simp only [pureOp] at hv
    split at hv
    · rename_i l o' e1
      rw [e1] at h1; obtain ⟨i, hm, he⟩ := h1
      simp only [Option.some.injEq] at hv; subst hv
      refine ⟨_, ?_, ⟨i, hm, rfl⟩⟩
      simp only [execOp, ho, he]; rfl
    · simp at hv
  · simp at h
theorem does_fn {f : Nat} {cs : List Opd} (h : mOp P o (.fn f cs) = true) (hE : EnvR m env a.tmps) (hv : pureOp env (.fn f cs) = some v) : Does P o a m v w := by
  simp only [mOp] at h
  split at h
  · rename_i f' fs CS ho
    simp only [Bool.and_eq_true, beq_iff_eq] at h
    obtain ⟨⟨rfl, hf⟩, hx⟩ := h
    have h1 := mOs_ok hx hE
    simp only [pureOp, Option.some.injEq] at hv; subst hv
    obtain rfl : fs = #[] := by simpa using hf
    refine ⟨.func (.func f) #[] (CS.map a.eval), ?_, ⟨_, rfl, by simpa using h1⟩⟩
    simp only [execOp, ho]
    exact run_v (P := P) w (by simp [Instr.makeFunc, pure, Sem.run])
  · simp at h
theorem does_ex {x : Opd} {i : Nat} (h : mOp P o (.ex x i) = true) (hE : EnvR m env a.tmps) (hv : pureOp env (.ex x i) = some v) : Does P o a m v w := by
  simp only [mOp] at h
  split at h
  · rename_i X j ho
    simp only [Bool.and_eq_true, beq_iff_eq] at h
    obtain ⟨hx, rfl⟩ := h
    have h1 := mO_ok hx hE
    simp only [pureOp] at hv
    split at hv
    · rename_i vs e1
      rw [e1] at h1; obtain ⟨us, he, hs⟩ := h1
      obtain ⟨hi, hvi⟩ := List.getElem?_eq_some_iff.1 hv
      obtain ⟨u, hu, hr⟩ := hs.at i hi
      have : vs.getD i .und = v := by rw [List.getD_eq_getElem?_getD, hv]; rfl
      rw [this] at hr
      have hu' : us[i]? = some u := by simpa using hu
      refine ⟨u, ?_, hr⟩
      simp only [execOp, ho]
      exact run_v (P := P) w (by simp [Instr.extract, he, hu', pure, Sem.run])
    · simp at hv
  · simp at h
theorem does_fa {off : Nat} {x : Opd} (h : mOp P o (.fa off x) = true) (hE : EnvR m env a.tmps) (hv : pureOp env (.fa off x) = some v) : Does P o a m v w := by
  simp only [mOp] at h
  split at h
  · rename_i T X f ho
    simp only [Bool.and_eq_true] at h
    obtain ⟨hx, hT⟩ := h
    have h1 := mO_ok hx hE
    have hu : ∃ fields fd i, P.underlying T = some (.struct fields) ∧ fields[f]? = some fd ∧ fd.offset = off ∧ P.info? fd.type = some i ∧ i.size ≠ 0 := by
      revert hT
      cases hu : P.underlying T with
      | none => simp
      | some d =>
        cases d <;> simp
        rename_i fields
        cases hf : fields[f]? with
        | none => simp
        | some fd =>
          simp
          cases hi : P.info? fd.type with
          | none => simp
          | some i => simp; exact fun e1 e2 => ⟨e1, e2⟩
    obtain ⟨fields, fd, i, hu, hf, rfl, hi, hz⟩ := hu
    simp only [pureOp] at hv
    split at hv
    · rename_i l p e1
      rw [e1] at h1; obtain ⟨j, hm, he⟩ := h1
      simp only [Option.some.injEq] at hv; subst hv
      refine ⟨_, ?_, ⟨j, hm, rfl⟩⟩
      simp only [execOp, ho]
      refine run_v (P := P) w ?_
      simp [Instr.fieldAt, Instr.sureAddr, fieldPlace, sizeOf, typeInfo, Sem.run_bind, run_underlying hu, Result.andThen, hf, he, hi, hz, pure, Sem.run, Addr.add_lit, Nat.add_assoc]
    · simp at hv
  · simp at h
end

end Go.Proofs.YtabmomjfdondnaaH
