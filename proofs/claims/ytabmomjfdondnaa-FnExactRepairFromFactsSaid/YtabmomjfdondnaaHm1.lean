/- The abstract machine: values, a heap without capacities and orders, operations, code; its big-step runs. -/
import GoSem.Core.Code
import GoSem.Op.String
namespace Go.Proofs.YtabmomjfdondnaaH

/-- Values. 'und' stands for whatever is not known. A slice: place, offset and elements' cells; 'x': its capacity is just its length. -/
inductive AV where
  | und
  | int (k : IntKind) (n : Int)
  | bool (b : Bool)
  | str (s : List UInt8)
  | ptr (l o : Nat)
  | nilp
  | sl (l o n e : Nat) (x : Bool)
  | nils
  | fn (f : Nat) (caps : List AV)
  | nilf
  | agg (cs : List AV)
  | tup (vs : List AV)
  deriving Inhabited

abbrev AV.i (n : Int) : AV := .int .i64 n

def AV.cells : AV → List AV
  | .agg cs => cs
  | v => [v]

/-- What one cell of memory may hold. -/
def AV.one : AV → Bool
  | .agg _ | .tup _ | .und => false
  | _ => true

inductive St where
  | dead | ro | own
  deriving DecidableEq, Inhabited

structure Ent where
  cells : List AV
  st : St
  deriving Inhabited

structure Heap where
  sz : Nat
  get : Nat → Ent

def Heap.new (H : Heap) (cs : List AV) : Heap := ⟨H.sz + 1, fun l => if l = H.sz then ⟨cs, .own⟩ else H.get l⟩
def Heap.put (H : Heap) (l : Nat) (cs : List AV) : Heap := ⟨H.sz, fun i => if i = l then ⟨cs, .own⟩ else H.get i⟩
def Heap.kill (H : Heap) (l : Nat) : Heap := ⟨H.sz, fun i => if i = l then ⟨[], .dead⟩ else H.get i⟩
/-- 'n' cells from 'o' on are laid over a list. -/
def splice (cs : List AV) (o : Nat) (vs : List AV) : List AV := cs.take o ++ vs ++ cs.drop (o + vs.length)
def Heap.rd (H : Heap) (l o n : Nat) : Option (List AV) :=
  if (H.get l).st ≠ .dead ∧ l < H.sz ∧ o + n ≤ (H.get l).cells.length then some (((H.get l).cells.drop o).take n) else none
/-- Nothing is read of no cells. -/
def Heap.rd0 (H : Heap) (l o n : Nat) : Option (List AV) := if n = 0 then some [] else H.rd l o n
def Heap.wr (H : Heap) (l o : Nat) (vs : List AV) : Option Heap :=
  if (H.get l).st = .own ∧ l < H.sz ∧ o + vs.length ≤ (H.get l).cells.length ∧ vs.all AV.one then some (H.put l (splice (H.get l).cells o vs)) else none

abbrev Env := List AV
inductive Opd where
  | t (i : Nat)
  | c (v : AV)
  deriving Inhabited
def Opd.ev (env : Env) : Opd → AV
  | .t i => env.getD i .und
  | .c v => v

inductive COp where
  | mv (x : Opd)
  | pick (c a b : Opd)
  | bin (op : BinOp) (x y : Opd)
  | beq (ng : Bool) (x y : Opd)
  | eqs (ng : Bool) (x y : Opd)
  | neg (x : Opd)
  | not (x : Opd)
  | isnil (ng : Bool) (x : Opd)
  | len (x : Opd)
  | lens (x : Opd)
  | max (x y : Opd)
  | conv (k : IntKind) (x : Opd)
  | b2s (x : Opd)
  | ld (n : Nat) (ag : Bool) (p : Opd)
  | st (n : Nat) (p v : Opd)
  | al (zs : List AV)
  | box (n : Nat) (v : Opd)
  | bld (zs : List AV) (ps : List (Nat × Nat × Opd))
  | bsl (e n : Nat) (zs : List AV) (ps : List (Nat × Nat × Opd))
  | mk (e bs : Nat) (zs : List AV) (l c : Opd)
  | sls (e : Nat) (x : Opd) (lo hi mx : Option Opd)
  | slx (e : Nat) (x : Opd) (lo hi mx : Option Opd)
  | sst (x : Opd) (lo hi : Option Opd)
  | fa (o : Nat) (x : Opd)
  | ia (e : Nat) (x i : Opd)
  | ix (x i : Opd)
  | nc (x : Opd)
  | fn (f : Nat) (cs : List Opd)
  | ex (x : Opd) (i : Nat)
  | call (f : Nat) (xs : List Opd)
  | callv (x : Opd) (xs : List Opd)
  | app (e bs : Nat) (s x : Opd)
  /-- Onto nil, so many zero elements. -/
  | appm (e bs : Nat) (zs : List AV) (s x : Opd)
  | cpy (e : Nat) (d s : Opd)
  | cap (x : Opd)
  | clr (e : Nat) (zs : List AV) (x : Opd)
  | fail
  deriving Inhabited

def bitsOp (op : BinOp) (k : IntKind) (x y : Int) : Option Int :=
  let a := BitVec.ofInt k.bits x
  let b := BitVec.ofInt k.bits y
  match op with
  | .and => some (k.wrap (a &&& b).toNat)
  | .or => some (k.wrap (a ||| b).toNat)
  | .xor => some (k.wrap (a ^^^ b).toNat)
  | _ => none

def binI (op : BinOp) (k : IntKind) (a b : Int) : Option AV :=
  match op with
  | .add => some (.int k (k.wrap (a + b)))
  | .sub => some (.int k (k.wrap (a - b)))
  | .mul => some (.int k (k.wrap (a * b)))
  | .quo => if b = 0 then none else some (.int k (k.wrap (a.tdiv b)))
  | .rem => if b = 0 then none else some (.int k (a.tmod b))
  | .eql => some (.bool (a == b))
  | .neq => some (.bool (a != b))
  | .lss => some (.bool (a < b))
  | .leq => some (.bool (a ≤ b))
  | .gtr => some (.bool (a > b))
  | .geq => some (.bool (a ≥ b))
  | op => (bitsOp op k a b).map (.int k)

def shI (op : BinOp) (k : IntKind) (x y : Int) : Option AV :=
  if y < 0 then none else
  match op with
  | .shl => some (.int k (k.wrap (x * 2 ^ (min y.toNat k.bits))))
  | .shr => some (.int k (x.fdiv (2 ^ (min y.toNat k.bits))))
  | _ => none

def binS (op : BinOp) (x y : List UInt8) : Option AV :=
  match op with
  | .add => if ((x.length + y.length : Nat) : Int) ≤ IntKind.i64.max then some (.str (x ++ y)) else none
  | .eql => some (.bool (x == y))
  | .neq => some (.bool !(x == y))
  | .lss => some (.bool (Op.bytesLess x y))
  | .leq => some (.bool (Op.bytesLess x y || x == y))
  | .gtr => some (.bool !(Op.bytesLess x y || x == y))
  | .geq => some (.bool !(Op.bytesLess x y))
  | _ => none

def binA (op : BinOp) (x y : AV) : Option AV :=
  match op, x, y with
  | .shl, .int k a, .int _ b => shI .shl k a b
  | .shr, .int k a, .int _ b => shI .shr k a b
  | op, .int k a, .int k' b => if k = k' then binI op k a b else none
  | op, .str a, .str b => binS op a b
  | _, _, _ => none

/-- Cells of strings and whole numbers: equal? -/
def eqCells : List AV → List AV → Option Bool
  | [], [] => some true
  | .int k a :: xs, .int k' b :: ys => if k = k' then (eqCells xs ys).map (a == b && ·) else none
  | .str a :: xs, .str b :: ys => (eqCells xs ys).map (a == b && ·)
  | .bool a :: xs, .bool b :: ys => (eqCells xs ys).map (a == b && ·)
  | _, _ => none

def ofI : AV → Option Int
  | .int _ n => some n
  | _ => none
def lenA : AV → Option AV
  | .sl _ _ n _ _ => some (.i n)
  | .nils => some (.i 0)
  | _ => none
/-- A bound of a slice: 0 ≤ i ≤ y. -/
def bnd (y : Nat) : AV → Option Nat
  | .int _ i => if 0 ≤ i ∧ i ≤ y then some i.toNat else none
  | _ => none

/-- Parts (offset, cells, value) are laid over cells. -/
def layAll (env : Env) : List AV → List (Nat × Nat × Opd) → Option (List AV)
  | cs, [] => some cs
  | cs, (o, n, x) :: ps =>
    if (x.ev env).cells.length = n ∧ o + n ≤ cs.length ∧ (x.ev env).cells.all AV.one = true then layAll env (splice cs o (x.ev env).cells) ps else none

def obnd (env : Env) (y n : Nat) : Option Opd → Option Nat
  | some l => bnd y (l.ev env)
  | none => some n

/-- Operations that look at no memory. -/
def pureOp (env : Env) : COp → Option AV
  | .mv x => some (x.ev env)
  | .pick c a b => match c.ev env with
    | .bool true => some (a.ev env)
    | .bool false => some (b.ev env)
    | _ => none
  | .bin op x y => binA op (x.ev env) (y.ev env)
  | .beq ng x y => match x.ev env, y.ev env with
    | .bool a, .bool b => some (.bool (if ng then a != b else a == b))
    | _, _ => none
  | .eqs ng x y => match x.ev env, y.ev env with
    | .agg a, .agg b => (eqCells a b).map fun r => .bool (if ng then !r else r)
    | _, _ => none
  | .neg x => match x.ev env with
    | .int k n => some (.int k (k.wrap (0 - n)))
    | _ => none
  | .not x => match x.ev env with
    | .bool b => some (.bool !b)
    | _ => none
  | .isnil ng x => match x.ev env with
    | .nils => some (.bool !ng)
    | .sl .. => some (.bool ng)
    | _ => none
  | .len x => lenA (x.ev env)
  | .lens x => match x.ev env with
    | .str s => some (.i s.length)
    | _ => none
  | .max x y => match x.ev env, y.ev env with
    | .int k a, .int _ b => some (.int k (if b > a then b else a))
    | _, _ => none
  | .conv k x => match x.ev env with
    | .int _ n => some (.int k (k.wrap n))
    | _ => none
  | .sst x lo hi => match x.ev env with
    | .str s =>
      match obnd env s.length s.length hi with
      | some h => match obnd env h 0 lo with
        | some l => some (.str ((s.take h).drop l))
        | none => none
      | none => none
    | _ => none
  | .fa o x => match x.ev env with
    | .ptr l p => some (.ptr l (p + o))
    | _ => none
  | .ia e x i => match x.ev env, i.ev env with
    | .sl l o n e' _, .int _ j => if e = e' ∧ 0 ≤ j ∧ j < n then some (.ptr l (o + j.toNat * e)) else none
    | _, _ => none
  | .ix x i => match x.ev env, i.ev env with
    | .str s, .int _ j => if 0 ≤ j then (s[j.toNat]?).map fun b => .int .u8 b.toNat else none
    | _, _ => none
  | .nc x => match x.ev env with
    | .ptr l o => some (.ptr l o)
    | _ => none
  | .fn f cs => some (.fn f (cs.map (Opd.ev env)))
  | .ex x i => match x.ev env with
    | .tup vs => vs[i]?
    | _ => none
  | .bld zs ps => (layAll env zs ps).map .agg
  | .sls e x lo hi mx => match x.ev env with
    | .nils =>
      match obnd env 0 0 hi, obnd env 0 0 lo, mx with
      | some _, some _, none => some .nils
      | _, _, _ => none
    | .sl l o n e' x =>
      if e ≠ e' ∨ e = 0 then none else
      match mx with
      | none =>
        match obnd env n n hi with
        | some h => match obnd env h 0 lo with
          | some a => if x = true ∧ h ≠ n then none else some (.sl l (o + a * e) (h - a) e x)
          | none => none
        | none => none
      | some m =>
        match bnd n (m.ev env), hi with
        | some m, some h => match bnd m (h.ev env) with
          | some h => match obnd env h 0 lo with
            | some a => if m = h then some (.sl l (o + a * e) (h - a) e true) else none
            | none => none
          | none => none
        | _, _ => none
    | _ => none
  | .cap x => match x.ev env with
    | .nils => some (.i 0)
    | .sl _ _ n _ true => some (.i n)
    | _ => none
  | _ => none

def cellsOf (H : Heap) (e : Nat) : AV → Option (Nat × List AV)
  | .nils => some (0, [])
  | .sl l o n e' _ => if e = e' then (H.rd0 l o (n * e)).map (n, ·) else none
  | _ => none

def byteA : AV → Option UInt8
  | .int .u8 b => if 0 ≤ b ∧ b < 256 then some (UInt8.ofNat b.toNat) else none
  | _ => none

def room : Nat := 140737488355328

/-- New memory at a place: the value and the cells. -/
def allocOp (env : Env) (k : Nat) : COp → Option (AV × List AV)
  | .al zs => some (.ptr k 0, zs)
  | .box n v => if (v.ev env).cells.length = n ∧ (v.ev env).cells.all AV.one then some (.ptr k 0, (v.ev env).cells) else none
  | .bsl e n zs ps => if n * e ≤ 16777216 ∧ zs.length = e ∧ 0 < e then
      (layAll env (List.replicate n zs).flatten ps).map fun cs => (.sl k 0 n e false, cs)
    else none
  | .mk e bs zs l c => match l.ev env, c.ev env with
    | .int .i64 a, .int .i64 b => if 0 ≤ a ∧ a ≤ b ∧ bs * b ≤ 281474976710656 ∧ b ≤ 9223372036854775807 ∧ zs.length = e ∧ 0 < e then
        some (.sl k 0 a.toNat e false, (List.replicate b.toNat zs).flatten) else none
    | _, _ => none
  | _ => none

/-- The upper bound of a slice of a slice: up to its length, or to the end of what its place holds. -/
def hbnd (env : Env) (H : Heap) (l o n e : Nat) (x : Bool) : Option Opd → Option Nat
  | some h => match h.ev env with
    | .int _ i => if 0 ≤ i ∧ (i ≤ n ∨ (x = false ∧ l < H.sz ∧ (H.get l).st ≠ .dead ∧ o + i.toNat * e ≤ (H.get l).cells.length)) then some i.toNat else none
    | _ => none
  | none => some n

/-- Operations on memory that are no calls. -/
def heapOp (env : Env) (H : Heap) : COp → Option (AV × Heap)
  | .ld n ag p => match p.ev env with
    | .ptr l o => (H.rd l o n).bind fun vs => if ag then some (.agg vs, H) else match vs with
      | [v] => some (v, H)
      | _ => none
    | _ => none
  | .st n p v => match p.ev env with
    | .ptr l o => if (v.ev env).cells.length = n then (H.wr l o (v.ev env).cells).map fun H' => (.und, H') else none
    | _ => none
  | .al zs => (allocOp env H.sz (.al zs)).map fun (v, cs) => (v, H.new cs)
  | .box n v => (allocOp env H.sz (.box n v)).map fun (v, cs) => (v, H.new cs)
  | .bsl e n zs ps => (allocOp env H.sz (.bsl e n zs ps)).map fun (v, cs) => (v, H.new cs)
  | .mk e bs zs l c => (allocOp env H.sz (.mk e bs zs l c)).map fun (v, cs) => (v, H.new cs)
  | .slx e x lo hi mx => match x.ev env with
    | .nils =>
      match obnd env 0 0 hi, obnd env 0 0 lo, mx with
      | some _, some _, none => some (.nils, H)
      | _, _, _ => none
    | .sl l o n e' x =>
      if e ≠ e' ∨ e = 0 then none else
      match mx with
      | none =>
        match hbnd env H l o n e x hi with
        | some h => match obnd env h 0 lo with
          | some a => if x = true ∧ h ≠ n then none else some (.sl l (o + a * e) (h - a) e x, H)
          | none => none
        | none => none
      | some m =>
        match bnd n (m.ev env), hi with
        | some m, some h => match bnd m (h.ev env) with
          | some h => match obnd env h 0 lo with
            | some a => if m = h then some (.sl l (o + a * e) (h - a) e true, H) else none
            | none => none
          | none => none
        | _, _ => none
    | _ => none
  | .b2s x => match x.ev env with
    | .nils => some (.str [], H)
    | .sl l o n e _ => if e = 1 then (H.rd0 l o n).bind fun vs =>
        (vs.mapM byteA).map fun s => (.str s, H)
      else none
    | _ => none
  | .app e bs s x => (cellsOf H e (x.ev env)).bind fun (k, ys) =>
      if k = 0 then (match s.ev env with | .nils => some (s.ev env, H) | .sl _ _ _ e' _ => if e = e' then some (s.ev env, H) else none | _ => none) else
      if e = 0 ∨ bs = 0 ∨ !(ys.all AV.one) then none else
      match s.ev env with
      | .nils => if k * bs ≤ room then some (.sl H.sz 0 k e false, H.new ys) else none
      | .sl l o n e' x =>
        if e ≠ e' ∨ (n + k) * bs > room then none else
        (H.rd0 l o (n * e)).bind fun xs =>
          if x then (if xs.all AV.one then some (.sl H.sz 0 (n + k) e false, H.new (xs ++ ys)) else none)
          else if o + (n + k) * e ≤ (H.get l).cells.length then (H.wr l (o + n * e) ys).map fun H' => (.sl l o (n + k) e false, H')
          else if o + n * e = (H.get l).cells.length ∧ (H.get l).st = .own then some (.sl H.sz 0 (n + k) e false, (H.kill l).new (xs ++ ys))
          else none
      | _ => none
  | .appm e bs zs s x => match s.ev env, x.ev env with
    | .nils, .int .i64 n => if 0 < n ∧ n.toNat * bs ≤ room ∧ zs.length = e ∧ 0 < e ∧ 0 < bs then some (.sl H.sz 0 n.toNat e false, H.new (List.replicate n.toNat zs).flatten) else none
    | _, _ => none
  | .cpy e d s => match d.ev env, s.ev env with
    | .nils, .nils => some (.i 0, H)
    | .nils, .sl .. => some (.i 0, H)
    | .sl .., .nils => some (.i 0, H)
    | .sl l o n e1 _, .sl l2 o2 n2 e2 _ => if e ≠ e1 ∨ e ≠ e2 ∨ e ≠ 1 then none else
        (H.rd l2 o2 (min n2 n * e)).bind fun vs => (H.wr l o vs).map fun H' => (.i (min n2 n : Nat), H')
    | _, _ => none
  | .clr e zs x => match x.ev env with
    | .nils => some (.tup [], H)
    | .sl l o n e' _ => if e ≠ e' ∨ zs.length ≠ e then none else
        if n = 0 then some (.tup [], H) else (H.wr l o (List.replicate n zs).flatten).map fun H' => (.tup [], H')
    | _ => none
  | o => (pureOp env o).map fun v => (v, H)

/-- Does an operation change memory, or run code of its own? -/
def COp.isCall : COp → Bool
  | .call .. | .callv .. => true
  | _ => false

structure COper where
  dst : Option Nat
  op : COp
  guard : Option (Nat × Bool) := none
  /-- In a region whose order is open: the loads (slot of the address, cells) that may come before or behind this operation. -/
  us : List (Nat × Nat) := []
  /-- Slots that nothing reads any more behind this operation (for the machine of values alone). -/
  ks : List Nat := []
  deriving Inhabited

inductive CCode where
  | skip
  | kill (ts : List Nat)
  /-- Each operation with its number in the text's own region; 'd': the order is open. -/
  | reg (d : Bool) (ops : List (Nat × COper))
  | seq (a b : CCode)
  | cond (c : Opd) (a b : CCode)
  | block (id : Nat) (c : CCode)
  | loop (c : CCode)
  | exit (id : Nat)
  | ret
  deriving Inhabited

inductive Ex where
  | normal | exit (id : Nat) | ret
  deriving DecidableEq, Inhabited

/-- A result: a slot, or a variable in memory (its address's slot, cells, is it a struct?). -/
inductive CRes where
  | t (i : Nat)
  | m (i n : Nat) (ag : Bool)
  deriving Inhabited

structure CFn where
  ntmps : Nat
  nargs : Nat
  res : List CRes
  body : CCode
  deriving Inhabited

def putD (env : Env) : Option Nat → AV → Env
  | some d, v => env.set d v
  | none, _ => env

def killT (env : Env) (ts : List Nat) : Env := ts.foldl (fun e t => e.set t .und) env

def wanted (env : Env) : Option (Nat × Bool) → Bool
  | none => true
  | some (j, b) => match env.getD j .und with
    | .bool c => c == b
    | _ => false
/-- Is the guard's outcome known? What was passed over leaves an empty tuple. -/
def known (env : Env) : Option (Nat × Bool) → Bool
  | none => true
  | some (j, _) => match env.getD j .und with
    | .bool _ => true
    | .tup [] => true
    | _ => false

def resOf (env : Env) (H : Heap) : CRes → Option AV
  | .t i => some (env.getD i .und)
  | .m i n ag => match env.getD i .und with
    | .ptr l o => (H.rd l o n).bind fun vs => if ag then some (.agg vs) else match vs with
      | [v] => some v
      | _ => none
    | _ => none
def results (env : Env) (H : Heap) (rs : List CRes) : Option AV :=
  (rs.mapM (resOf env H)).map fun vs => match vs with
    | [v] => v
    | vs => .tup vs

/-- The loads that may come before or behind an operation tell the same before and behind it. -/
def Kept (env : Env) (us : List (Nat × Nat)) (H H' : Heap) : Prop :=
  ∀ s n, (s, n) ∈ us → ∀ l o, env.getD s .und = .ptr l o → ∀ vs, H.rd l o n = some vs → H'.rd l o n = some vs

/-- What a call leads to: the callee and its arguments. -/
def callee (env : Env) : COp → Option (Nat × List AV)
  | .call f xs => some (f, xs.map (Opd.ev env))
  | .callv x xs => match x.ev env with
    | .fn f caps => some (f, xs.map (Opd.ev env) ++ caps)
    | _ => none
  | _ => none

inductive Judg where
  | co (c : CCode) (env : Env) (H : Heap) (ex : Ex) (env' : Env) (H' : Heap)
  | op (ops : List (Nat × COper)) (env : Env) (H : Heap) (env' : Env) (H' : Heap)
  | ca (f : Nat) (args : List AV) (H : Heap) (v : AV) (H' : Heap)

/-- What is given for functions that are not run: their number, arguments, heaps, result. -/
abbrev Ext := Nat → List AV → Heap → AV → Heap → Prop

/-- Runs, big steps. -/
inductive J (T : Nat → Option CFn) (X : Ext) : Judg → Prop
  | skip {env H} : J T X (.co .skip env H .normal env H)
  | kill {ts env H} : J T X (.co (.kill ts) env H .normal (killT env ts) H)
  | reg {d ops env H env' H'} : J T X (.op ops env H env' H') → J T X (.co (.reg d ops) env H .normal env' H')
  | seqN {a b env H env1 H1 ex env2 H2} : J T X (.co a env H .normal env1 H1) → J T X (.co b env1 H1 ex env2 H2) → J T X (.co (.seq a b) env H ex env2 H2)
  | seqX {a b env H ex env1 H1} : ex ≠ .normal → J T X (.co a env H ex env1 H1) → J T X (.co (.seq a b) env H ex env1 H1)
  | condT {c a b env H ex env1 H1} : c.ev env = .bool true → J T X (.co a env H ex env1 H1) → J T X (.co (.cond c a b) env H ex env1 H1)
  | condF {c a b env H ex env1 H1} : c.ev env = .bool false → J T X (.co b env H ex env1 H1) → J T X (.co (.cond c a b) env H ex env1 H1)
  | blockE {id c env H env1 H1} : J T X (.co c env H (.exit id) env1 H1) → J T X (.co (.block id c) env H .normal env1 H1)
  | blockN {id c env H ex env1 H1} : ex ≠ .exit id → J T X (.co c env H ex env1 H1) → J T X (.co (.block id c) env H ex env1 H1)
  | loopN {c env H env1 H1 ex env2 H2} : J T X (.co c env H .normal env1 H1) → J T X (.co (.loop c) env1 H1 ex env2 H2) → J T X (.co (.loop c) env H ex env2 H2)
  | loopX {c env H ex env1 H1} : ex ≠ .normal → J T X (.co c env H ex env1 H1) → J T X (.co (.loop c) env H ex env1 H1)
  | exit {id env H} : J T X (.co (.exit id) env H (.exit id) env H)
  | ret {env H} : J T X (.co .ret env H .ret env H)
  | opNil {env H} : J T X (.op [] env H env H)
  | opSkip {i o ops env H env' H'} : known env o.guard = true → wanted env o.guard = false → J T X (.op ops (putD env o.dst (.tup [])) H env' H') → J T X (.op ((i, o) :: ops) env H env' H')
  | opDo {i o ops env H v H1 env' H'} : known env o.guard = true → wanted env o.guard = true → heapOp env H o.op = some (v, H1) → Kept env o.us H H1 →
      J T X (.op ops (putD env o.dst v) H1 env' H') → J T X (.op ((i, o) :: ops) env H env' H')
  | opCall {i o ops env H f args v H1 env' H'} : known env o.guard = true → wanted env o.guard = true → callee env o.op = some (f, args) → J T X (.ca f args H v H1) → Kept env o.us H H1 →
      J T X (.op ops (putD env o.dst v) H1 env' H') → J T X (.op ((i, o) :: ops) env H env' H')
  | call {f cf args H ex env' H' v} : T f = some cf → args.length = cf.nargs → cf.nargs ≤ cf.ntmps →
      J T X (.co cf.body (args ++ List.replicate (cf.ntmps - cf.nargs) .und) H ex env' H') → (ex = .normal ∨ ex = .ret) → results env' H' cf.res = some v → J T X (.ca f args H v H')
  | ext {f args H v H'} : X f args H v H' → J T X (.ca f args H v H')

end Go.Proofs.YtabmomjfdondnaaH
