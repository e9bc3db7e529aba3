import GoSem.Core.Code
import GoSem.Op.String
import Derived.ArgAppend
import Derived.Laws.Cells
import Derived.Laws.IdiomCopy
import Derived.Laws.Append
import Derived.Orders
import Derived.KernelRfl
import Derived.Below
import Derived.WalkKit
import Derived.Lib.AppendZeros
import Derived.Laws.StructEq
import Derived.Laws.Tables
import Derived.Lib.Strings
import Derived.Lib.LaidTab
import Derived.Lib.ItoaNum
import Derived.Lib.Join
import Derived.Laws.AppendOwn
import Derived.Laws.BytesArg
set_option linter.unusedVariables false
set_option linter.unusedSimpArgs false
set_option linter.defProp false
namespace Go.Proofs.YtbpdhmbdpjafeaaGreatH
open Go
theorem zJ.{u} {α : Type u} (a b : α) : (some a = some b) = (a = b) := Option.some.injEq a b
theorem zP.{u, v} {α : Type u} {β : Type v} (a : α) (b : β) (c : α) (d : β) : ((a, b) = (c, d)) = (a = c /\ b = d) := Prod.mk.injEq a b c d
theorem zD.{u} {α : Type u} {l : List α} {i : Nat} {a : α} : l.getD i a = l[i]?.getD a := List.getD_eq_getElem?_getD
theorem zE.{u} {α : Type u} {l : List α} {i : Nat} (h : i < l.length) : l[i]? = some l[i] := List.getElem?_eq_getElem h
theorem zM.{u, v} {α : Type u} {β : Type v} {x : Option α} {f : α -> β} {b : β} (h : x.map f = some b) : ∃ a, x = some a /\ f a = b := Option.map_eq_some_iff.1 h
theorem zS.{u} {α : Type u} {l : List α} {i : Nat} {a : α} (h : l[i]? = some a) : ∃ h : i < l.length, l[i] = a := List.getElem?_eq_some_iff.1 h
section
inductive AV where
 | und
 | int (k : IntKind) (n : Int)
 | bool (b : Bool)
 | str (s : List UInt8)
 | ptr (l o : Nat)
 | nilp
 | sl (l o n e : Nat) (x : Bool)
 | nils
 | fn (f : Nat) (caps : List AV)
 | nilf
 | agg (cs : List AV)
 | tup (vs : List AV)
 deriving Inhabited
abbrev AV.i (n : Int) : AV := .int .i64 n
def AV.cells : AV -> List AV
 | .agg cs => cs
 | v => [v]
def AV.one : AV -> Bool
 | .agg _ | .tup _ | .und => false
 | _ => true
inductive St where
 | dead | ro | own
 deriving DecidableEq, Inhabited
structure Ent where
 cells : List AV
 st : St
 deriving Inhabited
structure Heap where
 sz : Nat
 get : Nat -> Ent
def Heap.new (H : Heap) (cs : List AV) : Heap := ⟨H.sz + 1, fun l => if l = H.sz then ⟨cs, .own⟩ else H.get l⟩
def Heap.put (H : Heap) (l : Nat) (cs : List AV) : Heap := ⟨H.sz, fun i => if i = l then ⟨cs, .own⟩ else H.get i⟩
def Heap.kill (H : Heap) (l : Nat) : Heap := ⟨H.sz, fun i => if i = l then ⟨[], .dead⟩ else H.get i⟩
def splice (cs : List AV) (o : Nat) (vs : List AV) : List AV := cs.take o ++ vs ++ cs.drop (o + vs.length)
def Heap.rd (H : Heap) (l o n : Nat) : Option (List AV) :=
 if (H.get l).st ≠ .dead /\ l < H.sz /\ o + n <= (H.get l).cells.length then some (((H.get l).cells.drop o).take n) else none
def Heap.rd0 (H : Heap) (l o n : Nat) : Option (List AV) := if n = 0 then some [] else H.rd l o n
def Heap.wr (H : Heap) (l o : Nat) (vs : List AV) : Option Heap :=
 if (H.get l).st = .own /\ l < H.sz /\ o + vs.length <= (H.get l).cells.length /\ vs.all AV.one then some (H.put l (splice (H.get l).cells o vs)) else none
abbrev Env := List AV
inductive Opd where
 | t (i : Nat)
 | c (v : AV)
 deriving Inhabited
def Opd.ev (env : Env) : Opd -> AV
 | .t i => env.getD i .und
 | .c v => v
inductive COp where
 | mv (x : Opd)
 | pick (c a b : Opd)
 | bin (op : BinOp) (x y : Opd)
 | beq (ng : Bool) (x y : Opd)
 | eqs (ng : Bool) (ks : List Nat) (x y : Opd)
 | neg (x : Opd)
 | not (x : Opd)
 | isnil (ng : Bool) (x : Opd)
 | len (x : Opd)
 | lens (x : Opd)
 | max (x y : Opd)
 | conv (k : IntKind) (x : Opd)
 | b2s (x : Opd)
 | ld (n : Nat) (ag : Bool) (p : Opd)
 | st (n : Nat) (p v : Opd)
 | al (zs : List AV)
 | box (n : Nat) (v : Opd)
 | bld (zs : List AV) (ps : List (Nat × Nat × Opd))
 | bsl (e n : Nat) (zs : List AV) (ps : List (Nat × Nat × Opd))
 | mk (e bs : Nat) (zs : List AV) (l c : Opd)
 | sls (e : Nat) (x : Opd) (lo hi mx : Option Opd)
 | slx (e : Nat) (x : Opd) (lo hi mx : Option Opd)
 | sst (x : Opd) (lo hi : Option Opd)
 | fa (o : Nat) (x : Opd)
 | ia (e : Nat) (x i : Opd)
 | ix (x i : Opd)
 | nc (x : Opd)
 | fn (f : Nat) (cs : List Opd)
 | ex (x : Opd) (i : Nat)
 | call (f : Nat) (xs : List Opd)
 | callv (x : Opd) (xs : List Opd)
 | app (e bs : Nat) (s x : Opd)
 | appm (e bs : Nat) (zs : List AV) (s x : Opd)
 | cpy (e : Nat) (d s : Opd)
 | cap (x : Opd)
 | clr (e : Nat) (zs : List AV) (x : Opd)
 | fail
 deriving Inhabited
def bitsOp (op : BinOp) (k : IntKind) (x y : Int) : Option Int :=
 let a := BitVec.ofInt k.bits x
 let b := BitVec.ofInt k.bits y
 match op with
 | .and => some (k.wrap (a &&& b).toNat)
 | .or => some (k.wrap (a ||| b).toNat)
 | .xor => some (k.wrap (a ^^^ b).toNat)
 | _ => none
def binI (op : BinOp) (k : IntKind) (a b : Int) : Option AV :=
 match op with
 | .add => some (.int k (k.wrap (a + b)))
 | .sub => some (.int k (k.wrap (a - b)))
 | .mul => some (.int k (k.wrap (a * b)))
 | .quo => if b = 0 then none else some (.int k (k.wrap (a.tdiv b)))
 | .rem => if b = 0 then none else some (.int k (a.tmod b))
 | .eql => some (.bool (a == b))
 | .neq => some (.bool (a != b))
 | .lss => some (.bool (a < b))
 | .leq => some (.bool (a <= b))
 | .gtr => some (.bool (a > b))
 | .geq => some (.bool (a >= b))
 | op => (bitsOp op k a b).map (.int k)
def shI (op : BinOp) (k : IntKind) (x y : Int) : Option AV :=
 if y < 0 then none else
 match op with
 | .shl => some (.int k (k.wrap (x * 2 ^ (min y.toNat k.bits))))
 | .shr => some (.int k (x.fdiv (2 ^ (min y.toNat k.bits))))
 | _ => none
def catOk (x y : List UInt8) : Prop := x.length + y.length <= 9223372036854775807
instance {x y : List UInt8} : Decidable (catOk x y) := inferInstanceAs (Decidable (_ <= _))
theorem catOk_iff {x y : List UInt8} : catOk x y ↔ ((x.length + y.length : Nat) : Int) <= IntKind.i64.max := by
 have : IntKind.i64.max = 9223372036854775807 := by decide
 rw [this]
 unfold catOk
 omega
def binS (op : BinOp) (x y : List UInt8) : Option AV :=
 match op with
 | .add => if catOk x y then some (.str (x ++ y)) else none
 | .eql => some (.bool (x == y))
 | .neq => some (.bool !(x == y))
 | .lss => some (.bool (Op.bytesLess x y))
 | .leq => some (.bool (Op.bytesLess x y || x == y))
 | .gtr => some (.bool !(Op.bytesLess x y || x == y))
 | .geq => some (.bool !(Op.bytesLess x y))
 | _ => none
def binA (op : BinOp) (x y : AV) : Option AV :=
 match op, x, y with
 | .shl, .int k a, .int _ b => shI .shl k a b
 | .shr, .int k a, .int _ b => shI .shr k a b
 | op, .int k a, .int k' b => if k = k' then binI op k a b else none
 | op, .str a, .str b => binS op a b
 | _, _, _ => none
def eqCells : List Nat -> List AV -> List AV -> Option Bool
 | [], [], [] => some true
 | 0 :: ks, .int k a :: xs, .int k' b :: ys => if k = k' then (eqCells ks xs ys).map (a == b && ·) else none
 | 1 :: ks, .str a :: xs, .str b :: ys => (eqCells ks xs ys).map (a == b && ·)
 | 2 :: ks, .bool a :: xs, .bool b :: ys => (eqCells ks xs ys).map (a == b && ·)
 | _, _, _ => none
def lenA : AV -> Option AV
 | .sl _ _ n _ _ => some (.i n)
 | .nils => some (.i 0)
 | _ => none
def bnd (y : Nat) : AV -> Option Nat
 | .int _ i => if 0 <= i /\ i <= y then some i.toNat else none
 | _ => none
def layAll (env : Env) : List AV -> List (Nat × Nat × Opd) -> Option (List AV)
 | cs, [] => some cs
 | cs, (o, n, x) :: ps =>
  if (x.ev env).cells.length = n /\ o + n <= cs.length /\ (x.ev env).cells.all AV.one = true then layAll env (splice cs o (x.ev env).cells) ps else none
def obnd (env : Env) (y n : Nat) : Option Opd -> Option Nat
 | some l => bnd y (l.ev env)
 | none => some n
def pureOp (env : Env) : COp -> Option AV
 | .mv x => some (x.ev env)
 | .pick c a b => match c.ev env with
  | .bool true => some (a.ev env)
  | .bool false => some (b.ev env)
  | _ => none
 | .bin op x y => binA op (x.ev env) (y.ev env)
 | .beq ng x y => match x.ev env, y.ev env with
  | .bool a, .bool b => some (.bool (if ng then a != b else a == b))
  | _, _ => none
 | .eqs ng ks x y => match x.ev env, y.ev env with
  | .agg a, .agg b => (eqCells ks a b).map fun r => .bool (if ng then !r else r)
  | _, _ => none
 | .neg x => match x.ev env with
  | .int k n => some (.int k (k.wrap (0 - n)))
  | _ => none
 | .not x => match x.ev env with
  | .bool b => some (.bool !b)
  | _ => none
 | .isnil ng x => match x.ev env with
  | .nils => some (.bool !ng)
  | .sl .. => some (.bool ng)
  | _ => none
 | .len x => lenA (x.ev env)
 | .lens x => match x.ev env with
  | .str s => some (.i s.length)
  | _ => none
 | .max x y => match x.ev env, y.ev env with
  | .int k a, .int _ b => some (.int k (if b > a then b else a))
  | _, _ => none
 | .conv k x => match x.ev env with
  | .int _ n => some (.int k (k.wrap n))
  | _ => none
 | .sst x lo hi => match x.ev env with
  | .str s =>
   match obnd env s.length s.length hi with
   | some h => match obnd env h 0 lo with
    | some l => some (.str ((s.take h).drop l))
    | none => none
   | none => none
  | _ => none
 | .fa o x => match x.ev env with
  | .ptr l p => some (.ptr l (p + o))
  | _ => none
 | .ia e x i => match x.ev env, i.ev env with
  | .sl l o n e' _, .int _ j => if e = e' /\ 0 <= j /\ j < n then some (.ptr l (o + j.toNat * e)) else none
  | _, _ => none
 | .ix x i => match x.ev env, i.ev env with
  | .str s, .int _ j => if 0 <= j then (s[j.toNat]?).map fun b => .int .u8 b.toNat else none
  | _, _ => none
 | .nc x => match x.ev env with
  | .ptr l o => some (.ptr l o)
  | _ => none
 | .fn f cs => some (.fn f (cs.map (Opd.ev env)))
 | .ex x i => match x.ev env with
  | .tup vs => vs[i]?
  | _ => none
 | .bld zs ps => (layAll env zs ps).map .agg
 | .sls e x lo hi mx => match x.ev env with
  | .nils =>
   match obnd env 0 0 hi, obnd env 0 0 lo, mx with
   | some _, some _, none => some .nils
   | _, _, _ => none
  | .sl l o n e' x =>
   if e ≠ e' \/ e = 0 then none else
   match mx with
   | none =>
    match obnd env n n hi with
    | some h => match obnd env h 0 lo with
     | some a => if x = true /\ h ≠ n then none else some (.sl l (o + a * e) (h - a) e x)
     | none => none
    | none => none
   | some m =>
    match bnd n (m.ev env), hi with
    | some m, some h => match bnd m (h.ev env) with
     | some h => match obnd env h 0 lo with
      | some a => if m = h then some (.sl l (o + a * e) (h - a) e true) else none
      | none => none
     | none => none
    | _, _ => none
  | _ => none
 | .cap x => match x.ev env with
  | .nils => some (.i 0)
  | .sl _ _ n _ true => some (.i n)
  | _ => none
 | _ => none
def cellsOf (H : Heap) (e : Nat) : AV -> Option (Nat × List AV)
 | .nils => some (0, [])
 | .sl l o n e' _ => if e = e' then (H.rd0 l o (n * e)).map (n, ·) else none
 | _ => none
def byteA : AV -> Option UInt8
 | .int .u8 b => if 0 <= b /\ b < 256 then some (UInt8.ofNat b.toNat) else none
 | _ => none
def room : Nat := 140737488355328
def allocOp (env : Env) (k : Nat) : COp -> Option (AV × List AV)
  | .al zs => some (.ptr k 0, zs)
  | .box n v => if (v.ev env).cells.length = n /\ (v.ev env).cells.all AV.one then some (.ptr k 0, (v.ev env).cells) else none
  | .bsl e n zs ps => if n * e <= 16777216 /\ zs.length = e /\ 0 < e then
      (layAll env (List.replicate n zs).flatten ps).map fun cs => (.sl k 0 n e false, cs)
    else none
  | .mk e bs zs l c => match l.ev env, c.ev env with
    | .int .i64 a, .int .i64 b => if 0 <= a /\ a <= b /\ bs * b <= 281474976710656 /\ b <= 9223372036854775807 /\ zs.length = e /\ 0 < e then
        some (.sl k 0 a.toNat e false, (List.replicate b.toNat zs).flatten) else none
    | _, _ => none
  | _ => none
def hbnd (env : Env) (H : Heap) (l o n e : Nat) (x : Bool) : Option Opd -> Option Nat
 | some h => match h.ev env with
  | .int _ i => if 0 <= i /\ (i <= n \/ (x = false /\ l < H.sz /\ (H.get l).st ≠ .dead /\ o + i.toNat * e <= (H.get l).cells.length)) then some i.toNat else none
  | _ => none
 | none => some n
def heapOp (env : Env) (H : Heap) : COp -> Option (AV × Heap)
  | .ld n ag p => match p.ev env with
    | .ptr l o => (H.rd l o n).bind fun vs => if ag then some (.agg vs, H) else match vs with
      | [v] => some (v, H)
      | _ => none
    | _ => none
  | .st n p v => match p.ev env with
    | .ptr l o => if (v.ev env).cells.length = n then (H.wr l o (v.ev env).cells).map fun H' => (.und, H') else none
    | _ => none
  | .al zs => (allocOp env H.sz (.al zs)).map fun (v, cs) => (v, H.new cs)
  | .box n v => (allocOp env H.sz (.box n v)).map fun (v, cs) => (v, H.new cs)
  | .bsl e n zs ps => (allocOp env H.sz (.bsl e n zs ps)).map fun (v, cs) => (v, H.new cs)
  | .mk e bs zs l c => (allocOp env H.sz (.mk e bs zs l c)).map fun (v, cs) => (v, H.new cs)
  | .slx e x lo hi mx => match x.ev env with
    | .nils =>
      match obnd env 0 0 hi, obnd env 0 0 lo, mx with
      | some _, some _, none => some (.nils, H)
      | _, _, _ => none
    | .sl l o n e' x =>
      if e ≠ e' \/ e = 0 then none else
      match mx with
      | none =>
        match hbnd env H l o n e x hi with
        | some h => match obnd env h 0 lo with
          | some a => if x = true /\ h ≠ n then none else some (.sl l (o + a * e) (h - a) e x, H)
          | none => none
        | none => none
      | some m =>
        match bnd n (m.ev env), hi with
        | some m, some h => match bnd m (h.ev env) with
          | some h => match obnd env h 0 lo with
            | some a => if m = h then some (.sl l (o + a * e) (h - a) e true, H) else some (.und, H)
            | none => none
          | none => none
        | _, _ => none
    | _ => none
  | .b2s x => match x.ev env with
    | .nils => some (.str [], H)
    | .sl l o n e _ => if e = 1 then (H.rd0 l o n).bind fun vs =>
        (vs.mapM byteA).map fun s => (.str s, H)
      else none
    | _ => none
  | .app e bs s x => (cellsOf H e (x.ev env)).bind fun (k, ys) =>
      if k = 0 then (match s.ev env with | .nils => some (s.ev env, H) | .sl _ _ _ e' _ => if e = e' then some (s.ev env, H) else none | _ => none) else
      if e = 0 \/ bs = 0 \/ !(ys.all AV.one) then none else
      match s.ev env with
      | .nils => if k * bs <= room then some (.sl H.sz 0 k e false, H.new ys) else none
      | .sl l o n e' x =>
        if e ≠ e' \/ (n + k) * bs > room then none else
        (H.rd0 l o (n * e)).bind fun xs =>
          if x then (if xs.all AV.one then some (.sl H.sz 0 (n + k) e false, H.new (xs ++ ys)) else none)
          else if o + (n + k) * e <= (H.get l).cells.length then (H.wr l (o + n * e) ys).map fun H' => (.sl l o (n + k) e false, H')
          else if o + n * e = (H.get l).cells.length /\ (H.get l).st = .own then some (.sl H.sz 0 (n + k) e false, (H.kill l).new (xs ++ ys))
          else none
      | _ => none
  | .appm e bs zs s x => match s.ev env, x.ev env with
    | .nils, .int .i64 n => if 0 < n /\ n.toNat * bs <= room /\ zs.length = e /\ 0 < e /\ 0 < bs then some (.sl H.sz 0 n.toNat e false, H.new (List.replicate n.toNat zs).flatten) else none
    | _, _ => none
  | .cpy e d s => match d.ev env, s.ev env with
    | .nils, .nils => some (.i 0, H)
    | .nils, .sl .. => some (.i 0, H)
    | .sl .., .nils => some (.i 0, H)
    | .sl l o n e1 _, .sl l2 o2 n2 e2 _ => if e ≠ e1 \/ e ≠ e2 \/ e ≠ 1 then none else if min n2 n = 0 then some (.i 0, H) else
        (H.rd l2 o2 (min n2 n * e)).bind fun vs => (H.wr l o vs).map fun H' => (.i (min n2 n : Nat), H')
    | _, _ => none
  | .clr e zs x => match x.ev env with
    | .nils => some (.tup [], H)
    | .sl l o n e' _ => if e ≠ e' \/ zs.length ≠ e then none else
        if n = 0 then some (.tup [], H) else (H.wr l o (List.replicate n zs).flatten).map fun H' => (.tup [], H')
    | _ => none
  | o => (pureOp env o).map fun v => (v, H)
def COp.isCall : COp -> Bool
 | .call .. | .callv .. => true
 | _ => false
structure COper where
 dst : Option Nat
 op : COp
 guard : Option (Nat × Bool) := none
 us : List (Nat × Nat) := []
 ks : List Nat := []
 deriving Inhabited
inductive CCode where
 | skip
 | kill (ts : List Nat)
 | reg (d : Bool) (ops : List (Nat × COper))
 | seq (a b : CCode)
 | cond (c : Opd) (a b : CCode)
 | block (id : Nat) (c : CCode)
 | loop (c : CCode)
 | exit (id : Nat)
 | ret
 deriving Inhabited
inductive Ex where
 | normal | exit (id : Nat) | ret
 deriving DecidableEq, Inhabited
inductive CRes where
 | t (i : Nat)
 | m (i n : Nat) (ag : Bool)
 deriving Inhabited
structure CFn where
 ntmps : Nat
 nargs : Nat
 res : List CRes
 body : CCode
 deriving Inhabited
def putD (env : Env) : Option Nat -> AV -> Env
 | some d, v => env.set d v
 | none, _ => env
def killT (env : Env) (ts : List Nat) : Env := ts.foldl (fun e t => e.set t .und) env
def wanted (env : Env) : Option (Nat × Bool) -> Bool
 | none => true
 | some (j, b) => match env.getD j .und with
  | .bool c => c == b
  | _ => false
def known (env : Env) : Option (Nat × Bool) -> Bool
 | none => true
 | some (j, _) => match env.getD j .und with
  | .bool _ => true
  | .tup [] => true
  | _ => false
def resOf (env : Env) (H : Heap) : CRes -> Option AV
 | .t i => some (env.getD i .und)
 | .m i n ag => match env.getD i .und with
  | .ptr l o => (H.rd l o n).bind fun vs => if ag then some (.agg vs) else match vs with
   | [v] => some v
   | _ => none
  | _ => none
def results (env : Env) (H : Heap) (rs : List CRes) : Option AV :=
 (rs.mapM (resOf env H)).map fun vs => match vs with
  | [v] => v
  | vs => .tup vs
def Kept (env : Env) (us : List (Nat × Nat)) (H H' : Heap) : Prop :=
 ∀ s n, (s, n) ∈ us -> ∀ l o, env.getD s .und = .ptr l o -> ∀ vs, H.rd l o n = some vs -> H'.rd l o n = some vs
def callee (env : Env) : COp -> Option (Nat × List AV)
 | .call f xs => some (f, xs.map (Opd.ev env))
 | .callv x xs => match x.ev env with
  | .fn f caps => some (f, xs.map (Opd.ev env) ++ caps)
  | _ => none
 | _ => none
inductive Judg where
 | co (c : CCode) (env : Env) (H : Heap) (ex : Ex) (env' : Env) (H' : Heap)
 | op (ops : List (Nat × COper)) (env : Env) (H : Heap) (env' : Env) (H' : Heap)
 | ca (f : Nat) (args : List AV) (H : Heap) (v : AV) (H' : Heap)
abbrev Ext := Nat -> List AV -> Heap -> AV -> Heap -> Prop
inductive J (T : Nat -> Option CFn) (X : Ext) : Judg -> Prop
 | skip {env H} : J T X (.co .skip env H .normal env H)
 | kill {ts env H} : J T X (.co (.kill ts) env H .normal (killT env ts) H)
 | reg {d ops env H env' H'} : J T X (.op ops env H env' H') -> J T X (.co (.reg d ops) env H .normal env' H')
 | seqN {a b env H env1 H1 ex env2 H2} : J T X (.co a env H .normal env1 H1) -> J T X (.co b env1 H1 ex env2 H2) -> J T X (.co (.seq a b) env H ex env2 H2)
 | seqX {a b env H ex env1 H1} : ex ≠ .normal -> J T X (.co a env H ex env1 H1) -> J T X (.co (.seq a b) env H ex env1 H1)
 | condT {c a b env H ex env1 H1} : c.ev env = .bool true -> J T X (.co a env H ex env1 H1) -> J T X (.co (.cond c a b) env H ex env1 H1)
 | condF {c a b env H ex env1 H1} : c.ev env = .bool false -> J T X (.co b env H ex env1 H1) -> J T X (.co (.cond c a b) env H ex env1 H1)
 | blockE {id c env H env1 H1} : J T X (.co c env H (.exit id) env1 H1) -> J T X (.co (.block id c) env H .normal env1 H1)
 | blockN {id c env H ex env1 H1} : ex ≠ .exit id -> J T X (.co c env H ex env1 H1) -> J T X (.co (.block id c) env H ex env1 H1)
 | loopN {c env H env1 H1 ex env2 H2} : J T X (.co c env H .normal env1 H1) -> J T X (.co (.loop c) env1 H1 ex env2 H2) -> J T X (.co (.loop c) env H ex env2 H2)
 | loopX {c env H ex env1 H1} : ex ≠ .normal -> J T X (.co c env H ex env1 H1) -> J T X (.co (.loop c) env H ex env1 H1)
 | exit {id env H} : J T X (.co (.exit id) env H (.exit id) env H)
 | ret {env H} : J T X (.co .ret env H .ret env H)
 | opNil {env H} : J T X (.op [] env H env H)
 | opSkip {i o ops env H env' H'} : known env o.guard = true -> wanted env o.guard = false -> J T X (.op ops (putD env o.dst (.tup [])) H env' H') -> J T X (.op ((i, o) :: ops) env H env' H')
 | opDo {i o ops env H v H1 env' H'} : known env o.guard = true -> wanted env o.guard = true -> heapOp env H o.op = some (v, H1) -> Kept env o.us H H1 ->
   J T X (.op ops (putD env o.dst v) H1 env' H') -> J T X (.op ((i, o) :: ops) env H env' H')
 | opCall {i o ops env H f args v H1 env' H'} : known env o.guard = true -> wanted env o.guard = true -> callee env o.op = some (f, args) -> J T X (.ca f args H v H1) -> Kept env o.us H H1 ->
   J T X (.op ops (putD env o.dst v) H1 env' H') -> J T X (.op ((i, o) :: ops) env H env' H')
 | call {f cf args H ex env' H' v} : T f = some cf -> args.length = cf.nargs -> cf.nargs <= cf.ntmps ->
   J T X (.co cf.body (args ++ List.replicate (cf.ntmps - cf.nargs) .und) H ex env' H') -> (ex = .normal \/ ex = .ret) -> results env' H' cf.res = some v -> J T X (.ca f args H v H')
 | ext {f args H v H'} : X f args H v H' -> J T X (.ca f args H v H')
end
section
structure Inf where
 b : Nat
 off : Nat
 n : Nat
 bsz : Nat
abbrev Map := Nat -> Option Inf
mutual
def VR (m : Map) : AV -> Value -> Prop
  | .und, _ => True
  | .int k n, v => v = .int k n
  | .bool b, v => v = .bool b
  | .str s, v => ∃ b : ByteArray, v = .string b /\ b.data.toList = s
  | .ptr l o, v => ∃ i, m l = some i /\ v = .pointer (some ⟨i.b, i.off + o, none⟩)
  | .nilp, v => v = .pointer none
  | .sl l o n e x, v => ∃ i a cap, m l = some i /\ v = .slice (some a) n cap /\ n <= cap /\ (x = true -> cap = n) /\ o + n * e <= i.n /\ (x = false -> i.n <= o + cap * e) /\ i.off + o + cap * e <= i.bsz /\
      (0 < cap -> a = ⟨i.b, i.off + o, none⟩) /\ 0 < e
  | .nils, v => v = .slice none 0 0
  | .fn f cs, v => ∃ vs : Array Value, v = .func (.func f) #[] vs /\ VRs m cs vs.toList
  | .nilf, v => v = .nilFunc
  | .agg cs, v => ∃ vs : Array Value, v = .agg vs /\ VRs m cs vs.toList
  | .tup cs, v => ∃ vs : Array Value, v = .tuple vs /\ VRs m cs vs.toList
def VRs (m : Map) : List AV -> List Value -> Prop
 | [], vs => vs = []
 | c :: cs, vs => ∃ v vs', vs = v :: vs' /\ VR m c v /\ VRs m cs vs'
end
def MLe (m m' : Map) : Prop := ∀ l i, m l = some i -> m' l = some i
mutual
theorem VR.mono {m m' : Map} (h : MLe m m') : ∀ {c : AV} {v : Value}, VR m c v -> VR m' c v
 | .und, _, _ => trivial
 | .int .., _, hv => hv
 | .bool .., _, hv => hv
 | .str .., _, hv => hv
 | .ptr .., _, ⟨i, hm, hv⟩ => ⟨i, h _ _ hm, hv⟩
 | .nilp, _, hv => hv
 | .sl .., _, ⟨i, a, cap, hm, hv⟩ => ⟨i, a, cap, h _ _ hm, hv⟩
 | .nils, _, hv => hv
 | .fn _ cs, _, ⟨vs, hv, hs⟩ => ⟨vs, hv, VRs.mono h (cs := cs) hs⟩
 | .nilf, _, hv => hv
 | .agg cs, _, ⟨vs, hv, hs⟩ => ⟨vs, hv, VRs.mono h (cs := cs) hs⟩
 | .tup cs, _, ⟨vs, hv, hs⟩ => ⟨vs, hv, VRs.mono h (cs := cs) hs⟩
theorem VRs.mono {m m' : Map} (h : MLe m m') : ∀ {cs : List AV} {vs : List Value}, VRs m cs vs -> VRs m' cs vs
 | [], _, hv => hv
 | _ :: cs, _, ⟨v, vs', e, h1, h2⟩ => ⟨v, vs', e, VR.mono h h1, VRs.mono h (cs := cs) h2⟩
end
theorem VRs.length {m : Map} : ∀ {cs : List AV} {vs : List Value}, VRs m cs vs -> vs.length = cs.length
 | [], _, h => by simp [VRs] at h; simp [h]
 | _ :: cs, _, ⟨v, vs', e, _, h⟩ => by subst e; simp [VRs.length h]
theorem VRs.at {m : Map} : ∀ {cs : List AV} {vs : List Value}, VRs m cs vs -> ∀ j, j < cs.length -> ∃ v, vs[j]? = some v /\ VR m (cs.getD j .und) v
 | [], _, _, j, hj => by simp at hj
 | c :: cs, _, ⟨v, vs', e, h1, h2⟩, 0, _ => by subst e; exact ⟨v, by simp, by simpa using h1⟩
 | c :: cs, _, ⟨v, vs', e, h1, h2⟩, j + 1, hj => by
  subst e
  obtain ⟨u, hu, hr⟩ := VRs.at h2 j (by simpa using hj)
  exact ⟨u, by simpa using hu, by simpa using hr⟩
theorem VRs.of {m : Map} : ∀ {cs : List AV} {vs : List Value}, vs.length = cs.length -> (∀ j v, vs[j]? = some v -> VR m (cs.getD j .und) v) -> VRs m cs vs
 | [], vs, hl, _ => by simp at hl; simp [VRs, hl]
 | c :: cs, [], hl, _ => by simp at hl
 | c :: cs, v :: vs, hl, h => by
  refine ⟨v, vs, rfl, by simpa using h 0 v (by simp), VRs.of (by simpa using hl) fun j u hu => ?_⟩
  simpa using h (j + 1) u (by simpa using hu)
theorem VRs.append {m : Map} : ∀ {cs ds : List AV} {vs us : List Value}, VRs m cs vs -> VRs m ds us -> VRs m (cs ++ ds) (vs ++ us)
 | [], _, _, _, h, h' => by simp [VRs] at h; simpa [h] using h'
 | c :: cs, _, _, _, ⟨v, vs', e, h1, h2⟩, h' => by subst e; exact ⟨v, _, by simp, h1, VRs.append h2 h'⟩
theorem VRs.take {m : Map} : ∀ {cs : List AV} {vs : List Value} (k : Nat), VRs m cs vs -> VRs m (cs.take k) (vs.take k)
 | [], _, k, h => by simp [VRs] at h; simp [VRs, h]
 | c :: cs, _, 0, ⟨v, vs', e, h1, h2⟩ => by simp [VRs]
 | c :: cs, _, k + 1, ⟨v, vs', e, h1, h2⟩ => by subst e; exact ⟨v, _, by simp, h1, VRs.take k h2⟩
theorem VRs.drop {m : Map} : ∀ {cs : List AV} {vs : List Value} (k : Nat), VRs m cs vs -> VRs m (cs.drop k) (vs.drop k)
 | [], _, k, h => by simp [VRs] at h; simp [VRs, h]
 | c :: cs, _, 0, h => by simpa using h
 | c :: cs, _, k + 1, ⟨v, vs', e, h1, h2⟩ => by subst e; simpa using VRs.drop k h2
theorem VR.cells {m : Map} {c : AV} {v : Value} (h : VR m c v) (h1 : ∀ x ∈ c.cells, x.one = true) : VRs m c.cells v.cells.toList := by
 cases c with
 | agg cs => obtain ⟨vs, rfl, hs⟩ := h; simpa [AV.cells, Value.cells] using hs
 | und => simp [AV.cells, AV.one] at h1
 | tup vs => simp [AV.cells, AV.one] at h1
 | str s => obtain ⟨b, rfl, hb⟩ := h; exact ⟨_, [], by simp [Value.cells], ⟨b, rfl, hb⟩, by simp [VRs]⟩
 | ptr l o => obtain ⟨i, hm, rfl⟩ := h; exact ⟨_, [], by simp [Value.cells], ⟨i, hm, rfl⟩, by simp [VRs]⟩
 | sl l o n e x => obtain ⟨i, a, cap, hm, rfl, r⟩ := h; exact ⟨_, [], by simp [Value.cells], ⟨i, a, cap, hm, rfl, r⟩, by simp [VRs]⟩
 | fn f cs => obtain ⟨vs, rfl, hs⟩ := h; exact ⟨_, [], by simp [Value.cells], ⟨vs, rfl, hs⟩, by simp [VRs]⟩
 | int k n => simp only [VR] at h; subst h; exact ⟨_, [], by simp [Value.cells], rfl, by simp [VRs]⟩
 | bool b => simp only [VR] at h; subst h; exact ⟨_, [], by simp [Value.cells], rfl, by simp [VRs]⟩
 | nilp => simp only [VR] at h; subst h; exact ⟨_, [], by simp [Value.cells], rfl, by simp [VRs]⟩
 | nils => simp only [VR] at h; subst h; exact ⟨_, [], by simp [Value.cells], rfl, by simp [VRs]⟩
 | nilf => simp only [VR] at h; subst h; exact ⟨_, [], by simp [Value.cells], rfl, by simp [VRs]⟩
theorem VR.one {m : Map} {c : AV} {v : Value} (h : VR m c v) (h1 : c.one = true) : v.oneCell' = true := by
 cases c with
 | agg cs => simp [AV.one] at h1
 | und => simp [AV.one] at h1
 | tup vs => simp [AV.one] at h1
 | str s => obtain ⟨b, rfl, hb⟩ := h; rfl
 | ptr l o => obtain ⟨i, hm, rfl⟩ := h; rfl
 | sl l o n e x => obtain ⟨i, a, cap, hm, rfl, r⟩ := h; rfl
 | fn f cs => obtain ⟨vs, rfl, hs⟩ := h; rfl
 | int k n => simp only [VR] at h; subst h; rfl
 | bool b => simp only [VR] at h; subst h; rfl
 | nilp => simp only [VR] at h; subst h; rfl
 | nils => simp only [VR] at h; subst h; rfl
 | nilf => simp only [VR] at h; subst h; rfl
def mC : AV -> Value -> Bool
 | .int k n, .int k' n' => k == k' && n == n'
 | .bool a, .bool b => a == b
 | .str s, .string b => b.data.toList == s
 | .nils, .slice none 0 0 => true
 | .nilp, .pointer none => true
 | .nilf, .nilFunc => true
 | .tup [], .tuple vs => vs.size == 0
 | _, _ => false
def mO : Opd -> Operand -> Bool
 | .t i, .tmp j => i == j
 | .c v, .const u => mC v u
 | .c (.fn f []), .func g => f == g
 | _, _ => false
def mOs : List Opd -> List Operand -> Bool
 | [], [] => true
 | x :: xs, y :: ys => mO x y && mOs xs ys
 | _, _ => false
def mOo : Option Opd -> Option Operand -> Bool
 | none, none => true
 | some x, some y => mO x y
 | _, _ => false
def EnvR (m : Map) (env : Env) (ts : Array Value) : Prop := ∀ i, VR m (env.getD i .und) (ts.getD i undef)
theorem mC_ok {m : Map} {c : AV} {v : Value} (h : mC c v = true) : VR m c v := by
 unfold mC at h
 split at h <;> simp_all [VR, VRs]
theorem mO_ok {m : Map} {env : Env} {a : Act} {x : Opd} {X : Operand} (h : mO x X = true) (hE : EnvR m env a.tmps) : VR m (x.ev env) (a.eval X) := by
 unfold mO at h
 split at h
 ·simp at h; subst h; exact hE _
 ·exact mC_ok h
 ·simp at h; subst h; exact ⟨#[], rfl, by simp [VRs]⟩
 ·simp at h
theorem mOs_ok {m : Map} {env : Env} {a : Act} : ∀ {xs : List Opd} {Xs : List Operand}, mOs xs Xs = true -> EnvR m env a.tmps -> VRs m (xs.map (Opd.ev env)) (Xs.map a.eval)
 | [], [], _, _ => by simp [VRs]
 | x :: xs, X :: Xs, h, hE => by
  simp [mOs] at h
  exact ⟨_, _, by simp, mO_ok h.1 hE, mOs_ok h.2 hE⟩
 | [], _ :: _, h, _ => by simp [mOs] at h
 | _ :: _, [], h, _ => by simp [mOs] at h
end
section
def isSl (P : Program) (T : TypeId) (e : Nat) : Bool :=
 match P.underlying T with
 | some (.slice E) => match P.info? E with
  | some i => i.size == e
  | none => false
 | _ => false
def isSlB (P : Program) (T : TypeId) (e bs : Nat) (zs : List AV) : Bool :=
 match P.underlying T with
 | some (.slice E) => match P.info? E with
  | some i => i.size == e && i.bytes == bs && (match i.zero with | some z => mCs zs z.cells.toList && z.cells.size == e | none => false)
  | none => false
 | _ => false
where mCs : List AV -> List Value -> Bool
 | [], [] => true
 | x :: xs, y :: ys => mC x y && mCs xs ys
 | _, _ => false
def isAggT (P : Program) (T : TypeId) (ag : Bool) (n : Nat) : Bool :=
 match P.underlying T, P.info? T with
 | some (.struct _), some i => ag && i.size == n
 | some (.array _ _), _ => false
 | some _, some i => !ag && i.size == n
 | _, _ => false
def zeroOk (P : Program) (T : TypeId) (zs : List AV) : Bool :=
 match P.info? T with
 | some i => match i.zero with | some z => isSlB.mCs zs z.cells.toList | none => false
 | none => false
def partsOk (places : Nat -> Option (Nat × Nat)) : List (Nat × Nat × Opd) -> List (Nat × Operand) -> Bool
 | [], [] => true
 | (o, n, x) :: ps, (i, X) :: qs => mO x X && (match places i with | some (o', n') => o == o' && n == n' | none => false) && partsOk places ps qs
 | _, _ => false
def fieldPlaces (P : Program) (fields : Array Field) : Option (Array (Nat × Nat)) :=
 (fields.toList.mapM fun f => (P.info? f.type).map fun i => (f.offset, i.size)).map (·.toArray)
def eqFds (P : Program) : Nat -> List Field -> List Nat -> Bool
 | _, [], [] => true
 | i, f :: fs, k :: ks => f.name != "_" && f.offset == i && (match P.underlying f.type, k with
  | some (.int _), 0 => true
  | some .string, 1 => true
  | some .bool, 2 => true
  | _, _ => false) && eqFds P (i + 1) fs ks
 | _, _, _ => false
def eqTOk (P : Program) (T : TypeId) (ks : List Nat) : Bool :=
 match P.underlying T with
 | some (.struct fs) => !P.stoodInHeld T && !P.eqGuardType P.depth T && eqFds P 0 fs.toList ks
 | _ => false
def isB (o : Oper) (b : Builtin) (xs : List Opd) : Option (Array TypeId) :=
 match o.op with
 | .call c => match c.callee with
  | .builtin b' => if b == b' && mOs xs c.args.toList then some c.argTypes else none
  | _ => none
 | _ => none
def underB (P : Program) (Ts : Array TypeId) (q : TypeDesc -> Bool) : Bool :=
 match Ts[0]? with
 | some T => match P.underlying T with
  | some d => q d
  | none => false
 | none => false
def mOp (P : Program) (o : Oper) : COp -> Bool
 | .mv x => match o.op with
  | .move X | .assign X => mO x X
  | _ => false
 | .pick c a b => match o.op with
  | .pick C A B => mO c C && mO a A && mO b B
  | _ => false
 | .bin op x y => match o.op with
  | .binOp op' _ X Y _ => op == op' && mO x X && mO y Y
  | _ => false
 | .beq ng x y => match o.op with
  | .binOp op' T X Y _ => op' == (if ng then .neq else .eql) && mO x X && mO y Y && (match P.underlying T with | some .bool => true | _ => false)
  | _ => false
 | .eqs ng ks x y => match o.op with
  | .binOp op' T X Y _ => op' == (if ng then .neq else .eql) && mO x X && mO y Y && eqTOk P T ks
  | _ => false
 | .isnil ng x => match o.op with
  | .binOp op' T X (.const (.slice none 0 0)) _ => op' == (if ng then .neq else .eql) && mO x X && (match P.underlying T with | some (.slice _) => true | _ => false)
  | _ => false
 | .neg x => match o.op with
  | .unOp .neg _ X => mO x X
  | _ => false
 | .not x => match o.op with
  | .unOp .not _ X => mO x X
  | _ => false
 | .len x => match isB o .len [x] with
  | some Ts => underB P Ts fun | .slice _ => true | _ => false
  | none => false
 | .lens x => match isB o .len [x] with
  | some Ts => underB P Ts fun | .string => true | _ => false
  | none => false
 | .cap x => match isB o .cap [x] with
  | some Ts => underB P Ts fun | .slice _ => true | _ => false
  | none => false
 | .max x y => (isB o .max [x, y]).isSome
 | .conv k x => match o.op with
  | .convert S D X => mO x X && (match P.underlying S, P.underlying D with | some _, some (.int k') => k == k' | _, _ => false)
  | _ => false
 | .b2s x => match o.op with
  | .convert S D X => mO x X && (match P.underlying S, P.underlying D with
   | some (.slice E), some .string => (match P.underlying E with | some (.int .u8) => true | _ => false)
   | _, _ => false)
  | _ => false
 | .ld n ag p => match o.op with
  | .load T X => mO p X && isAggT P T ag n
  | _ => false
 | .st n p v => match o.op with
  | .store T X V => mO p X && mO v V && (match P.info? T with | some i => i.size == n | none => false)
  | _ => false
 | .al zs => match o.op with
  | .alloc T => zeroOk P T zs
  | _ => false
 | .box n v => match o.op with
  | .box T V => mO v V
  | _ => false
 | .bld zs ps => match o.op with
  | .build T parts => zeroOk P T zs && (match P.underlying T with
   | some (.struct fields) => (match fieldPlaces P fields with
    | some places => partsOk (fun i => places[i]?) ps parts.toList
    | none => false)
   | _ => false)
  | _ => false
 | .bsl e n zs ps => match o.op with
  | .buildSlice T n' parts => n == n' && (match P.underlying T with
   | some (.slice E) => (match P.info? E with
    | some i => i.size == e && (match i.zero with | some z => isSlB.mCs zs z.cells.toList && z.cells.size == e | none => false) && partsOk (fun i => some (i * e, e)) ps parts.toList
    | none => false)
   | _ => false)
  | _ => false
 | .mk e bs zs l c => match o.op with
  | .makeSlice T L C => mO l L && mO c C && isSlB P T e bs zs
  | _ => false
 | .sls e x lo hi mx => match o.op with
  | .slice T X L H M => mO x X && mOo lo L && mOo hi H && mOo mx M && isSl P T e
  | _ => false
 | .slx e x lo hi mx => match o.op with
  | .slice T X L H M => mO x X && mOo lo L && mOo hi H && mOo mx M && isSl P T e
  | _ => false
 | .sst x lo hi => match o.op with
  | .slice T X L H none => mO x X && mOo lo L && mOo hi H && (match P.underlying T with | some .string => true | _ => false)
  | _ => false
 | .fa off x => match o.op with
  | .fieldAddr T X f => mO x X && (match P.underlying T with
   | some (.struct fields) => (match fields[f]? with
    | some fd => fd.offset == off && (match P.info? fd.type with | some i => i.size != 0 | none => false)
    | none => false)
   | _ => false)
  | _ => false
 | .ia e x i => match o.op with
  | .indexAddr T X I => mO x X && mO i I && isSl P T e
  | _ => false
 | .ix x i => match o.op with
  | .index T X I => mO x X && mO i I && (match P.underlying T with | some .string => true | _ => false)
  | _ => false
 | .nc x => match o.op with
  | .nilCheck X => mO x X
  | _ => false
 | .fn f cs => match o.op with
  | .makeFunc (.func f') fs CS => f == f' && fs.size == 0 && mOs cs CS.toList
  | _ => false
 | .ex x i => match o.op with
  | .extract X j => mO x X && i == j
  | _ => false
 | .call f xs => match o.op with
  | .call c => (match c.callee with
   | .value (.func f') => f == f' && mOs xs c.args.toList && (match P.funcs[f]? with | some fn => fn.body.isSome && !(fn.name == "runtime.NumGoroutine") | none => false)
   | _ => false)
  | _ => false
 | .callv x xs => match o.op with
  | .call c => (match c.callee with
   | .value X => mO x X && mOs xs c.args.toList
   | _ => false)
  | _ => false
 | .app e bs s x => match isB o .append [s, x] with
  | some Ts => Ts.size == 2 && Ts[0]? == Ts[1]? && underB P Ts fun
   | .slice E => (match P.info? E with
    | some i => i.size == e && i.bytes == bs && (match i.zero with | some z => z.cells.size == e | none => false)
    | none => false)
   | _ => false
  | none => false
 | .appm e bs zs s x => match isB o .append [s, x] with
  | some Ts => Ts.size == 2 && (match Ts[1]? with | some T => (match P.underlying T with | some (.int _) => true | _ => false) | none => false) && underB P Ts fun
   | .slice E => (match P.info? E with
    | some i => i.size == e && i.bytes == bs && (match i.zero with | some z => isSlB.mCs zs z.cells.toList && z.cells.size == e | none => false)
    | none => false)
   | _ => false
  | none => false
 | .cpy e d s => match isB o .copy [d, s] with
  | some Ts => underB P Ts fun
   | .slice E => (match P.info? E with
    | some i => i.size == e
    | none => false)
   | _ => false
  | none => false
 | .clr e zs x => match isB o .clear [x] with
  | some Ts => underB P Ts fun
   | .slice E => (match P.info? E with
    | some i => i.size == e && (match i.zero with | some z => isSlB.mCs zs z.cells.toList && z.cells.size == e | none => false)
    | none => false)
   | _ => false
  | none => false
 | .fail => true
section
variable {P : Program} {o : Oper} {env : Env} {a : Act} {m : Map} {v : AV} (w : World)
def Does (P : Program) (o : Oper) (a : Act) (m : Map) (v : AV) (w : World) : Prop := ∃ v', (execOp a.eval o).run P w = .ok (.value v') w /\ VR m v v'
theorem binI_ok {op : BinOp} {k : IntKind} {x y : Int} {v : AV} (T : TypeId) (hv : binI op k x y = some v) (h1 : op ≠ .shl) (h2 : op ≠ .shr) : ∃ v', (binOp op T (.int k x) (.int k y)).run P w = .ok v' w /\ VR m v v' := by
 cases op
 case shl => exact absurd rfl h1
 case shr => exact absurd rfl h2
 case quo =>
  simp only [binI] at hv
  split at hv
  ·simp at hv
  ·rename_i hz
   simp at hv; subst hv
   exact ⟨_, by simp [binOp, Op.intDiv, hz, pure, Sem.run], rfl⟩
 case rem =>
  simp only [binI] at hv
  split at hv
  ·simp at hv
  ·rename_i hz
   simp at hv; subst hv
   exact ⟨_, by simp [binOp, Op.intDiv, hz, pure, Sem.run], rfl⟩
 all_goals
  simp only [binI, bitsOp, Option.map_some, Option.map_none, zJ, reduceCtorEq] at hv
 all_goals
  subst hv
  exact ⟨_, by simp only [binOp, Op.intArith, Op.intBits, Op.intCmp, pure, Sem.run, ne_eq, not_true_eq_false, if_false], rfl⟩
theorem shI_ok {op : BinOp} {k k' : IntKind} {x y : Int} {v : AV} (T : TypeId) (hv : shI op k x y = some v) : ∃ v', (binOp op T (.int k x) (.int k' y)).run P w = .ok v' w /\ VR m v v' := by
 unfold shI at hv
 split at hv
 ·simp at hv
 ·rename_i hy
  cases op <;> simp only [zJ, reduceCtorEq] at hv
  all_goals (subst hv; exact ⟨_, by simp only [binOp, Op.shift, hy, pure, Sem.run, if_false], rfl⟩)
theorem toList_eq (b : ByteArray) : b.toList = b.data.toList := by
 first | exact ByteArray.toList_eq b | rfl | simp
theorem binS_ok {op : BinOp} {x y : List UInt8} {X Y : ByteArray} {v : AV} (T : TypeId) (hX : X.data.toList = x) (hY : Y.data.toList = y) (hv : binS op x y = some v) :
  ∃ v', (binOp op T (.string X) (.string Y)).run P w = .ok v' w /\ VR m v v' := by
 subst hX hY
 cases op
 case add =>
  simp only [binS] at hv
  split at hv
  ·rename_i hle
   simp at hv; subst hv
   rw [catOk_iff] at hle
   rw [Array.length_toList, Array.length_toList] at hle
   have hle' : ¬ (((X.size + Y.size : Nat) : Int) > IntKind.i64.max) := Int.not_lt.mpr hle
   exact ⟨_, by simp only [binOp, Op.stringOp, if_neg hle', pure, Sem.run], ⟨X ++ Y, rfl, by rw [ByteArray.data_append, Array.toList_append]⟩⟩
  ·simp at hv
 all_goals
  simp only [binS, zJ, reduceCtorEq] at hv
 all_goals
  subst hv
  exact ⟨_, by simp only [binOp, Op.stringOp, pure, Sem.run, toList_eq], rfl⟩
theorem does_mv {x : Opd} (h : mOp P o (.mv x) = true) (hE : EnvR m env a.tmps) (hv : pureOp env (.mv x) = some v) : Does P o a m v w := by
 simp only [pureOp, zJ] at hv
 subst hv
 simp only [mOp] at h
 split at h
 ·rename_i X ho
  exact ⟨a.eval X, by simp [execOp, ho, pure, Sem.run], mO_ok h hE⟩
 ·rename_i X ho
  exact ⟨a.eval X, by simp [execOp, ho, pure, Sem.run], mO_ok h hE⟩
 ·simp at h
theorem run_pure_bind {α β : Type} (x : α) (f : α -> Sem β) : ((pure x : Sem α) >>= f).run P w = (f x).run P w := rfl
theorem run_v {s : Sem Value} {v' : Value} {w' : World} (h : s.run P w = .ok v' w') : (do pure (Next.value (<- s)) : Sem Next).run P w = .ok (.value v') w' := by
 simp only [Sem.run_bind, h, Result.andThen_ok]; rfl
theorem does_pick {x y z : Opd} (h : mOp P o (.pick x y z) = true) (hE : EnvR m env a.tmps) (hv : pureOp env (.pick x y z) = some v) : Does P o a m v w := by
 simp only [mOp] at h
 split at h
 ·rename_i X Y Z ho
  simp only [Bool.and_eq_true] at h
  have h1 := mO_ok h.1.1 hE
  have h2 := mO_ok h.1.2 hE
  have h3 := mO_ok h.2 hE
  simp only [pureOp] at hv
  split at hv
  ·rename_i hc
   rw [hc] at h1; simp only [VR] at h1; simp only [zJ] at hv; subst hv
   exact ⟨a.eval Y, by simp [execOp, ho, h1, asBool, pure, Sem.run, Sem.run_bind, bind, Sem.bind], h2⟩
  ·rename_i hc
   rw [hc] at h1; simp only [VR] at h1; simp only [zJ] at hv; subst hv
   exact ⟨a.eval Z, by simp [execOp, ho, h1, asBool, pure, Sem.run, Sem.run_bind, bind, Sem.bind], h3⟩
  ·simp at hv
 ·simp at h
theorem guard_scalar (op : BinOp) (T : TypeId) (X Y : Operand) (x y : Value) (hx : (∀ cs, x ≠ .agg cs) /\ x ≠ .nilIface) : (eqGuard op T X Y x y).run P w = .ok () w := by
 obtain ⟨h1, h2⟩ := hx
 cases op
 case eql => cases x <;> first | exact absurd rfl h2 | exact absurd rfl (h1 _) | rfl
 case neq => cases x <;> first | exact absurd rfl h2 | exact absurd rfl (h1 _) | rfl
 all_goals rfl
theorem does_bin {op : BinOp} {x y : Opd} (h : mOp P o (.bin op x y) = true) (hE : EnvR m env a.tmps) (hv : pureOp env (.bin op x y) = some v) : Does P o a m v w := by
 simp only [mOp] at h
 split at h
 ·rename_i op' T X Y U ho
  simp only [Bool.and_eq_true, beq_iff_eq] at h
  obtain ⟨⟨rfl, hx⟩, hy⟩ := h
  have h1 := mO_ok hx hE
  have h2 := mO_ok hy hE
  simp only [pureOp] at hv
  have key : ∃ v', (binOp op T (a.eval X) (a.eval Y)).run P w = .ok v' w /\ VR m v v' /\ (∀ cs, a.eval X ≠ .agg cs) /\ a.eval X ≠ .nilIface := by
   revert h1 h2
   generalize a.eval X = A
   generalize a.eval Y = B
   intro h1 h2
   unfold binA at hv
   split at hv
   ·rename_i k n k' n' e1 e2
    rw [e1] at h1; rw [e2] at h2; simp only [VR] at h1 h2; subst h1 h2
    obtain ⟨v', hr, hv'⟩ := shI_ok (P := P) (m := m) w (k' := k') T hv
    exact ⟨v', hr, hv', by simp, by simp⟩
   ·rename_i k n k' n' e1 e2
    rw [e1] at h1; rw [e2] at h2; simp only [VR] at h1 h2; subst h1 h2
    obtain ⟨v', hr, hv'⟩ := shI_ok (P := P) (m := m) w (k' := k') T hv
    exact ⟨v', hr, hv', by simp, by simp⟩
   ·rename_i k n k' n' n1 n2 e1 e2
    rw [e1] at h1; rw [e2] at h2; simp only [VR] at h1 h2; subst h1 h2
    split at hv
    ·rename_i hk
     subst hk
     obtain ⟨v', hr, hv'⟩ := binI_ok (P := P) (m := m) w T hv (fun e => n1 e) (fun e => n2 e)
     exact ⟨v', hr, hv', by simp, by simp⟩
    ·simp at hv
   ·rename_i s s' _ _ e1 e2
    rw [e1] at h1; rw [e2] at h2
    obtain ⟨b1, rfl, hb1⟩ := h1
    obtain ⟨b2, rfl, hb2⟩ := h2
    obtain ⟨v', hr, hv'⟩ := binS_ok (P := P) (m := m) w T hb1 hb2 hv
    exact ⟨v', hr, hv', by simp, by simp⟩
   ·simp at hv
  obtain ⟨v', hr, hv', hn⟩ := key
  refine ⟨v', ?_, hv'⟩
  simp only [execOp, ho]
  refine run_v (P := P) w ?_
  rw [Sem.run_bind, guard_scalar (P := P) w op T X Y _ _ hn, Result.andThen_ok, hr]
 ·simp at h
theorem does_neg {x : Opd} (h : mOp P o (.neg x) = true) (hE : EnvR m env a.tmps) (hv : pureOp env (.neg x) = some v) : Does P o a m v w := by
 simp only [mOp] at h
 split at h
 ·rename_i T X ho
  have h1 := mO_ok h hE
  simp only [pureOp] at hv
  split at hv
  ·rename_i k n hc
   rw [hc] at h1; simp only [VR] at h1; simp only [zJ] at hv; subst hv
   refine ⟨_, ?_, rfl⟩
   simp only [execOp, ho]
   exact run_v (P := P) w (by rw [h1]; simp only [Op.unary, Op.intArith]; rfl)
  ·simp at hv
 ·simp at h
theorem does_not {x : Opd} (h : mOp P o (.not x) = true) (hE : EnvR m env a.tmps) (hv : pureOp env (.not x) = some v) : Does P o a m v w := by
 simp only [mOp] at h
 split at h
 ·rename_i T X ho
  have h1 := mO_ok h hE
  simp only [pureOp] at hv
  split at hv
  ·rename_i b hc
   rw [hc] at h1; simp only [VR] at h1; simp only [zJ] at hv; subst hv
   refine ⟨_, ?_, rfl⟩
   simp only [execOp, ho]
   exact run_v (P := P) w (by rw [h1]; simp only [Op.unary]; rfl)
  ·simp at hv
 ·simp at h
theorem run_equal {T : TypeId} {x y : Value} {b : Bool} (h : ∀ d, (Op.equalIn (d + 1) T x y).run P w = .ok b w) : (Op.equal T x y).run P w = .ok b w := h 9999
theorem run_equal_bool {T : TypeId} (hu : P.underlying T = some .bool) (b c : Bool) : (Op.equal T (.bool b) (.bool c)).run P w = .ok (b == c) w :=
 run_equal (P := P) w fun d => by simp only [Op.equalIn, Sem.run_bind, run_underlying hu, Result.andThen]; rfl
theorem run_equal_nil {T e : TypeId} (hu : P.underlying T = some (.slice e)) (n c : Nat) (a : Option Addr) : (Op.equal T (.slice a n c) (.slice none 0 0)).run P w = .ok a.isNone w :=
 run_equal (P := P) w fun d => by cases a <;> (simp only [Op.equalIn, Sem.run_bind, run_underlying hu, Result.andThen]; rfl)
theorem run_neq {T : TypeId} {x y : Value} {b ng : Bool} (hx : ∀ k n, x ≠ .int k n) (hf : ∀ k n, x ≠ .float k n) (hc : ∀ k r i, x ≠ .complex k r i) (hs : ∀ s, x ≠ .string s) (h : (Op.equal T x y).run P w = .ok b w) :
  (binOp (if ng then .neq else .eql) T x y).run P w = .ok (.bool (if ng then !b else b)) w := by
 have hr : ∀ f : Bool -> Bool, ((do pure (Value.bool (f (<- Op.equal T x y))) : Sem Value)).run P w = .ok (.bool (f b)) w := by
  intro f; simp only [Sem.run_bind, h, Result.andThen_ok]; rfl
 cases ng
 ·cases x <;> first | exact absurd rfl (hx _ _) | exact absurd rfl (hf _ _) | exact absurd rfl (hc _ _ _) | exact absurd rfl (hs _) | exact hr id
 ·cases x <;> first | exact absurd rfl (hx _ _) | exact absurd rfl (hf _ _) | exact absurd rfl (hc _ _ _) | exact absurd rfl (hs _) | exact hr (! ·)
theorem does_beq {ng : Bool} {x y : Opd} (h : mOp P o (.beq ng x y) = true) (hE : EnvR m env a.tmps) (hv : pureOp env (.beq ng x y) = some v) : Does P o a m v w := by
 simp only [mOp] at h
 split at h
 ·rename_i op' T X Y U ho
  simp only [Bool.and_eq_true, beq_iff_eq] at h
  obtain ⟨⟨⟨rfl, hx⟩, hy⟩, hT⟩ := h
  have hu : P.underlying T = some .bool := by
   revert hT; cases P.underlying T with
   | none => simp
   | some d => cases d <;> simp
  have h1 := mO_ok hx hE
  have h2 := mO_ok hy hE
  simp only [pureOp] at hv
  split at hv
  ·rename_i b c e1 e2
   rw [e1] at h1; rw [e2] at h2; simp only [VR] at h1 h2; simp only [zJ] at hv; subst hv
   refine ⟨_, ?_, rfl⟩
   simp only [execOp, ho]
   refine run_v (P := P) w ?_
   rw [Sem.run_bind, guard_scalar (P := P) w _ T X Y _ _ (by rw [h1]; simp), Result.andThen_ok, h1, h2]
   rw [run_neq (P := P) w (by simp) (by simp) (by simp) (by simp) (run_equal_bool (P := P) w hu b c)]
   cases ng <;> rfl
  ·simp at hv
 ·simp at h
def flatD : TypeDesc -> Bool
 | .struct _ | .array _ _ => false
 | _ => true
theorem run_part {t : TypeId} {D : TypeDesc} (hu : P.underlying t = some D) (hd : flatD D = true) {cs : Array Value} {i : Nat} {v : Value} (hi : cs[i]? = some v) : (part t cs i).run P w = .ok v w := by
 have : (isAgg t).run P w = .ok false w := by
  cases D <;> first | (cases hd; done) | simp [isAgg, run_underlying hu]
 simp [part, this, hi]
theorem eqFields_ok {d : Nat} {xs ys : Array Value} : ∀ {fs : List Field} {ks : List Nat} {i : Nat} {a b : List AV} {r : Bool}, eqFds P i fs ks = true -> eqCells ks a b = some r -> VRs m a (xs.toList.drop i) -> VRs m b (ys.toList.drop i) ->
  (Op.eqFields (d + 1) xs ys fs).run P w = .ok r w
 | [], ks, i, a, b, r, hf, he, _, _ => by
  cases ks with
  | nil =>
   cases a <;> cases b <;> simp [eqCells] at he
   subst he; simp [Op.eqFields]
  | cons => simp [eqFds] at hf
 | f :: fs, [], i, a, b, r, hf, he, ha, hb => by simp [eqFds] at hf
 | f :: fs, k :: ks, i, a, b, r, hf, he, ha, hb => by
  simp only [eqFds, Bool.and_eq_true, bne_iff_ne, ne_eq, beq_iff_eq] at hf
  obtain ⟨⟨⟨h1, rfl⟩, h3⟩, h4⟩ := hf
  cases a with
  | nil => simp [eqCells] at he
  | cons x a =>
  cases b with
  | nil => simp [eqCells] at he
  | cons y b =>
  obtain ⟨v, vs, ev, hv, hvs⟩ := ha
  obtain ⟨u, us, eu, hu, hus⟩ := hb
  have gx : xs[f.offset]? = some v := by
   rw [<- Array.getElem?_toList, <- List.head?_drop, ev]; rfl
  have gy : ys[f.offset]? = some u := by
   rw [<- Array.getElem?_toList, <- List.head?_drop, eu]; rfl
  have dx : xs.toList.drop (f.offset + 1) = vs := by rw [<- List.tail_drop, ev]; rfl
  have dy : ys.toList.drop (f.offset + 1) = us := by rw [<- List.tail_drop, eu]; rfl
  have key : ∀ D c r', P.underlying f.type = some D -> flatD D = true -> (Op.equalIn (d + 1) f.type v u).run P w = .ok c w -> eqCells ks a b = some r' -> (c && r') = r -> (Op.eqFields (d + 1) xs ys (f :: fs)).run P w = .ok r w := by
   intro D c r' e0 e4 e1 e2 e3
   have ih := eqFields_ok (d := d) (xs := xs) (ys := ys) (i := f.offset + 1) (a := a) (b := b) h4 e2 (by rw [dx]; exact hvs) (by rw [dy]; exact hus)
   subst e3
   simp only [Op.eqFields, ne_eq, h1, not_false_eq_true, if_true, Sem.run_bind, run_part (P := P) w e0 e4 gx, run_part (P := P) w e0 e4 gy, e1, Result.andThen_ok]
   cases c
   ·simp
   ·simpa using ih
  split at h3
  ·rename_i K hD
   cases x <;> cases y <;> first | (simp [eqCells] at he; done) | skip
   rename_i k n k' n'
   simp only [eqCells] at he
   split at he
   ·obtain ⟨r', g1, g2⟩ := zM he
    simp only [VR] at hv hu
    rename_i hk
    subst hv hu hk
    exact key _ _ r' hD rfl (run_equalIn_int w d _ _ _ _ _ hD) g1 g2
   ·cases he
  ·rename_i hD
   cases x <;> cases y <;> first | (simp [eqCells] at he; done) | skip
   simp only [eqCells] at he
   obtain ⟨r', g1, g2⟩ := zM he
   simp only [VR] at hv hu
   obtain ⟨s1, rfl, hs1⟩ := hv
   obtain ⟨s2, rfl, hs2⟩ := hu
   refine key _ _ r' hD rfl (run_equalIn_string w d _ _ _ hD) g1 ?_
   rw [toList_eq, toList_eq, hs1, hs2]
   exact g2
  ·rename_i hD
   cases x <;> cases y <;> first | (simp [eqCells] at he; done) | skip
   simp only [eqCells] at he
   obtain ⟨r', g1, g2⟩ := zM he
   simp only [VR] at hv hu
   subst hv hu
   exact key _ _ r' hD rfl (run_equalIn_bool' w d _ _ _ hD) g1 g2
  ·cases h3
theorem does_eqs {ng : Bool} {ks : List Nat} {x y : Opd} (h : mOp P o (.eqs ng ks x y) = true) (hE : EnvR m env a.tmps) (hv : pureOp env (.eqs ng ks x y) = some v) : Does P o a m v w := by
 simp only [mOp] at h
 split at h
 ·rename_i op' T X Y U ho
  simp only [Bool.and_eq_true, beq_iff_eq] at h
  obtain ⟨⟨⟨rfl, hx⟩, hy⟩, hT⟩ := h
  have h1 := mO_ok hx hE
  have h2 := mO_ok hy hE
  simp only [pureOp] at hv
  split at hv
  ·rename_i c e e1 e2
   obtain ⟨r, g1, rfl⟩ := zM hv
   rw [e1] at h1; rw [e2] at h2; simp only [VR] at h1 h2
   obtain ⟨xs, k1, k2⟩ := h1
   obtain ⟨ys, k3, k4⟩ := h2
   unfold eqTOk at hT
   split at hT
   ·rename_i fs hu
    simp only [Bool.and_eq_true, Bool.not_eq_true'] at hT
    obtain ⟨⟨t1, t2⟩, t4⟩ := hT
    have hfs : P.fieldsOf T = fs := by unfold Program.fieldsOf; rw [hu]
    have he : (Op.equalIn (9999 + 1) T (.agg xs) (.agg ys)).run P w = .ok r w := by
     rw [run_equalIn_struct w 9999 T xs ys (by rw [hfs]; exact hu) t1, hfs]
     exact eqFields_ok (P := P) (m := m) w (d := 9998) (i := 0) t4 g1 (by simpa using k2) (by simpa using k4)
    refine ⟨_, ?_, rfl⟩
    simp only [execOp, ho]
    refine run_v (P := P) w ?_
    rw [k1, k3, Sem.run_bind, run_eqGuard_agg w _ T X Y xs ys t2, Result.andThen_ok]
    cases ng
    ·rw [if_neg (by simp), run_eql_struct, he]; rfl
    ·rw [if_pos rfl, run_neq_struct, he]; rfl
   ·cases hT
  ·cases hv
 ·cases h
theorem does_isnil {ng : Bool} {x : Opd} (h : mOp P o (.isnil ng x) = true) (hE : EnvR m env a.tmps) (hv : pureOp env (.isnil ng x) = some v) : Does P o a m v w := by
 simp only [mOp] at h
 split at h
 ·rename_i op' T X U ho
  simp only [Bool.and_eq_true, beq_iff_eq] at h
  obtain ⟨⟨rfl, hx⟩, hT⟩ := h
  have hu : ∃ e, P.underlying T = some (.slice e) := by
   revert hT; cases P.underlying T with
   | none => simp
   | some d => cases d <;> simp
  obtain ⟨e, hu⟩ := hu
  have h1 := mO_ok hx hE
  simp only [pureOp] at hv
  split at hv
  ·rename_i e1
   rw [e1] at h1; simp only [VR] at h1; simp only [zJ] at hv; subst hv
   refine ⟨_, ?_, rfl⟩
   simp only [execOp, ho]
   refine run_v (P := P) w ?_
   rw [Sem.run_bind, guard_scalar (P := P) w _ T X _ _ _ (by rw [h1]; simp), Result.andThen_ok, h1]
   rw [show a.eval (.const (.slice none 0 0)) = .slice none 0 0 from rfl, run_neq (P := P) w (by simp) (by simp) (by simp) (by simp) (run_equal_nil (P := P) w hu _ _ _)]
   cases ng <;> rfl
  ·rename_i l' o' n' e' x' e1
   rw [e1] at h1; obtain ⟨i, ad, cap, hm, he, _⟩ := h1; simp only [zJ] at hv; subst hv
   refine ⟨_, ?_, rfl⟩
   simp only [execOp, ho]
   refine run_v (P := P) w ?_
   rw [Sem.run_bind, guard_scalar (P := P) w _ T X _ _ _ (by rw [he]; simp), Result.andThen_ok, he]
   rw [show a.eval (.const (.slice none 0 0)) = .slice none 0 0 from rfl, run_neq (P := P) w (by simp) (by simp) (by simp) (by simp) (run_equal_nil (P := P) w hu _ _ _)]
   cases ng <;> rfl
  ·simp at hv
 ·simp at h
theorem isB_ok {b : Builtin} {xs : List Opd} {Ts : Array TypeId} (h : isB o b xs = some Ts) : ∃ c : Call, o.op = .call c /\ c.callee = .builtin b /\ c.argTypes = Ts /\ mOs xs c.args.toList = true := by
 unfold isB at h
 split at h
 ·rename_i c ho
  split at h
  ·rename_i b' hb
   split at h
   ·rename_i hc
    simp only [Bool.and_eq_true, beq_iff_eq] at hc
    obtain ⟨rfl, hm⟩ := hc
    exact ⟨c, ho, hb, by simpa using h, hm⟩
   ·simp at h
  ·simp at h
 ·simp at h
theorem underB_ok {Ts : Array TypeId} {q : TypeDesc -> Bool} (h : underB P Ts q = true) : ∃ T d, Ts[0]? = some T /\ P.underlying T = some d /\ q d = true := by
 unfold underB at h
 split at h
 ·rename_i T hT
  split at h
  ·rename_i d hd
   exact ⟨T, d, hT, hd, h⟩
  ·simp at h
 ·simp at h
theorem run_builtin {b : Builtin} {c : Call} {s : Array TypeId -> TypeId -> Array Value -> Sem Value} {v' : Value} {w' : World} (ho : o.op = .call c) (hc : c.callee = .builtin b)
  (hb : ∀ Ts ty cs vs, builtin b Ts ty cs vs = (do pure (Next.value (<- s Ts ty vs)))) (h : (s c.argTypes o.type (c.args.map a.eval)).run P w = .ok v' w') : (execOp a.eval o).run P w = .ok (.value v') w' := by
 simp only [execOp, ho, resolve, hc, run_pure_bind, invoke, hb]
 exact run_v (P := P) w h
theorem args_eq {c : Call} {xs : List Opd} (h : mOs xs c.args.toList = true) (hE : EnvR m env a.tmps) : ∃ vs : List Value, c.args.map a.eval = vs.toArray /\ VRs m (xs.map (Opd.ev env)) vs :=
 ⟨c.args.toList.map a.eval, by apply Array.ext'; simp, mOs_ok h hE⟩
theorem does_len {x : Opd} (h : mOp P o (.len x) = true) (hE : EnvR m env a.tmps) (hv : pureOp env (.len x) = some v) : Does P o a m v w := by
 simp only [mOp] at h
 split at h
 ·rename_i Ts hB
  obtain ⟨c, ho, hc, rfl, hm⟩ := isB_ok hB
  obtain ⟨T, d, hT, hu, hq⟩ := underB_ok h
  obtain ⟨vs, hvs, v0, vs', rfl, h1, hn⟩ := args_eq hm hE
  simp only [List.map_nil, VRs] at hn; subst hn
  simp only [pureOp, lenA] at hv
  have key : ∃ v', (Builtin.len_ c.argTypes o.type #[v0]).run P w = .ok v' w /\ VR m v v' := by
   cases d <;> simp at hq
   split at hv
   ·rename_i l o n e x e1
    rw [e1] at h1; obtain ⟨i, ad, cap, hm, rfl, _⟩ := h1
    simp only [zJ] at hv; subst hv
    exact ⟨_, by simp [Builtin.len_, hT, Sem.run_bind, run_underlying hu, Result.andThen, pure, Sem.run, goInt], rfl⟩
   ·rename_i e1
    rw [e1] at h1; simp only [VR] at h1; subst h1
    simp only [zJ] at hv; subst hv
    exact ⟨_, by simp [Builtin.len_, hT, Sem.run_bind, run_underlying hu, Result.andThen, pure, Sem.run, goInt], rfl⟩
   ·simp at hv
  obtain ⟨v', hr, hv'⟩ := key
  exact ⟨v', run_builtin (P := P) w (s := Builtin.len_) ho hc (fun _ _ _ _ => rfl) (by rw [hvs]; exact hr), hv'⟩
 ·simp at h
theorem does_lens {x : Opd} (h : mOp P o (.lens x) = true) (hE : EnvR m env a.tmps) (hv : pureOp env (.lens x) = some v) : Does P o a m v w := by
 simp only [mOp] at h
 split at h
 ·rename_i Ts hB
  obtain ⟨c, ho, hc, rfl, hm⟩ := isB_ok hB
  obtain ⟨T, d, hT, hu, hq⟩ := underB_ok h
  obtain ⟨vs, hvs, v0, vs', rfl, h1, hn⟩ := args_eq hm hE
  simp only [List.map_nil, VRs] at hn; subst hn
  simp only [pureOp] at hv
  have key : ∃ v', (Builtin.len_ c.argTypes o.type #[v0]).run P w = .ok v' w /\ VR m v v' := by
   cases d <;> simp at hq
   split at hv
   ·rename_i s e1
    rw [e1] at h1; obtain ⟨b, rfl, rfl⟩ := h1
    simp only [zJ] at hv; subst hv
    exact ⟨.int .i64 b.size, by simp [Builtin.len_, hT, Sem.run_bind, run_underlying hu, Result.andThen, pure, Sem.run, goInt], rfl⟩
   ·simp at hv
  obtain ⟨v', hr, hv'⟩ := key
  exact ⟨v', run_builtin (P := P) w (s := Builtin.len_) ho hc (fun _ _ _ _ => rfl) (by rw [hvs]; exact hr), hv'⟩
 ·simp at h
theorem does_cap {x : Opd} (h : mOp P o (.cap x) = true) (hE : EnvR m env a.tmps) (hv : pureOp env (.cap x) = some v) : Does P o a m v w := by
 simp only [mOp] at h
 split at h
 ·rename_i Ts hB
  obtain ⟨c, ho, hc, rfl, hm⟩ := isB_ok hB
  obtain ⟨T, d, hT, hu, hq⟩ := underB_ok h
  obtain ⟨vs, hvs, v0, vs', rfl, h1, hn⟩ := args_eq hm hE
  simp only [List.map_nil, VRs] at hn; subst hn
  simp only [pureOp] at hv
  have key : ∃ v', (Builtin.cap_ c.argTypes o.type #[v0]).run P w = .ok v' w /\ VR m v v' := by
   cases d <;> simp at hq
   split at hv
   ·rename_i e1
    rw [e1] at h1; simp only [VR] at h1; subst h1
    simp only [zJ] at hv; subst hv
    exact ⟨_, by simp [Builtin.cap_, hT, Sem.run_bind, run_underlying hu, Result.andThen, pure, Sem.run, goInt], rfl⟩
   ·rename_i l o n e e1
    rw [e1] at h1; obtain ⟨i, ad, cap, hm, rfl, _, hx, _⟩ := h1
    simp only [zJ] at hv; subst hv
    obtain rfl := hx rfl
    exact ⟨_, by simp [Builtin.cap_, hT, Sem.run_bind, run_underlying hu, Result.andThen, pure, Sem.run, goInt], rfl⟩
   ·simp at hv
  obtain ⟨v', hr, hv'⟩ := key
  exact ⟨v', run_builtin (P := P) w (s := Builtin.cap_) ho hc (fun _ _ _ _ => rfl) (by rw [hvs]; exact hr), hv'⟩
 ·simp at h
theorem does_max {x y : Opd} (h : mOp P o (.max x y) = true) (hE : EnvR m env a.tmps) (hv : pureOp env (.max x y) = some v) : Does P o a m v w := by
 simp only [mOp] at h
 obtain ⟨Ts, hB⟩ := Option.isSome_iff_exists.1 h
 obtain ⟨c, ho, hc, rfl, hm⟩ := isB_ok hB
 obtain ⟨vs, hvs, v0, vs', rfl, h1, v1, vs'', rfl, h2, hn⟩ := args_eq hm hE
 simp only [List.map_nil, VRs] at hn; subst hn
 simp only [pureOp] at hv
 have key : ∃ v', (Builtin.max_ c.argTypes o.type #[v0, v1]).run P w = .ok v' w /\ VR m v v' := by
  split at hv
  ·rename_i k n k' n' e1 e2
   rw [e1] at h1; rw [e2] at h2; simp only [VR] at h1 h2; subst h1 h2
   simp only [zJ] at hv; subst hv
   exact ⟨_, by simp only [Builtin.max_, List.foldlM, Builtin.max2]; rfl, rfl⟩
  ·simp at hv
 obtain ⟨v', hr, hv'⟩ := key
 exact ⟨v', run_builtin (P := P) w (s := Builtin.max_) ho hc (fun _ _ _ _ => rfl) (by rw [hvs]; exact hr), hv'⟩
theorem does_conv {k : IntKind} {x : Opd} (h : mOp P o (.conv k x) = true) (hE : EnvR m env a.tmps) (hv : pureOp env (.conv k x) = some v) : Does P o a m v w := by
 simp only [mOp] at h
 split at h
 ·rename_i S D X ho
  simp only [Bool.and_eq_true] at h
  obtain ⟨hx, hT⟩ := h
  have hu : ∃ d, P.underlying S = some d /\ P.underlying D = some (.int k) := by
   revert hT
   cases P.underlying S <;> cases P.underlying D <;> simp
   rename_i d d'
   cases d' <;> simp
   exact fun e => e.symm
  obtain ⟨d, hu1, hu2⟩ := hu
  have h1 := mO_ok hx hE
  simp only [pureOp] at hv
  split at hv
  ·rename_i k' n e1
   rw [e1] at h1; simp only [VR] at h1; simp only [zJ] at hv; subst hv
   refine ⟨_, ?_, rfl⟩
   simp only [execOp, ho]
   refine run_v (P := P) w ?_
   simp only [convert, Sem.run_bind, run_underlying hu1, run_underlying hu2, Result.andThen, h1, Conv.intToInt]
   cases d <;> rfl
  ·simp at hv
 ·simp at h
theorem does_nc {x : Opd} (h : mOp P o (.nc x) = true) (hE : EnvR m env a.tmps) (hv : pureOp env (.nc x) = some v) : Does P o a m v w := by
 simp only [mOp] at h
 split at h
 ·rename_i X ho
  have h1 := mO_ok h hE
  simp only [pureOp] at hv
  split at hv
  ·rename_i l o' e1
   rw [e1] at h1; obtain ⟨i, hm, he⟩ := h1
   simp only [zJ] at hv; subst hv
   refine ⟨_, ?_, ⟨i, hm, rfl⟩⟩
   simp only [execOp, ho, he]; rfl
  ·simp at hv
 ·simp at h
theorem does_fn {f : Nat} {cs : List Opd} (h : mOp P o (.fn f cs) = true) (hE : EnvR m env a.tmps) (hv : pureOp env (.fn f cs) = some v) : Does P o a m v w := by
 simp only [mOp] at h
 split at h
 ·rename_i f' fs CS ho
  simp only [Bool.and_eq_true, beq_iff_eq] at h
  obtain ⟨⟨rfl, hf⟩, hx⟩ := h
  have h1 := mOs_ok hx hE
  simp only [pureOp, zJ] at hv; subst hv
  obtain rfl : fs = #[] := by simpa using hf
  refine ⟨.func (.func f) #[] (CS.map a.eval), ?_, ⟨_, rfl, by simpa using h1⟩⟩
  simp only [execOp, ho]
  exact run_v (P := P) w (by simp [Instr.makeFunc, pure, Sem.run])
 ·simp at h
theorem does_ex {x : Opd} {i : Nat} (h : mOp P o (.ex x i) = true) (hE : EnvR m env a.tmps) (hv : pureOp env (.ex x i) = some v) : Does P o a m v w := by
 simp only [mOp] at h
 split at h
 ·rename_i X j ho
  simp only [Bool.and_eq_true, beq_iff_eq] at h
  obtain ⟨hx, rfl⟩ := h
  have h1 := mO_ok hx hE
  simp only [pureOp] at hv
  split at hv
  ·rename_i vs e1
   rw [e1] at h1; obtain ⟨us, he, hs⟩ := h1
   obtain ⟨hi, hvi⟩ := zS hv
   obtain ⟨u, hu, hr⟩ := hs.at i hi
   have : vs.getD i .und = v := by rw [zD, hv]; rfl
   rw [this] at hr
   have hu' : us[i]? = some u := by simpa using hu
   refine ⟨u, ?_, hr⟩
   simp only [execOp, ho]
   exact run_v (P := P) w (by simp [Instr.extract, he, hu', pure, Sem.run])
  ·simp at hv
 ·simp at h
theorem does_fa {off : Nat} {x : Opd} (h : mOp P o (.fa off x) = true) (hE : EnvR m env a.tmps) (hv : pureOp env (.fa off x) = some v) : Does P o a m v w := by
 simp only [mOp] at h
 split at h
 ·rename_i T X f ho
  simp only [Bool.and_eq_true] at h
  obtain ⟨hx, hT⟩ := h
  have h1 := mO_ok hx hE
  have hu : ∃ fields fd i, P.underlying T = some (.struct fields) /\ fields[f]? = some fd /\ fd.offset = off /\ P.info? fd.type = some i /\ i.size ≠ 0 := by
   revert hT
   cases hu : P.underlying T with
   | none => simp
   | some d =>
    cases d <;> simp
    rename_i fields
    cases hf : fields[f]? with
    | none => simp
    | some fd =>
     simp
     cases hi : P.info? fd.type with
     | none => simp
     | some i => simp; exact fun e1 e2 => ⟨e1, e2⟩
  obtain ⟨fields, fd, i, hu, hf, rfl, hi, hz⟩ := hu
  simp only [pureOp] at hv
  split at hv
  ·rename_i l p e1
   rw [e1] at h1; obtain ⟨j, hm, he⟩ := h1
   simp only [zJ] at hv; subst hv
   refine ⟨_, ?_, ⟨j, hm, rfl⟩⟩
   simp only [execOp, ho]
   refine run_v (P := P) w ?_
   simp [Instr.fieldAt, Instr.sureAddr, fieldPlace, sizeOf, typeInfo, Sem.run_bind, run_underlying hu, Result.andThen, hf, he, hi, hz, pure, Sem.run, Addr.add_lit, Nat.add_assoc]
  ·simp at hv
 ·simp at h
end
end
section
theorem VRs.splice {m : Map} {cs ds : List AV} {vs us : List Value} (o : Nat) (h : VRs m cs vs) (h' : VRs m ds us) : VRs m (splice cs o ds) (vs.take o ++ us ++ vs.drop (o + us.length)) := by
 unfold YtbpdhmbdpjafeaaGreatH.splice
 rw [h'.length]
 exact ((h.take o).append h').append (h.drop _)
theorem foldl_set (vs : List Value) : ∀ (k off : Nat) (cs : Array Value), off + k + vs.length <= cs.size ->
  ((vs.zipIdx k).foldl (fun cs (c, j) => cs.setIfInBounds (off + j) c) cs).toList = cs.toList.take (off + k) ++ vs ++ cs.toList.drop (off + k + vs.length) := by
 induction vs with
 | nil => intro k off cs h; simp
 | cons v vs ih =>
  intro k off cs h
  simp only [List.length_cons] at h
  have hlt : off + k < cs.size := by omega
  simp only [List.zipIdx_cons, List.foldl_cons]
  rw [ih (k + 1) off _ (by simp; omega)]
  simp only [Array.toList_setIfInBounds]
  have hp : off + k < cs.toList.length := by simpa using hlt
  have hcl : cs.toList.length = cs.size := Array.length_toList
  have e1 : (cs.toList.set (off + k) v).take (off + (k + 1)) = cs.toList.take (off + k) ++ [v] := by
   rw [List.set_eq_take_append_cons_drop, if_pos hp, show off + (k + 1) = (cs.toList.take (off + k)).length + 1 by rw [List.length_take]; omega, List.take_length_add_append]
   simp
  have e2 : (cs.toList.set (off + k) v).drop (off + (k + 1) + vs.length) = cs.toList.drop (off + (k + 1) + vs.length) := by
   rw [List.drop_set, if_pos (by omega)]
  rw [e1, e2, show off + (k + 1) + vs.length = off + k + (vs.length + 1) by omega]
  simp only [List.append_assoc, List.singleton_append, List.cons_append, List.length_cons, List.nil_append]
theorem lay_ok {m : Map} {env : Env} {a : Act} (places : Nat -> Option (Nat × Nat)) (hE : EnvR m env a.tmps) : ∀ (ps : List (Nat × Nat × Opd)) (qs : List (Nat × Operand)) (cs cs' : List AV) (vs : Array Value),
  partsOk places ps qs = true -> layAll env cs ps = some cs' -> VRs m cs vs.toList -> ∃ vs' : Array Value, Instr.fill places vs (qs.map fun (i, x) => (i, a.eval x)) = some vs' /\ VRs m cs' vs'.toList
 | [], [], cs, cs', vs, _, h, hr => by
  simp only [layAll, zJ] at h; subst h
  exact ⟨vs, rfl, hr⟩
 | [], _ :: _, _, _, _, h, _, _ => by simp [partsOk] at h
 | _ :: _, [], _, _, _, h, _, _ => by simp [partsOk] at h
 | (o, n, x) :: ps, (i, X) :: qs, cs, cs', vs, hp, h, hr => by
  simp only [partsOk, Bool.and_eq_true] at hp
  obtain ⟨⟨hx, hpl⟩, hrest⟩ := hp
  simp only [layAll] at h
  split at h
  ·rename_i hc
   obtain ⟨hn, hle, h1⟩ := hc
   have hv := mO_ok hx hE
   have hcs := hv.cells (fun y hy => by simpa using (List.all_eq_true.1 h1) y hy)
   have hpl' : places i = some (o, n) := by
    revert hpl
    cases places i with
    | none => simp
    | some q => obtain ⟨o', n'⟩ := q; simp; exact fun e1 e2 => ⟨e1.symm, e2.symm⟩
   have hsz : (a.eval X).cells.size = n := by rw [<- hn, <- hcs.length]; simp
   have hvl : vs.size = cs.length := by rw [<- hr.length]; simp
   have hl : o + (a.eval X).cells.size <= vs.size := by omega
   have hfold := foldl_set (a.eval X).cells.toList 0 o vs (by simpa using hl)
   obtain ⟨vs', hf, hr'⟩ := lay_ok places hE ps qs (splice cs o (x.ev env).cells) cs' ((a.eval X).cells.toList.zipIdx.foldl (fun cs (c, j) => cs.setIfInBounds (o + j) c) vs) hrest h (by
    rw [hfold]
    have := hr.splice o hcs
    simpa using this)
   refine ⟨vs', ?_, hr'⟩
   simp only [List.map_cons, Instr.fill, hpl']
   rw [if_neg (by simp; omega)]
   rw [<- hf]
   congr 1
   rw [<- Array.foldl_toList, Array.toList_zipIdx]
  ·simp at h
section
variable {P : Program} {o : Oper} {env : Env} {a : Act} {m : Map} {v : AV} (w : World)
theorem run_bound {y : Nat} {c : AV} {V : Value} {i : Nat} (code : BoundsCode) (h : bnd y c = some i) (hr : VR m c V) : (Instr.sliceBound V y code).run P w = .ok i w := by
 unfold bnd at h
 split at h
 ·rename_i k n
  simp only [VR] at hr; subst hr
  split at h
  ·rename_i hc
   simp only [zJ] at h; subst h
   simp only [Instr.sliceBound, asIntOf, run_pure_bind, if_pos hc]; rfl
  ·simp at h
 ·simp at h
theorem bnd_le {y : Nat} {c : AV} {i : Nat} (h : bnd y c = some i) : i <= y := by
 unfold bnd at h
 split at h
 ·split at h
  ·simp only [zJ] at h; omega
  ·simp at h
 ·simp at h
theorem run_bounds {s : Bool} {n c h l : Nat} {L H : Option Value} (hh : (match H with | some v => Instr.sliceBound v c (if s then .sliceAcap else .sliceAlen) | none => (pure n : Sem Nat)).run P w = .ok h w)
    (hl : (match L with | some v => Instr.sliceBound v h .sliceB | none => (pure 0 : Sem Nat)).run P w = .ok l w) : (Instr.sliceBounds s n c L H none).run P w = .ok (l, h, c) w := by
  cases H with
  | none =>
    have e : n = h := by simpa [pure, Sem.run] using hh
    subst e
    cases L with
    | none =>
      have e : 0 = l := by simpa [pure, Sem.run] using hl
      subst e
      simp [Instr.sliceBounds, pure, Sem.run]
    | some v => simp only at hl; simp only [Instr.sliceBounds, Sem.run_bind, Sem.run_pure, Option.isSome_none, Bool.false_eq_true, if_false, hl, Result.andThen_ok]
  | some u =>
    simp only at hh
    cases L with
    | none =>
      have e : 0 = l := by simpa [pure, Sem.run] using hl
      subst e
      simp only [Instr.sliceBounds, Sem.run_bind, Sem.run_pure, hh, Result.andThen_ok]
    | some v => simp only at hl; simp only [Instr.sliceBounds, Sem.run_bind, Sem.run_pure, Option.isSome_none, Bool.false_eq_true, if_false, hh, hl, Result.andThen_ok]
theorem run_oBound {y n : Nat} {x : Option Opd} {X : Option Operand} {i : Nat} (code : BoundsCode) (h : obnd env y n x = some i) (hx : mOo x X = true) (hE : EnvR m env a.tmps) :
  (match X.map a.eval with | some v => Instr.sliceBound v y code | none => (pure n : Sem Nat)).run P w = .ok i w := by
 cases x with
 | none =>
  cases X with
  | none => simp only [obnd, zJ] at h; subst h; rfl
  | some Y => simp [mOo] at hx
 | some z =>
  cases X with
  | none => simp [mOo] at hx
  | some Y => exact run_bound (P := P) (m := m) w _ h (mO_ok hx hE)
theorem does_sst {x : Opd} {lo hi : Option Opd} (h : mOp P o (.sst x lo hi) = true) (hE : EnvR m env a.tmps) (hv : pureOp env (.sst x lo hi) = some v) : Does P o a m v w := by
 simp only [mOp] at h
 split at h
 ·rename_i T X L H ho
  simp only [Bool.and_eq_true] at h
  obtain ⟨⟨⟨hx, hl⟩, hh⟩, hT⟩ := h
  have hu : P.underlying T = some .string := by
   revert hT; cases P.underlying T with
   | none => simp
   | some d => cases d <;> simp
  have h1 := mO_ok hx hE
  simp only [pureOp] at hv
  split at hv
  ·rename_i s e1
   rw [e1] at h1; obtain ⟨b, he, rfl⟩ := h1
   have hsz : b.data.toList.length = b.size := by rw [Array.length_toList]; rfl
   rw [hsz] at hv
   split at hv
   ·rename_i h' eh
    split at hv
    ·rename_i l' el
     simp only [zJ] at hv; subst hv
     have bounds := run_bounds (P := P) w (s := false) (run_oBound (P := P) (m := m) w _ eh hh hE) (run_oBound (P := P) (m := m) w _ el hl hE)
     refine ⟨.string (b.extract l' h'), ?_, ⟨_, rfl, ?_⟩⟩
     ·simp only [execOp, ho]
      refine run_v (P := P) w ?_
      simp only [Instr.sliceAt, Sem.run_bind, run_underlying hu, Result.andThen, Instr.slice, he, Option.map_none, Option.isSome_none, Bool.false_eq_true, if_false, bounds]
      rfl
     ·rw [Lib.extract_data, List.drop_take]
    ·simp at hv
   ·simp at hv
  ·simp at hv
 ·simp at h
theorem isSl_ok {T : TypeId} {e : Nat} (h : isSl P T e = true) : ∃ E i, P.underlying T = some (.slice E) /\ P.info? E = some i /\ i.size = e := by
 unfold isSl at h
 split at h
 ·rename_i E hu
  split at h
  ·rename_i i hi
   exact ⟨E, i, hu, hi, by simpa using h⟩
  ·simp at h
 ·simp at h
theorem run_sizeOf {E : TypeId} {i : TypeInfo} (hi : P.info? E = some i) : (sizeOf E).run P w = .ok i.size w := by simp [sizeOf, typeInfo, hi]
theorem does_ia {e : Nat} {x i : Opd} (h : mOp P o (.ia e x i) = true) (hE : EnvR m env a.tmps) (hv : pureOp env (.ia e x i) = some v) : Does P o a m v w := by
 simp only [mOp] at h
 split at h
 ·rename_i T X I ho
  simp only [Bool.and_eq_true] at h
  obtain ⟨⟨hx, hi⟩, hT⟩ := h
  obtain ⟨E, inf, hu, hinf, rfl⟩ := isSl_ok hT
  have h1 := mO_ok hx hE
  have h2 := mO_ok hi hE
  simp only [pureOp] at hv
  split at hv
  ·rename_i l o' n e' x' k j e1 e2
   rw [e1] at h1; rw [e2] at h2
   obtain ⟨q, ad, cap, hm, he, hcap, _, _, _, _, had, _⟩ := h1
   simp only [VR] at h2
   split at hv
   ·rename_i hc
    obtain ⟨rfl, hj0, hj⟩ := hc
    simp only [zJ] at hv; subst hv
    have hadr : ad = ⟨q.b, q.off + o', none⟩ := had (by omega)
    subst hadr
    refine ⟨_, ?_, ⟨q, hm, rfl⟩⟩
    simp only [execOp, ho]
    refine run_v (P := P) w ?_
    simp only [Instr.indexAt, h2, asIntOf, run_pure_bind, Sem.run_bind, run_underlying hu, Result.andThen_ok, he, if_pos (And.intro hj0 hj), run_sizeOf w hinf, Addr.add_lit, Nat.add_assoc]
    simp [pure, Sem.run, Addr.add_lit, Nat.add_assoc, Sem.run_bind, run_underlying hu, run_sizeOf w hinf, hj0, hj]
   ·simp at hv
  ·simp at hv
 ·simp at h
theorem does_ix {x i : Opd} (h : mOp P o (.ix x i) = true) (hE : EnvR m env a.tmps) (hv : pureOp env (.ix x i) = some v) : Does P o a m v w := by
 simp only [mOp] at h
 split at h
 ·rename_i T X I ho
  simp only [Bool.and_eq_true] at h
  obtain ⟨⟨hx, hi⟩, hT⟩ := h
  have hu : P.underlying T = some .string := by
   revert hT; cases P.underlying T with
   | none => simp
   | some d => cases d <;> simp
  have h1 := mO_ok hx hE
  have h2 := mO_ok hi hE
  simp only [pureOp] at hv
  split at hv
  ·rename_i s k j e1 e2
   rw [e1] at h1; rw [e2] at h2
   obtain ⟨b, he, rfl⟩ := h1
   simp only [VR] at h2
   split at hv
   ·rename_i hj0
    obtain ⟨c, hc, rfl⟩ := zM hv
    have hb : b[j.toNat]? = some c := by
     obtain ⟨hlt, he⟩ := zS hc
     have hlt' : j.toNat < b.size := by rw [Array.length_toList] at hlt; exact hlt
     rw [getElem?_pos b j.toNat hlt', <- he]
     rfl
    refine ⟨_, ?_, rfl⟩
    simp only [execOp, ho]
    refine run_v (P := P) w ?_
    simp only [Instr.index, h2, asIntOf, Sem.run_pure, Sem.run_bind, run_underlying hu, Result.andThen_ok, he, if_pos hj0, hb]
   ·simp at hv
  ·simp at hv
 ·simp at h
theorem mCs_ok {m : Map} : ∀ {zs : List AV} {vs : List Value}, isSlB.mCs zs vs = true -> VRs m zs vs
 | [], [], _ => by simp [VRs]
 | x :: xs, y :: ys, h => by
  simp only [isSlB.mCs, Bool.and_eq_true] at h
  exact ⟨_, _, rfl, mC_ok h.1, mCs_ok h.2⟩
 | [], _ :: _, h => by simp [isSlB.mCs] at h
 | _ :: _, [], h => by simp [isSlB.mCs] at h
theorem zeroOk_ok {T : TypeId} {zs : List AV} (h : zeroOk P T zs = true) : ∃ i z, P.info? T = some i /\ i.zero = some z /\ ∀ m, VRs m zs z.cells.toList := by
 unfold zeroOk at h
 split at h
 ·rename_i i hi
  split at h
  ·rename_i z hz
   exact ⟨i, z, hi, hz, fun m => mCs_ok h⟩
  ·simp at h
 ·simp at h
theorem does_bld {zs : List AV} {ps : List (Nat × Nat × Opd)} (h : mOp P o (.bld zs ps) = true) (hE : EnvR m env a.tmps) (hv : pureOp env (.bld zs ps) = some v) : Does P o a m v w := by
 simp only [mOp] at h
 split at h
 ·rename_i T parts ho
  simp only [Bool.and_eq_true] at h
  obtain ⟨hz, hT⟩ := h
  obtain ⟨it, z, hit, hzz, hzr⟩ := zeroOk_ok hz
  have hu : ∃ fields places, P.underlying T = some (.struct fields) /\ fields.toList.mapM (fun f => (P.info? f.type).map fun i => (f.offset, i.size)) = some places /\ partsOk (fun i => places[i]?) ps parts.toList = true := by
   revert hT
   cases hu : P.underlying T with
   | none => simp
   | some d =>
    cases d <;> simp
    rename_i fields
    unfold fieldPlaces
    cases hf : fields.toList.mapM (fun f => (P.info? f.type).map fun i => (f.offset, i.size)) with
    | none => simp
    | some places => simp
  obtain ⟨fields, places, hu, hpl, hps⟩ := hu
  simp only [pureOp] at hv
  obtain ⟨cs', hcs, rfl⟩ := zM hv
  obtain ⟨vs', hf, hr⟩ := lay_ok (a := a) (fun i => places[i]?) hE ps parts.toList zs cs' z.cells hps hcs (hzr m)
  refine ⟨.agg vs', ?_, ⟨vs', rfl, hr⟩⟩
  simp only [execOp, ho]
  refine run_v (P := P) w ?_
  refine run_build w T _ vs' ?_
  simp only [Program.built, hit, hu, hzz, hpl]
  simpa using hf
 ·simp at h
theorem does_pure {c : COp} (hns : ∀ e x lo hi mx, c ≠ .sls e x lo hi mx) (h : mOp P o c = true) (hE : EnvR m env a.tmps) (hv : pureOp env c = some v) : Does P o a m v w := by
 cases c with
 | mv => exact does_mv w h hE hv
 | pick => exact does_pick w h hE hv
 | bin => exact does_bin w h hE hv
 | beq => exact does_beq w h hE hv
 | eqs => exact does_eqs w h hE hv
 | neg => exact does_neg w h hE hv
 | not => exact does_not w h hE hv
 | isnil => exact does_isnil w h hE hv
 | len => exact does_len w h hE hv
 | lens => exact does_lens w h hE hv
 | max => exact does_max w h hE hv
 | conv => exact does_conv w h hE hv
 | sls => exact absurd rfl (hns _ _ _ _ _)
 | sst => exact does_sst w h hE hv
 | fa => exact does_fa w h hE hv
 | ia => exact does_ia w h hE hv
 | ix => exact does_ix w h hE hv
 | nc => exact does_nc w h hE hv
 | fn => exact does_fn w h hE hv
 | ex => exact does_ex w h hE hv
 | bld => exact does_bld w h hE hv
 | cap => exact does_cap w h hE hv
 | _ => simp [pureOp] at hv
end
end
section
def orX (X Y : Ext) : Ext := fun f args H v H' => X f args H v H' \/ Y f args H v H'
def srtL (zs : List Int) : List Int := zs.mergeSort fun x y => decide (x <= y)
def compactL : List Int -> List Int
 | [] => []
 | [a] => [a]
 | a :: b :: r => if a = b then compactL (b :: r) else a :: compactL (b :: r)
theorem compactL_len : ∀ l : List Int, (compactL l).length <= l.length
 | [] => Nat.le_refl _
 | [a] => Nat.le_refl _
 | a :: b :: r => by
  have := compactL_len (b :: r)
  rw [compactL]; split <;> simp at this ⊢ <;> omega
def sortX (fs : Nat) : Ext := fun f args H v H' => f = fs /\ v = .tup [] /\
 ((H' = H /\ ∃ a, args = [a] /\ (a = .nils \/ ∃ l o e x, a = .sl l o 0 e x)) \/ ∃ l o, ∃ zs : List Int, args = [.sl l o zs.length 1 false] /\ zs.length < 4611686018427387904 /\ 0 < zs.length /\ H.rd l o zs.length = some (zs.map fun n => .int .i64 n) /\ H.wr l o ((srtL zs).map fun n => .int .i64 n) = some H')
def compX (fc : Nat) : Ext := fun f args H v H' => f = fc /\
  ((H' = H /\ args = [v] /\ (v = .nils \/ ∃ l o e x, v = .sl l o 0 e x)) \/ ∃ l, ∃ zs : List Int, ∃ H1 : Heap, args = [.sl l 0 zs.length 1 false] /\ zs.length <= 9223372036854775807 /\ 0 < zs.length /\ H.rd l 0 zs.length = some (zs.map fun n => .int .i64 n) /\
     H.wr l 0 ((compactL zs ++ List.replicate (zs.length - (compactL zs).length) 0).map fun n => .int .i64 n) = some H1 /\ H' = (H1.kill l).new ((H1.get l).cells.take (compactL zs).length) /\ v = .sl H1.sz 0 (compactL zs).length 1 false)
abbrev X0 : Ext := (orX (sortX 86) (compX 122))
def Tabs (_ : Nat) (_ : World) : Prop := True
theorem Tabs.on {base : Nat} {w w' : World} (_ : Tabs base w) (_ : ∀ b, b < base -> w'.heap[b]? = w.heap[b]?) : Tabs base w' := trivial
end
section
structure Rel (base : Nat) (m : Map) (H : Heap) (w : World) : Prop where
 dom : ∀ l i, m l = some i -> l < H.sz
 size : base <= w.heap.size
 cells : ∀ l i, m l = some i -> (H.get l).st ≠ .dead -> (H.get l).cells.length = i.n /\ ∀ j, j < i.n -> ∃ v, w.cell? ⟨i.b, i.off + j, none⟩ = some v /\ VR m ((H.get l).cells.getD j .und) v
 own : ∀ l i, m l = some i -> (H.get l).st = .own -> base <= i.b /\ i.off + i.n <= i.bsz /\ (∃ arr T fz, w.heap[i.b]? = some (.cells arr T fz) /\ arr.size = i.bsz) /\ ∀ off, w.frozen? ⟨i.b, off, none⟩ = false
 ro : ∀ l i, m l = some i -> (H.get l).st = .ro -> 0 < i.n -> i.b < base
 sep : ∀ l l' i i', m l = some i -> m l' = some i' -> l ≠ l' -> (H.get l).st = .own -> (H.get l').st = .own -> i.b ≠ i'.b
 tab : Tabs base w
structure Frame (m : Map) (H : Heap) (w w' : World) : Prop where
 os : w'.os = w.os
 tape : w'.tape = w.tape
 output : w'.output = w.output
 size : w.heap.size <= w'.heap.size
 block : ∀ b, b < w.heap.size -> (∀ l i, m l = some i -> (H.get l).st = .own -> i.b ≠ b) -> w'.heap[b]? = w.heap[b]?
structure Ok (base : Nat) (m : Map) (H : Heap) (w : World) (m' : Map) (H' : Heap) (w' : World) : Prop where
 rel : Rel base m' H' w'
 le : MLe m m'
 sz : H.sz <= H'.sz
 un : ∀ l, l < H.sz -> m l = none -> m' l = none /\ H'.get l = H.get l
 fr : Frame m H w w'
 ow : ∀ l i, m' l = some i -> (H'.get l).st = .own -> w.heap.size <= i.b \/ ∃ l0 i0, m l0 = some i0 /\ (H.get l0).st = .own /\ i0.b = i.b
theorem MLe.refl (m : Map) : MLe m m := fun _ _ h => h
theorem MLe.trans {m m' m'' : Map} (h : MLe m m') (h' : MLe m' m'') : MLe m m'' := fun _ _ e => h' _ _ (h _ _ e)
theorem Frame.refl (m : Map) (H : Heap) (w : World) : Frame m H w w := ⟨rfl, rfl, rfl, Nat.le_refl _, fun _ _ _ => rfl⟩
theorem Ok.refl {base : Nat} {m : Map} {H : Heap} {w : World} (h : Rel base m H w) : Ok base m H w m H w :=
 ⟨h, MLe.refl _, Nat.le_refl _, fun _ _ e => ⟨e, rfl⟩, Frame.refl _ _ _, fun l i e h => .inr ⟨l, i, e, h, rfl⟩⟩
theorem Ok.trans {base : Nat} {m m1 m2 : Map} {H H1 H2 : Heap} {w w1 w2 : World} (h : Ok base m H w m1 H1 w1) (h' : Ok base m1 H1 w1 m2 H2 w2) : Ok base m H w m2 H2 w2 := by
 refine ⟨h'.rel, h.le.trans h'.le, Nat.le_trans h.sz h'.sz, fun l hl e => ?_, ⟨h'.fr.os.trans h.fr.os, h'.fr.tape.trans h.fr.tape, h'.fr.output.trans h.fr.output, Nat.le_trans h.fr.size h'.fr.size, fun b hb hn => ?_⟩, fun l i e ho => ?_⟩
 ·obtain ⟨e1, g1⟩ := h.un l hl e
  obtain ⟨e2, g2⟩ := h'.un l (Nat.lt_of_lt_of_le hl h.sz) e1
  exact ⟨e2, g2.trans g1⟩
 ·rw [h'.fr.block b (Nat.lt_of_lt_of_le hb h.fr.size) fun l i e ho => ?_, h.fr.block b hb hn]
  rcases h.ow l i e ho with h1 | ⟨l0, i0, e0, ho0, hb0⟩
  ·omega
  ·rw [<- hb0]; exact hn l0 i0 e0 ho0
 ·rcases h'.ow l i e ho with h1 | ⟨l0, i0, e0, ho0, hb0⟩
  ·exact .inl (Nat.le_trans h.fr.size h1)
  ·rw [<- hb0]; exact h.ow l0 i0 e0 ho0
theorem EnvR.mono {m m' : Map} {env : Env} {ts : Array Value} (h : MLe m m') (hE : EnvR m env ts) : EnvR m' env ts := fun i => VR.mono h (hE i)
theorem Rel.rd {base : Nat} {m : Map} {H : Heap} {w : World} (h : Rel base m H w) {l o n : Nat} {i : Inf} {vs : List AV} (hm : m l = some i) (hr : H.rd l o n = some vs) :
  vs.length = n /\ o + n <= i.n /\ ∃ us : List Value, us.length = n /\ VRs m vs us /\ ∀ j v, us[j]? = some v -> w.cell? ⟨i.b, i.off + o + j, none⟩ = some v := by
 unfold Heap.rd at hr
 split at hr
 ·rename_i hc
  obtain ⟨hst, hl, hle⟩ := hc
  simp only [zJ] at hr; subst hr
  obtain ⟨hlen, hcs⟩ := h.cells l i hm hst
  rw [hlen] at hle
  have hvl : (((H.get l).cells.drop o).take n).length = n := by rw [List.length_take, List.length_drop]; omega
  refine ⟨hvl, hle, (List.range n).map fun j => (w.cell? ⟨i.b, i.off + o + j, none⟩).getD undef, by simp, ?_, ?_⟩
  ·refine VRs.of (by simp [hvl]) fun j v hv => ?_
   have hj : j < n := by
    rcases Nat.lt_or_ge j n with hj | hj
    ·exact hj
    ·rw [List.getElem?_eq_none (by simpa using hj)] at hv; simp at hv
   obtain ⟨u, hu, hr⟩ := hcs (o + j) (by omega)
   rw [<- Nat.add_assoc] at hu
   simp only [List.getElem?_map, List.getElem?_range hj, Option.map_some, hu, Option.getD_some, zJ] at hv
   subst hv
   have e : (((H.get l).cells.drop o).take n).getD j .und = (H.get l).cells.getD (o + j) .und := by
    simp only [zD, List.getElem?_take, if_pos hj, List.getElem?_drop]
   rw [e]; exact hr
  ·intro j v hv
   have hj : j < n := by
    rcases Nat.lt_or_ge j n with hj | hj
    ·exact hj
    ·rw [List.getElem?_eq_none (by simpa using hj)] at hv; simp at hv
   obtain ⟨u, hu, hr⟩ := hcs (o + j) (by omega)
   rw [<- Nat.add_assoc] at hu
   simp only [List.getElem?_map, List.getElem?_range hj, Option.map_some, hu, Option.getD_some, zJ] at hv
   rw [hu, hv]
 ·simp at hr
theorem Rel.rd0 {base : Nat} {m : Map} {H : Heap} {w : World} (h : Rel base m H w) {l o n : Nat} {i : Inf} {vs : List AV} (hm : m l = some i) (hi : o + n <= i.n) (hr : H.rd0 l o n = some vs) :
  vs.length = n /\ o + n <= i.n /\ ∃ us : List Value, us.length = n /\ VRs m vs us /\ ∀ j v, us[j]? = some v -> w.cell? ⟨i.b, i.off + o + j, none⟩ = some v := by
 unfold Heap.rd0 at hr
 split at hr
 ·rename_i hn
  subst hn
  simp only [zJ] at hr
  subst hr
  exact ⟨rfl, hi, [], rfl, rfl, by simp⟩
 ·exact h.rd hm hr
theorem cell_of_heap {w w' : World} {b : Nat} (h : w'.heap[b]? = w.heap[b]?) (o : Nat) : w'.cell? ⟨b, o, none⟩ = w.cell? ⟨b, o, none⟩ := by unfold World.cell?; simp only [h]
theorem frozen_of_heap {w w' : World} {b : Nat} (h : w'.heap[b]? = w.heap[b]?) (o : Nat) : w'.frozen? ⟨b, o, none⟩ = w.frozen? ⟨b, o, none⟩ := by unfold World.frozen?; simp only [h]
def Map.add (m : Map) (l : Nat) (i : Inf) : Map := fun k => if k = l then some i else m k
theorem MLe.add {m : Map} {l : Nat} {i : Inf} (h : m l = none) : MLe m (m.add l i) := by
 intro k j e
 unfold Map.add
 rw [if_neg]
 ·exact e
 ·rintro rfl; rw [h] at e; simp at e
theorem Rel.fresh {base : Nat} {m : Map} {H : Heap} {w : World} (h : Rel base m H w) : m H.sz = none := by
 cases hm : m H.sz with
 | none => rfl
 | some i => exact absurd (h.dom _ _ hm) (Nat.lt_irrefl _)
theorem Ok.new {base : Nat} {m : Map} {H : Heap} {w w' : World} (h : Rel base m H w) {cs : List AV} {arr : Array Value} {T : TypeId} {rest : List Value} {us : List Value} (hcs : VRs m cs us) (harr : arr.toList = us ++ rest)
  (hw : w'.heap = w.heap.push (.cells arr T (0, 0))) (ho : w'.os = w.os) (ht : w'.tape = w.tape) (hu : w'.output = w.output) :
  Ok base m H w (m.add H.sz ⟨w.heap.size, 0, cs.length, arr.size⟩) (H.new cs) w' := by
 have hle : MLe m (m.add H.sz ⟨w.heap.size, 0, cs.length, arr.size⟩) := MLe.add h.fresh
 have hold : ∀ b, b < w.heap.size -> w'.heap[b]? = w.heap[b]? := fun b hb => by rw [hw, Array.getElem?_push_lt hb, Array.getElem?_eq_getElem hb]
 have hnew : w'.heap[w.heap.size]? = some (.cells arr T (0, 0)) := by rw [hw]; simp
 have hsz : w'.heap.size = w.heap.size + 1 := by rw [hw]; simp
 have hul := hcs.length
 have hal : arr.size = us.length + rest.length := by rw [<- Array.length_toList, harr, List.length_append]
 have key : ∀ l i, m.add H.sz ⟨w.heap.size, 0, cs.length, arr.size⟩ l = some i -> (l = H.sz /\ i = ⟨w.heap.size, 0, cs.length, arr.size⟩) \/ (l ≠ H.sz /\ m l = some i) := by
  intro l i e
  unfold Map.add at e
  split at e
  ·rename_i hl; exact .inl ⟨hl, by simpa using e.symm⟩
  ·rename_i hl; exact .inr ⟨hl, e⟩
 have hg : ∀ l, l ≠ H.sz -> (H.new cs).get l = H.get l := fun l hl => by simp [Heap.new, hl]
 have hgn : (H.new cs).get H.sz = ⟨cs, .own⟩ := by simp [Heap.new]
 have hcl : ∀ j v, us[j]? = some v -> w'.cell? ⟨w.heap.size, 0 + j, none⟩ = some v := by
  intro j v hv
  unfold World.cell?
  simp only [hnew, Option.isSome_none, Bool.false_eq_true, if_false, Nat.zero_add]
  rw [<- Array.getElem?_toList, harr, List.getElem?_append_left (zS hv).1, hv]
 refine ⟨⟨?_, by rw [hsz]; have := h.size; omega, ?_, ?_, ?_, ?_, h.tab.on fun b hb => hold b (Nat.lt_of_lt_of_le hb h.size)⟩, hle, by simp [Heap.new], ?_, ⟨ho, ht, hu, by rw [hsz]; omega, fun b hb _ => hold b hb⟩, ?_⟩
 ·intro l i e
  rcases key l i e with ⟨rfl, _⟩ | ⟨_, e⟩
  ·simp [Heap.new]
  ·have := h.dom l i e; simp [Heap.new]; omega
 ·intro l i e hst
  rcases key l i e with ⟨rfl, rfl⟩ | ⟨hl, e⟩
  ·rw [hgn]
   refine ⟨rfl, fun j hj => ?_⟩
   obtain ⟨v, hv, hr⟩ := hcs.at j hj
   exact ⟨v, hcl j v hv, hr.mono hle⟩
  ·rw [hg l hl] at hst ⊢
   obtain ⟨h1, h2⟩ := h.cells l i e hst
   refine ⟨h1, fun j hj => ?_⟩
   obtain ⟨v, hv, hr⟩ := h2 j hj
   refine ⟨v, ?_, hr.mono hle⟩
   rw [cell_of_heap (hold _ (World.block_lt_of_cell? w _ hv)), hv]
 ·intro l i e hst
  rcases key l i e with ⟨rfl, rfl⟩ | ⟨hl, e⟩
  ·refine ⟨h.size, by simp; omega, ⟨arr, T, _, hnew, rfl⟩, fun off => ?_⟩
   unfold World.frozen?
   simp only [hnew]
   simp
  ·rw [hg l hl] at hst
   obtain ⟨h1, h2, ⟨ar, T', fz, h3, h4⟩, h5⟩ := h.own l i e hst
   have hb : i.b < w.heap.size := (Array.getElem?_eq_some_iff.1 h3).1
   exact ⟨h1, h2, ⟨ar, T', fz, by rw [hold _ hb, h3], h4⟩, fun off => by rw [frozen_of_heap (hold _ hb), h5]⟩
 ·intro l i e hst hn
  rcases key l i e with ⟨rfl, rfl⟩ | ⟨hl, e⟩
  ·rw [hgn] at hst; simp at hst
  ·rw [hg l hl] at hst; exact h.ro l i e hst hn
 ·intro l l' i i' e e' hne hst hst'
  rcases key l i e with ⟨rfl, rfl⟩ | ⟨hl, e⟩ <;> rcases key l' i' e' with ⟨rfl, rfl⟩ | ⟨hl', e'⟩
  ·exact absurd rfl hne
  ·rw [hg l' hl'] at hst'
   obtain ⟨_, _, ⟨ar, T', fz, h3, h4⟩, _⟩ := h.own l' i' e' hst'
   have hb : i'.b < w.heap.size := (Array.getElem?_eq_some_iff.1 h3).1
   simp; omega
  ·rw [hg l hl] at hst
   obtain ⟨_, _, ⟨ar, T', fz, h3, h4⟩, _⟩ := h.own l i e hst
   have hb : i.b < w.heap.size := (Array.getElem?_eq_some_iff.1 h3).1
   simp; omega
  ·rw [hg l hl] at hst; rw [hg l' hl'] at hst'
   exact h.sep l l' i i' e e' hne hst hst'
 ·intro l hl e
  have hne : l ≠ H.sz := by omega
  exact ⟨by unfold Map.add; rw [if_neg hne, e], hg l hne⟩
 ·intro l i e hst
  rcases key l i e with ⟨rfl, rfl⟩ | ⟨hl, e⟩
  ·exact .inl (Nat.le_refl _)
  ·rw [hg l hl] at hst; exact .inr ⟨l, i, e, hst, rfl⟩
theorem setCells_other (b : Nat) : ∀ (vs : List Value) (o : Nat) (w : World) (b' : Nat), b' ≠ b -> (w.setCells b o vs).heap[b']? = w.heap[b']?
 | [], _, _, _, _ => rfl
 | v :: vs, o, w, b', h => by
  rw [World.setCells, setCells_other b vs (o + 1) _ b' h]
  simp [World.setCell, Array.getElem?_modify, Ne.symm h]
theorem setCells_size (b : Nat) : ∀ (vs : List Value) (o : Nat) (w : World), (w.setCells b o vs).heap.size = w.heap.size
 | [], _, _ => rfl
 | v :: vs, o, w => by rw [World.setCells, setCells_size b vs]; simp
theorem setCells_os (b : Nat) : ∀ (vs : List Value) (o : Nat) (w : World), (w.setCells b o vs).os = w.os /\ (w.setCells b o vs).tape = w.tape /\ (w.setCells b o vs).output = w.output
 | [], _, _ => ⟨rfl, rfl, rfl⟩
 | v :: vs, o, w => by rw [World.setCells]; exact setCells_os b vs (o + 1) _
theorem setCells_shape (b : Nat) : ∀ (vs : List Value) (o : Nat) (w : World) (arr : Array Value) (T : TypeId) (fz : Nat × Nat), w.heap[b]? = some (.cells arr T fz) ->
  ∃ arr', (w.setCells b o vs).heap[b]? = some (.cells arr' T fz) /\ arr'.size = arr.size
 | [], _, _, arr, _, _, h => ⟨arr, h, rfl⟩
 | v :: vs, o, w, arr, T, fz, h => by
  rw [World.setCells]
  have h1 : (w.setCell ⟨b, o, none⟩ v).heap[b]? = some (.cells (arr.setIfInBounds o v) T fz) := by
   simp [World.setCell, Array.getElem?_modify, h]
  obtain ⟨arr', h2, h3⟩ := setCells_shape b vs (o + 1) _ _ T fz h1
  exact ⟨arr', h2, by simpa using h3⟩
theorem Ok.put {base : Nat} {m : Map} {H H' : Heap} {w : World} (h : Rel base m H w) {l o : Nat} {i : Inf} {cs : List AV} {us : List Value} (hm : m l = some i) (hw : H.wr l o cs = some H') (hcs : VRs m cs us) :
  (∀ j, j < us.length -> (w.cell? ⟨i.b, i.off + o + j, none⟩).isSome = true) /\ (∀ j, j < us.length -> w.frozen? ⟨i.b, i.off + o + j, none⟩ = false) /\ (∀ u ∈ us, u.oneCell' = true) /\
  Ok base m H w m H' (w.setCells i.b (i.off + o) us) := by
 unfold Heap.wr at hw
 split at hw
 ·rename_i hc
  obtain ⟨hst, hl, hle, h1⟩ := hc
  simp only [zJ] at hw; subst hw
  obtain ⟨hlen, hcells⟩ := h.cells l i hm (by rw [hst]; simp)
  obtain ⟨hb, hbs, ⟨arr, T, fz, hheap, harr⟩, hfz⟩ := h.own l i hm hst
  have hul := hcs.length
  rw [hlen] at hle
  have hsome : ∀ j, j < us.length -> (w.cell? ⟨i.b, i.off + o + j, none⟩).isSome = true := by
   intro j hj
   obtain ⟨v, hv, _⟩ := hcells (o + j) (by omega)
   rw [<- Nat.add_assoc] at hv
   simp [hv]
  have hone : ∀ u ∈ us, u.oneCell' = true := by
   intro u hu
   obtain ⟨j, hj, rfl⟩ := List.mem_iff_getElem.1 hu
   obtain ⟨v, hv, hr⟩ := hcs.at j (by omega)
   rw [zE hj, zJ] at hv; subst hv
   refine hr.one ?_
   have hjc : j < cs.length := by omega
   rw [zD, zE hjc]
   exact (List.all_eq_true.1 h1) _ (List.getElem_mem hjc)
  refine ⟨hsome, fun j _ => hfz _, hone, ?_⟩
  obtain ⟨eos, etape, eout⟩ := setCells_os i.b us (i.off + o) w
  have hg : ∀ k, k ≠ l -> (H.put l (splice (H.get l).cells o cs)).get k = H.get k := fun k hk => by simp [Heap.put, hk]
  have hgl : (H.put l (splice (H.get l).cells o cs)).get l = ⟨splice (H.get l).cells o cs, .own⟩ := by simp [Heap.put]
  have hst' : ∀ k, ((H.put l (splice (H.get l).cells o cs)).get k).st = (H.get k).st := by
   intro k
   by_cases hk : k = l
   ·subst hk; rw [hgl, hst]
   ·rw [hg k hk]
  obtain ⟨arr', hheap', harr'⟩ := setCells_shape i.b us (i.off + o) w arr T fz hheap
  refine ⟨⟨?_, by rw [setCells_size]; exact h.size, ?_, ?_, ?_, ?_, h.tab.on fun b hb' => setCells_other i.b us _ w b (by omega)⟩, MLe.refl _, Nat.le_refl _, ?_, ⟨eos, etape, eout, by rw [setCells_size]; exact Nat.le_refl _, ?_⟩, ?_⟩
  ·intro k j e; exact h.dom k j e
  ·intro k j e hs
   rw [hst'] at hs
   by_cases hk : k = l
   ·subst hk
    rw [hm] at e; simp only [zJ] at e; subst e
    rw [hgl]
    have hsl : (splice (H.get k).cells o cs).length = i.n := by unfold splice; simp only [List.length_append, List.length_take, List.length_drop]; omega
    refine ⟨hsl, fun q hq => ?_⟩
    by_cases hin : o <= q /\ q < o + cs.length
    ·obtain ⟨v, hv, hr⟩ := hcs.at (q - o) (by omega)
     have hlt : q - o < us.length := by omega
     have hin' := World.cell?_setCells_in i.b us (i.off + o) w (by intro p hp; exact hsome p hp) (q - o) hlt
     rw [show i.off + o + (q - o) = i.off + q by omega] at hin'
     refine ⟨v, ?_, ?_⟩
     ·rw [hin', <- hv, zE hlt]
     ·have e : (splice (H.get k).cells o cs).getD q .und = cs.getD (q - o) .und := by
       unfold splice
       simp only [zD]
       rw [List.append_assoc, List.getElem?_append_right (by rw [List.length_take]; omega), List.getElem?_append_left (by rw [List.length_take]; omega), List.length_take, show min o (H.get k).cells.length = o by omega]
      rw [e]; exact hr
    ·obtain ⟨v, hv, hr⟩ := hcells q hq
     refine ⟨v, ?_, ?_⟩
     ·rw [World.cell?_setCells_out i.b us (i.off + o) w _ (fun _ _ => by simp; omega), hv]
     ·have e : (splice (H.get k).cells o cs).getD q .und = (H.get k).cells.getD q .und := by
       unfold splice
       simp only [zD]
       by_cases hq1 : q < o
       ·rw [List.append_assoc, List.getElem?_append_left (by rw [List.length_take]; omega), List.getElem?_take, if_pos hq1]
       ·rw [List.getElem?_append_right (by rw [List.length_append, List.length_take]; omega), List.length_append, List.length_take, List.getElem?_drop]
        congr 2
        omega
      rw [e]; exact hr
   ·rw [hg k hk]
    obtain ⟨e1, e2⟩ := h.cells k j e hs
    refine ⟨e1, fun q hq => ?_⟩
    obtain ⟨v, hv, hr⟩ := e2 q hq
    refine ⟨v, ?_, hr⟩
    have hjb : j.b ≠ i.b := by
     cases hsk : (H.get k).st with
     | dead => exact absurd hsk hs
     | ro => have := h.ro k j e hsk (by omega); omega
     | own => exact h.sep k l j i e hm hk hsk hst
    rw [cell_of_heap (setCells_other i.b us (i.off + o) w j.b hjb), hv]
  ·intro k j e hs
   rw [hst'] at hs
   by_cases hk : k = l
   ·subst hk
    rw [hm] at e; simp only [zJ] at e; subst e
    exact ⟨hb, hbs, ⟨arr', T, fz, hheap', by omega⟩, fun off => by rw [World.frozen?_setCells, hfz]⟩
   ·obtain ⟨a1, a2, ⟨ar, T', fz', a3, a4⟩, a5⟩ := h.own k j e hs
    have hjb : j.b ≠ i.b := h.sep k l j i e hm hk hs hst
    exact ⟨a1, a2, ⟨ar, T', fz', by rw [setCells_other i.b us _ w j.b hjb, a3], a4⟩, fun off => by rw [World.frozen?_setCells, a5]⟩
  ·intro k j e hs hn; rw [hst'] at hs; exact h.ro k j e hs hn
  ·intro k k' j j' e e' hne hs hs'; rw [hst'] at hs hs'; exact h.sep k k' j j' e e' hne hs hs'
  ·intro k hk e
   refine ⟨e, hg k ?_⟩
   rintro rfl; rw [hm] at e; simp at e
  ·intro b hb' hn
   refine setCells_other i.b us _ w b ?_
   exact fun hbb => hn l i hm hst hbb.symm
  ·intro k j e hs; rw [hst'] at hs; exact .inr ⟨k, j, e, hs, rfl⟩
 ·simp at hw
theorem Ok.grow {base : Nat} {m : Map} {H : Heap} {w : World} (h : Rel base m H w) {l o : Nat} {i : Inf} {cs : List AV} {us : List Value} (hm : m l = some i) (hst : (H.get l).st = .own) (ho : o <= i.n)
  (hcs : VRs m cs us) (hone : ∀ c ∈ cs, c.one = true) (hroom : i.off + i.n + cs.length <= i.bsz) :
  (∀ j, j < us.length -> (w.cell? ⟨i.b, i.off + i.n + j, none⟩).isSome = true) /\ (∀ j, j < us.length -> w.frozen? ⟨i.b, i.off + i.n + j, none⟩ = false) /\ (∀ u ∈ us, u.oneCell' = true) /\
  Ok base m H w (m.add H.sz ⟨i.b, i.off + o, i.n - o + cs.length, i.bsz⟩) ((H.kill l).new ((H.get l).cells.drop o ++ cs)) (w.setCells i.b (i.off + i.n) us) := by
 obtain ⟨hlen, hcells⟩ := h.cells l i hm (by rw [hst]; simp)
 obtain ⟨hb, hbs, ⟨arr, T, fz, hheap, harr⟩, hfz⟩ := h.own l i hm hst
 have hul := hcs.length
 have hlsz := h.dom l i hm
 have hle : MLe m (m.add H.sz ⟨i.b, i.off + o, i.n - o + cs.length, i.bsz⟩) := MLe.add h.fresh
 have hsome : ∀ j, j < us.length -> (w.cell? ⟨i.b, i.off + i.n + j, none⟩).isSome = true := by
  intro j hj
  unfold World.cell?
  simp only [hheap, Option.isSome_none, Bool.false_eq_true, if_false]
  rw [Array.getElem?_eq_getElem (by omega)]; rfl
 have h1 : ∀ u ∈ us, u.oneCell' = true := by
  intro u hu
  obtain ⟨j, hj, rfl⟩ := List.mem_iff_getElem.1 hu
  obtain ⟨v, hv, hr⟩ := hcs.at j (by omega)
  rw [zE hj, zJ] at hv; subst hv
  refine hr.one ?_
  have hjc : j < cs.length := by omega
  rw [zD, zE hjc]
  exact hone _ (List.getElem_mem hjc)
 refine ⟨hsome, fun j _ => hfz _, h1, ?_⟩
 obtain ⟨eos, etape, eout⟩ := setCells_os i.b us (i.off + i.n) w
 obtain ⟨arr', hheap', harr'⟩ := setCells_shape i.b us (i.off + i.n) w arr T fz hheap
 have key : ∀ k j, m.add H.sz ⟨i.b, i.off + o, i.n - o + cs.length, i.bsz⟩ k = some j -> (k = H.sz /\ j = ⟨i.b, i.off + o, i.n - o + cs.length, i.bsz⟩) \/ (k ≠ H.sz /\ m k = some j) := by
  intro k j e
  unfold Map.add at e
  split at e
  ·rename_i hk; exact .inl ⟨hk, by simpa using e.symm⟩
  ·rename_i hk; exact .inr ⟨hk, e⟩
 have hksz : (H.kill l).sz = H.sz := rfl
 have hg : ∀ k, k ≠ l -> k ≠ H.sz -> ((H.kill l).new ((H.get l).cells.drop o ++ cs)).get k = H.get k := fun k h1 h2 => by simp [Heap.kill, Heap.new, h1, h2]
 have hgl : ((H.kill l).new ((H.get l).cells.drop o ++ cs)).get l = ⟨[], .dead⟩ := by
  have : l ≠ H.sz := by omega
  simp [Heap.kill, Heap.new, this]
 have hgn : ((H.kill l).new ((H.get l).cells.drop o ++ cs)).get H.sz = ⟨(H.get l).cells.drop o ++ cs, .own⟩ := by simp [Heap.kill, Heap.new]
 refine ⟨⟨?_, by rw [setCells_size]; exact h.size, ?_, ?_, ?_, ?_, h.tab.on fun b hb' => setCells_other i.b us _ w b (by omega)⟩, hle, by simp [Heap.kill, Heap.new], ?_, ⟨eos, etape, eout, by rw [setCells_size]; exact Nat.le_refl _, ?_⟩, ?_⟩
 ·intro k j e
  rcases key k j e with ⟨rfl, _⟩ | ⟨_, e⟩
  ·simp [Heap.kill, Heap.new]
  ·have := h.dom k j e; simp [Heap.kill, Heap.new]; omega
 ·intro k j e hs
  rcases key k j e with ⟨rfl, rfl⟩ | ⟨hk, e⟩
  ·rw [hgn]
   refine ⟨by simp only [List.length_append, List.length_drop, hlen], fun q hq => ?_⟩
   simp only at hq
   by_cases hin : q < i.n - o
   ·obtain ⟨v, hv, hr⟩ := hcells (o + q) (by omega)
    refine ⟨v, ?_, ?_⟩
    ·simp only
     rw [World.cell?_setCells_out i.b us (i.off + i.n) w _ (fun _ _ => by simp; omega), Nat.add_assoc, hv]
    ·have e : ((H.get l).cells.drop o ++ cs).getD q .und = (H.get l).cells.getD (o + q) .und := by
      simp only [zD]
      rw [List.getElem?_append_left (by rw [List.length_drop]; omega), List.getElem?_drop]
     rw [e]; exact hr.mono hle
   ·obtain ⟨v, hv, hr⟩ := hcs.at (q - (i.n - o)) (by omega)
    have hlt : q - (i.n - o) < us.length := by omega
    have hin' := World.cell?_setCells_in i.b us (i.off + i.n) w (by intro p hp; exact hsome p hp) (q - (i.n - o)) hlt
    rw [show i.off + i.n + (q - (i.n - o)) = i.off + o + q by omega] at hin'
    refine ⟨v, ?_, ?_⟩
    ·simp only
     rw [hin', <- hv, zE hlt]
    ·have e : ((H.get l).cells.drop o ++ cs).getD q .und = cs.getD (q - (i.n - o)) .und := by
      simp only [zD]
      rw [List.getElem?_append_right (by rw [List.length_drop]; omega), List.length_drop, hlen]
     rw [e]; exact hr.mono hle
  ·by_cases hkl : k = l
   ·subst hkl; rw [hgl] at hs; simp at hs
   ·rw [hg k hkl hk] at hs ⊢
    obtain ⟨e1, e2⟩ := h.cells k j e hs
    refine ⟨e1, fun q hq => ?_⟩
    obtain ⟨v, hv, hr⟩ := e2 q hq
    refine ⟨v, ?_, hr.mono hle⟩
    have hjb : j.b ≠ i.b := by
     cases hsk : (H.get k).st with
     | dead => exact absurd hsk hs
     | ro => have := h.ro k j e hsk (by omega); omega
     | own => exact h.sep k l j i e hm hkl hsk hst
    rw [cell_of_heap (setCells_other i.b us _ w j.b hjb), hv]
 ·intro k j e hs
  rcases key k j e with ⟨rfl, rfl⟩ | ⟨hk, e⟩
  ·exact ⟨hb, by simp only; omega, ⟨arr', T, fz, hheap', by simp only; omega⟩, fun off => by rw [World.frozen?_setCells, hfz]⟩
  ·by_cases hkl : k = l
   ·subst hkl; rw [hgl] at hs; simp at hs
   ·rw [hg k hkl hk] at hs
    obtain ⟨a1, a2, ⟨ar, T', fz', a3, a4⟩, a5⟩ := h.own k j e hs
    have hjb : j.b ≠ i.b := h.sep k l j i e hm hkl hs hst
    exact ⟨a1, a2, ⟨ar, T', fz', by rw [setCells_other i.b us _ w j.b hjb, a3], a4⟩, fun off => by rw [World.frozen?_setCells, a5]⟩
 ·intro k j e hs hn
  rcases key k j e with ⟨rfl, rfl⟩ | ⟨hk, e⟩
  ·rw [hgn] at hs; simp at hs
  ·by_cases hkl : k = l
   ·subst hkl; rw [hgl] at hs; simp at hs
   ·rw [hg k hkl hk] at hs; exact h.ro k j e hs hn
 ·intro k k' j j' e e' hne hs hs'
  rcases key k j e with ⟨rfl, rfl⟩ | ⟨hk, e⟩ <;> rcases key k' j' e' with ⟨rfl, rfl⟩ | ⟨hk', e'⟩
  ·exact absurd rfl hne
  ·by_cases hkl : k' = l
   ·subst hkl; rw [hgl] at hs'; simp at hs'
   ·rw [hg k' hkl hk'] at hs'
    exact (h.sep k' l j' i e' hm hkl hs' hst).symm
  ·by_cases hkl : k = l
   ·subst hkl; rw [hgl] at hs; simp at hs
   ·rw [hg k hkl hk] at hs
    exact h.sep k l j i e hm hkl hs hst
  ·by_cases hkl : k = l
   ·subst hkl; rw [hgl] at hs; simp at hs
   ·by_cases hkl' : k' = l
    ·subst hkl'; rw [hgl] at hs'; simp at hs'
    ·rw [hg k hkl hk] at hs; rw [hg k' hkl' hk'] at hs'
     exact h.sep k k' j j' e e' hne hs hs'
 ·intro k hk e
  have hne : k ≠ H.sz := by omega
  refine ⟨by unfold Map.add; rw [if_neg hne, e], hg k ?_ hne⟩
  rintro rfl; rw [hm] at e; simp at e
 ·intro b hb' hn
  refine setCells_other i.b us _ w b ?_
  exact fun hbb => hn l i hm hst hbb.symm
 ·intro k j e hs
  rcases key k j e with ⟨rfl, rfl⟩ | ⟨hk, e⟩
  ·exact .inr ⟨l, i, hm, hst, rfl⟩
  ·by_cases hkl : k = l
   ·subst hkl; rw [hgl] at hs; simp at hs
   ·rw [hg k hkl hk] at hs; exact .inr ⟨k, j, e, hs, rfl⟩
theorem Ok.kill {base : Nat} {m : Map} {H : Heap} {w : World} (h : Rel base m H w) (l : Nat) (hm : m l ≠ none) : Ok base m H w m (H.kill l) w := by
 have hg : ∀ k, k ≠ l -> (H.kill l).get k = H.get k := fun k h1 => by simp [Heap.kill, h1]
 have hgl : (H.kill l).get l = ⟨[], .dead⟩ := by simp [Heap.kill]
 have hk : ∀ k, ((H.kill l).get k).st ≠ .dead -> k ≠ l := by rintro k hk rfl; rw [hgl] at hk; exact hk rfl
 refine ⟨⟨h.dom, h.size, ?_, ?_, ?_, ?_, h.tab⟩, MLe.refl _, Nat.le_refl _, ?_, Frame.refl _ _ _, ?_⟩
 ·intro k i e hs; have hne := hk k hs; rw [hg k hne] at hs ⊢; exact h.cells k i e hs
 ·intro k i e hs; have hne := hk k (by rw [hs]; simp); rw [hg k hne] at hs; exact h.own k i e hs
 ·intro k i e hs; have hne := hk k (by rw [hs]; simp); rw [hg k hne] at hs; exact h.ro k i e hs
 ·intro k k' i i' e e' hne hs hs'
  have h1 := hk k (by rw [hs]; simp); have h2 := hk k' (by rw [hs']; simp)
  rw [hg k h1] at hs; rw [hg k' h2] at hs'; exact h.sep k k' i i' e e' hne hs hs'
 ·intro k hks e; exact ⟨e, hg k (by rintro rfl; exact hm e)⟩
 ·intro k i e hs; have hne := hk k (by rw [hs]; simp); rw [hg k hne] at hs; exact .inr ⟨k, i, e, hs, rfl⟩
end
section
section
variable {P : Program} {o : Oper} {env : Env} {a : Act} {base : Nat} {m : Map} {H H1 : Heap} {w : World} {v : AV}
def Acts (P : Program) (o : Oper) (a : Act) (base : Nat) (m : Map) (H : Heap) (w : World) (v : AV) (H1 : Heap) : Prop :=
 ∃ nx w' m' v', (execOp a.eval o).run P w = .ok nx w' /\ (nx = .value v' \/ (nx = .skip /\ v' = undef)) /\ VR m' v v' /\ Ok base m H w m' H1 w'
theorem Acts.of_value {w' : World} {m' : Map} {v' : Value} (h : (execOp a.eval o).run P w = .ok (.value v') w') (hv : VR m' v v') (hk : Ok base m H w m' H1 w') : Acts P o a base m H w v H1 :=
 ⟨_, w', m', v', h, .inl rfl, hv, hk⟩
theorem isAggT_ok {T : TypeId} {ag : Bool} {n : Nat} (h : isAggT P T ag n = true) : ∃ i, P.info? T = some i /\ i.size = n /\ (isAgg T).run P w = .ok ag w := by
 unfold isAggT at h
 split at h
 ·rename_i fs i hu hi
  simp only [Bool.and_eq_true, beq_iff_eq] at h
  obtain ⟨rfl, h2⟩ := h
  exact ⟨i, hi, h2, by simp [isAgg, Sem.run_bind, run_underlying hu]⟩
 ·simp at h
 ·rename_i d i hn1 hn2 hu hi
  simp only [Bool.and_eq_true, beq_iff_eq, Bool.not_eq_true'] at h
  obtain ⟨rfl, h2⟩ := h
  refine ⟨i, hi, h2, ?_⟩
  simp only [isAgg, Sem.run_bind, run_underlying hu, Result.andThen_ok]
  cases d <;> first | rfl | exact absurd rfl (hn1 _) | exact absurd rfl (hn2 _ _) | exact (hn1 _ _ hu hi).elim | exact (hn2 _ _ hu hi).elim | (exfalso; simp_all)
 ·simp at h
theorem acts_ld {n : Nat} {ag : Bool} {p : Opd} (h : mOp P o (.ld n ag p) = true) (hE : EnvR m env a.tmps) (hr : Rel base m H w) (hv : heapOp env H (.ld n ag p) = some (v, H1)) : Acts P o a base m H w v H1 := by
 simp only [mOp] at h
 split at h
 ·rename_i T X ho
  simp only [Bool.and_eq_true] at h
  obtain ⟨hx, hT⟩ := h
  obtain ⟨inf, hinf, hsize, hagg⟩ := isAggT_ok (w := w) hT
  have h1 := mO_ok hx hE
  simp only [heapOp] at hv
  split at hv
  ·rename_i l q e1
   rw [e1] at h1; obtain ⟨i, hm, he⟩ := h1
   obtain ⟨vs, hrd, hv⟩ := Option.bind_eq_some_iff.1 hv
   obtain ⟨hvl, hle, us, hul, hus, hcell⟩ := hr.rd hm hrd
   have hcell' : ∀ j u, us[j]? = some u -> w.cell? ((⟨i.b, i.off + q, none⟩ : Addr).add j) = some u := by
    intro j u hj; rw [Addr.add_lit]; exact hcell j u hj
   cases ag with
   | true =>
    simp only [if_true, zJ, zP] at hv
    obtain ⟨rfl, rfl⟩ := hv
    refine Acts.of_value (v' := .agg us.toArray) (w' := w) (m' := m) ?_ ⟨_, rfl, by simpa using hus⟩ (Ok.refl hr)
    simp only [execOp, ho]
    refine run_v (P := P) w ?_
    have hld := run_loadCells_list (P := P) w _ us hcell'
    simp only [Instr.loadAt, Instr.sureAddr, he, Sem.run_bind, Sem.run_pure, Result.andThen_ok, loadVar, hagg, if_true, run_sizeOf w hinf, hsize, <- hul, hld]
   | false =>
    simp only [Bool.false_eq_true, if_false] at hv
    split at hv
    ·rename_i v0
     simp only [zJ, zP] at hv
     obtain ⟨rfl, rfl⟩ := hv
     obtain ⟨u, us', rfl, hu0, hn⟩ := hus
     have hc0 := hcell 0 u (by simp)
     refine Acts.of_value (v' := u) (w' := w) (m' := m) ?_ hu0 (Ok.refl hr)
     simp only [execOp, ho]
     refine run_v (P := P) w ?_
     simp only [Instr.loadAt, Instr.sureAddr, he, Sem.run_bind, Sem.run_pure, Result.andThen_ok, loadVar, hagg, Bool.false_eq_true, if_false, run_load]
     rw [Nat.add_zero] at hc0
     simp only [hc0]
    ·simp at hv
  ·simp at hv
 ·simp at h
theorem acts_st {n : Nat} {p x : Opd} (h : mOp P o (.st n p x) = true) (hE : EnvR m env a.tmps) (hr : Rel base m H w) (hv : heapOp env H (.st n p x) = some (v, H1)) : Acts P o a base m H w v H1 := by
 simp only [mOp] at h
 split at h
 ·rename_i T X V ho
  simp only [Bool.and_eq_true] at h
  obtain ⟨⟨hx, hV⟩, hT⟩ := h
  have hinf : ∃ inf, P.info? T = some inf /\ inf.size = n := by
   revert hT; cases P.info? T with
   | none => simp
   | some i => simp
  obtain ⟨inf, hinf, hsize⟩ := hinf
  have h1 := mO_ok hx hE
  have h2 := mO_ok hV hE
  simp only [heapOp] at hv
  split at hv
  ·rename_i l q e1
   rw [e1] at h1; obtain ⟨i, hm, he⟩ := h1
   split at hv
   ·rename_i hn
    obtain ⟨H', hw, hv⟩ := zM hv
    simp only [zP] at hv
    obtain ⟨rfl, rfl⟩ := hv
    have hall : ∀ y ∈ (x.ev env).cells, y.one = true := by
     have hw' := hw
     unfold Heap.wr at hw'
     split at hw'
     ·rename_i hc; intro y hy; exact (List.all_eq_true.1 hc.2.2.2) y hy
     ·simp at hw'
    have hcs := h2.cells hall
    obtain ⟨hc, hf, hone, hk⟩ := Ok.put hr hm hw hcs
    have hst := run_storeCells_cells (P := P) i.b (i.off + q) (a.eval V).cells.toList 0 w (by simpa using hc) (by simpa using hf) hone
    rw [Nat.add_zero] at hst
    have hlen : (a.eval V).cells.size = n := by rw [<- Array.length_toList, hcs.length, hn]
    refine ⟨.skip, _, m, undef, ?_, .inr ⟨rfl, rfl⟩, trivial, hk⟩
    simp only [execOp, ho, Sem.run_bind, Instr.storeAt, Instr.sureAddr, he, Sem.run_pure, Result.andThen_ok, storeVar, run_sizeOf w hinf, hsize, hlen, ne_eq, not_true_eq_false, if_false, hst]
   ·simp at hv
  ·simp at hv
 ·simp at h
theorem run_newVar {T : TypeId} {V : Value} : (newVar T V).run P w = .ok ⟨w.heap.size, 0, none⟩ (w.alloc (.cells V.cells T)) := by
 simp only [newVar, newRow, newObj, Sem.run_bind]; rfl
def Makes (P : Program) (o : Oper) (a : Act) (m : Map) (w : World) (k : Nat) (v : AV) (cs : List AV) : Prop :=
 ∃ v' arr T us rest, (execOp a.eval o).run P w = .ok (.value v') (w.alloc (.cells arr T)) /\ VRs m cs us /\ arr.toList = us ++ rest /\ ∀ m' : Map, m' k = some ⟨w.heap.size, 0, cs.length, arr.size⟩ -> VR m' v v'
theorem makes_al {k : Nat} {cs zs : List AV} (h : mOp P o (.al zs) = true) (hE : EnvR m env a.tmps) (hv : allocOp env k (.al zs) = some (v, cs)) : Makes P o a m w k v cs := by
 simp only [mOp] at h
 split at h
 ·rename_i T ho
  obtain ⟨i, z, hi, hz, hzr⟩ := zeroOk_ok h
  simp only [allocOp, zJ, zP] at hv
  obtain ⟨rfl, rfl⟩ := hv
  refine ⟨.pointer (some ⟨w.heap.size, 0, none⟩), z.cells, T, z.cells.toList, [], ?_, hzr m, by simp, fun m' hm' => ⟨_, hm', rfl⟩⟩
  simp only [execOp, ho]
  refine run_v (P := P) w ?_
  simp only [Instr.alloc, zeroValue, typeInfo, Sem.run_bind, hi, hz, Result.andThen_ok]
  simp [hi, hz, run_newVar, Sem.run]
 ·simp at h
theorem makes_box {k n : Nat} {cs : List AV} {x : Opd} (h : mOp P o (.box n x) = true) (hE : EnvR m env a.tmps) (hv : allocOp env k (.box n x) = some (v, cs)) : Makes P o a m w k v cs := by
 simp only [mOp] at h
 split at h
 ·rename_i T V ho
  have h1 := mO_ok h hE
  simp only [allocOp] at hv
  split at hv
  ·rename_i hc
   simp only [zJ, zP] at hv
   obtain ⟨rfl, rfl⟩ := hv
   have hcs := h1.cells (fun y hy => (List.all_eq_true.1 hc.2) y hy)
   refine ⟨.pointer (some ⟨w.heap.size, 0, none⟩), (a.eval V).cells, T, (a.eval V).cells.toList, [], ?_, hcs, by simp, fun m' hm' => ⟨_, hm', rfl⟩⟩
   simp only [execOp, ho]
   refine run_v (P := P) w ?_
   simp only [Instr.box, Sem.run_bind, run_newVar, Result.andThen_ok, Sem.run_pure]
  ·simp at hv
 ·simp at h
theorem flat_length (zs : List AV) : ∀ n, (List.replicate n zs).flatten.length = n * zs.length
 | 0 => by simp
 | n + 1 => by rw [List.replicate_succ, List.flatten_cons, List.length_append, flat_length zs n, Nat.add_mul]; omega
theorem flat_getD (zs : List AV) : ∀ n j, j < n * zs.length -> (List.replicate n zs).flatten.getD j .und = zs.getD (j % zs.length) .und
 | 0, j, h => by simp at h
 | n + 1, j, h => by
  rw [List.replicate_succ, List.flatten_cons]
  simp only [zD]
  by_cases hj : j < zs.length
  ·rw [List.getElem?_append_left hj, Nat.mod_eq_of_lt hj]
  ·rw [List.getElem?_append_right (by omega)]
   have := flat_getD zs n (j - zs.length) (by rw [Nat.add_mul] at h; omega)
   simp only [zD] at this
   rw [this, <- Nat.mod_eq_sub_mod (by omega)]
theorem zeros_ok {zs : List AV} {z : Array Value} {e : Nat} (hzr : VRs m zs z.toList) (he : z.size = e) (n : Nat) : VRs m (List.replicate n zs).flatten ((Array.range (n * e)).map (z[· % z.size]!)).toList := by
 have hl : zs.length = e := by rw [<- hzr.length]; simpa using he
 refine VRs.of (by rw [flat_length, hl]; simp) fun j v hv => ?_
 have hj : j < n * e := by
  have := (zS hv).1
  simpa using this
 rw [flat_getD zs n j (by rw [hl]; exact hj)]
 have hpos : 0 < e := by
  rcases Nat.eq_zero_or_pos e with h0 | h0
  ·subst h0; simp at hj
  ·exact h0
 have hjm : j % e < e := Nat.mod_lt _ hpos
 obtain ⟨u, hu, hr⟩ := hzr.at (j % zs.length) (by rw [hl]; exact hjm)
 have : v = u := by
  simp only [Array.toList_map, List.getElem?_map, Array.toList_range, List.getElem?_range hj, Option.map_some, zJ] at hv
  rw [<- hv, he]
  rw [hl] at hu
  have hlt : j % e < z.size := by omega
  rw [getElem!_pos z (j % e) hlt]
  rw [Array.getElem?_toList, Array.getElem?_eq_getElem hlt, zJ] at hu
  exact hu
 rw [this]; exact hr
theorem run_newRow {T : TypeId} {cs : Array Value} : (newRow T cs).run P w = .ok ⟨w.heap.size, 0, none⟩ (w.alloc (.cells cs T)) := by
 simp only [newRow, newObj, Sem.run_bind]; rfl
theorem run_zero {E : TypeId} {i : TypeInfo} {z : Value} (hi : P.info? E = some i) (hz : i.zero = some z) : (zeroValue E).run P w = .ok z w := by
 simp [zeroValue, typeInfo, Sem.run_bind, hi, hz]
theorem makes_bsl {k e n : Nat} {cs zs : List AV} {ps : List (Nat × Nat × Opd)} (h : mOp P o (.bsl e n zs ps) = true) (hE : EnvR m env a.tmps) (hv : allocOp env k (.bsl e n zs ps) = some (v, cs)) : Makes P o a m w k v cs := by
 simp only [mOp] at h
 split at h
 ·rename_i T n' parts ho
  simp only [Bool.and_eq_true, beq_iff_eq] at h
  obtain ⟨rfl, hT⟩ := h
  have hu : ∃ E i z, P.underlying T = some (.slice E) /\ P.info? E = some i /\ i.size = e /\ i.zero = some z /\ isSlB.mCs zs z.cells.toList = true /\ z.cells.size = e /\ partsOk (fun i => some (i * e, e)) ps parts.toList = true := by
   revert hT
   cases hu : P.underlying T with
   | none => simp
   | some d =>
    cases d <;> simp
    rename_i E
    cases hi : P.info? E with
    | none => simp
    | some i =>
     simp
     cases hz : i.zero with
     | none => simp
     | some z => simp; exact fun h1 h2 h3 h4 => ⟨h1, h2, h3, h4⟩
  obtain ⟨E, i, z, hu, hi, hsize, hz, hzr, hzs, hps⟩ := hu
  simp only [allocOp] at hv
  split at hv
  ·rename_i hc
   obtain ⟨hlim, hzl, hpos⟩ := hc
   obtain ⟨cs0, hlay, hv⟩ := zM hv
   simp only [zP] at hv
   obtain ⟨rfl, rfl⟩ := hv
   obtain ⟨vs', hf, hrr⟩ := lay_ok (a := a) (fun i => some (i * e, e)) hE ps parts.toList _ cs0 _ hps hlay (zeros_ok (mCs_ok hzr) hzs n)
   have hcl : cs0.length = n * e := by
    have : ∀ (ps : List (Nat × Nat × Opd)) (c c' : List AV), layAll env c ps = some c' -> c'.length = c.length := by
     intro ps
     induction ps with
     | nil => intro c c' h; simp only [layAll, zJ] at h; rw [h]
     | cons q ps ih =>
      obtain ⟨o, n, x⟩ := q
      intro c c' h
      simp only [layAll] at h
      split at h
      ·rename_i hc
       rw [ih _ _ h]
       unfold splice
       simp only [List.length_append, List.length_take, List.length_drop]
       omega
      ·simp at h
    rw [this ps _ _ hlay, flat_length, hzl]
   have hvl : vs'.size = n * e := by rw [<- hcl, <- hrr.length]; simp
   refine ⟨.slice (some ⟨w.heap.size, 0, none⟩) n n, vs', E, vs'.toList, [], ?_, hrr, by simp, fun m' hm' => ⟨_, _, n, hm', rfl, Nat.le_refl _, fun h => by simp at h, by simp only; omega, fun _ => by simp only; omega, by simp only; omega, fun _ => rfl, hpos⟩⟩
   simp only [execOp, ho]
   refine run_v (P := P) w ?_
   have hlim' : ¬ (n * e > 2 ^ 24) := by omega
   have hf' : Instr.fill (fun i => some (i * e, e)) ((Array.range (n * e)).map (z.cells[· % z.cells.size]!)) (parts.map fun x => (x.1, a.eval x.2)).toList = some vs' := by
    rw [<- hf]; simp
   have hzv := run_zero (P := P) (w := w) hi hz
   simp only [Instr.buildSlice, Sem.run_bind, run_underlying hu, Result.andThen_ok, run_sizeOf w hi, hsize, if_neg hlim']
   by_cases h0 : n * e = 0
   ·have hf0 : Instr.fill (fun i => some (i * e, e)) ((Array.range (n * e)).map ((#[] : Array Value)[· % (#[] : Array Value).size]!)) (parts.map fun x => (x.1, a.eval x.2)).toList = some vs' := by
     rw [<- hf']; congr 1; rw [h0]; apply Array.ext; · simp
     ·intro i h1 _; simp at h1
    simp only [if_pos h0, Sem.run_bind, Sem.run_pure, Result.andThen_ok, hf0, run_newRow]
   ·simp only [if_neg h0, Sem.run_bind, hzv, Sem.run_pure, Result.andThen_ok, hf', run_newRow]
  ·simp at hv
 ·simp at h
theorem isSlB_ok {T : TypeId} {e bs : Nat} {zs : List AV} (h : isSlB P T e bs zs = true) : ∃ E i z, P.underlying T = some (.slice E) /\ P.info? E = some i /\ i.size = e /\ i.bytes = bs /\ i.zero = some z /\ isSlB.mCs zs z.cells.toList = true /\ z.cells.size = e := by
 unfold isSlB at h
 split at h
 ·rename_i E hu
  split at h
  ·rename_i i hi
   simp only [Bool.and_eq_true, beq_iff_eq] at h
   obtain ⟨⟨h1, h2⟩, h3⟩ := h
   split at h3
   ·rename_i z hz
    simp only [Bool.and_eq_true, beq_iff_eq] at h3
    exact ⟨E, i, z, hu, hi, h1, h2, hz, h3.1, h3.2⟩
   ·simp at h3
  ·simp at h
 ·simp at h
theorem wrap64_id {n : Int} (h0 : 0 <= n) (h : n <= 9223372036854775807) : IntKind.i64.wrap n = n := by
 rw [IntKind.wrap_i64]; omega
theorem makes_mk {k e bs : Nat} {cs zs : List AV} {l c : Opd} (h : mOp P o (.mk e bs zs l c) = true) (hE : EnvR m env a.tmps) (hv : allocOp env k (.mk e bs zs l c) = some (v, cs)) : Makes P o a m w k v cs := by
 simp only [mOp] at h
 split at h
 ·rename_i T L C ho
  simp only [Bool.and_eq_true] at h
  obtain ⟨⟨hl, hc⟩, hT⟩ := h
  obtain ⟨E, i, z, hu, hi, hsize, hbytes, hz, hzr, hzs⟩ := isSlB_ok hT
  have h1 := mO_ok hl hE
  have h2 := mO_ok hc hE
  simp only [allocOp] at hv
  split at hv
  ·rename_i x y e1 e2
   rw [e1] at h1; rw [e2] at h2; simp only [VR] at h1 h2
   split at hv
   ·rename_i hcond
    obtain ⟨hx0, hxy, hb, hy, hzl, hpos⟩ := hcond
    simp only [zJ, zP] at hv
    obtain ⟨rfl, rfl⟩ := hv
    have hzo := zeros_ok (m := m) (mCs_ok hzr) hzs y.toNat
    have hlen : (List.replicate y.toNat zs).flatten.length = y.toNat * e := by rw [flat_length, hzl]
    have hsz : ((Array.range (y.toNat * e)).map (z.cells[· % z.cells.size]!)).size = y.toNat * e := by simp
    have hle : x.toNat <= y.toNat := by omega
    have hle2 : x.toNat * e <= y.toNat * e := Nat.mul_le_mul_right _ hle
    refine ⟨.slice (some ⟨w.heap.size, 0, none⟩) x.toNat y.toNat, (Array.range (y.toNat * e)).map (z.cells[· % z.cells.size]!), E, _, [], ?_, hzo, by simp, fun m' hm' => ⟨_, _, y.toNat, hm', rfl, hle, fun h => by simp at h, by simp only [hlen]; omega, fun _ => by simp only [hlen]; omega, by simp only [hsz]; omega, fun _ => rfl, hpos⟩⟩
    simp only [execOp, ho]
    refine run_v (P := P) w ?_
    have hty : (typeInfo E).run P w = .ok i w := by simp [typeInfo, hi]
    have wx : IntKind.i64.wrap x = x := wrap64_id hx0 (by omega)
    have wy : IntKind.i64.wrap y = y := wrap64_id (by omega) hy
    have c1 : (decide (y < 0) || decide ((i.bytes : Int) * y > 2 ^ 48) || decide (x < 0) || decide (x > y)) = false := by
     rw [hbytes]
     simp only [Bool.or_eq_false_iff, decide_eq_false_iff_not]
     refine ⟨⟨⟨by omega, by omega⟩, by omega⟩, by omega⟩
    have hroom : ∀ k, (askRoom k).run P w = .ok () w := by
     intro k; unfold askRoom; split <;> rfl
    have hzv := run_zero (P := P) (w := w) hi hz
    simp only [Instr.makeSlice, Sem.run_bind, run_underlying hu, Result.andThen_ok, h1, h2, asInt, asIntOf, Sem.run_pure, hty, wx, wy, hbytes] at c1 ⊢
    rw [if_neg (by rw [c1]; simp)]
    simp only [Sem.run_bind, hroom, Result.andThen_ok, run_sizeOf w hi, hsize]
    by_cases h0 : y.toNat * e = 0
    ·have e0 : (Array.range (y.toNat * e)).map ((#[] : Array Value)[· % (#[] : Array Value).size]!) = (Array.range (y.toNat * e)).map (z.cells[· % z.cells.size]!) := by
      rw [h0]; apply Array.ext; · simp
      ·intro i h1 _; simp at h1
     simp only [if_pos h0, Sem.run_bind, Sem.run_pure, Result.andThen_ok, e0, run_newRow]
    ·simp only [if_neg h0, Sem.run_bind, hzv, Sem.run_pure, Result.andThen_ok, run_newRow]
   ·simp at hv
  ·simp at hv
 ·simp at h
theorem makes {k : Nat} {c : COp} {cs : List AV} (h : mOp P o c = true) (hE : EnvR m env a.tmps) (hv : allocOp env k c = some (v, cs)) : Makes P o a m w k v cs := by
 cases c with
 | al => exact makes_al h hE hv
 | box => exact makes_box h hE hv
 | bsl => exact makes_bsl h hE hv
 | mk => exact makes_mk h hE hv
 | _ => simp [allocOp] at hv
theorem acts_alloc {c : COp} (h : mOp P o c = true) (hE : EnvR m env a.tmps) (hr : Rel base m H w) (hv : (allocOp env H.sz c).map (fun (v, cs) => (v, H.new cs)) = some (v, H1)) : Acts P o a base m H w v H1 := by
 obtain ⟨⟨v0, cs⟩, h0, hv⟩ := zM hv
 simp only [zP] at hv
 obtain ⟨rfl, rfl⟩ := hv
 obtain ⟨v', arr, T, us, rest, hrun, hcs, harr, hvr⟩ := makes (w := w) h hE h0
 exact Acts.of_value hrun (hvr _ (by unfold Map.add; rw [if_pos rfl])) (Ok.new hr hcs harr rfl rfl rfl rfl)
theorem acts_b2s {x : Opd} (h : mOp P o (.b2s x) = true) (hE : EnvR m env a.tmps) (hr : Rel base m H w) (hv : heapOp env H (.b2s x) = some (v, H1)) : Acts P o a base m H w v H1 := by
 simp only [mOp] at h
 split at h
 ·rename_i S D X ho
  simp only [Bool.and_eq_true] at h
  obtain ⟨hx, hT⟩ := h
  have hu : ∃ E, P.underlying S = some (.slice E) /\ P.underlying D = some .string /\ P.underlying E = some (.int .u8) := by
   revert hT
   cases P.underlying S with
   | none => simp
   | some d =>
    cases P.underlying D with
    | none => simp
    | some d' =>
     cases d <;> simp
     rename_i E
     cases d' <;> simp
     cases P.underlying E with
     | none => simp
     | some d'' =>
      cases d'' <;> simp
      rename_i k
      cases k <;> simp
  obtain ⟨E, hS, hD, hEu⟩ := hu
  have h1 := mO_ok hx hE
  simp only [heapOp] at hv
  split at hv
  ·rename_i e1
   rw [e1] at h1; simp only [VR] at h1
   simp only [zJ, zP] at hv
   obtain ⟨rfl, rfl⟩ := hv
   refine Acts.of_value (v' := .string ByteArray.empty) (w' := w) (m' := m) ?_ ⟨_, rfl, rfl⟩ (Ok.refl hr)
   simp only [execOp, ho]
   refine run_v (P := P) w ?_
   rw [h1]
   exact run_convert_bytes_nil w S E hS hEu 0 0 D hD
  ·rename_i l q n e x' e1
   rw [e1] at h1
   obtain ⟨i, ad, cap, hm, he, hcap, _, hfit, _, _, had, _⟩ := h1
   split at hv
   ·rename_i hone
    subst hone
    obtain ⟨vs, hrd, hv⟩ := Option.bind_eq_some_iff.1 hv
    obtain ⟨s, hs, hv⟩ := zM hv
    simp only [zP] at hv
    obtain ⟨rfl, rfl⟩ := hv
    obtain ⟨hvl, hle, us, hul, hus, hcell⟩ := hr.rd0 hm (by omega) hrd
    have key : ∀ (vs : List AV) (us : List Value) (s : List UInt8), vs.mapM byteA = some s -> VRs m vs us -> ∃ xs : List Int, us = xs.map (Value.int .u8) /\ xs.map (fun n => UInt8.ofNat n.toNat) = s := by
     intro vs
     induction vs with
     | nil => intro us s h1 h2; simp only [VRs] at h2; subst h2; simp at h1; subst h1; exact ⟨[], rfl, rfl⟩
     | cons c vs ih =>
      intro us s h1 h2
      obtain ⟨u, us', rfl, hu, hr2⟩ := h2
      simp only [List.mapM_cons, Option.bind_eq_bind, Option.pure_def] at h1
      obtain ⟨b, hb, h1⟩ := Option.bind_eq_some_iff.1 h1
      obtain ⟨s', hs', h1⟩ := Option.bind_eq_some_iff.1 h1
      simp only [zJ] at h1
      subst h1
      obtain ⟨xs, rfl, hxs⟩ := ih us' s' hs' hr2
      unfold byteA at hb
      split at hb
      ·rename_i n
       simp only [VR] at hu; subst hu
       split at hb
       ·simp only [zJ] at hb; subst hb
        exact ⟨n :: xs, rfl, by simp [hxs]⟩
       ·simp at hb
      ·simp at hb
    obtain ⟨xs, rfl, hxs⟩ := key vs us s hs hus
    have hxl : xs.length = n := by simpa using hul
    refine Acts.of_value (v' := .string (strOfNums xs)) (w' := w) (m' := m) ?_ ⟨_, rfl, by rw [strOfNums_data, hxs]⟩ (Ok.refl hr)
    simp only [execOp, ho]
    refine run_v (P := P) w ?_
    rw [he]
    rcases Nat.eq_zero_or_pos cap with h0 | h0
    ·have hn0 : n = 0 := by omega
     subst hn0
     have : xs = [] := List.eq_nil_of_length_eq_zero hxl
     subst this
     obtain ⟨ab, ao, asp⟩ := ad
     simp only [convert, Sem.run_bind, run_underlying hS, run_underlying hD, run_underlying hEu, Result.andThen_ok, Conv.bytesToString]
     rfl
    ·rw [had h0]
     exact run_convert_bytes_arg w S E hS hEu i.b (i.off + q) n cap xs hxl (fun j hj => hcell j _ (by simp [zE (show j < xs.length by omega), zD])) D hD
   ·simp at hv
  ·simp at hv
 ·simp at h
end
end
section
section
variable {P : Program} {o : Oper} {env : Env} {a : Act} {base : Nat} {m : Map} {H H1 : Heap} {w : World} {v : AV}
theorem run_bound_le {y y' : Nat} {c : AV} {V : Value} {i : Nat} (code : BoundsCode) (h : bnd y c = some i) (hy : y <= y') (hr : VR m c V) : (Instr.sliceBound V y' code).run P w = .ok i w := by
 refine run_bound (P := P) (m := m) w code ?_ hr
 unfold bnd at h ⊢
 split at h
 ·split at h
  ·rename_i hc
   rw [if_pos (by omega)]; exact h
  ·simp at h
 ·simp at h
theorem run_bound_int {k : IntKind} {i : Int} {y : Nat} (code : BoundsCode) (h0 : 0 <= i) (h : i.toNat <= y) : (Instr.sliceBound (.int k i) y code).run P w = .ok i.toNat w := by
 have hc : 0 <= i /\ i <= y := ⟨h0, by omega⟩
 simp only [Instr.sliceBound, asIntOf, Sem.run_bind, Sem.run_pure, Result.andThen_ok, if_pos hc]
theorem sl_cut {l q n e : Nat} {x : Bool} {i : Inf} {ad : Addr} {cap s t : Nat} (hm : m l = some i) (hcap : n <= cap) (hx : x = true -> cap = n) (hle : q + n * e <= i.n) (hfree : x = false -> i.n <= q + cap * e) (hbsz : i.off + q + cap * e <= i.bsz)
  (had : 0 < cap -> ad = ⟨i.b, i.off + q, none⟩) (hpos : 0 < e) (hst : s <= t) (htc : t <= cap) (hte : q + t * e <= i.n) (hxt : x = true -> t = n) :
  VR m (.sl l (q + s * e) (t - s) e x) (.slice (if cap = s then some ad else (some ad).map (·.add (s * e))) (t - s) (cap - s)) := by
 have m1 : s * e + (t - s) * e = t * e := by rw [<- Nat.add_mul]; congr 1; omega
 have m2 : s * e + (cap - s) * e = cap * e := by rw [<- Nat.add_mul]; congr 1; omega
 have hsome : ∃ ad', (if cap = s then some ad else (some ad).map (·.add (s * e))) = some ad' /\ (0 < cap - s -> ad' = ⟨i.b, i.off + (q + s * e), none⟩) := by
  by_cases hc : cap = s
  ·exact ⟨ad, by rw [if_pos hc], fun h => by omega⟩
  ·refine ⟨ad.add (s * e), by rw [if_neg hc]; rfl, fun h => ?_⟩
   rw [had (by omega), Addr.add_lit, Nat.add_assoc]
 obtain ⟨ad', e1, e2⟩ := hsome
 rw [e1]
 refine ⟨i, ad', cap - s, hm, rfl, by omega, fun h => ?_, by omega, fun h => ?_, by omega, e2, hpos⟩
 ·have := hx h; have := hxt h; omega
 ·have := hfree h; omega
theorem acts_slx {e : Nat} {x : Opd} {lo hi mx : Option Opd} (h : mOp P o (.slx e x lo hi mx) = true) (hE : EnvR m env a.tmps) (hr : Rel base m H w) (hv : heapOp env H (.slx e x lo hi mx) = some (v, H1)) : Acts P o a base m H w v H1 := by
 simp only [mOp] at h
 split at h
 ·rename_i T X L HI MX ho
  simp only [Bool.and_eq_true] at h
  obtain ⟨⟨⟨⟨hx, hl⟩, hh⟩, hmx⟩, hT⟩ := h
  obtain ⟨E, inf, hu, hinf, hsz⟩ := isSl_ok hT
  have h1 := mO_ok hx hE
  simp only [heapOp] at hv
  split at hv
  ·-- nil
   rename_i e1
   rw [e1] at h1; simp only [VR] at h1
   split at hv
   ·rename_i h' l' eh el
    simp only [zJ, zP] at hv
    obtain ⟨rfl, rfl⟩ := hv
    cases MX with
    | some Y => simp [mOo] at hmx
    | none =>
     have eh0 : h' = 0 := by
      cases hi with
      | none => simpa [obnd] using eh.symm
      | some z => have := bnd_le eh; omega
     have el0 : l' = 0 := by
      cases lo with
      | none => simpa [obnd] using el.symm
      | some z => have := bnd_le el; omega
     subst eh0 el0
     have bounds := run_bounds (P := P) w (s := true) (run_oBound (P := P) (m := m) (a := a) w .sliceAcap eh hh hE) (run_oBound (P := P) (m := m) (a := a) w .sliceB el hl hE)
     refine Acts.of_value (v' := .slice none 0 0) (w' := w) (m' := m) ?_ rfl (Ok.refl hr)
     simp only [execOp, ho]
     refine run_v (P := P) w ?_
     simp only [Instr.sliceAt, Sem.run_bind, run_underlying hu, Result.andThen_ok, Instr.slice, h1, Option.map_none, bounds, run_sizeOf w hinf, if_true, Sem.run_pure, Nat.sub_self]
   ·simp at hv
  ·rename_i l q n e' x' e1
   rw [e1] at h1
   obtain ⟨i, ad, cap, hm, he, hcap, hxx, hle, hfree, hbsz, had, hpos⟩ := h1
   split at hv
   ·simp at hv
   ·rename_i hee
    have hee' : e = e' := by omega
    subst hee'
    cases mx with
    | none =>
     cases MX with
     | some Y => simp [mOo] at hmx
     | none =>
      simp only at hv
      split at hv
      ·rename_i hb eh
       split at hv
       ·rename_i lb el
        split at hv
        ·simp at hv
        ·rename_i hxn
         simp only [zJ, zP] at hv
         obtain ⟨rfl, rfl⟩ := hv
         have hlb : lb <= hb := by
          cases lo with
          | none => simp [obnd] at el; omega
          | some z => exact bnd_le el
         -- the upper bound
         have hup : hb <= cap /\ q + hb * e <= i.n /\ (match HI.map a.eval with | some v => Instr.sliceBound v cap .sliceAcap | none => (pure n : Sem Nat)).run P w = .ok hb w := by
          cases hi with
          | none =>
           cases HI with
           | some Y => simp [mOo] at hh
           | none => simp only [hbnd, zJ] at eh; subst eh; exact ⟨hcap, hle, rfl⟩
          | some z =>
           cases HI with
           | none => simp [mOo] at hh
           | some Y =>
            simp only [hbnd] at eh
            have hz := mO_ok hh hE
            split at eh
            ·rename_i k j ez
             rw [ez] at hz; simp only [VR] at hz
             split at eh
             ·rename_i hc
              simp only [zJ] at eh; subst eh
              have hcases : j.toNat <= cap /\ q + j.toNat * e <= i.n := by
               rcases hc.2 with hc2 | ⟨hxf, hls, hst, hc2⟩
               ·have : j.toNat <= n := by omega
                have h2 : j.toNat * e <= n * e := Nat.mul_le_mul_right _ this
                exact ⟨by omega, by omega⟩
               ·have hcl := (hr.cells l i hm hst).1
                rw [hcl] at hc2
                have := hfree hxf
                refine ⟨?_, hc2⟩
                refine Nat.le_of_mul_le_mul_right ?_ hpos
                omega
              refine ⟨hcases.1, hcases.2, ?_⟩
              simp only [Option.map_some, hz]
              exact run_bound_int (P := P) (w := w) _ hc.1 hcases.1
             ·simp at eh
            ·simp at eh
         have hlo := run_oBound (P := P) (m := m) (a := a) w .sliceB el hl hE
         have bounds := run_bounds (P := P) w (s := true) hup.2.2 hlo
         refine Acts.of_value (v' := .slice (if cap = lb then some ad else (some ad).map (·.add (lb * e))) (hb - lb) (cap - lb)) (w' := w) (m' := m) ?_
          (sl_cut hm hcap hxx hle hfree hbsz had hpos hlb hup.1 hup.2.1 (fun hxt => by
           have hne : ¬ (hb ≠ n) := fun hne => hxn ⟨hxt, hne⟩
           omega)) (Ok.refl hr)
         simp only [execOp, ho]
         refine run_v (P := P) w ?_
         simp only [Instr.sliceAt, Sem.run_bind, run_underlying hu, Result.andThen_ok, Instr.slice, he, Option.map_none, bounds, run_sizeOf w hinf, Sem.run_pure, hsz]
       ·simp at hv
      ·simp at hv
    | some mo =>
     cases MX with
     | none => simp [mOo] at hmx
     | some MO =>
      simp only at hv
      split at hv
      ·rename_i mb z em
       ·cases HI with
        | none => simp [mOo] at hh
        | some Z =>
         split at hv
         ·rename_i hb eh
          split at hv
          ·rename_i lb el
           split at hv
           ·rename_i hmh
            subst hmh
            simp only [zJ, zP] at hv
            obtain ⟨rfl, rfl⟩ := hv
            have hlb : lb <= mb := by
             cases lo with
             | none => simp [obnd] at el; omega
             | some z => exact bnd_le el
            have hmb := bnd_le em
            have r1 := run_bound_le (P := P) (w := w) .slice3Acap em hcap (mO_ok hmx hE)
            have r2 := run_bound (P := P) (m := m) w .slice3B eh (mO_ok hh hE)
            have r3 : (match L.map a.eval with | some v => Instr.sliceBound v mb .slice3C | none => (pure 0 : Sem Nat)).run P w = .ok lb w := run_oBound (P := P) (m := m) (a := a) w .slice3C el hl hE
            have bounds : (Instr.sliceBounds true n cap (L.map a.eval) (some (a.eval Z)) (some (a.eval MO))).run P w = .ok (lb, mb, mb) w := by
             revert r3
             cases L.map a.eval with
             | none => intro r3; simp only [Sem.run_pure, Result.ok.injEq, and_true] at r3; subst r3; simp only [Instr.sliceBounds, Sem.run_bind, if_true, r1, r2, Result.andThen_ok, Sem.run_pure]
             | some V => intro r3; simp only at r3; simp only [Instr.sliceBounds, Sem.run_bind, if_true, r1, r2, Result.andThen_ok, Sem.run_pure, Option.isSome_some, r3]
            have hmbe : mb * e <= n * e := Nat.mul_le_mul_right _ hmb
            have hmce : mb * e <= cap * e := Nat.mul_le_mul_right _ (Nat.le_trans hmb hcap)
            refine Acts.of_value (v' := .slice (if mb = lb then some ad else (some ad).map (·.add (lb * e))) (mb - lb) (mb - lb)) (w' := w) (m' := m) ?_
             (sl_cut (n := mb) (cap := mb) hm (Nat.le_refl _) (fun _ => rfl) (by omega) (fun h => by simp at h) (by omega) (fun h => had (by omega)) hpos hlb (Nat.le_refl _) (by omega) (fun _ => rfl)) (Ok.refl hr)
            simp only [execOp, ho]
            refine run_v (P := P) w ?_
            simp only [Instr.sliceAt, Sem.run_bind, run_underlying hu, Result.andThen_ok, Instr.slice, he, Option.map_some, bounds, run_sizeOf w hinf, Sem.run_pure, hsz]
           ·rename_i hmh
            simp only [zJ, zP] at hv
            obtain ⟨rfl, rfl⟩ := hv
            have r1 := run_bound_le (P := P) (w := w) .slice3Acap em hcap (mO_ok hmx hE)
            have r2 := run_bound (P := P) (m := m) w .slice3B eh (mO_ok hh hE)
            have r3 : (match L.map a.eval with | some v => Instr.sliceBound v hb .slice3C | none => (pure 0 : Sem Nat)).run P w = .ok lb w := run_oBound (P := P) (m := m) (a := a) w .slice3C el hl hE
            have bounds : (Instr.sliceBounds true n cap (L.map a.eval) (some (a.eval Z)) (some (a.eval MO))).run P w = .ok (lb, hb, mb) w := by
             revert r3
             cases L.map a.eval with
             | none => intro r3; simp only [Sem.run_pure, Result.ok.injEq, and_true] at r3; subst r3; simp only [Instr.sliceBounds, Sem.run_bind, if_true, r1, r2, Result.andThen_ok, Sem.run_pure]
             | some V => intro r3; simp only at r3; simp only [Instr.sliceBounds, Sem.run_bind, if_true, r1, r2, Result.andThen_ok, Sem.run_pure, Option.isSome_some, r3]
            refine Acts.of_value (v' := .slice (if mb = lb then some ad else (some ad).map (·.add (lb * e))) (hb - lb) (mb - lb)) (w' := w) (m' := m) ?_ trivial (Ok.refl hr)
            simp only [execOp, ho]
            refine run_v (P := P) w ?_
            simp only [Instr.sliceAt, Sem.run_bind, run_underlying hu, Result.andThen_ok, Instr.slice, he, Option.map_some, bounds, run_sizeOf w hinf, Sem.run_pure, hsz]
          ·simp at hv
         ·simp at hv
      ·simp at hv
  ·simp at hv
 ·simp at h
theorem run_append_zero {T ty E : TypeId} {inf : TypeInfo} (hu : P.underlying T = some (.slice E)) (hi : P.info? E = some inf) {ab xa : Option Addr} {n cap xc : Nat} (hle : n <= cap) :
  (Builtin.append_ #[T, T] ty #[.slice ab n cap, .slice xa 0 xc]).run P w = .ok (.slice ab n cap) w := by
 cases ab with
 | none =>
  cases xa with
  | none => simp [Builtin.append_, run_underlying hu, sizeOf, typeInfo, hi, Builtin.lenOf, hle, Builtin.firstCells, storeCells]
  | some x => simp [Builtin.append_, run_underlying hu, sizeOf, typeInfo, hi, Builtin.lenOf, hle, Builtin.firstCells, storeCells, loadCells, loadCellsFrom]
 | some b =>
  cases xa with
  | none => simp [Builtin.append_, run_underlying hu, sizeOf, typeInfo, hi, Builtin.lenOf, hle, Builtin.firstCells, storeCells]
  | some x => simp [Builtin.append_, run_underlying hu, sizeOf, typeInfo, hi, Builtin.lenOf, hle, Builtin.firstCells, storeCells, loadCells, loadCellsFrom]
theorem cellsOf_ok {e k : Nat} {x : AV} {X : Value} {ys : List AV} (hr : Rel base m H w) (h : cellsOf H e x = some (k, ys)) (hx : VR m x X) :
  (k = 0 /\ ys = [] /\ ∃ xa xc, X = .slice xa 0 xc) \/ (∃ xa xc us, X = .slice (some xa) k xc /\ us.length = k * e /\ VRs m ys us /\ ys.length = k * e /\ (0 < k -> 0 < e) /\ ∀ j u, us[j]? = some u -> w.cell? (xa.add j) = some u) := by
 unfold cellsOf at h
 split at h
 ·simp only [zJ, zP] at h
  obtain ⟨rfl, rfl⟩ := h
  simp only [VR] at hx
  exact .inl ⟨rfl, rfl, none, 0, hx⟩
 ·rename_i l q n e' x'
  split at h
  ·rename_i he
   subst he
   obtain ⟨vs, hrd, h⟩ := zM h
   simp only [zP] at h
   obtain ⟨rfl, rfl⟩ := h
   obtain ⟨i, ad, cap, hm, rfl, hcap, _, hfit, _, _, had, hpos⟩ := hx
   obtain ⟨hvl, hle, us, hul, hus, hcell⟩ := hr.rd0 hm hfit hrd
   refine .inr ⟨ad, cap, us, rfl, hul, hus, hvl, fun _ => hpos, fun j u hj => ?_⟩
   have hjl := (zS hj).1
   have : 0 < n := by
    rcases Nat.eq_zero_or_pos n with h0 | h0
    ·subst h0; simp at hul; subst hul; simp at hjl
    ·exact h0
   rw [had (by omega), Addr.add_lit]
   exact hcell j u hj
  ·simp at h
 ·simp at h
theorem acts_app {e bs : Nat} {s x : Opd} (h : mOp P o (.app e bs s x) = true) (hE : EnvR m env a.tmps) (hr : Rel base m H w) (hv : heapOp env H (.app e bs s x) = some (v, H1)) : Acts P o a base m H w v H1 := by
 simp only [mOp] at h
 split at h
 ·rename_i Ts hB
  simp only [Bool.and_eq_true, beq_iff_eq] at h
  obtain ⟨⟨hs2, h01⟩, hub⟩ := h
  obtain ⟨c, ho, hc, rfl, hmo⟩ := isB_ok hB
  obtain ⟨T, d, hT, hu, hq⟩ := underB_ok hub
  have hTs : c.argTypes = #[T, T] := by
   rw [hT] at h01
   apply Array.ext'
   have hl : c.argTypes.toList.length = 2 := by simpa using hs2
   rw [<- Array.getElem?_toList] at hT h01
   match hL : c.argTypes.toList with
   | [p, q] => rw [hL] at hT h01; simp at hT h01; subst hT h01; rfl
   | [] => rw [hL] at hl; simp at hl
   | [_] => rw [hL] at hl; simp at hl
   | _ :: _ :: _ :: _ => rw [hL] at hl; simp at hl
  have hde : ∃ E inf z, d = .slice E /\ P.info? E = some inf /\ inf.size = e /\ inf.bytes = bs /\ inf.zero = some z /\ z.cells.size = e := by
   cases d with
   | slice E =>
    cases hi : P.info? E with
    | none => simp [hi] at hq
    | some inf =>
     cases hz : inf.zero with
     | none => simp [hi, hz] at hq
     | some z =>
      simp only [hi, hz, Bool.and_eq_true, beq_iff_eq] at hq
      exact ⟨E, inf, z, rfl, hi, hq.1.1, hq.1.2, hz, hq.2⟩
   | _ => simp at hq
  obtain ⟨E, inf, z, rfl, hi, hsize, hbytes, hz, hzs⟩ := hde
  obtain ⟨vs, hvs, S, vs', rfl, h1, X, vs'', rfl, h2, hn⟩ := args_eq hmo hE
  simp only [List.map_nil, VRs] at hn; subst hn
  simp only [heapOp] at hv
  obtain ⟨⟨k, ys⟩, hcs, hv⟩ := Option.bind_eq_some_iff.1 hv
  have hX := cellsOf_ok hr hcs h2
  have fin : ∀ {w' m' v'}, (Builtin.append_ #[T, T] o.type #[S, X]).run P w = .ok v' w' -> VR m' v v' -> Ok base m H w m' H1 w' -> Acts P o a base m H w v H1 := by
   intro w' m' v' hrun hvr hok
   exact Acts.of_value (run_builtin (P := P) w (s := Builtin.append_) ho hc (fun _ _ _ _ => rfl) (by rw [hvs, hTs]; exact hrun)) hvr hok
  simp only at hv
  split at hv
  ·-- nothing to append
   rename_i hk0
   have hX' : ∃ xa xc, X = .slice xa 0 xc := by
    rcases hX with ⟨_, _, xa, xc, hX⟩ | ⟨xa, xc, us, hX, _⟩
    ·exact ⟨xa, xc, hX⟩
    ·exact ⟨some xa, xc, by rw [hX, hk0]⟩
   obtain ⟨xa, xc, rfl⟩ := hX'
   split at hv
   ·rename_i es
    simp only [zJ, zP] at hv
    obtain ⟨rfl, rfl⟩ := hv
    have h1' := h1
    rw [es] at h1; simp only [VR] at h1
    refine fin (v' := S) (w' := w) (m' := m) ?_ h1' (Ok.refl hr)
    rw [h1]
    exact run_append_zero hu hi (Nat.le_refl _)
   ·rename_i l q n e' x' es
    split at hv
    ·simp only [zJ, zP] at hv
     obtain ⟨rfl, rfl⟩ := hv
     have h1' := h1
     rw [es] at h1; obtain ⟨i, ad, cap, hm, he, hcap, _⟩ := h1
     refine fin (v' := S) (w' := w) (m' := m) ?_ h1' (Ok.refl hr)
     rw [he]
     exact run_append_zero hu hi hcap
    ·simp at hv
   ·simp at hv
  ·rename_i hk0
   rcases hX with ⟨hk, _⟩ | ⟨xa, xc, us, rfl, hul, hus, hyl, hpos, hcell⟩
   ·exact absurd hk hk0
   ·have hkp : 0 < k := Nat.pos_of_ne_zero hk0
    have hep := hpos hkp
    split at hv
    ·simp at hv
    ·rename_i hno
     have hbp : 0 < bs := by omega
     have hone : ∀ y ∈ ys, y.one = true := by
      intro y hy
      have : ys.all AV.one = true := by
       cases hq : ys.all AV.one with
       | true => rfl
       | false => rw [hq] at hno; simp at hno
      exact (List.all_eq_true.1 this) y hy
     have hbig : ∀ N, N * bs <= room -> N <= 9223372036854775807 /\ N * inf.bytes <= 281474976710656 /\ N * inf.bytes <= 140737488355328 := by
      intro N hN
      unfold room at hN
      have : N * 1 <= N * bs := Nat.mul_le_mul_left _ hbp
      rw [hbytes]
      omega
     have hzc : ∀ N, (Builtin.zeroCells z.cells N).size = N * e := by intro N; rw [size_zeroCells, hzs]
     split at hv
     ·-- onto nil
      rename_i es
      rw [es] at h1; simp only [VR] at h1; subst h1
      split at hv
      ·rename_i hroom
       simp only [zJ, zP] at hv
       obtain ⟨rfl, rfl⟩ := hv
       obtain ⟨b1, b2, b3⟩ := hbig k hroom
       have hrun := run_append_nil (P := P) w T o.type E inf z hu hi hz xa k xc us (by rw [hul, hsize]) hcell hkp (by omega) b2
       have hge := grownCap_ge w k 0 E
       have hk := Ok.new (w' := w.drew.alloc (.cells (us.toArray ++ Builtin.zeroCells z.cells (grownCap w k 0 E - k)) E)) hr hus (arr := us.toArray ++ Builtin.zeroCells z.cells (grownCap w k 0 E - k)) (T := E) (rest := (Builtin.zeroCells z.cells (grownCap w k 0 E - k)).toList) (by simp) rfl rfl rfl rfl
       have hasz : (us.toArray ++ Builtin.zeroCells z.cells (grownCap w k 0 E - k)).size = grownCap w k 0 E * e := by
        rw [Array.size_append, hzc]
        simp only [List.size_toArray, hul]
        rw [<- Nat.add_mul]; congr 1; omega
       have hme : k * e <= grownCap w k 0 E * e := Nat.mul_le_mul_right _ hge
       exact fin hrun ⟨_, _, _, by unfold Map.add; rw [if_pos rfl], rfl, hge, fun h => by simp at h, by simp only [hyl]; omega, fun _ => by simp only [hyl]; omega, by simp only [hasz]; omega, fun _ => rfl, hep⟩ hk
      ·simp at hv
     ·rename_i l q n e' x' es
      split at hv
      ·simp at hv
      ·rename_i hee
       have hee' : e = e' := by omega
       subst hee'
       have hroom : (n + k) * bs <= room := by omega
       obtain ⟨b1, b2, b3⟩ := hbig (n + k) hroom
       obtain ⟨xs, hrd, hv⟩ := Option.bind_eq_some_iff.1 hv
       rw [es] at h1
       obtain ⟨i, ad, cap, hm, rfl, hcap, hxx, hle, hfree, hbsz, had, _⟩ := h1
       obtain ⟨hxl, hxle, olds, hol, holds, hocell⟩ := hr.rd0 hm hle hrd
       have hocell' : ∀ j u, olds[j]? = some u -> w.cell? (ad.add j) = some u := by
        intro j u hj
        have hjl := (zS hj).1
        have : 0 < n := by
         rcases Nat.eq_zero_or_pos n with h0 | h0
         ·subst h0; simp at hol; subst hol; simp at hjl
         ·exact h0
        rw [had (by omega), Addr.add_lit]
        exact hocell j u hj
       have hmul : (n + k) * e = n * e + k * e := Nat.add_mul _ _ _
       -- a new array
       have newArr : cap < n + k -> ∀ {m0 : Map} {H0 : Heap}, Ok base m H w m0 H0 w -> H0.sz = H.sz -> H1 = H0.new (xs ++ ys) -> v = .sl H.sz 0 (n + k) e false -> Acts P o a base m H w v H1 := by
        intro hg m0 H0 hk0 hsz0 eH ev
        subst eH ev
        have hrun := run_append_grow (P := P) w T o.type E inf z hu hi hz ad n cap olds (by rw [hol, hsize]) hocell' xa k xc us (by rw [hul, hsize]) hcell hg (by omega) (growslice_fits hg b3)
        have hge := grownCap_ge w (n + k) cap E
        have hk := Ok.new (w' := w.drew.alloc (.cells (olds.toArray ++ us.toArray ++ Builtin.zeroCells z.cells (grownCap w (n + k) cap E - (n + k))) E)) hk0.rel ((holds.append hus).mono hk0.le) (arr := olds.toArray ++ us.toArray ++ Builtin.zeroCells z.cells (grownCap w (n + k) cap E - (n + k))) (T := E) (rest := (Builtin.zeroCells z.cells (grownCap w (n + k) cap E - (n + k))).toList) (by simp) rfl rfl rfl rfl
        have hasz : (olds.toArray ++ us.toArray ++ Builtin.zeroCells z.cells (grownCap w (n + k) cap E - (n + k))).size = grownCap w (n + k) cap E * e := by
         rw [Array.size_append, Array.size_append, hzc]
         simp only [List.size_toArray, hul, hol]
         rw [<- hmul, <- Nat.add_mul]; congr 1; omega
        have hme : (n + k) * e <= grownCap w (n + k) cap E * e := Nat.mul_le_mul_right _ hge
        have hxyl : (xs ++ ys).length = (n + k) * e := by rw [List.length_append, hxl, hyl, hmul]
        exact fin hrun ⟨_, _, _, by unfold Map.add; rw [if_pos hsz0.symm], rfl, hge, fun h => by simp at h, by simp only [hxyl]; omega, fun _ => by simp only [hxyl]; omega, by simp only [hasz]; omega, fun _ => rfl, hep⟩ (hk0.trans hk)
       split at hv
       ·-- the capacity is the length
        rename_i hxt
        split at hv
        ·simp only [zJ, zP] at hv
         obtain ⟨rfl, rfl⟩ := hv
         have := hxx hxt
         exact newArr (by omega) (Ok.refl hr) rfl rfl rfl
        ·simp at hv
       ·rename_i hxf
        have hxf' : x' = false := by simpa using hxf
        have hfr := hfree hxf'
        split at hv
        ·-- over what is there
         rename_i hin
         obtain ⟨H', hwr, hv⟩ := zM hv
         simp only [zP] at hv
         obtain ⟨rfl, rfl⟩ := hv
         have hst : (H.get l).st = .own := by
          unfold Heap.wr at hwr
          split at hwr
          ·rename_i hc; exact hc.1
          ·simp at hwr
         rw [(hr.cells l i hm (by rw [hst]; simp)).1] at hin
         have hnk : n + k <= cap := by
          refine Nat.le_of_mul_le_mul_right ?_ hep
          omega
         have hadr := had (by omega)
         subst hadr
         obtain ⟨hc1, hf1, hone1, hk⟩ := Ok.put hr hm hwr hus
         have hoff : i.off + q + n * inf.size = i.off + (q + n * e) := by rw [hsize]; omega
         have hrun := run_append_room_cells (P := P) w T o.type E inf hu hi i.b (i.off + q) n cap xa k xc us (by rw [hul, hsize]) hcell hone1 hnk (fun j hj => by rw [hoff]; exact hc1 j hj) (fun j hj => by rw [hoff]; exact hf1 j hj)
         rw [hoff] at hrun
         exact fin hrun ⟨i, _, cap, hm, rfl, hnk, fun h => by simp at h, hin, fun _ => hfr, hbsz, fun _ => rfl, hep⟩ hk
        ·split at hv
         ·rename_i hin hend
          obtain ⟨hend, hst⟩ := hend
          rw [(hr.cells l i hm (by rw [hst]; simp)).1] at hend hin
          simp only [zJ, zP] at hv
          obtain ⟨rfl, rfl⟩ := hv
          by_cases hnk : n + k <= cap
          ·have hadr := had (by omega)
           subst hadr
           have hcape : (n + k) * e <= cap * e := Nat.mul_le_mul_right _ hnk
           obtain ⟨hc1, hf1, hone1, hk⟩ := Ok.grow (o := q) hr hm hst (by omega) hus hone (by omega)
           have hoff : i.off + q + n * inf.size = i.off + i.n := by rw [hsize]; omega
           have hrun := run_append_room_cells (P := P) w T o.type E inf hu hi i.b (i.off + q) n cap xa k xc us (by rw [hul, hsize]) hcell hone1 hnk (fun j hj => by rw [hoff]; exact hc1 j hj) (fun j hj => by rw [hoff]; exact hf1 j hj)
           rw [hoff] at hrun
           have hxs : xs = (H.get l).cells.drop q := by
            unfold Heap.rd0 at hrd
            split at hrd
            ·rename_i h0
             simp only [zJ] at hrd
             subst hrd
             symm
             refine List.drop_eq_nil_of_le ?_
             rw [(hr.cells l i hm (by rw [hst]; simp)).1]; omega
            unfold Heap.rd at hrd
            split at hrd
            ·simp only [zJ] at hrd
             rw [<- hrd]
             refine List.take_of_length_le ?_
             rw [List.length_drop, (hr.cells l i hm (by rw [hst]; simp)).1]; omega
            ·simp at hrd
           refine fin (m' := m.add H.sz ⟨i.b, i.off + q, i.n - q + ys.length, i.bsz⟩) hrun ⟨_, _, cap, by unfold Map.add; rw [if_pos rfl], rfl, hnk, fun h => by simp at h, ?_, fun _ => ?_, ?_, fun _ => rfl, hep⟩ (by rw [hxs]; exact hk)
           ·simp only [hyl]; omega
           ·simp only [hyl]; omega
           ·simp only; omega
          ·exact newArr (by omega) (Ok.kill hr l (by rw [hm]; simp)) rfl rfl rfl
         ·simp at hv
     ·simp at hv
 ·simp at h
theorem acts_appm {e bs : Nat} {zs : List AV} {s x : Opd} (h : mOp P o (.appm e bs zs s x) = true) (hE : EnvR m env a.tmps) (hr : Rel base m H w) (hv : heapOp env H (.appm e bs zs s x) = some (v, H1)) : Acts P o a base m H w v H1 := by
 simp only [mOp] at h
 split at h
 ·rename_i Ts hB
  simp only [Bool.and_eq_true, beq_iff_eq] at h
  obtain ⟨⟨hs2, h01⟩, hub⟩ := h
  obtain ⟨c, ho, hc, rfl, hmo⟩ := isB_ok hB
  obtain ⟨T, d, hT, hu, hq⟩ := underB_ok hub
  have h1k : ∃ T1 kn, c.argTypes[1]? = some T1 /\ P.underlying T1 = some (.int kn) := by
   split at h01
   ·rename_i T1 hT1
    split at h01
    ·rename_i kn hk; exact ⟨T1, kn, hT1, hk⟩
    ·simp at h01
   ·simp at h01
  obtain ⟨T1, kn, hT1, hu1⟩ := h1k
  have hTs : c.argTypes = #[T, T1] := by
   apply Array.ext'
   have hl : c.argTypes.toList.length = 2 := by simpa using hs2
   rw [<- Array.getElem?_toList] at hT hT1
   match hL : c.argTypes.toList with
   | [p, q] => rw [hL] at hT hT1; simp at hT hT1; subst hT hT1; rfl
   | [] => rw [hL] at hl; simp at hl
   | [_] => rw [hL] at hl; simp at hl
   | _ :: _ :: _ :: _ => rw [hL] at hl; simp at hl
  have hde : ∃ E inf z, d = .slice E /\ P.info? E = some inf /\ inf.size = e /\ inf.bytes = bs /\ inf.zero = some z /\ isSlB.mCs zs z.cells.toList = true /\ z.cells.size = e := by
   cases d with
   | slice E =>
    cases hi : P.info? E with
    | none => simp [hi] at hq
    | some inf =>
     cases hz : inf.zero with
     | none => simp [hi, hz] at hq
     | some z =>
      simp only [hi, hz, Bool.and_eq_true, beq_iff_eq] at hq
      exact ⟨E, inf, z, rfl, hi, hq.1.1, hq.1.2, hz, hq.2.1, hq.2.2⟩
   | _ => simp at hq
  obtain ⟨E, inf, z, rfl, hi, hsize, hbytes, hz, hzr, hzs⟩ := hde
  obtain ⟨vs, hvs, S, vs', rfl, h1, X, vs'', rfl, h2, hn⟩ := args_eq hmo hE
  simp only [List.map_nil, VRs] at hn; subst hn
  simp only [heapOp] at hv
  split at hv
  ·rename_i n es ex
   split at hv
   ·rename_i hc
    obtain ⟨hn0, hroom, hzl, hep, hbp⟩ := hc
    simp only [zJ, zP] at hv
    obtain ⟨rfl, rfl⟩ := hv
    rw [es] at h1; simp only [VR] at h1; subst h1
    rw [ex] at h2; simp only [VR] at h2; subst h2
    obtain ⟨k, rfl⟩ : ∃ k : Nat, n = k := ⟨n.toNat, by omega⟩
    simp only [Int.toNat_natCast] at hroom ⊢
    have hkp : 0 < k := by omega
    have hk1 : k * 1 <= k * bs := Nat.mul_le_mul_left _ hbp
    have hrun := Lib.run_append_nil_zeros (P := P) w T T1 o.type E inf z .i64 kn hu hu1 hi hz k hkp (by omega) (by unfold room at hroom; omega) (by rw [hbytes]; unfold room at hroom; omega)
    have hzo := zeros_ok (m := m) (mCs_ok hzr) hzs k
    have hzc : Builtin.zeroCells z.cells k = (Array.range (k * e)).map (z.cells[· % z.cells.size]!) := by unfold Builtin.zeroCells; rw [hzs]
    have hge := grownCap_ge w k 0 E
    have hk := Ok.new (w' := w.drew.alloc (.cells (Builtin.zeroCells z.cells k ++ Builtin.zeroCells z.cells (grownCap w k 0 E - k)) E)) hr hzo (arr := Builtin.zeroCells z.cells k ++ Builtin.zeroCells z.cells (grownCap w k 0 E - k)) (T := E) (rest := (Builtin.zeroCells z.cells (grownCap w k 0 E - k)).toList) (by rw [hzc]; simp) rfl rfl rfl rfl
    have hasz : (Builtin.zeroCells z.cells k ++ Builtin.zeroCells z.cells (grownCap w k 0 E - k)).size = grownCap w k 0 E * e := by
     rw [Array.size_append, size_zeroCells, size_zeroCells, hzs, <- Nat.add_mul]
     congr 1; omega
    have hme : k * e <= grownCap w k 0 E * e := Nat.mul_le_mul_right _ hge
    have hfl : (List.replicate k zs).flatten.length = k * e := by rw [flat_length, hzl]
    refine Acts.of_value (run_builtin (P := P) w (s := Builtin.append_) ho hc (fun _ _ _ _ => rfl) (by rw [hvs, hTs]; exact hrun)) ?_ hk
    exact ⟨_, _, _, by unfold Map.add; rw [if_pos rfl], rfl, hge, fun h => by simp at h, by simp only [hfl]; omega, fun _ => by simp only [hfl]; omega, by simp only [hasz]; omega, fun _ => rfl, hep⟩
   ·simp at hv
  ·simp at hv
 ·simp at h
theorem acts_cpy {e : Nat} {d s : Opd} (h : mOp P o (.cpy e d s) = true) (hE : EnvR m env a.tmps) (hr : Rel base m H w) (hv : heapOp env H (.cpy e d s) = some (v, H1)) : Acts P o a base m H w v H1 := by
 simp only [mOp] at h
 split at h
 ·rename_i Ts hB
  obtain ⟨c, ho, hc, rfl, hmo⟩ := isB_ok hB
  obtain ⟨T, dd, hT, hu, hq⟩ := underB_ok h
  have hde : ∃ E inf, dd = .slice E /\ P.info? E = some inf /\ inf.size = e := by
   cases dd with
   | slice E =>
    cases hi : P.info? E with
    | none => simp [hi] at hq
    | some inf => simp only [hi, beq_iff_eq] at hq; exact ⟨E, inf, rfl, hi, hq⟩
   | _ => simp at hq
  obtain ⟨E, inf, rfl, hi, hsize⟩ := hde
  obtain ⟨vs, hvs, D, vs', rfl, h1, S, vs'', rfl, h2, hn⟩ := args_eq hmo hE
  simp only [List.map_nil, VRs] at hn; subst hn
  simp only [heapOp] at hv
  have fin : ∀ {w' m' v'}, (Builtin.copy_ c.argTypes o.type #[D, S]).run P w = .ok v' w' -> VR m' v v' -> Ok base m H w m' H1 w' -> Acts P o a base m H w v H1 := by
   intro w' m' v' hrun hvr hok
   exact Acts.of_value (run_builtin (P := P) w (s := Builtin.copy_) ho hc (fun _ _ _ _ => rfl) (by rw [hvs]; exact hrun)) hvr hok
  split at hv
  ·rename_i e1 e2
   simp only [zJ, zP] at hv
   obtain ⟨rfl, rfl⟩ := hv
   rw [e1] at h1; rw [e2] at h2; simp only [VR] at h1 h2; subst h1 h2
   refine fin (v' := .int .i64 0) (w' := w) (m' := m) ?_ rfl (Ok.refl hr)
   simp [Builtin.copy_, hT, run_underlying hu, sizeOf, typeInfo, hi, Builtin.lenOf, Builtin.firstCells, goInt]
  ·rename_i l q n e' x' e1 e2
   simp only [zJ, zP] at hv
   obtain ⟨rfl, rfl⟩ := hv
   rw [e1] at h1; rw [e2] at h2; simp only [VR] at h1; subst h1
   obtain ⟨i, ad, cap, hm, rfl, _⟩ := h2
   refine fin (v' := .int .i64 0) (w' := w) (m' := m) ?_ rfl (Ok.refl hr)
   simp [Builtin.copy_, hT, run_underlying hu, sizeOf, typeInfo, hi, Builtin.lenOf, Builtin.firstCells, goInt, loadCells, loadCellsFrom]
  ·rename_i l q n e' x' e1 e2
   simp only [zJ, zP] at hv
   obtain ⟨rfl, rfl⟩ := hv
   rw [e1] at h1; rw [e2] at h2; simp only [VR] at h2; subst h2
   obtain ⟨i, ad, cap, hm, rfl, _⟩ := h1
   refine fin (v' := .int .i64 0) (w' := w) (m' := m) ?_ rfl (Ok.refl hr)
   simp [Builtin.copy_, hT, run_underlying hu, sizeOf, typeInfo, hi, Builtin.lenOf, Builtin.firstCells, goInt, storeCells]
  ·rename_i l q n e1' x1 l2 q2 n2 e2' x2 e1 e2
   split at hv
   ·simp at hv
   ·rename_i hee
    obtain ⟨rfl, rfl, rfl⟩ : 1 = e1' /\ 1 = e2' /\ e = 1 := by omega
    rw [e1] at h1; rw [e2] at h2
    obtain ⟨i, ad, cap, hm, rfl, hcap, hxx, hle, hfree, hbsz, had, _⟩ := h1
    obtain ⟨i2, ad2, cap2, hm2, rfl, hcap2, hxx2, hle2, hfree2, hbsz2, had2, _⟩ := h2
    split at hv
    ·rename_i h0
     simp only [zJ, zP] at hv
     obtain ⟨rfl, rfl⟩ := hv
     refine fin (v' := .int .i64 0) (w' := w) (m' := m) ?_ rfl (Ok.refl hr)
     have hmn : Nat.min n2 n = 0 := h0
     obtain ⟨b1, b2, b3⟩ := ad
     simp [Builtin.copy_, hT, run_underlying hu, sizeOf, typeInfo, hi, Builtin.lenOf, Builtin.firstCells, goInt, storeCells, hmn, loadCells, loadCellsFrom]
    ·rename_i h0
     obtain ⟨xs, hrd, hv⟩ := Option.bind_eq_some_iff.1 hv
     obtain ⟨H', hwr, hv⟩ := zM hv
     simp only [zP] at hv
     obtain ⟨rfl, rfl⟩ := hv
     obtain ⟨hxl, hxle, us, hul, hus, hcell⟩ := hr.rd hm2 hrd
     rw [Nat.mul_one] at hul hxl
     obtain ⟨hc1, hf1, hone1, hk⟩ := Ok.put hr hm hwr hus
     have hadr := had (by omega)
     have hadr2 := had2 (by omega)
     subst hadr hadr2
     have hrun := run_copy_cells (P := P) w T T o.type E i.b (i.off + q) n cap ⟨i2.b, i2.off + q2, none⟩ n2 cap2 us hu (by simp [hi, hsize]) hul (fun j u hj => by rw [Addr.add_lit]; exact hcell j u hj) hc1 hf1 hone1
     refine fin (v' := .int .i64 us.length) (w' := w.setCells i.b (i.off + q) us) (m' := m) ?_ (by rw [hul]; rfl) hk
     rw [<- show goInt us.length = .int .i64 us.length from rfl, <- hrun]
     have hl := hmo
     simp only [Builtin.copy_, hT]
     simp [hT]
  ·simp at hv
 ·simp at h
theorem acts_clr {e : Nat} {zs : List AV} {x : Opd} (h : mOp P o (.clr e zs x) = true) (hE : EnvR m env a.tmps) (hr : Rel base m H w) (hv : heapOp env H (.clr e zs x) = some (v, H1)) : Acts P o a base m H w v H1 := by
 simp only [mOp] at h
 split at h
 ·rename_i Ts hB
  obtain ⟨c, ho, hc, rfl, hmo⟩ := isB_ok hB
  obtain ⟨T, dd, hT, hu, hq⟩ := underB_ok h
  have hde : ∃ E inf z, dd = .slice E /\ P.info? E = some inf /\ inf.size = e /\ inf.zero = some z /\ isSlB.mCs zs z.cells.toList = true /\ z.cells.size = e := by
   cases dd with
   | slice E =>
    cases hi : P.info? E with
    | none => simp [hi] at hq
    | some inf =>
     cases hz : inf.zero with
     | none => simp [hi, hz] at hq
     | some z =>
      simp only [hi, hz, Bool.and_eq_true, beq_iff_eq] at hq
      exact ⟨E, inf, z, rfl, hi, hq.1, hz, hq.2.1, hq.2.2⟩
   | _ => simp at hq
  obtain ⟨E, inf, z, rfl, hi, hsize, hz, hzr, hzs⟩ := hde
  obtain ⟨vs, hvs, X, vs', rfl, h1, hn⟩ := args_eq hmo hE
  simp only [List.map_nil, VRs] at hn; subst hn
  simp only [heapOp] at hv
  have fin : ∀ {w' m' v'}, (Builtin.clear_ c.argTypes o.type #[X]).run P w = .ok v' w' -> VR m' v v' -> Ok base m H w m' H1 w' -> Acts P o a base m H w v H1 := by
   intro w' m' v' hrun hvr hok
   exact Acts.of_value (run_builtin (P := P) w (s := Builtin.clear_) ho hc (fun _ _ _ _ => rfl) (by rw [hvs]; exact hrun)) hvr hok
  split at hv
  ·rename_i e1
   simp only [zJ, zP] at hv
   obtain ⟨rfl, rfl⟩ := hv
   rw [e1] at h1; simp only [VR] at h1; subst h1
   refine fin (v' := .tuple #[]) (w' := w) (m' := m) ?_ ⟨#[], rfl, by simp [VRs]⟩ (Ok.refl hr)
   simp [Builtin.clear_, hT, run_underlying hu]
  ·rename_i l q n e' x' e1
   rw [e1] at h1
   obtain ⟨i, ad, cap, hm, rfl, hcap, hxx, hle, hfree, hbsz, had, hpos⟩ := h1
   split at hv
   ·simp at hv
   ·rename_i hee
    have hee' : e = e' := by omega
    subst hee'
    split at hv
    ·rename_i h0
     subst h0
     simp only [zJ, zP] at hv
     obtain ⟨rfl, rfl⟩ := hv
     refine fin (v' := .tuple #[]) (w' := w) (m' := m) ?_ ⟨#[], rfl, by simp [VRs]⟩ (Ok.refl hr)
     simp [Builtin.clear_, hT, run_underlying hu]
    ·rename_i h0
     obtain ⟨H', hwr, hv⟩ := zM hv
     simp only [zP] at hv
     obtain ⟨rfl, rfl⟩ := hv
     have hadr := had (by omega)
     subst hadr
     have hzo := zeros_ok (m := m) (mCs_ok hzr) hzs n
     obtain ⟨hc1, hf1, hone1, hk⟩ := Ok.put hr hm hwr hzo
     have hst := run_storeCells_cells (P := P) i.b (i.off + q) ((Array.range (n * e)).map (z.cells[· % z.cells.size]!)).toList 0 w (by simpa using hc1) (by simpa using hf1) hone1
     rw [Nat.add_zero] at hst
     refine fin (v' := .tuple #[]) (w' := w.setCells i.b (i.off + q) ((Array.range (n * e)).map (z.cells[· % z.cells.size]!)).toList) (m' := m) ?_ ⟨#[], rfl, by simp [VRs]⟩ hk
     have hzc : Builtin.zeroCells z.cells n = (Array.range (n * e)).map (z.cells[· % z.cells.size]!) := by unfold Builtin.zeroCells; rw [hzs]
     have hzv := run_zero (P := P) (w := w) hi hz
     have hrun2 : (do storeCells ⟨i.b, i.off + q, none⟩ (Builtin.zeroCells (<- zeroValue E).cells n).toList : Sem Unit).run P w = .ok () (w.setCells i.b (i.off + q) ((Array.range (n * e)).map (z.cells[· % z.cells.size]!)).toList) := by
      simp only [Sem.run_bind, hzv, Result.andThen_ok, hzc, hst]
     obtain ⟨n', rfl⟩ : ∃ n', n = n' + 1 := ⟨n - 1, by omega⟩
     simp only [Builtin.clear_, hT, Sem.run_bind, run_underlying hu, Result.andThen_ok]
     simp [Sem.run_bind, run_underlying hu, hzv, hzc]
     simp only [Array.toList_map, Array.toList_range] at hst
     rw [hst]; rfl
  ·simp at hv
 ·simp at h
theorem sls_slx {e : Nat} {x : Opd} {lo hi mx : Option Opd} (hv : pureOp env (.sls e x lo hi mx) = some v) : heapOp env H (.slx e x lo hi mx) = some (v, H) := by
 simp only [pureOp] at hv
 simp only [heapOp]
 split at hv
 ·split at hv
  ·simp only [zJ] at hv; subst hv; rfl
  ·simp at hv
 ·rename_i l q n e' x' e1
  split at hv
  ·simp at hv
  ·rename_i hee
   simp only [if_neg hee]
   cases mx with
   | some mo => 
    try simp only at hv ⊢
    split at hv
    ·rename_i mb z em
     split at hv
     ·rename_i hb eh
      split at hv
      ·rename_i lb el
       split at hv
       ·rename_i hmh
        simp only [zJ] at hv; subst hv
        simp [em, eh, el, hmh]
       ·simp at hv
      ·simp at hv
     ·simp at hv
    ·simp at hv
   | none =>
    try simp only at hv ⊢
    have hh : ∀ h, obnd env n n hi = some h -> hbnd env H l q n e x' hi = some h := by
     intro h hh
     cases hi with
     | none => exact hh
     | some z =>
      simp only [obnd, bnd] at hh
      simp only [hbnd]
      split at hh
      ·rename_i k i ez
       split at hh
       ·rename_i hc
        try simp only [ez]
        rw [if_pos ⟨hc.1, .inl hc.2⟩]; exact hh
       ·simp at hh
      ·simp at hh
    split at hv
    ·rename_i hb eh
     rw [hh _ eh]
     split at hv
     ·rename_i lb el
      simp only [el]
      split at hv
      ·simp at hv
      ·rename_i hxn
       rw [if_neg hxn]
       simp only [zJ] at hv; subst hv; rfl
     ·simp at hv
    ·simp at hv
 ·simp at hv
theorem acts {c : COp} (h : mOp P o c = true) (hE : EnvR m env a.tmps) (hr : Rel base m H w) (hv : heapOp env H c = some (v, H1)) : Acts P o a base m H w v H1 := by
 have pure_ : ∀ {c : COp}, (∀ e x lo hi mx, c ≠ .sls e x lo hi mx) -> mOp P o c = true -> (pureOp env c).map (fun v => (v, H)) = some (v, H1) -> Acts P o a base m H w v H1 := by
  intro c hns h hv
  obtain ⟨v0, h0, hv⟩ := zM hv
  simp only [zP] at hv
  obtain ⟨rfl, rfl⟩ := hv
  obtain ⟨v', hrun, hvr⟩ := does_pure w hns h hE h0
  exact Acts.of_value hrun hvr (Ok.refl hr)
 cases c with
 | ld => exact acts_ld h hE hr hv
 | st => exact acts_st h hE hr hv
 | al => exact acts_alloc h hE hr hv
 | box => exact acts_alloc h hE hr hv
 | bsl => exact acts_alloc h hE hr hv
 | mk => exact acts_alloc h hE hr hv
 | slx => exact acts_slx h hE hr hv
 | sls e x lo hi mx =>
  obtain ⟨v0, h0, hv⟩ := zM (show (pureOp env (.sls e x lo hi mx)).map (fun v => (v, H)) = some (v, H1) from hv)
  simp only [zP] at hv
  obtain ⟨rfl, rfl⟩ := hv
  exact acts_slx (e := e) (x := x) (lo := lo) (hi := hi) (mx := mx) h hE hr (sls_slx h0)
 | b2s => exact acts_b2s h hE hr hv
 | app => exact acts_app h hE hr hv
 | appm => exact acts_appm h hE hr hv
 | cpy => exact acts_cpy h hE hr hv
 | clr => exact acts_clr h hE hr hv
 | _ => exact pure_ (by simp) h hv
end
end
section
def gMatch (ops : Array Oper) : Option (Nat × Bool) -> Option (Nat × Bool) -> Bool
 | none, none => true
 | some (j, b), some (s, b') => b == b' && (match ops[j]? with | some o => o.dst == some s | none => false)
 | _, _ => false
def opMatch (P : Program) (ops : Array Oper) (p : Nat × COper) : Bool :=
 match ops[p.1]? with
 | some o => mOp P o p.2.op && p.2.dst == o.dst && gMatch ops o.guard p.2.guard
 | none => false
section
variable {P : Program} {base : Nat} {m : Map} {H H1 : Heap} {w : World}
structure EnvL (m : Map) (env : Env) (a : Act) : Prop where
 r : EnvR m env a.tmps
 l : env.length <= a.tmps.size
theorem EnvL.mono {m' : Map} {env : Env} {a : Act} (h : MLe m m') (hE : EnvL m env a) : EnvL m' env a := ⟨hE.r.mono h, hE.l⟩
theorem EnvL.put {env : Env} {a : Act} {v : AV} {v' : Value} (d : Option Nat) (hE : EnvL m env a) (h : VR m v v') : EnvL m (putD env d v) (a.put d v') := by
 cases d with
 | none => exact hE
 | some d =>
  refine ⟨fun i => ?_, by simpa [putD, Act.put] using hE.l⟩
  simp only [putD, Act.put]
  by_cases hi : i = d
  ·subst hi
   by_cases hl : i < env.length
   ·have hs : i < a.tmps.size := Nat.lt_of_lt_of_le hl hE.l
    simp [zD, hl, Array.getD_eq_getD_getElem?, hs, h]
   ·have : (env.set i v).getD i .und = .und := by
     rw [zD, List.getElem?_eq_none (by rw [List.length_set]; omega)]; rfl
    rw [this]; trivial
  ·have e1 : (env.set d v).getD i .und = env.getD i .und := by
    simp [zD, List.getElem?_set_ne (Ne.symm hi)]
   have e2 : (a.tmps.setIfInBounds d v').getD i undef = a.tmps.getD i undef := by
    simp [Array.getD_eq_getD_getElem?, Array.getElem?_setIfInBounds_ne (Ne.symm hi)]
   rw [e1, e2]; exact hE.r i
theorem EnvL.kill {env : Env} {a : Act} (hE : EnvL m env a) : ∀ ts, EnvL m (killT env ts) a := by
 intro ts
 unfold killT
 induction ts generalizing env with
 | nil => exact hE
 | cons t ts ih =>
  refine ih ⟨fun i => ?_, by simpa using hE.l⟩
  by_cases hi : i = t
  ·subst hi
   have : (env.set i .und).getD i .und = .und := by
    rw [zD]
    by_cases hl : i < env.length
    ·simp [hl]
    ·rw [List.getElem?_eq_none (by rw [List.length_set]; omega)]; rfl
   rw [this]; trivial
  ·have e1 : (env.set t .und).getD i .und = env.getD i .und := by
    simp [zD, List.getElem?_set_ne (Ne.symm hi)]
   rw [e1]; exact hE.r i
theorem guard_ok {ops : Array Oper} {o : Oper} {g : Option (Nat × Bool)} {env : Env} {a : Act} (h : gMatch ops o.guard g = true) (hE : EnvL m env a) (hk : known env g = true) : Region.wanted o (yielded ops a.tmps) = wanted env g := by
 unfold Region.wanted
 cases hg : o.guard with
 | none =>
  rw [hg] at h
  cases g with
  | none => rfl
  | some g => simp [gMatch] at h
 | some p =>
  obtain ⟨j, b⟩ := p
  rw [hg] at h
  cases g with
  | none => simp [gMatch] at h
  | some q =>
   obtain ⟨s, b'⟩ := q
   simp only [gMatch, Bool.and_eq_true, beq_iff_eq] at h
   obtain ⟨rfl, h2⟩ := h
   cases ho : ops[j]? with
   | none => simp [ho] at h2
   | some oj =>
    simp only [ho, beq_iff_eq] at h2
    simp only [known] at hk
    split at hk
    ·rename_i c hc
     have hr := hE.r s
     rw [hc] at hr; simp only [VR] at hr
     have hts : a.tmps[s]? = some (.bool c) := by
      rw [Array.getD_eq_getD_getElem?] at hr
      cases hx : a.tmps[s]? with
      | none => rw [hx] at hr; simp [undef] at hr
      | some y => rw [hx] at hr; simpa using hr
     have hy : yielded ops a.tmps j = some c := by
      unfold yielded
      simp [ho, h2, hts]
     simp only [wanted, hc, hy]
     cases c <;> cases b <;> rfl
    ·rename_i hc
     have hr := hE.r s
     rw [hc] at hr
     obtain ⟨vs, hv, hvs⟩ := hr
     have hy : yielded ops a.tmps j = none := by
      unfold yielded
      simp only [ho, h2, Option.bind_some]
      cases hx : a.tmps[s]? with
      | none => rfl
      | some y =>
       rw [Array.getD_eq_getD_getElem?, hx] at hv
       simp only [Option.getD_some] at hv
       subst hv; rfl
     simp only [wanted, hc, hy]; rfl
    ·simp at hk
def SimCa (P : Program) (f : Nat) (args : List AV) (H : Heap) (v : AV) (H' : Heap) : Prop :=
 ∀ base m w args', Rel base m H w -> VRs m args args' -> Calls P f args'.toArray w fun e w' => ∃ v' m', e = .returned v' /\ VR m' v v' /\ Ok base m H w m' H' w'
def Callable (P : Program) (f : Nat) : Prop := ∃ fn, P.funcs[f]? = some fn /\ fn.body.isSome = true /\ (fn.name == "runtime.NumGoroutine") = false
def StepSim (P : Program) (o : COper) (env : Env) (H : Heap) (v : AV) (H1 : Heap) : Prop :=
 known env o.guard = true /\ ((wanted env o.guard = false /\ v = .tup [] /\ H1 = H) \/
  (wanted env o.guard = true /\ (heapOp env H o.op = some (v, H1) \/ ∃ f args, callee env o.op = some (f, args) /\ SimCa P f args H v H1 /\ Callable P f)))
theorem run_call {o : Oper} {c : COp} {env : Env} {a : Act} {f : Nat} {args : List AV} (h : mOp P o c = true) (hE : EnvR m env a.tmps) (hc : callee env c = some (f, args)) (hf : Callable P f) :
  ∃ args', VRs m args args' /\ (execOp a.eval o).run P w = .ok (.enter f args'.toArray) w := by
 obtain ⟨fn, hfn, hb, hn⟩ := hf
 have hfun : ∀ az, (callFunc f az).run P w = .ok (.enter f az) w := by
  intro az
  have hb' : ¬ fn.body = none := by cases hx : fn.body with | none => rw [hx] at hb; simp at hb | some _ => simp
  have hn' : ¬ fn.name = "runtime.NumGoroutine" := by simpa using hn
  simp [callFunc, Sem.run_bind, program, Sem.run, hfn, hn', hb']
 cases c with
 | call f' xs =>
  simp only [callee, zJ, zP] at hc
  obtain ⟨rfl, rfl⟩ := hc
  simp only [mOp] at h
  split at h
  ·rename_i c ho
   split at h
   ·rename_i f'' hcal
    simp only [Bool.and_eq_true, beq_iff_eq] at h
    obtain ⟨⟨rfl, hx⟩, _⟩ := h
    refine ⟨_, mOs_ok hx hE, ?_⟩
    have : (c.args.toList.map a.eval).toArray = c.args.map a.eval := by apply Array.ext'; simp
    rw [this]
    simp only [execOp, ho, resolve, hcal, Act.eval, Deferred.ofValue, run_pure_bind, invoke]
    simpa using hfun (c.args.map a.eval)
   ·simp at h
  ·simp at h
 | callv x xs =>
  simp only [callee] at hc
  split at hc
  ·rename_i f'' caps hx
   simp only [zJ, zP] at hc
   obtain ⟨rfl, rfl⟩ := hc
   simp only [mOp] at h
   split at h
   ·rename_i c ho
    split at h
    ·rename_i X hcal
     simp only [Bool.and_eq_true] at h
     obtain ⟨h1, h2⟩ := h
     have hX := mO_ok h1 hE
     rw [hx] at hX
     obtain ⟨vs, he, hvs⟩ := hX
     refine ⟨_, (mOs_ok h2 hE).append hvs, ?_⟩
     have : (c.args.toList.map a.eval ++ vs.toList).toArray = c.args.map a.eval ++ vs := by apply Array.ext'; simp
     rw [this]
     simp only [execOp, ho, resolve, hcal, he, Deferred.ofValue, run_pure_bind, invoke]
     simpa using hfun (c.args.map a.eval ++ vs)
    ·simp at h
   ·simp at h
  ·simp at hc
 | _ => simp [callee] at hc
theorem step_ok {ops : Array Oper} {Q : Exit -> Act -> World -> Prop} {i : Nat} {o : COper} {env : Env} {a : Act} {v : AV} {K : Act -> World -> Prop} (hm : opMatch P ops (i, o) = true) (hs : StepSim P o env H v H1) (hr : Rel base m H w) (hE : EnvL m env a)
  (hK : ∀ a' w' m', EnvL m' (putD env o.dst v) a' -> a'.defers = a.defers -> Ok base m H w m' H1 w' -> K a' w') : wpOp P ops Q i K a w := by
 unfold opMatch at hm
 split at hm
 ·rename_i oo hoo
  simp only at hoo
  simp only [Bool.and_eq_true, beq_iff_eq] at hm
  obtain ⟨⟨h1, h2⟩, h3⟩ := hm
  obtain ⟨hk, hs⟩ := hs
  have hw := guard_ok h3 hE hk
  unfold wpOp
  simp only [hoo]
  rcases hs with ⟨hwf, rfl, rfl⟩ | ⟨hwt, hs⟩
  ·rw [hw, hwf]
   simp only [Bool.false_eq_true, if_false]
   rw [<- h2]
   exact hK _ _ m (hE.put o.dst ⟨#[], rfl, rfl⟩) (by cases o.dst <;> rfl) (Ok.refl hr)
  ·rw [hw, hwt]
   simp only [if_true]
   refine .inl ?_
   unfold Oper.wp
   rcases hs with hop | ⟨f, args, hc, hsim, hf⟩
   ·obtain ⟨nx, w', m', v', hrun, hnx, hvr, hok⟩ := acts h1 hE.r hr hop
    rw [hrun]
    rcases hnx with rfl | ⟨rfl, rfl⟩
    ·rw [Oper.upon_value, <- h2]
     exact hK _ _ m' ((hE.mono hok.le).put o.dst hvr) (by cases o.dst <;> rfl) hok
    ·rw [Oper.upon_skip, <- h2]
     exact hK _ _ m' ((hE.mono hok.le).put o.dst hvr) (by cases o.dst <;> rfl) hok
   ·obtain ⟨args', hargs, hrun⟩ := run_call (w := w) h1 hE.r hc hf
    rw [hrun, Oper.upon_enter]
    refine (hsim base m w args' hr hargs).mono fun e w' he => ?_
    obtain ⟨v', m', rfl, hvr, hok⟩ := he
    simp only
    rw [<- h2]
    exact hK _ _ m' ((hE.mono hok.le).put o.dst hvr) (by cases o.dst <;> rfl) hok
 ·simp at hm
def OpsSim (P : Program) : List (Nat × COper) -> Env -> Heap -> Env -> Heap -> Prop
 | [], env, H, env', H' => env' = env /\ H' = H
 | (_, o) :: rest, env, H, env', H' => ∃ v H1, StepSim P o env H v H1 /\ (wanted env o.guard = true -> Kept env o.us H H1) /\ H.sz <= H1.sz /\ OpsSim P rest (putD env o.dst v) H1 env' H'
theorem ops_ok {ops : Array Oper} {Q : Exit -> Act -> World -> Prop} : ∀ (l : List (Nat × COper)) {env env' : Env} {H H' : Heap} {a : Act} {m : Map} {w : World}, (∀ p ∈ l, opMatch P ops p = true) -> OpsSim P l env H env' H' -> Rel base m H w -> EnvL m env a ->
  (∀ a' w' m', EnvL m' env' a' -> a'.defers = a.defers -> Ok base m H w m' H' w' -> Q .normal a' w') -> wpOps P ops Q (l.map (·.1)) a w
 | [], env, env', H, H', a, m, w, _, hs, hr, hE, hQ => by
  obtain ⟨rfl, rfl⟩ := hs
  exact hQ a w m hE rfl (Ok.refl hr)
 | (i, o) :: l, env, env', H, H', a, m, w, hm, hs, hr, hE, hQ => by
  obtain ⟨v, H1, hst, _, _, hrest⟩ := hs
  simp only [List.map_cons]
  rw [wpOps_cons]
  refine step_ok (hm (i, o) (by simp)) hst hr hE fun a1 w1 m1 hE1 hd1 hok1 => ?_
  refine ops_ok l (fun p hp => hm p (by simp [hp])) hrest hok1.rel hE1 fun a2 w2 m2 hE2 hd2 hok2 => ?_
  exact hQ a2 w2 m2 hE2 (hd2.trans hd1) (hok1.trans hok2)
end
end
section
def Opd.slots : Opd -> List Nat
 | .t i => [i]
 | .c _ => []
def oslots : Option Opd -> List Nat
 | some x => x.slots
 | none => []
def pslots : List (Nat × Nat × Opd) -> List Nat
 | [] => []
 | (_, _, x) :: ps => x.slots ++ pslots ps
def xslots : List Opd -> List Nat
 | [] => []
 | x :: xs => x.slots ++ xslots xs
def COp.slots : COp -> List Nat
 | .mv x | .neg x | .not x | .isnil _ x | .len x | .lens x | .conv _ x | .b2s x | .ld _ _ x | .box _ x | .fa _ x | .nc x | .ex x _ | .cap x | .clr _ _ x => x.slots
 | .pick c a b => c.slots ++ a.slots ++ b.slots
 | .bin _ x y | .beq _ x y | .eqs _ _ x y | .max x y | .st _ x y | .mk _ _ _ x y | .ia _ x y | .ix x y | .app _ _ x y | .appm _ _ _ x y | .cpy _ x y => x.slots ++ y.slots
 | .al _ | .fail => []
 | .bld _ ps | .bsl _ _ _ ps => pslots ps
 | .sls _ x lo hi mx | .slx _ x lo hi mx => x.slots ++ oslots lo ++ oslots hi ++ oslots mx
 | .sst x lo hi => x.slots ++ oslots lo ++ oslots hi
 | .fn _ xs => xslots xs
 | .call _ xs => xslots xs
 | .callv x xs => x.slots ++ xslots xs
section
variable {env env' : Env}
theorem ev_congr {x : Opd} (h : ∀ s ∈ x.slots, env.getD s .und = env'.getD s .und) : x.ev env = x.ev env' := by
 cases x with
 | t i => exact h i (by simp [Opd.slots])
 | c v => rfl
theorem evs_congr : ∀ {xs : List Opd}, (∀ s ∈ xslots xs, env.getD s .und = env'.getD s .und) -> xs.map (Opd.ev env) = xs.map (Opd.ev env')
 | [], _ => rfl
 | x :: xs, h => by
  simp only [List.map_cons]
  rw [ev_congr (x := x) fun s hs => h s (by simp [xslots, hs]), evs_congr (xs := xs) fun s hs => h s (by simp [xslots, hs])]
theorem lay_congr : ∀ {ps : List (Nat × Nat × Opd)} {cs : List AV}, (∀ s ∈ pslots ps, env.getD s .und = env'.getD s .und) -> layAll env cs ps = layAll env' cs ps
 | [], _, _ => rfl
 | (o, n, x) :: ps, cs, h => by
  simp only [layAll]
  rw [ev_congr (x := x) fun s hs => h s (by simp [pslots, hs]), lay_congr (ps := ps) fun s hs => h s (by simp [pslots, hs])]
theorem obnd_congr {y n : Nat} {x : Option Opd} (h : ∀ s ∈ oslots x, env.getD s .und = env'.getD s .und) : obnd env y n x = obnd env' y n x := by
 cases x with
 | none => rfl
 | some x => simp only [obnd]; rw [ev_congr h]
theorem hbnd_congr {H : Heap} {l o n e : Nat} {b : Bool} {x : Option Opd} (h : ∀ s ∈ oslots x, env.getD s .und = env'.getD s .und) : hbnd env H l o n e b x = hbnd env' H l o n e b x := by
 cases x with
 | none => rfl
 | some x => simp only [hbnd]; rw [ev_congr h]
theorem pure_congr {c : COp} (h : ∀ s ∈ c.slots, env.getD s .und = env'.getD s .und) : pureOp env c = pureOp env' c := by
 cases c with
 | mv x => simp only [pureOp]; rw [ev_congr h]
 | neg x => simp only [pureOp]; rw [ev_congr h]
 | not x => simp only [pureOp]; rw [ev_congr h]
 | isnil _ x => simp only [pureOp]; rw [ev_congr h]
 | len x => simp only [pureOp]; rw [ev_congr h]
 | lens x => simp only [pureOp]; rw [ev_congr h]
 | conv _ x => simp only [pureOp]; rw [ev_congr h]
 | fa _ x => simp only [pureOp]; rw [ev_congr h]
 | nc x => simp only [pureOp]; rw [ev_congr h]
 | ex x _ => simp only [pureOp]; rw [ev_congr h]
 | cap x => simp only [pureOp]; rw [ev_congr h]
 | pick c a b =>
  simp only [pureOp]
  rw [ev_congr (x := c) fun s hs => h s (by simp [COp.slots, hs]), ev_congr (x := a) fun s hs => h s (by simp [COp.slots, hs]), ev_congr (x := b) fun s hs => h s (by simp [COp.slots, hs])]
 | bin _ x y => simp only [pureOp]; rw [ev_congr (x := x) fun s hs => h s (by simp [COp.slots, hs]), ev_congr (x := y) fun s hs => h s (by simp [COp.slots, hs])]
 | beq _ x y => simp only [pureOp]; rw [ev_congr (x := x) fun s hs => h s (by simp [COp.slots, hs]), ev_congr (x := y) fun s hs => h s (by simp [COp.slots, hs])]
 | eqs _ _ x y => simp only [pureOp]; rw [ev_congr (x := x) fun s hs => h s (by simp [COp.slots, hs]), ev_congr (x := y) fun s hs => h s (by simp [COp.slots, hs])]
 | max x y => simp only [pureOp]; rw [ev_congr (x := x) fun s hs => h s (by simp [COp.slots, hs]), ev_congr (x := y) fun s hs => h s (by simp [COp.slots, hs])]
 | ia _ x y => simp only [pureOp]; rw [ev_congr (x := x) fun s hs => h s (by simp [COp.slots, hs]), ev_congr (x := y) fun s hs => h s (by simp [COp.slots, hs])]
 | ix x y => simp only [pureOp]; rw [ev_congr (x := x) fun s hs => h s (by simp [COp.slots, hs]), ev_congr (x := y) fun s hs => h s (by simp [COp.slots, hs])]
 | bld zs ps => simp only [pureOp]; rw [lay_congr h]
 | sls e x lo hi mx =>
  simp only [pureOp]
  rw [ev_congr (x := x) fun s hs => h s (by simp [COp.slots, hs])]
  have h1 : ∀ y n, obnd env y n lo = obnd env' y n lo := fun y n => obnd_congr fun s hs => h s (by simp [COp.slots, hs])
  have h2 : ∀ y n, obnd env y n hi = obnd env' y n hi := fun y n => obnd_congr fun s hs => h s (by simp [COp.slots, hs])
  cases hi with
  | none =>
   cases mx with
   | none => simp only [h1, h2]
   | some m =>
    have em := ev_congr (env := env) (env' := env') (x := m) fun s hs => h s (by simp [COp.slots, oslots, hs])
    simp only [h1, h2, em]
    cases Opd.ev env' x with
    | sl l o n e' b => cases hb : bnd n (Opd.ev env' m) <;> simp only [hb]
    | _ => rfl
  | some hx =>
   have eh := ev_congr (env := env) (env' := env') (x := hx) fun s hs => h s (by simp [COp.slots, oslots, hs])
   cases mx with
   | none => simp only [h1, h2]
   | some m =>
    have em := ev_congr (env := env) (env' := env') (x := m) fun s hs => h s (by simp [COp.slots, oslots, hs])
    simp only [h1, h2, em]
    cases Opd.ev env' x with
    | sl l o n e' b => cases hb : bnd n (Opd.ev env' m) <;> simp only [hb, eh]
    | _ => rfl
 | sst x lo hi =>
  simp only [pureOp]
  rw [ev_congr (x := x) fun s hs => h s (by simp [COp.slots, hs])]
  have h1 : ∀ y n, obnd env y n lo = obnd env' y n lo := fun y n => obnd_congr fun s hs => h s (by simp [COp.slots, hs])
  have h2 : ∀ y n, obnd env y n hi = obnd env' y n hi := fun y n => obnd_congr fun s hs => h s (by simp [COp.slots, hs])
  simp only [h1, h2]
 | fn f xs => simp only [pureOp]; rw [evs_congr h]
 | _ => rfl
theorem alloc_congr {k : Nat} {c : COp} (h : ∀ s ∈ c.slots, env.getD s .und = env'.getD s .und) : allocOp env k c = allocOp env' k c := by
 cases c with
 | box n x => simp only [allocOp]; rw [ev_congr h]
 | bsl e n zs ps => simp only [allocOp]; rw [lay_congr h]
 | mk e bs zs x y => simp only [allocOp]; rw [ev_congr (x := x) fun s hs => h s (by simp [COp.slots, hs]), ev_congr (x := y) fun s hs => h s (by simp [COp.slots, hs])]
 | _ => rfl
theorem heap_congr {H : Heap} {c : COp} (h : ∀ s ∈ c.slots, env.getD s .und = env'.getD s .und) : heapOp env H c = heapOp env' H c := by
 cases c with
 | ld n ag x => simp only [heapOp]; rw [ev_congr h]
 | st n x y => simp only [heapOp]; rw [ev_congr (x := x) fun s hs => h s (by simp [COp.slots, hs]), ev_congr (x := y) fun s hs => h s (by simp [COp.slots, hs])]
 | al zs => simp only [heapOp]; rw [alloc_congr h]
 | box n x => simp only [heapOp]; rw [alloc_congr h]
 | bsl e n zs ps => simp only [heapOp]; rw [alloc_congr h]
 | mk e bs zs x y => simp only [heapOp]; rw [alloc_congr h]
 | b2s x => simp only [heapOp]; rw [ev_congr h]
 | app e bs x y => simp only [heapOp]; rw [ev_congr (x := x) fun s hs => h s (by simp [COp.slots, hs]), ev_congr (x := y) fun s hs => h s (by simp [COp.slots, hs])]
 | appm e bs zs x y => simp only [heapOp]; rw [ev_congr (x := x) fun s hs => h s (by simp [COp.slots, hs]), ev_congr (x := y) fun s hs => h s (by simp [COp.slots, hs])]
 | cpy e x y => simp only [heapOp]; rw [ev_congr (x := x) fun s hs => h s (by simp [COp.slots, hs]), ev_congr (x := y) fun s hs => h s (by simp [COp.slots, hs])]
 | clr e zs x => simp only [heapOp]; rw [ev_congr h]
 | slx e x lo hi mx =>
  simp only [heapOp]
  rw [ev_congr (x := x) fun s hs => h s (by simp [COp.slots, hs])]
  have h1 : ∀ y n, obnd env y n lo = obnd env' y n lo := fun y n => obnd_congr fun s hs => h s (by simp [COp.slots, hs])
  have h2 : ∀ y n, obnd env y n hi = obnd env' y n hi := fun y n => obnd_congr fun s hs => h s (by simp [COp.slots, hs])
  have h3 : ∀ l o n e b, hbnd env H l o n e b hi = hbnd env' H l o n e b hi := fun l o n e b => hbnd_congr fun s hs => h s (by simp [COp.slots, hs])
  cases hi with
  | none =>
   cases mx with
   | none => simp only [h1, h2, h3]
   | some m =>
    have em := ev_congr (env := env) (env' := env') (x := m) fun s hs => h s (by simp [COp.slots, oslots, hs])
    simp only [h1, h2, h3, em]
    cases Opd.ev env' x with
    | sl l o n e' b => cases hb : bnd n (Opd.ev env' m) <;> simp only [hb]
    | _ => rfl
  | some hx =>
   have eh := ev_congr (env := env) (env' := env') (x := hx) fun s hs => h s (by simp [COp.slots, oslots, hs])
   cases mx with
   | none => simp only [h1, h2, h3]
   | some m =>
    have em := ev_congr (env := env) (env' := env') (x := m) fun s hs => h s (by simp [COp.slots, oslots, hs])
    simp only [h1, h2, h3, em]
    cases Opd.ev env' x with
    | sl l o n e' b => cases hb : bnd n (Opd.ev env' m) <;> simp only [hb, eh]
    | _ => rfl
 | _ => exact congrArg (fun x : Option AV => x.map fun v => (v, H)) (pure_congr h)
theorem callee_congr {c : COp} (h : ∀ s ∈ c.slots, env.getD s .und = env'.getD s .und) : callee env c = callee env' c := by
 cases c with
 | call f xs => simp only [callee]; rw [evs_congr h]
 | callv x xs => simp only [callee]; rw [ev_congr (x := x) fun s hs => h s (by simp [COp.slots, hs]), evs_congr (xs := xs) fun s hs => h s (by simp [COp.slots, hs])]
 | _ => rfl
def gslots : Option (Nat × Bool) -> List Nat
 | none => []
 | some (s, _) => [s]
theorem guard_congr {g : Option (Nat × Bool)} (h : ∀ s ∈ gslots g, env.getD s .und = env'.getD s .und) : known env g = known env' g /\ wanted env g = wanted env' g := by
 cases g with
 | none => exact ⟨rfl, rfl⟩
 | some q =>
  obtain ⟨s, b⟩ := q
  have := h s (by simp [gslots])
  simp only [known, wanted, this, and_self]
end
end
section
def ancStep (tbl : List Nat) (o : Oper) : Nat := o.after.toList.foldl (fun s e => if Region.binds .any e then s ||| 2 ^ e.on ||| tbl.getD e.on 0 else s) 0
def ancTbl : List Oper -> List Nat -> List Nat
 | [], tbl => tbl
 | o :: os, tbl => ancTbl os (tbl ++ [ancStep tbl o])
def anc (tbl : List Nat) (i j : Nat) : Bool := (tbl.getD i 0).testBit j
def isOther : COp -> Bool
 | .st .. | .app .. | .appm .. | .cpy .. | .clr .. | .call .. | .callv .. | .slx .. | .b2s .. | .fail => true
 | _ => false
def rds (o : COper) : List Nat := o.op.slots ++ gslots o.guard
def pairOk (tbl : List Nat) (p q : Nat × COper) : Bool :=
 p.1 != q.1 && (!isOther p.2.op || anc tbl q.1 p.1) &&
 (match p.2.op with
  | .ld n _ (.t s) => (!isOther q.2.op || anc tbl q.1 p.1 || q.2.us.contains (s, n)) && q.2.dst != some s
  | .ld _ _ (.c _) => false
  | _ => true) &&
 (match p.2.dst with
  | some d => q.2.dst != some d && (!(rds q.2).contains d || anc tbl q.1 p.1)
  | none => true) &&
 (match q.2.dst with
  | some d => !(rds p.2).contains d || anc tbl q.1 p.1
  | none => true)
def pairsOk (tbl : List Nat) : List (Nat × COper) -> Bool
 | [] => true
 | p :: rest => rest.all (pairOk tbl p) && pairsOk tbl rest
def topoOk (ops : Array Oper) : List Nat -> List (Nat × COper) -> Bool
 | _, [] => true
 | seen, p :: rest => (match ops[p.1]? with
  | some o => o.after.toList.all fun e => !Region.binds .any e || seen.contains e.on
  | none => false) && topoOk ops (p.1 :: seen) rest
def oneOk (p : Nat × COper) : Bool :=
 match p.2.op with
 | .ld _ _ (.t s) => p.2.dst != some s
 | .ld _ _ (.c _) => false
 | _ => true
def drawChk (P : Program) (ops : Array Oper) (L : List (Nat × COper)) : Bool :=
 L.all (opMatch P ops) && topoOk ops [] L && L.all oneOk && pairsOk (ancTbl ops.toList []) L && (List.range ops.size).all fun i => L.any fun p => p.1 == i
theorem pairsOk_at {tbl : List Nat} : ∀ {L : List (Nat × COper)}, pairsOk tbl L = true -> ∀ p q, p < q -> ∀ (hq : q < L.length) (hp : p < L.length), pairOk tbl L[p] L[q] = true
 | [], _, p, q, _, hq, _ => by simp at hq
 | x :: L, h, 0, q + 1, _, hq, _ => by
  simp only [pairsOk, Bool.and_eq_true] at h
  exact (List.all_eq_true.1 h.1) _ (List.getElem_mem _)
 | x :: L, h, p + 1, q + 1, hlt, hq, hp => by
  simp only [pairsOk, Bool.and_eq_true] at h
  exact pairsOk_at h.2 p q (by omega) (by simpa using hq) (by simpa using hp)
 | x :: L, h, 0, 0, hlt, _, _ => by omega
 | x :: L, h, p + 1, 0, hlt, _, _ => by omega
def Tells (ops : List Oper) (tbl : List Nat) : Prop :=
 ∀ i, i < tbl.length -> ∀ j, (tbl.getD i 0).testBit j = true -> ∃ o e, ops[i]? = some o /\ e ∈ o.after /\ Region.binds .any e = true /\ (e.on = j \/ (e.on < i /\ (tbl.getD e.on 0).testBit j = true))
theorem foldl_bits (tbl : List Nat) (j : Nat) : ∀ (es : List Edge) (s : Nat), (es.foldl (fun s e => if Region.binds .any e then s ||| 2 ^ e.on ||| tbl.getD e.on 0 else s) s).testBit j = true ->
    s.testBit j = true \/ ∃ e ∈ es, Region.binds .any e = true /\ (e.on = j \/ (tbl.getD e.on 0).testBit j = true)
  | [], s, h => .inl h
  | e :: es, s, h => by
    simp only [List.foldl_cons] at h
    rcases foldl_bits tbl j es _ h with h | ⟨e', he', h⟩
    · by_cases hb : Region.binds .any e = true
      · rw [if_pos hb] at h
        simp only [Nat.testBit_or, Bool.or_eq_true] at h
        rcases h with (h | h) | h
        · exact .inl h
        · refine .inr ⟨e, by simp, hb, .inl ?_⟩
          rw [Nat.testBit_two_pow] at h
          simpa using h
        · exact .inr ⟨e, by simp, hb, .inr h⟩
      · rw [if_neg hb] at h; exact .inl h
    · exact .inr ⟨e', by simp [he'], h⟩
theorem tells_tbl : ∀ (os pre : List Oper) (tbl : List Nat), tbl.length = pre.length -> Tells (pre ++ os) tbl -> Tells (pre ++ os) (ancTbl os tbl)
 | [], pre, tbl, _, h => by simpa [ancTbl] using h
 | o :: os, pre, tbl, hl, h => by
  have := tells_tbl os (pre ++ [o]) (tbl ++ [ancStep tbl o]) (by simp [hl]) ?_
  ·simpa [ancTbl] using this
  ·intro i hi j hj
   simp only [List.append_assoc, List.singleton_append]
   have hget : ∀ k, k < tbl.length -> (tbl ++ [ancStep tbl o]).getD k 0 = tbl.getD k 0 := fun k hk => by
    simp only [zD]; rw [List.getElem?_append_left hk]
   by_cases hlt : i < tbl.length
   ·rw [hget i hlt] at hj
    obtain ⟨o', e, h1, h2, h3, h4⟩ := h i hlt j hj
    refine ⟨o', e, h1, h2, h3, h4.imp id fun ⟨h5, h6⟩ => ⟨h5, by rw [hget _ (by omega)]; exact h6⟩⟩
   ·have hie : i = tbl.length := by simp at hi; omega
    subst hie
    have : (tbl ++ [ancStep tbl o]).getD tbl.length 0 = ancStep tbl o := by simp [zD]
    rw [this] at hj
    rcases foldl_bits tbl j _ 0 hj with h0 | ⟨e, he, hb, hc⟩
    ·simp at h0
    ·refine ⟨o, e, by rw [List.getElem?_append_right (by omega)]; simp [hl], by simpa using he, hb, ?_⟩
     rcases hc with hc | hc
     ·exact .inl hc
     ·refine .inr ?_
      have hlt' : e.on < tbl.length := by
       rcases Nat.lt_or_ge e.on tbl.length with h | h
       ·exact h
       ·rw [zD, List.getElem?_eq_none h] at hc; simp at hc
      exact ⟨hlt', by rw [hget _ hlt']; exact hc⟩
theorem tells (ops : Array Oper) : Tells ops.toList (ancTbl ops.toList []) := by
 have := tells_tbl ops.toList [] [] rfl (by intro i hi; simp at hi)
 simpa using this
def Closed (ops : Array Oper) (S : Nat -> Prop) : Prop := ∀ i o e, S i -> ops[i]? = some o -> e ∈ o.after -> Region.binds .any e = true -> S e.on
theorem closed_anc {ops : Array Oper} {S : Nat -> Prop} (hc : Closed ops S) : ∀ i j, S i -> anc (ancTbl ops.toList []) i j = true -> S j := by
 intro i
 induction i using Nat.strongRecOn with
 | _ i ih =>
  intro j hi hj
  unfold anc at hj
  have hlt : i < (ancTbl ops.toList []).length := by
   rcases Nat.lt_or_ge i (ancTbl ops.toList []).length with h | h
   ·exact h
   ·rw [zD, List.getElem?_eq_none h] at hj; simp at hj
  obtain ⟨o, e, h1, h2, h3, h4⟩ := tells ops i hlt j hj
  have hse := hc i o e hi (by simpa using h1) h2 h3
  rcases h4 with h4 | ⟨h4, h5⟩
  ·rw [<- h4]; exact hse
  ·exact ih e.on h4 j hse h5
theorem ready_anc {ops : Array Oper} {S : Nat -> Prop} (hc : Closed ops S) {i : Nat} {o : Oper} (ho : ops[i]? = some o) (hr : ∀ e ∈ o.after, Region.binds .any e = true -> S e.on) {j : Nat} (hj : anc (ancTbl ops.toList []) i j = true) : S j := by
 unfold anc at hj
 have hlt : i < (ancTbl ops.toList []).length := by
  rcases Nat.lt_or_ge i (ancTbl ops.toList []).length with h | h
  ·exact h
  ·rw [zD, List.getElem?_eq_none h] at hj; simp at hj
 obtain ⟨o', e, h1, h2, h3, h4⟩ := tells ops i hlt j hj
 have : o' = o := by
  have h1' : ops[i]? = some o' := by simpa using h1
  rw [ho] at h1'; simpa using h1'.symm
 subst this
 have hse := hr e h2 h3
 rcases h4 with h4 | ⟨_, h5⟩
 ·rw [<- h4]; exact hse
 ·exact closed_anc hc e.on j hse h5
theorem trace {P : Program} : ∀ {L : List (Nat × COper)} {env env' : Env} {H H' : Heap}, OpsSim P L env H env' H' -> ∃ (E : Nat -> Env) (K : Nat -> Heap) (V : Nat -> AV), E 0 = env /\ K 0 = H /\ E L.length = env' /\ K L.length = H' /\
  ∀ p (hp : p < L.length), StepSim P L[p].2 (E p) (K p) (V p) (K (p + 1)) /\ E (p + 1) = putD (E p) L[p].2.dst (V p) /\ (wanted (E p) L[p].2.guard = true -> Kept (E p) L[p].2.us (K p) (K (p + 1))) /\ (K p).sz <= (K (p + 1)).sz
 | [], env, env', H, H', ⟨h1, h2⟩ => ⟨fun _ => env, fun _ => H, fun _ => .und, rfl, rfl, h1.symm, h2.symm, fun p hp => by simp at hp⟩
 | (i, o) :: L, env, env', H, H', ⟨v, H1, hs, hkp, hsz, hrest⟩ => by
  obtain ⟨E, K, V, h1, h2, h3, h4, h5⟩ := trace hrest
  refine ⟨fun | 0 => env | p + 1 => E p, fun | 0 => H | p + 1 => K p, fun | 0 => v | p + 1 => V p, rfl, rfl, h3, h4, fun p hp => ?_⟩
  cases p with
  | zero => simp only [List.getElem_cons_zero, h1, h2]; exact ⟨hs, trivial, hkp, hsz⟩
  | succ p => exact h5 p (by simpa using hp)
theorem Rel.ext {base : Nat} {m : Map} {H H' : Heap} {w : World} (h : Rel base m H w) (hg : ∀ l, l < H.sz -> H'.get l = H.get l) (hs : H.sz <= H'.sz) : Rel base m H' w := by
 refine ⟨fun l i e => Nat.lt_of_lt_of_le (h.dom l i e) hs, h.size, fun l i e hst => ?_, fun l i e hst => ?_, fun l i e hst => ?_, fun l l' i i' e e' hne hst hst' => ?_, h.tab⟩
 ·rw [hg l (h.dom l i e)] at hst ⊢; exact h.cells l i e hst
 ·rw [hg l (h.dom l i e)] at hst; exact h.own l i e hst
 ·rw [hg l (h.dom l i e)] at hst; exact h.ro l i e hst
 ·rw [hg l (h.dom l i e)] at hst; rw [hg l' (h.dom l' i' e')] at hst'; exact h.sep l l' i i' e e' hne hst hst'
theorem Ok.ext {base : Nat} {m m' : Map} {H H' H'' : Heap} {w w' : World} (h : Ok base m H w m' H' w') (hg : ∀ l, l < H'.sz -> H''.get l = H'.get l) (hs : H'.sz <= H''.sz) : Ok base m H w m' H'' w' := by
 refine ⟨h.rel.ext hg hs, h.le, Nat.le_trans h.sz hs, fun l hl e => ?_, h.fr, fun l i e hst => ?_⟩
 ·obtain ⟨h1, h2⟩ := h.un l hl e
  exact ⟨h1, (hg l (Nat.lt_of_lt_of_le hl h.sz)).trans h2⟩
 ·rw [hg l (h.rel.dom l i e)] at hst; exact h.ow l i e hst
theorem Ok.made {base : Nat} {m0 m : Map} {H0 R : Heap} {w0 w w' : World} (h : Ok base m0 H0 w0 m R w) {k : Nat} (hk : m k = none) (hk0 : H0.sz <= k) (hkR : k < R.sz) {cs : List AV} (hR : R.get k = ⟨cs, .own⟩) {arr : Array Value} {T : TypeId} {rest : List Value} {us : List Value}
  (hcs : VRs m cs us) (harr : arr.toList = us ++ rest) (hw : w'.heap = w.heap.push (.cells arr T (0, 0))) (ho : w'.os = w.os) (ht : w'.tape = w.tape) (hu : w'.output = w.output) :
  Ok base m0 H0 w0 (m.add k ⟨w.heap.size, 0, cs.length, arr.size⟩) R w' := by
 have hle : MLe m (m.add k ⟨w.heap.size, 0, cs.length, arr.size⟩) := MLe.add hk
 have hold : ∀ b, b < w.heap.size -> w'.heap[b]? = w.heap[b]? := fun b hb => by rw [hw, Array.getElem?_push_lt hb, Array.getElem?_eq_getElem hb]
 have hnew : w'.heap[w.heap.size]? = some (.cells arr T (0, 0)) := by rw [hw]; simp
 have hsz : w'.heap.size = w.heap.size + 1 := by rw [hw]; simp
 have hul := hcs.length
 have hal : arr.size = us.length + rest.length := by rw [<- Array.length_toList, harr, List.length_append]
 have key : ∀ l i, m.add k ⟨w.heap.size, 0, cs.length, arr.size⟩ l = some i -> (l = k /\ i = ⟨w.heap.size, 0, cs.length, arr.size⟩) \/ (l ≠ k /\ m l = some i) := by
  intro l i e
  unfold Map.add at e
  split at e
  ·rename_i hl; exact .inl ⟨hl, by simpa using e.symm⟩
  ·rename_i hl; exact .inr ⟨hl, e⟩
 have hcl : ∀ j v, us[j]? = some v -> w'.cell? ⟨w.heap.size, 0 + j, none⟩ = some v := by
  intro j v hv
  unfold World.cell?
  simp only [hnew, Option.isSome_none, Bool.false_eq_true, if_false, Nat.zero_add]
  rw [<- Array.getElem?_toList, harr, List.getElem?_append_left (zS hv).1, hv]
 have hr := h.rel
 refine ⟨⟨?_, by rw [hsz]; have := hr.size; omega, ?_, ?_, ?_, ?_, hr.tab.on fun b hb => hold b (Nat.lt_of_lt_of_le hb hr.size)⟩, h.le.trans hle, h.sz, ?_, ⟨ho.trans h.fr.os, ht.trans h.fr.tape, hu.trans h.fr.output, by rw [hsz]; have := h.fr.size; omega, fun b hb hn => ?_⟩, ?_⟩
 ·intro l i e
  rcases key l i e with ⟨rfl, _⟩ | ⟨_, e⟩
  ·exact hkR
  ·exact hr.dom l i e
 ·intro l i e hst
  rcases key l i e with ⟨rfl, rfl⟩ | ⟨hl, e⟩
  ·rw [hR]
   refine ⟨rfl, fun j hj => ?_⟩
   obtain ⟨v, hv, hr⟩ := hcs.at j hj
   exact ⟨v, hcl j v hv, hr.mono hle⟩
  ·obtain ⟨h1, h2⟩ := hr.cells l i e hst
   refine ⟨h1, fun j hj => ?_⟩
   obtain ⟨v, hv, hr⟩ := h2 j hj
   refine ⟨v, ?_, hr.mono hle⟩
   rw [cell_of_heap (hold _ (World.block_lt_of_cell? w _ hv)), hv]
 ·intro l i e hst
  rcases key l i e with ⟨rfl, rfl⟩ | ⟨hl, e⟩
  ·refine ⟨hr.size, by simp; omega, ⟨arr, T, _, hnew, rfl⟩, fun off => ?_⟩
   unfold World.frozen?
   simp only [hnew]
   simp
  ·obtain ⟨h1, h2, ⟨ar, T', fz, h3, h4⟩, h5⟩ := hr.own l i e hst
   have hb : i.b < w.heap.size := (Array.getElem?_eq_some_iff.1 h3).1
   exact ⟨h1, h2, ⟨ar, T', fz, by rw [hold _ hb, h3], h4⟩, fun off => by rw [frozen_of_heap (hold _ hb), h5]⟩
 ·intro l i e hst hn
  rcases key l i e with ⟨rfl, rfl⟩ | ⟨hl, e⟩
  ·rw [hR] at hst; simp at hst
  ·exact hr.ro l i e hst hn
 ·intro l l' i i' e e' hne hst hst'
  rcases key l i e with ⟨h1, rfl⟩ | ⟨hl, e1⟩ <;> rcases key l' i' e' with ⟨h1', rfl⟩ | ⟨hl', e1'⟩
  ·exact absurd (h1.trans h1'.symm) hne
  ·obtain ⟨_, _, ⟨ar, T', fz, h3, h4⟩, _⟩ := hr.own l' i' e1' hst'
   have hb : i'.b < w.heap.size := (Array.getElem?_eq_some_iff.1 h3).1
   simp; omega
  ·obtain ⟨_, _, ⟨ar, T', fz, h3, h4⟩, _⟩ := hr.own l i e1 hst
   have hb : i.b < w.heap.size := (Array.getElem?_eq_some_iff.1 h3).1
   simp; omega
  ·exact hr.sep l l' i i' e1 e1' hne hst hst'
 ·intro l hl e
  have hne : l ≠ k := by omega
  obtain ⟨h1, h2⟩ := h.un l hl e
  exact ⟨by unfold Map.add; rw [if_neg hne, h1], h2⟩
 ·rw [hold b (Nat.lt_of_lt_of_le hb h.fr.size)]; exact h.fr.block b hb hn
 ·intro l i e hst
  rcases key l i e with ⟨rfl, rfl⟩ | ⟨hl, e⟩
  ·exact .inl h.fr.size
  ·exact h.ow l i e hst
end
section
section
variable {P : Program} {ops : Array Oper} {L : List (Nat × COper)}
structure Run (P : Program) (L : List (Nat × COper)) (E : Nat -> Env) (K : Nat -> Heap) (V : Nat -> AV) : Prop where
 step : ∀ p (hp : p < L.length), StepSim P L[p].2 (E p) (K p) (V p) (K (p + 1))
 env : ∀ p (hp : p < L.length), E (p + 1) = putD (E p) L[p].2.dst (V p)
 kept : ∀ p (hp : p < L.length), wanted (E p) L[p].2.guard = true -> Kept (E p) L[p].2.us (K p) (K (p + 1))
 sz : ∀ p, p < L.length -> (K p).sz <= (K (p + 1)).sz
theorem putD_ne {env : Env} {d : Option Nat} {v : AV} {s : Nat} (h : d ≠ some s) : (putD env d v).getD s .und = env.getD s .und := by
 cases d with
 | none => rfl
 | some d =>
  have : d ≠ s := fun e => h (by rw [e])
  simp [putD, zD, List.getElem?_set_ne this]
theorem putD_length {env : Env} {d : Option Nat} {v : AV} : (putD env d v).length = env.length := by cases d <;> simp [putD]
variable {E : Nat -> Env} {K : Nat -> Heap} {V : Nat -> AV}
theorem Run.length (h : Run P L E K V) : ∀ p, p <= L.length -> (E p).length = (E 0).length
 | 0, _ => rfl
 | p + 1, hp => by rw [h.env p (by omega), putD_length]; exact h.length p (by omega)
theorem Run.same (h : Run P L E K V) {s p : Nat} : ∀ q, p <= q -> q <= L.length -> (∀ r (hr : r < L.length), p <= r -> r < q -> L[r].2.dst ≠ some s) -> (E q).getD s .und = (E p).getD s .und
 | q, hpq, hq, hn => by
  rcases Nat.lt_or_ge p q with hlt | hge
  ·obtain ⟨q', rfl⟩ : ∃ q', q = q' + 1 := ⟨q - 1, by omega⟩
   rw [h.env q' (by omega), putD_ne (hn q' (by omega) (by omega) (by omega))]
   exact Run.same h q' (by omega) (by omega) fun r hr h1 h2 => hn r hr h1 (by omega)
  ·have : p = q := by omega
   subst this; rfl
theorem quiet_heap {env : Env} {H H1 : Heap} {v : AV} {c : COp} (ho : isOther c = false) (h : heapOp env H c = some (v, H1)) : H1 = H \/ ∃ cs, allocOp env H.sz c = some (v, cs) /\ H1 = H.new cs := by
 have pure_ : (pureOp env c).map (fun v => (v, H)) = some (v, H1) -> H1 = H := by
  intro h
  obtain ⟨v0, _, h⟩ := zM h
  simp only [zP] at h
  exact h.2.symm
 have alloc_ : (allocOp env H.sz c).map (fun (v, cs) => (v, H.new cs)) = some (v, H1) -> ∃ cs, allocOp env H.sz c = some (v, cs) /\ H1 = H.new cs := by
  intro h
  obtain ⟨⟨v0, cs⟩, h0, h⟩ := zM h
  simp only [zP] at h
  exact ⟨cs, by rw [h0, h.1], h.2.symm⟩
 cases c with
 | ld n ag p =>
  simp only [heapOp] at h
  split at h
  ·obtain ⟨vs, _, h⟩ := Option.bind_eq_some_iff.1 h
   split at h
   ·simp only [zJ, zP] at h; exact .inl h.2.symm
   ·split at h
    ·simp only [zJ, zP] at h; exact .inl h.2.symm
    ·simp at h
  ·simp at h
 | al zs => exact .inr (alloc_ h)
 | box n x => exact .inr (alloc_ h)
 | bsl e n zs ps => exact .inr (alloc_ h)
 | mk e bs zs l c => exact .inr (alloc_ h)
 | st => simp [isOther] at ho
 | app => simp [isOther] at ho
 | appm => simp [isOther] at ho
 | cpy => simp [isOther] at ho
 | clr => simp [isOther] at ho
 | call => simp [isOther] at ho
 | callv => simp [isOther] at ho
 | slx => simp [isOther] at ho
 | b2s => simp [isOther] at ho
 | fail => simp [isOther] at ho
 | _ => exact .inl (pure_ h)
theorem quiet_call {env : Env} {c : COp} (ho : isOther c = false) : callee env c = none := by cases c <;> first | rfl | simp [isOther] at ho
theorem new_get {H : Heap} {cs : List AV} {l : Nat} (h : l < H.sz) : (H.new cs).get l = H.get l := by
 have : l ≠ H.sz := by omega
 simp [Heap.new, this]
theorem Run.quiet (h : Run P L E K V) {p : Nat} (hp : p < L.length) (ho : isOther L[p].2.op = false) : K (p + 1) = K p \/ ∃ cs, wanted (E p) L[p].2.guard = true /\ allocOp (E p) (K p).sz L[p].2.op = some (V p, cs) /\ K (p + 1) = (K p).new cs := by
 obtain ⟨hk, hs⟩ := h.step p hp
 rcases hs with ⟨_, _, h1⟩ | ⟨hw, h1 | ⟨f, args, hc, _⟩⟩
 ·exact .inl h1
 ·rcases quiet_heap ho h1 with h2 | ⟨cs, h2, h3⟩
  ·exact .inl h2
  ·exact .inr ⟨cs, hw, h2, h3⟩
 ·rw [quiet_call ho] at hc; simp at hc
theorem Run.calm (h : Run P L E K V) {p : Nat} : ∀ q, p <= q -> q <= L.length -> (∀ r (hr : r < L.length), p <= r -> r < q -> isOther L[r].2.op = false) -> (K p).sz <= (K q).sz /\ ∀ l, l < (K p).sz -> (K q).get l = (K p).get l
 | q, hpq, hq, hn => by
  rcases Nat.lt_or_ge p q with hlt | hge
  ·obtain ⟨q', rfl⟩ : ∃ q', q = q' + 1 := ⟨q - 1, by omega⟩
   obtain ⟨h1, h2⟩ := Run.calm h q' (by omega) (by omega) fun r hr h1 h2 => hn r hr h1 (by omega)
   rcases h.quiet (p := q') (by omega) (hn q' (by omega) (by omega) (by omega)) with h3 | ⟨cs, _, _, h3⟩
   ·rw [h3]; exact ⟨h1, h2⟩
   ·rw [h3]
    exact ⟨by simp [Heap.new]; omega, fun l hl => by rw [new_get (by omega)]; exact h2 l hl⟩
  ·have : p = q := by omega
   subst this; exact ⟨Nat.le_refl _, fun _ _ => rfl⟩
theorem rd_new {H : Heap} {cs : List AV} {l o n : Nat} {vs : List AV} (h : H.rd l o n = some vs) : (H.new cs).rd l o n = some vs := by
 unfold Heap.rd at h ⊢
 split at h
 ·rename_i hc
  rw [new_get hc.2.1, if_pos ⟨hc.1, by simp [Heap.new]; omega, hc.2.2⟩]; exact h
 ·simp at h
end
structure Pair (tbl : List Nat) (p q : Nat × COper) : Prop where
 ne : p.1 ≠ q.1
 other : isOther p.2.op = true -> anc tbl q.1 p.1 = true
 load : ∀ n ag s, p.2.op = .ld n ag (.t s) -> (isOther q.2.op = true -> anc tbl q.1 p.1 = true \/ (s, n) ∈ q.2.us) /\ q.2.dst ≠ some s
 dst : ∀ d, p.2.dst = some d -> q.2.dst ≠ some d /\ (d ∈ rds q.2 -> anc tbl q.1 p.1 = true)
 dst' : ∀ d, q.2.dst = some d -> d ∈ rds p.2 -> anc tbl q.1 p.1 = true
theorem pair_of {tbl : List Nat} {p q : Nat × COper} (h : pairOk tbl p q = true) : Pair tbl p q := by
 unfold pairOk at h
 simp only [Bool.and_eq_true] at h
 obtain ⟨⟨⟨⟨h1, h3⟩, h4⟩, h5⟩, h6⟩ := h
 refine ⟨by simpa using h1, fun ho => by simpa [ho] using h3, fun n ag s e => ?_, fun d e => ?_, fun d e hd => ?_⟩
 ·rw [e] at h4
  simp only [Bool.and_eq_true, bne_iff_ne] at h4
  refine ⟨fun ho => ?_, h4.2⟩
  have := h4.1
  simp only [ho, Bool.not_true, Bool.false_or, Bool.or_eq_true, List.contains_iff_mem] at this
  exact this
 ·rw [e] at h5
  simp only [Bool.and_eq_true, bne_iff_ne] at h5
  refine ⟨h5.1, fun hd => ?_⟩
  have := h5.2
  rw [List.contains_iff_mem.2 hd] at this
  simpa using this
 ·rw [e] at h6
  have := h6
  simp only at this
  rw [List.contains_iff_mem.2 hd] at this
  simpa using this
end
section
theorem topo_at {ops : Array Oper} : ∀ {L : List (Nat × COper)} {seen : List Nat}, topoOk ops seen L = true -> ∀ p (hp : p < L.length), ∃ o, ops[L[p].1]? = some o /\ ∀ e ∈ o.after, Region.binds .any e = true -> e.on ∈ seen \/ ∃ q, ∃ (hq : q < p), (L[q]'(by omega)).1 = e.on
 | [], seen, _, p, hp => by simp at hp
 | x :: L, seen, h, 0, _ => by
  simp only [topoOk, Bool.and_eq_true] at h
  obtain ⟨h1, _⟩ := h
  split at h1
  ·rename_i o ho
   refine ⟨o, ho, fun e he hb => .inl ?_⟩
   have := (List.all_eq_true.1 h1) e (by simpa using he)
   simpa [hb] using this
  ·simp at h1
 | x :: L, seen, h, p + 1, hp => by
  simp only [topoOk, Bool.and_eq_true] at h
  obtain ⟨o, h1, h2⟩ := topo_at h.2 p (by simpa using hp)
  refine ⟨o, h1, fun e he hb => ?_⟩
  rcases h2 e he hb with h3 | ⟨q, hq, h3⟩
  ·rcases List.mem_cons.1 h3 with h4 | h4
   ·exact .inr ⟨0, by omega, by simpa using h4.symm⟩
   ·exact .inl h4
  ·exact .inr ⟨q + 1, by omega, by simpa using h3⟩
section
open Classical
variable {P : Program} {ops : Array Oper} {L : List (Nat × COper)} {E : Nat -> Env} {K : Nat -> Heap} {V : Nat -> AV}
def Written (L : List (Nat × COper)) (S : Nat -> Prop) (s : Nat) : Prop := ∃ p, ∃ hp : p < L.length, S L[p].1 /\ L[p].2.dst = some s
noncomputable def envS (L : List (Nat × COper)) (E : Nat -> Env) (S : Nat -> Prop) : Env := (List.range (E 0).length).map fun s => if Written L S s then (E L.length).getD s .und else (E 0).getD s .und
theorem envS_length (S : Nat -> Prop) : (envS L E S).length = (E 0).length := by simp [envS]
theorem envS_at (h : Run P L E K V) (S : Nat -> Prop) (s : Nat) : (envS L E S).getD s .und = if Written L S s then (E L.length).getD s .und else (E 0).getD s .und := by
 by_cases hs : s < (E 0).length
 ·simp [envS, zD, hs]
 ·have h1 : (envS L E S).getD s .und = .und := by
   rw [zD, List.getElem?_eq_none (by rw [envS_length]; omega)]; rfl
  have h2 : (E 0).getD s .und = .und := by
   rw [zD, List.getElem?_eq_none (by omega)]; rfl
  have h3 : (E L.length).getD s .und = .und := by
   rw [zD, List.getElem?_eq_none (by rw [h.length _ (Nat.le_refl _)]; omega)]; rfl
  rw [h1, h2, h3]; split <;> rfl
structure Chk (P : Program) (ops : Array Oper) (L : List (Nat × COper)) : Prop where
 m : ∀ p ∈ L, opMatch P ops p = true
 topo : topoOk ops [] L = true
 one : ∀ p ∈ L, oneOk p = true
 pair : ∀ p q, p < q -> ∀ (hq : q < L.length) (hp : p < L.length), Pair (ancTbl ops.toList []) L[p] L[q]
 all : ∀ i, i < ops.size -> ∃ p, ∃ hp : p < L.length, L[p].1 = i
theorem chk_of (h : drawChk P ops L = true) : Chk P ops L := by
 unfold drawChk at h
 simp only [Bool.and_eq_true] at h
 obtain ⟨⟨⟨⟨h1, h2⟩, h3⟩, h4⟩, h5⟩ := h
 refine ⟨List.all_eq_true.1 h1, h2, List.all_eq_true.1 h3, fun p q hlt hq hp => pair_of (pairsOk_at h4 p q hlt hq hp), fun i hi => ?_⟩
 have := (List.all_eq_true.1 h5) i (List.mem_range.2 hi)
 obtain ⟨x, hx, he⟩ := List.any_eq_true.1 this
 obtain ⟨p, hp, rfl⟩ := List.mem_iff_getElem.1 hx
 exact ⟨p, hp, by simpa using he⟩
theorem Chk.dst (h : Chk P ops L) {p q s : Nat} (hp : p < L.length) (hq : q < L.length) (h1 : L[p].2.dst = some s) (h2 : L[q].2.dst = some s) : p = q := by
 rcases Nat.lt_trichotomy p q with hlt | heq | hgt
 ·exact absurd h2 ((h.pair p q hlt hq hp).dst s h1).1
 ·exact heq
 ·exact absurd h1 ((h.pair q p hgt hp hq).dst s h2).1
theorem Chk.ix (h : Chk P ops L) {p q : Nat} (hp : p < L.length) (hq : q < L.length) (he : L[p].1 = L[q].1) : p = q := by
 rcases Nat.lt_trichotomy p q with hlt | heq | hgt
 ·exact absurd he (h.pair p q hlt hq hp).ne
 ·exact heq
 ·exact absurd he.symm (h.pair q p hgt hp hq).ne
theorem agree (hc : Chk P ops L) (hr : Run P L E K V) {S : Nat -> Prop} (hcl : Closed ops S) {p : Nat} (hp : p < L.length) (hn : ¬ S L[p].1) (hA : ∀ j, anc (ancTbl ops.toList []) L[p].1 j = true -> S j) :
  ∀ s ∈ rds L[p].2, (envS L E S).getD s .und = (E p).getD s .und := by
 intro s hs
 rw [envS_at hr]
 by_cases hw : ∃ q, ∃ hq : q < L.length, L[q].2.dst = some s
 ·obtain ⟨q, hq, hd⟩ := hw
  rcases Nat.lt_trichotomy q p with hlt | heq | hgt
  ·have hSq : S L[q].1 := hA _ (((hc.pair q p hlt hp hq).dst s hd).2 hs)
   rw [if_pos ⟨q, hq, hSq, hd⟩]
   refine hr.same L.length (by omega) (Nat.le_refl _) fun r hr' h1 _ he => ?_
   have := hc.dst hr' hq he hd
   omega
  ·subst heq
   rw [if_neg]
   ·refine (hr.same q (Nat.zero_le _) (by omega) fun r hr' _ h2 he => ?_).symm
    have := hc.dst hr' hq he hd
    omega
   ·rintro ⟨r, hr', hSr, he⟩
    have := hc.dst hr' hq he hd
    subst this
    exact hn hSr
  ·rw [if_neg]
   ·refine (hr.same p (Nat.zero_le _) (by omega) fun r hr' _ h2 he => ?_).symm
    have := hc.dst hr' hq he hd
    omega
   ·rintro ⟨r, hr', hSr, he⟩
    have := hc.dst hr' hq he hd
    subst this
    exact hn (closed_anc hcl _ _ hSr ((hc.pair p r hgt hq hp).dst' s hd hs))
 ·rw [if_neg]
  ·exact (hr.same p (Nat.zero_le _) (by omega) fun r hr' _ h2 he => hw ⟨r, hr', he⟩).symm
  ·rintro ⟨r, hr', _, he⟩
   exact hw ⟨r, hr', he⟩
theorem Run.mono (hr : Run P L E K V) : ∀ p q, p <= q -> q <= L.length -> (K p).sz <= (K q).sz := by
  intro p q hpq hq
  induction q with
  | zero => have : p = 0 := by omega
            subst this; exact Nat.le_refl _
  | succ q ih =>
    rcases Nat.lt_or_ge p (q + 1) with h | h
    · exact Nat.le_trans (ih (by omega) (by omega)) (hr.sz q (by omega))
    · have : p = q + 1 := by omega
      subst this; exact Nat.le_refl _
theorem load_stays (hc : Chk P ops L) (hr : Run P L E K V) {S : Nat -> Prop} (hcl : Closed ops S) {p T : Nat} (hp : p < L.length) (hT : T <= L.length) (hn : ¬ S L[p].1) (hbef : ∀ q (hq : q < L.length), q < T -> isOther L[q].2.op = true -> S L[q].1)
    {n s l o : Nat} {ag : Bool} {vs : List AV} (hop : L[p].2.op = .ld n ag (.t s)) (he : (E p).getD s .und = .ptr l o) (hrd : (K p).rd l o n = some vs) : ∀ q, p <= q -> q <= T -> (K q).rd l o n = some vs := by
  intro q hpq hqT
  induction q with
  | zero => have : p = 0 := by omega
            subst this; exact hrd
  | succ q ih =>
    rcases Nat.lt_or_ge p (q + 1) with h | h
    · have hq : q < L.length := by omega
      have ih' := ih (by omega) (by omega)
      by_cases ho : isOther L[q].2.op = true
      · have hpq' : p < q := by
          rcases Nat.lt_or_ge p q with h1 | h1
          · exact h1
          · have : p = q := by omega
            subst this; rw [hop] at ho; simp [isOther] at ho
        have hS := hbef q hq (by omega) ho
        have hpair := hc.pair p q hpq' hq hp
        have hus : (s, n) ∈ L[q].2.us := by
          rcases (hpair.load n ag s hop).1 ho with h1 | h1
          · exact absurd (closed_anc hcl _ _ hS h1) hn
          · exact h1
        obtain ⟨hk, hst⟩ := hr.step q hq
        rcases hst with ⟨_, _, h1⟩ | ⟨hw, _⟩
        · rw [h1]; exact ih'
        · refine hr.kept q hq hw s n hus l o ?_ vs ih'
          rw [hr.same q (by omega) (by omega) (p := p) fun r hr' h1 h2 hd => ?_, he]
          rcases Nat.lt_or_ge p r with h3 | h3
          · exact absurd hd ((hc.pair p r h3 hr' hp).load n ag s hop).2
          · have : r = p := by omega
            subst this
            have := hc.one L[r] (List.getElem_mem _)
            unfold oneOk at this
            rw [hop] at this
            simp [hd] at this
      · rcases hr.quiet hq (by simpa using ho) with h1 | ⟨cs, _, _, h1⟩
        · rw [h1]; exact ih'
        · rw [h1]; exact rd_new ih'
    · have : p = q + 1 := by omega
      subst this; exact hrd
theorem next_other (T : Nat) (hT : T <= L.length) : ∃ T', T <= T' /\ T' <= L.length /\ (∀ r (hr : r < L.length), T <= r -> r < T' -> isOther L[r].2.op = false) /\ ∀ h : T' < L.length, isOther L[T'].2.op = true := by
 obtain ⟨k, hk⟩ : ∃ k, L.length - T = k := ⟨_, rfl⟩
 induction k generalizing T with
 | zero => exact ⟨T, Nat.le_refl _, hT, fun r hr h1 h2 => by omega, fun h => by omega⟩
 | succ k ih =>
  have hlt : T < L.length := by omega
  by_cases ho : isOther L[T].2.op = true
  ·exact ⟨T, Nat.le_refl _, hT, fun r hr h1 h2 => by omega, fun _ => ho⟩
  ·obtain ⟨T', h1, h2, h3, h4⟩ := ih (T + 1) (by omega) (by omega)
   refine ⟨T', by omega, h2, fun r hr h5 h6 => ?_, h4⟩
   rcases Nat.lt_or_ge T r with h7 | h7
   ·exact h3 r hr h7 h6
   ·have : r = T := by omega
    subst this; simpa using ho
structure Inv (P : Program) (ops : Array Oper) (L : List (Nat × COper)) (E : Nat -> Env) (K : Nat -> Heap) (base : Nat) (m0 : Map) (w0 : World) (ds : List Deferred) (S : Nat -> Prop) (T : Nat) (m : Map) (a : Act) (w : World) : Prop where
 closed : Closed ops S
 tle : T <= L.length
 tst : ∀ hT : T < L.length, isOther L[T].2.op = true
 before : ∀ p (hp : p < L.length), p < T -> isOther L[p].2.op = true -> S L[p].1
 after : ∀ p (hp : p < L.length), T <= p -> ¬ S L[p].1
 ok : Ok base m0 (K 0) w0 m (K T) w
 env : EnvL m (envS L E S) a
 fresh : ∀ p (hp : p < L.length) cs, p < T -> ¬ S L[p].1 -> isOther L[p].2.op = false -> K (p + 1) = (K p).new cs -> m (K p).sz = none /\ (K T).get (K p).sz = ⟨cs, .own⟩ /\ (K p).sz < (K T).sz
 defers : a.defers = ds
theorem Inv.start {base : Nat} {m : Map} {a : Act} {w : World} (hr : Run P L E K V) (hrel : Rel base m (K 0) w) (hE : EnvL m (E 0) a) : ∃ T, Inv P ops L E K base m w a.defers (fun _ => False) T m a w := by
 obtain ⟨T, h1, h2, h3, h4⟩ := next_other (L := L) 0 (Nat.zero_le _)
 have hcalm := hr.calm T (Nat.zero_le _) h2 h3
 refine ⟨T, fun i o e h => h.elim, h2, h4, fun p hp hlt ho => ?_, fun p hp _ h => h, (Ok.refl hrel).ext hcalm.2 hcalm.1, ⟨fun s => ?_, by rw [envS_length]; exact hE.l⟩, fun p hp cs hlt _ ho hk => ?_, rfl⟩
 ·rw [h3 p hp (Nat.zero_le _) hlt] at ho; simp at ho
 ·rw [envS_at hr, if_neg (by rintro ⟨q, _, h, _⟩; exact h)]
  exact hE.r s
 ·have h5 := hr.calm p (Nat.zero_le _) (by omega) fun r hr' a b => h3 r hr' a (by omega)
  have h6 := hr.calm (p := p + 1) T (by omega) h2 fun r hr' a b => h3 r hr' (by omega) b
  have h7 : (K p).sz < (K (p + 1)).sz := by rw [hk]; simp [Heap.new]
  refine ⟨?_, ?_, by omega⟩
  ·cases hm : m (K p).sz with
   | none => rfl
   | some i => have := hrel.dom _ _ hm; omega
  ·rw [h6.2 _ h7, hk]; simp [Heap.new]
theorem envS_put (hc : Chk P ops L) (hr : Run P L E K V) {S S' : Nat -> Prop} {p : Nat} (hp : p < L.length) (hS' : ∀ q (hq : q < L.length), S' L[q].1 ↔ S L[q].1 \/ q = p) (s : Nat) : (envS L E S').getD s .und = (putD (envS L E S) L[p].2.dst (V p)).getD s .und := by
 by_cases hd : L[p].2.dst = some s
 ·rw [envS_at hr, if_pos ⟨p, hp, (hS' p hp).2 (.inr rfl), hd⟩, hd]
  have h1 : (E L.length).getD s .und = (E (p + 1)).getD s .und := hr.same L.length (by omega) (Nat.le_refl _) fun r hr' h1 _ he => by
   have := hc.dst hr' hp he hd
   omega
  rw [h1, hr.env p hp, hd]
  simp only [putD, zD]
  by_cases hs : s < (E 0).length
  ·have hl := hr.length p (by omega)
   rw [List.getElem?_set_self (by omega), List.getElem?_set_self (by rw [envS_length]; omega)]
  ·have hl := hr.length p (by omega)
   rw [List.getElem?_eq_none (by rw [List.length_set]; omega), List.getElem?_eq_none (by rw [List.length_set, envS_length]; omega)]
 ·rw [putD_ne hd, envS_at hr, envS_at hr]
  have : Written L S' s ↔ Written L S s := by
   constructor
   ·rintro ⟨q, hq, h1, h2⟩
    rcases (hS' q hq).1 h1 with h3 | h3
    ·exact ⟨q, hq, h3, h2⟩
    ·subst h3; exact absurd h2 hd
   ·rintro ⟨q, hq, h1, h2⟩
    exact ⟨q, hq, (hS' q hq).2 (.inl h1), h2⟩
  simp only [this]
theorem EnvL.of_eq {m : Map} {env env' : Env} {a : Act} (h : EnvL m env a) (he : ∀ s, env'.getD s .und = env.getD s .und) (hl : env'.length = env.length) : EnvL m env' a :=
 ⟨fun s => by rw [he s]; exact h.r s, by rw [hl]; exact h.l⟩
theorem quiet_cases {env : Env} {H H1 : Heap} {v : AV} {c : COp} (ho : isOther c = false) (h : heapOp env H c = some (v, H1)) : ((∀ H', heapOp env H' c = some (v, H')) /\ H1 = H) \/ (∃ n ag x, c = .ld n ag x) \/ ∃ cs, allocOp env H.sz c = some (v, cs) /\ H1 = H.new cs := by
 have pure_ : (pureOp env c).map (fun v => (v, H)) = some (v, H1) -> (∀ H' : Heap, (pureOp env c).map (fun v => (v, H')) = some (v, H')) /\ H1 = H := by
  intro h
  obtain ⟨v0, h0, h⟩ := zM h
  simp only [zP] at h
  exact ⟨fun H' => by rw [h0, h.1]; rfl, h.2.symm⟩
 have alloc_ : (allocOp env H.sz c).map (fun (v, cs) => (v, H.new cs)) = some (v, H1) -> ∃ cs, allocOp env H.sz c = some (v, cs) /\ H1 = H.new cs := by
  intro h
  obtain ⟨⟨v0, cs⟩, h0, h⟩ := zM h
  simp only [zP] at h
  exact ⟨cs, by rw [h0, h.1], h.2.symm⟩
 cases c with
 | ld n ag p => exact .inr (.inl ⟨n, ag, p, rfl⟩)
 | al zs => exact .inr (.inr (alloc_ h))
 | box n x => exact .inr (.inr (alloc_ h))
 | bsl e n zs ps => exact .inr (.inr (alloc_ h))
 | mk e bs zs l c => exact .inr (.inr (alloc_ h))
 | st => simp [isOther] at ho
 | app => simp [isOther] at ho
 | appm => simp [isOther] at ho
 | cpy => simp [isOther] at ho
 | clr => simp [isOther] at ho
 | call => simp [isOther] at ho
 | callv => simp [isOther] at ho
 | slx => simp [isOther] at ho
 | b2s => simp [isOther] at ho
 | fail => simp [isOther] at ho
 | _ => exact .inl (pure_ h)
theorem Inv.step {Q : Exit -> Act -> World -> Prop} {base : Nat} {m0 m : Map} {w0 w : World} {a : Act} {ds : List Deferred} {S S' : Nat -> Prop} {T p : Nat} {NX : Act -> World -> Prop} (hc : Chk P ops L) (hr : Run P L E K V) (hI : Inv P ops L E K base m0 w0 ds S T m a w)
  (hp : p < L.length) (hn : ¬ S L[p].1) (hS' : ∀ i, S' i ↔ S i \/ i = L[p].1) (hrdy : ∀ o, ops[L[p].1]? = some o -> ∀ e ∈ o.after, Region.binds .any e = true -> S e.on)
  (hK : ∀ T' m' a' w', Inv P ops L E K base m0 w0 ds S' T' m' a' w' -> NX a' w') : wpOp P ops Q L[p].1 NX a w := by
 have hmp := hc.m L[p] (List.getElem_mem _)
 obtain ⟨oo, hoo⟩ : ∃ oo, ops[L[p].1]? = some oo := by
  unfold opMatch at hmp
  split at hmp
  ·rename_i oo hoo; exact ⟨oo, hoo⟩
  ·simp at hmp
 have hA : ∀ j, anc (ancTbl ops.toList []) L[p].1 j = true -> S j := fun j hj => ready_anc hI.closed hoo (hrdy oo hoo) hj
 have hag := agree hc hr hI.closed hp hn hA
 have hcl' : Closed ops S' := by
  intro i o e hi ho he hb
  rw [hS'] at hi ⊢
  rcases hi with hi | hi
  ·exact .inl (hI.closed i o e hi ho he hb)
  ·subst hi; exact .inl (hrdy o ho e he hb)
 have hSq : ∀ q (hq : q < L.length), S' L[q].1 ↔ S L[q].1 \/ q = p := by
  intro q hq
  rw [hS']
  exact or_congr Iff.rfl ⟨fun he => hc.ix hq hp he, fun he => by subst he; rfl⟩
 have hpT : p <= T := by
  rcases Nat.lt_or_ge T p with hlt | hge
  ·have hTn : T < L.length := by omega
   exact absurd (hA _ ((hc.pair T p hlt hp hTn).other (hI.tst hTn))) (hI.after T hTn (Nat.le_refl _))
  ·exact hge
 obtain ⟨hkn, hst⟩ := hr.step p hp
 have hg := guard_congr (g := L[p].2.guard) fun s hs => hag s (by simp [rds, hs])
 have hsl : ∀ s ∈ L[p].2.op.slots, (envS L E S).getD s .und = (E p).getD s .und := fun s hs => hag s (by simp [rds, hs])
 by_cases ho : isOther L[p].2.op = true
 ·-- an other: it is the next one
  have hpT' : p = T := by
   rcases Nat.lt_or_ge p T with hlt | hge
   ·exact absurd (hI.before p hp hlt ho) hn
   ·omega
  subst hpT'
  have hss : StepSim P L[p].2 (envS L E S) (K p) (V p) (K (p + 1)) := by
   refine ⟨by rw [hg.1]; exact hkn, ?_⟩
   rw [hg.2, heap_congr hsl, callee_congr hsl]
   exact hst
  refine step_ok hmp hss hI.ok.rel hI.env fun a' w' m' hE' hd' hok' => ?_
  obtain ⟨T', h1, h2, h3, h4⟩ := next_other (L := L) (p + 1) (by omega)
  have hcalm := hr.calm T' h1 h2 h3
  refine hK T' m' a' w' ⟨hcl', h2, h4, fun q hq hlt hoq => ?_, fun q hq hge => ?_, (hI.ok.trans hok').ext hcalm.2 hcalm.1, hE'.of_eq (envS_put hc hr hp hSq) (by rw [envS_length, putD_length, envS_length]), fun q hq cs hlt hnq hoq hkq => ?_, hd'.trans hI.defers⟩
  ·rw [hSq q hq]
   rcases Nat.lt_trichotomy q p with hlt' | heq | hgt
   ·exact .inl (hI.before q hq hlt' hoq)
   ·exact .inr heq
   ·rw [h3 q hq (by omega) hlt] at hoq; simp at hoq
  ·rw [hSq q hq]
   rintro (h5 | h5)
   ·exact hI.after q hq (by omega) h5
   ·omega
  ·rw [hSq q hq] at hnq
   have hqp : q ≠ p := fun h => hnq (.inr h)
   rcases Nat.lt_or_ge q p with hlt' | hge'
   ·obtain ⟨f1, f2, f3⟩ := hI.fresh q hq cs hlt' (fun h => hnq (.inl h)) hoq hkq
    obtain ⟨u1, u2⟩ := hok'.un _ f3 f1
    have hs1 := hr.sz p hp
    exact ⟨u1, by rw [hcalm.2 _ (by omega), u2, f2], by omega⟩
   ·have h5 := hr.calm (p := p + 1) q (by omega) (by omega) fun r hr' a b => h3 r hr' a (by omega)
    have h6 := hr.calm (p := q + 1) T' (by omega) h2 fun r hr' a b => h3 r hr' (by omega) b
    have h7 : (K q).sz < (K (q + 1)).sz := by rw [hkq]; simp [Heap.new]
    refine ⟨?_, ?_, by omega⟩
    ·cases hm : m' (K q).sz with
     | none => rfl
     | some i => have := hok'.rel.dom _ _ hm; omega
    ·rw [h6.2 _ h7, hkq]; simp [Heap.new]
 ·-- a quiet one
  have ho' : isOther L[p].2.op = false := by simpa using ho
  have hpT' : p < T := by
   rcases Nat.lt_or_ge p T with hlt | hge
   ·exact hlt
   ·have hTp : T = p := by omega
    subst hTp
    exact absurd (hI.tst hp) ho
  -- what holds behind it, if the heap that stands for all stays
  have next : ∀ {a' : Act} {w' : World} {m' : Map}, EnvL m' (putD (envS L E S) L[p].2.dst (V p)) a' -> a'.defers = a.defers -> Ok base m0 (K 0) w0 m' (K T) w' -> (∀ q (hq : q < L.length) cs, q < T -> q ≠ p -> ¬ S L[q].1 -> isOther L[q].2.op = false -> K (q + 1) = (K q).new cs -> m' (K q).sz = none) -> NX a' w' := by
   intro a' w' m' hE' hd' hok' hfr
   refine hK T m' a' w' ⟨hcl', hI.tle, hI.tst, fun q hq hlt hoq => (hSq q hq).2 (.inl (hI.before q hq hlt hoq)), fun q hq hge => ?_, hok', hE'.of_eq (envS_put hc hr hp hSq) (by rw [envS_length, putD_length, envS_length]), fun q hq cs hlt hnq hoq hkq => ?_, hd'.trans hI.defers⟩
   ·rw [hSq q hq]
    rintro (h5 | h5)
    ·exact hI.after q hq hge h5
    ·omega
   ·rw [hSq q hq] at hnq
    obtain ⟨f1, f2, f3⟩ := hI.fresh q hq cs hlt (fun h => hnq (.inl h)) hoq hkq
    exact ⟨hfr q hq cs hlt (fun h => hnq (.inr h)) (fun h => hnq (.inl h)) hoq hkq, f2, f3⟩
  have stay : StepSim P L[p].2 (envS L E S) (K T) (V p) (K T) -> wpOp P ops Q L[p].1 NX a w := by
   intro hss
   refine step_ok hmp hss hI.ok.rel hI.env fun a' w' m' hE' hd' hok' => next hE' hd' (hI.ok.trans hok') fun q hq cs hlt hqp hnq hoq hkq => ?_
   obtain ⟨f1, f2, f3⟩ := hI.fresh q hq cs hlt hnq hoq hkq
   exact (hok'.un _ f3 f1).1
  rcases hst with ⟨hw, hv, hk1⟩ | ⟨hw, hop | ⟨f, args, hcal, _⟩⟩
  ·exact stay ⟨by rw [hg.1]; exact hkn, .inl ⟨by rw [hg.2]; exact hw, hv, rfl⟩⟩
  ·rcases quiet_cases ho' hop with ⟨hall, _⟩ | ⟨n, ag, x, hld⟩ | ⟨cs, hal, hk1⟩
   ·exact stay ⟨by rw [hg.1]; exact hkn, .inr ⟨by rw [hg.2]; exact hw, .inl (by rw [heap_congr hsl]; exact hall _)⟩⟩
   ·refine stay ⟨by rw [hg.1]; exact hkn, .inr ⟨by rw [hg.2]; exact hw, .inl ?_⟩⟩
    rw [heap_congr hsl]
    have hone := hc.one L[p] (List.getElem_mem _)
    unfold oneOk at hone
    rw [hld] at hop hone ⊢
    cases x with
    | c v => simp at hone
    | t s =>
     simp only [heapOp, Opd.ev] at hop ⊢
     split at hop
     ·rename_i l o' hpt
      obtain ⟨vs, hrd, hop⟩ := Option.bind_eq_some_iff.1 hop
      have hrd' := load_stays hc hr hI.closed hp hI.tle hn hI.before hld hpt hrd T (by omega) (Nat.le_refl _)
      simp only [hrd', Option.bind_some]
      split at hop
      ·rename_i hag'
       simp only [zJ, zP] at hop
       rw [if_pos hag', hop.1]
      ·rename_i hag'
       rw [if_neg hag']
       split at hop
       ·simp only [zJ, zP] at hop
        simp only [hop.1]
       ·simp at hop
     ·simp at hop
   ·-- memory is made
    obtain ⟨f1, f2, f3⟩ := hI.fresh p hp cs hpT' hn ho' hk1
    have hmp' := hmp
    unfold opMatch at hmp'
    rw [hoo] at hmp'
    simp only [Bool.and_eq_true, beq_iff_eq] at hmp'
    obtain ⟨⟨q1, q2⟩, q3⟩ := hmp'
    have hgw := guard_ok q3 hI.env (by rw [hg.1]; exact hkn)
    rw [<- alloc_congr hsl] at hal
    obtain ⟨v', arr, Ty, us, rest, hrun, hcs, harr, hvr⟩ := makes (m := m) (w := w) q1 hI.env.r hal
    unfold wpOp
    simp only [hoo]
    rw [hgw, hg.2, hw]
    simp only [if_true]
    refine .inl ?_
    unfold Oper.wp
    rw [hrun, Oper.upon_value, <- q2]
    have hmade := hI.ok.made f1 (hr.mono 0 p (Nat.zero_le _) (by omega)) f3 f2 hcs harr (w' := w.alloc (.cells arr Ty)) rfl rfl rfl rfl
    refine next ((hI.env.mono (MLe.add f1)).put _ (hvr _ (by unfold Map.add; rw [if_pos rfl]))) (by cases L[p].2.dst <;> rfl) hmade fun q hq cs' hlt hqp hnq hoq hkq => ?_
    obtain ⟨g1, g2, g3⟩ := hI.fresh q hq cs' hlt hnq hoq hkq
    have hne : (K q).sz ≠ (K p).sz := by
     rcases Nat.lt_or_ge q p with h5 | h5
     ·have := hr.mono (q + 1) p (by omega) (by omega)
      rw [hkq] at this; simp [Heap.new] at this; omega
     ·have := hr.mono (p + 1) q (by omega) (by omega)
      rw [hk1] at this; simp [Heap.new] at this; omega
    unfold Map.add
    rw [if_neg hne, g1]
  ·rw [quiet_call ho'] at hcal; simp at hcal
end
end
section
section
variable {P : Program} {ops : Array Oper} {L : List (Nat × COper)}
def unlisted (ops : Array Oper) (listed : Array Bool) : Nat := ((List.range ops.size).filter fun i => !listed.getD i false).length
theorem wpAny_of_inv {Q : Exit -> Act -> World -> Prop} {E : Nat -> Env} {K : Nat -> Heap} {V : Nat -> AV} {base : Nat} {m0 : Map} {w0 : World} {ds : List Deferred} (hc : Chk P ops L) (hr : Run P L E K V)
  (hQ : ∀ m a w, EnvL m (E L.length) a -> a.defers = ds -> Ok base m0 (K 0) w0 m (K L.length) w -> Q .normal a w) :
  ∀ (fuel : Nat) (listed : Array Bool) (T : Nat) (m : Map) (a : Act) (w : World), listed.size = ops.size -> unlisted ops listed <= fuel -> Inv P ops L E K base m0 w0 ds (fun i => listed.getD i false = true) T m a w -> wpAny P .any ops Q fuel listed a w := by
 -- nothing is ready: all has been run
 have fin : ∀ (listed : Array Bool) (T : Nat) (m : Map) (a : Act) (w : World), listed.size = ops.size -> Inv P ops L E K base m0 w0 ds (fun i => listed.getD i false = true) T m a w -> Region.ready .any ops listed = [] -> Q .normal a w := by
  intro listed T m a w hsz hI hnil
  have hall : ∀ p (hp : p < L.length), listed.getD L[p].1 false = true := by
   intro p
   induction p using Nat.strongRecOn with
   | _ p ih =>
    intro hp
    obtain ⟨o, ho, hpre⟩ := topo_at hc.topo p hp
    cases hx : listed.getD L[p].1 false with
    | true => rfl
    | false =>
     exfalso
     have hlt : L[p].1 < ops.size := (Array.getElem?_eq_some_iff.1 ho).1
     have : L[p].1 ∈ Region.ready .any ops listed := by
      rw [mem_ready]
      refine ⟨?_, o, ho, fun e he hb => ?_⟩
      ·simpa [Array.getD_eq_getD_getElem?, Array.getElem?_eq_getElem (show L[p].1 < listed.size by omega)] using hx
      ·rcases hpre e he hb with h1 | ⟨q, hq, h1⟩
       ·simp at h1
       ·rw [<- h1]; exact ih q hq (by omega)
     rw [hnil] at this; simp at this
  have hT : T = L.length := by
   rcases Nat.lt_or_ge T L.length with h1 | h1
   ·exact absurd (hall T h1) (hI.after T h1 (Nat.le_refl _))
   ·have := hI.tle; omega
  subst hT
  refine hQ m a w (hI.env.of_eq (fun s => ?_) (by rw [envS_length, hr.length _ (Nat.le_refl _)])) hI.defers hI.ok
  rw [envS_at hr]
  by_cases hw : ∃ q, ∃ hq : q < L.length, L[q].2.dst = some s
  ·obtain ⟨q, hq, hd⟩ := hw
   rw [if_pos ⟨q, hq, hall q hq, hd⟩]
  ·rw [if_neg (by rintro ⟨q, hq, _, hd⟩; exact hw ⟨q, hq, hd⟩)]
   exact hr.same L.length (Nat.zero_le _) (Nat.le_refl _) fun r hr' _ _ he => hw ⟨r, hr', he⟩
 intro fuel
 induction fuel with
 | zero =>
  intro listed T m a w hsz hu hI
  have hnil : Region.ready .any ops listed = [] := by
   rw [List.eq_nil_iff_forall_not_mem]
   intro j hj
   rw [mem_ready] at hj
   obtain ⟨h1, o, ho, _⟩ := hj
   have hlt : j < ops.size := (Array.getElem?_eq_some_iff.1 ho).1
   have hmem : j ∈ (List.range ops.size).filter fun i => !listed.getD i false := by
    rw [List.mem_filter]
    refine ⟨List.mem_range.2 hlt, ?_⟩
    have : listed.getD j false = false := by simpa [Array.getD_eq_getD_getElem?, Array.getElem?_eq_getElem (show j < listed.size by omega)] using h1
    rw [this]; rfl
   have : (List.range ops.size).filter (fun i => !listed.getD i false) = [] := List.eq_nil_of_length_eq_zero (by unfold unlisted at hu; omega)
   rw [this] at hmem; simp at hmem
  exact ⟨hnil, fin listed T m a w hsz hI hnil⟩
 | succ fuel ih =>
  intro listed T m a w hsz hu hI
  refine ⟨fin listed T m a w hsz hI, fun i hi => ?_⟩
  rw [mem_ready] at hi
  obtain ⟨h1, o, ho, hpre⟩ := hi
  have hlt : i < ops.size := (Array.getElem?_eq_some_iff.1 ho).1
  have hif : listed.getD i false = false := by simpa [Array.getD_eq_getD_getElem?, Array.getElem?_eq_getElem (show i < listed.size by omega)] using h1
  obtain ⟨p, hp, rfl⟩ := hc.all i hlt
  refine hI.step (S' := fun j => (listed.setIfInBounds L[p].1 true).getD j false = true) hc hr hp (by simp [hif]) (fun j => ?_) (fun o' ho' e he hb => ?_) fun T' m' a' w' hI' => ?_
  ·constructor
   ·intro hj
    by_cases hji : j = L[p].1
    ·exact .inr hji
    ·rw [getD_set_ne false (Ne.symm hji)] at hj; exact .inl hj
   ·rintro (hj | hj)
    ·exact getD_set_true hj
    ·subst hj
     simp [Array.getD_eq_getD_getElem?, show L[p].1 < listed.size by omega]
  ·rw [ho] at ho'
   simp only [zJ] at ho'
   subst ho'
   exact hpre e he hb
  ·refine ih _ T' m' a' w' (by simpa using hsz) ?_ hI'
   have hsub : ((List.range ops.size).filter fun j => !(listed.setIfInBounds L[p].1 true).getD j false) = ((List.range ops.size).filter fun j => !listed.getD j false).filter fun j => j != L[p].1 := by
    rw [List.filter_filter]
    apply List.filter_congr
    intro j _
    by_cases hji : j = L[p].1
    ·subst hji
     simp [Array.getD_eq_getD_getElem?, show L[p].1 < listed.size by omega]
    ·rw [getD_set_ne false (Ne.symm hji)]
     simp [hji]
   unfold unlisted at hu ⊢
   rw [hsub]
   have hlt2 : (((List.range ops.size).filter fun j => !listed.getD j false).filter fun j => j != L[p].1).length < ((List.range ops.size).filter fun j => !listed.getD j false).length := by
    rw [List.length_filter_lt_length_iff_exists]
    refine ⟨L[p].1, ?_, by simp⟩
    rw [List.mem_filter]
    exact ⟨List.mem_range.2 hlt, by rw [hif]; rfl⟩
   omega
theorem Rel.drew {base : Nat} {m : Map} {H : Heap} {w : World} (h : Rel base m H w) : Rel base m H { w with drawn := w.drawn + 1 } := ⟨h.dom, h.size, h.cells, h.own, h.ro, h.sep, h.tab.on fun _ _ => rfl⟩
theorem Ok.drew {base : Nat} {m : Map} {H : Heap} {w : World} (h : Rel base m H w) : Ok base m H w m H { w with drawn := w.drawn + 1 } :=
 ⟨h.drew, MLe.refl _, Nat.le_refl _, fun _ _ e => ⟨e, rfl⟩, ⟨rfl, rfl, rfl, Nat.le_refl _, fun _ _ _ => rfl⟩, fun l i e h => .inr ⟨l, i, e, h, rfl⟩⟩
theorem draw_ok {Q : Exit -> Act -> World -> Prop} {id : Nat} {env env' : Env} {H H' : Heap} {base : Nat} {m : Map} {a : Act} {w : World} (hmx : P.follows .mixedOrders = true) (hchk : drawChk P ops L = true) (hs : OpsSim P L env H env' H') (hrel : Rel base m H w) (hE : EnvL m env a)
  (hQ : ∀ a' w' m', EnvL m' env' a' -> a'.defers = a.defers -> Ok base m H w m' H' w' -> Q .normal a' w') : (Code.region id ops true).wp P Q a w := by
 refine wp_region_any hmx ?_
 have hc := chk_of hchk
 obtain ⟨E, K, V, h1, h2, h3, h4, h5⟩ := trace hs
 have hr : Run P L E K V := ⟨fun p hp => (h5 p hp).1, fun p hp => (h5 p hp).2.1, fun p hp => (h5 p hp).2.2.1, fun p hp => (h5 p hp).2.2.2⟩
 subst h1 h2 h3 h4
 obtain ⟨T, hI⟩ := Inv.start (P := P) (ops := ops) hr hrel.drew hE
 refine wpAny_of_inv hc hr (fun m' a' w' he hd hok => hQ a' w' m' he hd ((Ok.drew hrel).trans hok)) ops.size (Array.replicate ops.size false) T m a _ (by simp) ?_ ?_
 ·unfold unlisted
  exact Nat.le_trans (List.length_filter_le _ _) (by simp)
 ·have : (fun i => (Array.replicate ops.size false).getD i false = true) = fun _ => False := by
   funext i
   simp [Array.getD_eq_getD_getElem?, Array.getElem?_replicate]
   split <;> simp
  rw [this]; exact hI
end
def regChk (P : Program) (d : Bool) (ops : Array Oper) (L : List (Nat × COper)) : Bool :=
 if d then drawChk P ops L else L.all (opMatch P ops) && L.map (·.1) == List.range ops.size
def CCode.isKill : CCode -> Bool
 | .kill _ => true
 | _ => false
def chk (P : Program) : CCode -> Code -> Bool
 | .skip, C => match C with | .skip => true | _ => false
 | .kill _, _ => false
 | .reg d L, C => match C with | .region _ ops d' => d == d' && regChk P d ops L | _ => false
 | .seq a b, C => if a.isKill then chk P b C else if b.isKill then chk P a C else match C with | .seq A B => chk P a A && chk P b B | _ => false
 | .cond c a b, C => match C with | .cond X A B => mO c X && chk P a A && chk P b B | _ => false
 | .block id c, C => match C with | .block id' B => id == id' && chk P c B | _ => false
 | .loop c, C => match C with | .loop B => chk P c B | _ => false
 | .exit id, C => match C with | .exit id' => id == id' | _ => false
 | .ret, C => match C with | .ret => true | _ => false
def mRes (P : Program) : CRes -> ResultVar -> Bool
 | .t i, .tmp j => i == j
 | .m i n ag, .cell j T => i == j && isAggT P T ag n
 | _, _ => false
def mRess (P : Program) : List CRes -> List ResultVar -> Bool
 | [], [] => true
 | x :: xs, y :: ys => mRes P x y && mRess P xs ys
 | _, _ => false
def chkFn (P : Program) (f : Nat) (cf : CFn) : Bool :=
 match P.funcs[f]? with
 | some fn => match fn.body with
  | some C => chk P cf.body C && fn.ntmps == cf.ntmps && mRess P cf.res fn.results.toList && !(fn.name == "runtime.NumGoroutine")
  | none => false
 | none => false
def Ex.toExit : Ex -> Exit
 | .normal => .normal
 | .exit id => .exit id
 | .ret => .ret
def LoopWp (P : Program) (c : Code) (Q : Exit -> Act -> World -> Prop) (a : Act) (w : World) : Prop :=
 ∀ (b : Go.Frame) (k : List Item) (cs : List Go.Frame), ∃ e a' w', Q e a' w' /\ Arrives P (lone (b.at a (.code c :: .inLoop c :: k)) cs w) b k cs e a' w'
def WpL (P : Program) (C : Code) (Q : Exit -> Act -> World -> Prop) (a : Act) (w : World) : Prop :=
 match C with
 | .loop c => LoopWp P c Q a w
 | C => C.wp P Q a w
section
variable {P : Program} {Q : Exit -> Act -> World -> Prop} {a : Act} {w : World}
theorem LoopWp.wp {c : Code} (h : LoopWp P c Q a w) : (Code.loop c).wp P Q a w := fun b k cs =>
 let ⟨e, a', w', hq, harr⟩ := h b k cs
 ⟨e, a', w', hq, .of_steps (.one step_loop) harr⟩
theorem WpL.wp {C : Code} (h : WpL P C Q a w) : C.wp P Q a w := by
 cases C <;> first | exact LoopWp.wp h | exact h
theorem LoopWp.round {c : Code} (h : c.wp P (Exit.then (fun a' w' => LoopWp P c Q a' w') Q) a w) : LoopWp P c Q a w := by
 intro b k cs
 obtain ⟨e, a₁, w₁, hq, harr⟩ := h b (.inLoop c :: k) cs
 cases e with
 | normal =>
  obtain ⟨e₂, a₂, w₂, hq₂, harr₂⟩ := hq b k cs
  exact ⟨e₂, a₂, w₂, hq₂, .of_steps (Steps.trans harr (.one step_inLoop)) harr₂⟩
 | exit id => exact ⟨_, a₁, w₁, hq, .pass (x := .inLoop c) rfl (fun _ _ => .inl (by simp)) harr⟩
 | goto l => exact ⟨_, a₁, w₁, hq, .pass (x := .inLoop c) rfl (fun _ _ => .inl (by simp)) harr⟩
 | ret => exact ⟨_, a₁, w₁, hq, .pass (x := .inLoop c) rfl (fun _ _ => .inl (by simp)) harr⟩
 | panic ch => exact ⟨_, a₁, w₁, hq, .pass (x := .inLoop c) rfl (fun _ _ => .inl (by simp)) harr⟩
 | outgrown => exact ⟨_, a₁, w₁, hq, .pass (x := .inLoop c) rfl (fun _ _ => .inl (by simp)) harr⟩
end
theorem wr_sz {H H' : Heap} {l o : Nat} {cs : List AV} (h : H.wr l o cs = some H') : H'.sz = H.sz := by
 unfold Heap.wr at h
 split at h
 ·simp only [zJ] at h; subst h; rfl
 ·simp at h
theorem heap_sz {env : Env} {H H1 : Heap} {v : AV} {c : COp} (h : heapOp env H c = some (v, H1)) : H.sz <= H1.sz := by
 by_cases ho : isOther c = true
 ·cases c with
  | st n p x =>
   simp only [heapOp] at h
   split at h
   ·split at h
    ·obtain ⟨H', hw, h⟩ := zM h
     simp only [zP] at h
     rw [<- h.2, wr_sz hw]; exact Nat.le_refl _
    ·simp at h
   ·simp at h
  | appm e bs zs s x =>
   simp only [heapOp] at h
   split at h
   ·split at h
    ·simp only [zJ, zP] at h; rw [<- h.2]; simp [Heap.new]
    ·simp at h
   ·simp at h
  | app e bs s x =>
   simp only [heapOp] at h
   obtain ⟨⟨k, ys⟩, _, h⟩ := Option.bind_eq_some_iff.1 h
   simp only at h
   split at h
   ·split at h
    ·simp only [zJ, zP] at h; rw [<- h.2]; exact Nat.le_refl _
    ·split at h
     ·simp only [zJ, zP] at h; rw [<- h.2]; exact Nat.le_refl _
     ·simp at h
    ·simp at h
   ·split at h
    ·simp at h
    ·split at h
     ·split at h
      ·simp only [zJ, zP] at h; rw [<- h.2]; simp [Heap.new]
      ·simp at h
     ·split at h
      ·simp at h
      ·obtain ⟨xs, _, h⟩ := Option.bind_eq_some_iff.1 h
       split at h
       ·split at h
        ·simp only [zJ, zP] at h; rw [<- h.2]; simp [Heap.new]
        ·simp at h
       ·split at h
        ·obtain ⟨H', hw, h⟩ := zM h
         simp only [zP] at h
         rw [<- h.2, wr_sz hw]; exact Nat.le_refl _
        ·split at h
         ·simp only [zJ, zP] at h; rw [<- h.2]; simp [Heap.new, Heap.kill]
         ·simp at h
     ·simp at h
  | cpy e d s =>
   simp only [heapOp] at h
   split at h
   ·simp only [zJ, zP] at h; rw [<- h.2]; exact Nat.le_refl _
   ·simp only [zJ, zP] at h; rw [<- h.2]; exact Nat.le_refl _
   ·simp only [zJ, zP] at h; rw [<- h.2]; exact Nat.le_refl _
   ·split at h
    ·simp at h
    ·split at h
     ·simp only [zJ, zP] at h; rw [<- h.2]; exact Nat.le_refl _
     ·obtain ⟨xs, _, h⟩ := Option.bind_eq_some_iff.1 h
      obtain ⟨H', hw, h⟩ := zM h
      simp only [zP] at h
      rw [<- h.2, wr_sz hw]; exact Nat.le_refl _
   ·simp at h
  | clr e zs x =>
   simp only [heapOp] at h
   split at h
   ·simp only [zJ, zP] at h; rw [<- h.2]; exact Nat.le_refl _
   ·split at h
    ·simp at h
    ·split at h
     ·simp only [zJ, zP] at h; rw [<- h.2]; exact Nat.le_refl _
     ·obtain ⟨H', hw, h⟩ := zM h
      simp only [zP] at h
      rw [<- h.2, wr_sz hw]; exact Nat.le_refl _
   ·simp at h
  | slx e x lo hi mx =>
   have key : ∀ {b : Option (AV × Heap)}, b = some (v, H1) -> (∀ p, b = some p -> p.2 = H) -> H.sz <= H1.sz := by
    intro b hb hp
    rw [<- hp _ hb]; exact Nat.le_refl _
   refine key h ?_
   intro p hp
   simp only [heapOp] at hp
   repeat' split at hp
   all_goals first
    | (simp only [zJ] at hp; rw [<- hp])
    | simp at hp
  | b2s x =>
   simp only [heapOp] at h
   split at h
   ·simp only [zJ, zP] at h; rw [<- h.2]; exact Nat.le_refl _
   ·split at h
    ·obtain ⟨xs, _, h⟩ := Option.bind_eq_some_iff.1 h
     obtain ⟨s, _, h⟩ := zM h
     simp only [zP] at h
     rw [<- h.2]; exact Nat.le_refl _
    ·simp at h
   ·simp at h
  | call => simp [heapOp, pureOp] at h
  | callv => simp [heapOp, pureOp] at h
  | fail => simp [heapOp, pureOp] at h
  | _ => simp [isOther] at ho
 ·rcases quiet_heap (by simpa using ho) h with h1 | ⟨cs, _, h1⟩
  ·rw [h1]; exact Nat.le_refl _
  ·rw [h1]; simp [Heap.new]
end
section
section
variable {P : Program} {base : Nat} {m : Map} {H : Heap} {w : World} {env : Env} {a : Act}
theorem loadVar_ok {T : TypeId} {ag : Bool} {n l q : Nat} {vs : List AV} {v : AV} {V : Value} (hT : isAggT P T ag n = true) (hr : Rel base m H w) (h1 : VR m (.ptr l q) V) (hrd : H.rd l q n = some vs)
  (hv : (if ag then some (.agg vs) else match vs with | [v] => some v | _ => none) = some v) : ∃ v' A, V = .pointer (some A) /\ (loadVar T A).run P w = .ok v' w /\ VR m v v' := by
 obtain ⟨inf, hinf, hsize, hagg⟩ := isAggT_ok (w := w) hT
 obtain ⟨i, hm, he⟩ := h1
 obtain ⟨hvl, hle, us, hul, hus, hcell⟩ := hr.rd hm hrd
 have hcell' : ∀ j u, us[j]? = some u -> w.cell? ((⟨i.b, i.off + q, none⟩ : Addr).add j) = some u := by
  intro j u hj; rw [Addr.add_lit]; exact hcell j u hj
 cases ag with
 | true =>
  simp only [if_true, zJ] at hv
  subst hv
  refine ⟨.agg us.toArray, _, he, ?_, ⟨_, rfl, by simpa using hus⟩⟩
  have hld := run_loadCells_list (P := P) w _ us hcell'
  simp only [loadVar, Sem.run_bind, Result.andThen_ok, hagg, if_true, run_sizeOf w hinf, hsize, <- hul, hld, Sem.run_pure]
 | false =>
  simp only [Bool.false_eq_true, if_false] at hv
  split at hv
  ·rename_i v0
   simp only [zJ] at hv
   subst hv
   obtain ⟨u, us', rfl, hu0, hn⟩ := hus
   have hc0 := hcell 0 u (by simp)
   refine ⟨u, _, he, ?_, hu0⟩
   simp only [loadVar, Sem.run_bind, Result.andThen_ok, hagg, Bool.false_eq_true, if_false, run_load]
   rw [Nat.add_zero] at hc0
   simp only [hc0]
  ·simp at hv
def resSem (ts : Array Value) : ResultVar -> Sem Value
 | .tmp t => pure (ts.getD t undef)
 | .cell a t => do loadVar t (<- asAddr (ts.getD a undef))
theorem res_ok {c : CRes} {r : ResultVar} {v : AV} (hm : mRes P c r = true) (hr : Rel base m H w) (hE : EnvL m env a) (h : resOf env H c = some v) :
  ∃ v', (resSem a.tmps r).run P w = .ok v' w /\ VR m v v' := by
 cases c with
 | t i =>
  cases r with
  | tmp j =>
   simp only [mRes, beq_iff_eq] at hm
   subst hm
   simp only [resOf, zJ] at h
   subst h
   exact ⟨_, rfl, hE.r i⟩
  | cell => simp [mRes] at hm
 | m i n ag =>
  cases r with
  | tmp j => simp [mRes] at hm
  | cell j T =>
   simp only [mRes, Bool.and_eq_true, beq_iff_eq] at hm
   obtain ⟨rfl, hT⟩ := hm
   simp only [resOf] at h
   split at h
   ·rename_i l q e1
    obtain ⟨vs, hrd, hv⟩ := Option.bind_eq_some_iff.1 h
    have h1 := hE.r i
    rw [e1] at h1
    obtain ⟨v', A, hA, hl, hvr⟩ := loadVar_ok hT hr h1 hrd hv
    refine ⟨v', ?_, hvr⟩
    simp only [resSem, hA, asAddr, Sem.run_bind, Sem.run_pure, Result.andThen_ok, hl]
   ·simp at h
theorem ress_ok : ∀ {rs : List CRes} {Rs : List ResultVar} {vs : List AV}, mRess P rs Rs = true -> Rel base m H w -> EnvL m env a -> rs.mapM (resOf env H) = some vs ->
  ∃ vs', (Rs.mapM (resSem a.tmps)).run P w = .ok vs' w /\ VRs m vs vs'
 | [], [], vs, _, hr, hE, h => by
  simp only [List.mapM_nil] at h
  cases h
  exact ⟨[], rfl, rfl⟩
 | c :: cs, R :: Rs, vs, hm, hr, hE, h => by
  simp only [mRess, Bool.and_eq_true] at hm
  simp only [List.mapM_cons] at h
  obtain ⟨v, h1, h⟩ := Option.bind_eq_some_iff.1 h
  obtain ⟨us, h2, h⟩ := Option.bind_eq_some_iff.1 h
  cases h
  obtain ⟨v', e1, r1⟩ := res_ok hm.1 hr hE h1
  obtain ⟨us', e2, r2⟩ := ress_ok hm.2 hr hE h2
  refine ⟨v' :: us', ?_, v', us', rfl, r1, r2⟩
  rw [List.mapM_cons, Sem.run_bind, e1, Result.andThen_ok, Sem.run_bind, e2, Result.andThen_ok]
  rfl
 | [], _ :: _, _, h, _, _, _ => by simp [mRess] at h
 | _ :: _, [], _, h, _, _, _ => by simp [mRess] at h
theorem results_ok {rs : List CRes} {fn : Func} {v : AV} (hm : mRess P rs fn.results.toList = true) (hr : Rel base m H w) (hE : EnvL m env a) (h : results env H rs = some v) :
  ∃ v', (Go.results fn a.tmps).run P w = .ok v' w /\ VR m v v' := by
 obtain ⟨vs, hvs, hv⟩ := zM h
 obtain ⟨vs', e, r⟩ := ress_ok hm hr hE hvs
 have hrun : (Go.results fn a.tmps).run P w = .ok (if h : vs'.toArray.size = 1 then vs'.toArray[0] else .tuple vs'.toArray) w := by
  have : Go.results fn a.tmps = (do let vs <- fn.results.mapM (resSem a.tmps); pure (if h : vs.size = 1 then vs[0] else .tuple vs)) := by
   unfold Go.results
   congr 1
  rw [this, Array.mapM_eq_mapM_toList, Sem.run_bind]
  have : ∀ (x : Sem (List Value)), (x.run P w = .ok vs' w) -> (List.toArray <$> x).run P w = .ok vs'.toArray w := by
   intro x hx
   rw [map_eq_pure_bind, Sem.run_bind, hx]; rfl
  rw [this _ e, Result.andThen_ok]
  rfl
 refine ⟨_, hrun, ?_⟩
 match vs, hv, r with
 | [], hv, r =>
  simp only [VRs] at r
  subst r; subst hv
  exact ⟨#[], by simp, by simp [VRs]⟩
 | [x], hv, r =>
  obtain ⟨u, us, rfl, h1, h2⟩ := r
  simp only [VRs] at h2
  subst h2; subst hv
  simpa using h1
 | x :: y :: vs, hv, r =>
  obtain ⟨u, us, rfl, h1, h2⟩ := r
  obtain ⟨u2, us2, rfl, h3, h4⟩ := h2
  subst hv
  refine ⟨(u :: u2 :: us2).toArray, by simp, ?_⟩
  exact ⟨u, _, rfl, h1, u2, _, rfl, h3, h4⟩
end
def Motive (P : Program) : Judg -> Prop
  | .co c env H ex env' H' => (∀ ts, c = .kill ts -> ex = .normal /\ env' = killT env ts /\ H' = H) /\ H.sz <= H'.sz /\ ∀ C, chk P c C = true -> ∀ base m a w, Rel base m H w -> EnvL m env a ->
      WpL P C (fun e a' w' => e = ex.toExit /\ ∃ m', EnvL m' env' a' /\ a'.defers = a.defers /\ Ok base m H w m' H' w') a w
  | .op ops env H env' H' => H.sz <= H'.sz /\ OpsSim P ops env H env' H'
  | .ca f args H v H' => H.sz <= H'.sz /\ SimCa P f args H v H' /\ Callable P f
def ExtOk (P : Program) (X : Ext) : Prop := ∀ f args H v H', X f args H v H' -> H.sz <= H'.sz /\ SimCa P f args H v H' /\ Callable P f
def TabOk (P : Program) (T : Nat -> Option CFn) : Prop := ∀ f cf, T f = some cf -> chkFn P f cf = true
theorem WpL.mono {P : Program} {C : Code} {Q Q' : Exit -> Act -> World -> Prop} {a : Act} {w : World} (h : WpL P C Q a w) (hq : ∀ e a w, Q e a w -> Q' e a w) : WpL P C Q' a w := by
 cases C with
 | loop c => exact fun b k cs => let ⟨e, a', w', q, r⟩ := h b k cs; ⟨e, a', w', hq _ _ _ q, r⟩
 | _ => exact wp_mono (P := P) h hq
theorem isKill_eq {c : CCode} (h : c.isKill = true) : ∃ ts, c = .kill ts := by
 cases c <;> simp [CCode.isKill] at h
 exact ⟨_, rfl⟩
section
variable {P : Program} {base : Nat} {m m' : Map} {H H' : Heap} {w w' : World}
theorem env_start {args : List AV} {args' : List Value} {n k : Nat} (hn : args.length = k) (hk : k <= n) (h : VRs m args args') :
  EnvL m (args ++ List.replicate (n - k) .und) { tmps := args'.toArray ++ Array.replicate (n - args'.toArray.size) undef, defers := [] } := by
 have hl := VRs.length h
 refine ⟨fun i => ?_, by simp; omega⟩
 by_cases hi : i < args.length
 ·obtain ⟨v, hv, hr⟩ := VRs.at h i hi
  have e1 : (args ++ List.replicate (n - k) AV.und).getD i .und = args.getD i .und := by
   rw [zD, List.getElem?_append_left hi, <- zD]
  rw [e1]
  have e2 : (args'.toArray ++ Array.replicate (n - args'.toArray.size) undef).getD i undef = v := by
   rw [Array.getD_eq_getD_getElem?, Array.getElem?_append_left (by simpa using (by omega : i < args'.length))]
   simpa using congrArg (·.getD undef) hv
  rw [e2]; exact hr
 ·have e1 : (args ++ List.replicate (n - k) AV.und).getD i .und = .und := by
   rw [zD, List.getElem?_append_right (by omega), List.getElem?_replicate]
   split <;> rfl
  rw [e1]; trivial
theorem motive {T : Nat -> Option CFn} {X : Ext} (hmx : P.follows .mixedOrders = true) (hT : TabOk P T) (hX : ExtOk P X) {j : Judg} (h : J T X j) : Motive P j := by
 induction h with
 | skip =>
  refine ⟨fun ts h => by simp at h, Nat.le_refl _, fun C hC base m a w hr hE => ?_⟩
  cases C <;> simp [chk] at hC
  exact wp_skip ⟨rfl, m, hE, rfl, .refl hr⟩
 | @kill ts env H =>
  refine ⟨fun ts' h => by simp only [CCode.kill.injEq] at h; subst h; exact ⟨rfl, rfl, rfl⟩, Nat.le_refl _, fun C hC => by simp [chk] at hC⟩
 | @reg d ops env H env' H' _ ih =>
  obtain ⟨hsz, hs⟩ := ih
  refine ⟨fun ts h => by simp at h, hsz, fun C hC base m a w hr hE => ?_⟩
  cases C <;> simp [chk] at hC
  rename_i id ops' d'
  obtain ⟨rfl, hC⟩ := hC
  cases d with
  | true =>
   simp only [regChk, if_true] at hC
   exact draw_ok hmx hC hs hr hE fun a' w' m' h1 h2 h3 => ⟨rfl, m', h1, h2, h3⟩
  | false =>
   simp only [regChk, Bool.false_eq_true, if_false, Bool.and_eq_true, beq_iff_eq, List.all_eq_true] at hC
   refine wp_region ?_
   rw [<- hC.2]
   exact ops_ok ops hC.1 hs hr hE fun a' w' m' h1 h2 h3 => ⟨rfl, m', h1, h2, h3⟩
 | @seqN x y env H env1 H1 ex env2 H2 _ _ ih1 ih2 =>
  obtain ⟨k1, s1, i1⟩ := ih1
  obtain ⟨k2, s2, i2⟩ := ih2
  refine ⟨fun ts h => by simp at h, Nat.le_trans s1 s2, fun C hC base m a w hr hE => ?_⟩
  unfold chk at hC
  split at hC
  ·rename_i hk
   obtain ⟨ts, rfl⟩ := isKill_eq hk
   obtain ⟨_, rfl, rfl⟩ := k1 ts rfl
   exact i2 C hC base m a w hr (hE.kill ts)
  ·split at hC
   ·rename_i hk
    obtain ⟨ts, rfl⟩ := isKill_eq hk
    obtain ⟨rfl, rfl, rfl⟩ := k2 ts rfl
    refine (i1 C hC base m a w hr hE).mono fun e a' w' h => ?_
    obtain ⟨rfl, m', h1, h2, h3⟩ := h
    exact ⟨rfl, m', h1.kill ts, h2, h3⟩
   ·split at hC
    ·rename_i A B
     simp only [Bool.and_eq_true] at hC
     refine wp_seq ?_
     refine wp_mono (i1 A hC.1 base m a w hr hE).wp fun e a' w' h => ?_
     obtain ⟨rfl, m', h1, h2, h3⟩ := h
     refine wp_mono (i2 B hC.2 base m' a' w' h3.rel h1).wp fun e a'' w'' h => ?_
     obtain ⟨rfl, m'', h4, h5, h6⟩ := h
     exact ⟨rfl, m'', h4, h5.trans h2, h3.trans h6⟩
    ·simp at hC
 | @seqX x y env H ex env1 H1 hne _ ih1 =>
  obtain ⟨k1, s1, i1⟩ := ih1
  refine ⟨fun ts h => by simp at h, s1, fun C hC base m a w hr hE => ?_⟩
  unfold chk at hC
  split at hC
  ·rename_i hk
   obtain ⟨ts, rfl⟩ := isKill_eq hk
   exact absurd (k1 ts rfl).1 hne
  ·split at hC
   ·exact i1 C hC base m a w hr hE
   ·split at hC
    ·rename_i A B
     simp only [Bool.and_eq_true] at hC
     refine wp_seq ?_
     refine wp_mono (i1 A hC.1 base m a w hr hE).wp fun e a' w' h => ?_
     obtain ⟨rfl, h⟩ := h
     cases ex with
     | normal => exact absurd rfl hne
     | exit id => exact ⟨rfl, h⟩
     | ret => exact ⟨rfl, h⟩
    ·simp at hC
 | @condT c x y env H ex env1 H1 hc _ ih =>
  obtain ⟨k1, s1, i1⟩ := ih
  refine ⟨fun ts h => by simp at h, s1, fun C hC base m a w hr hE => ?_⟩
  cases C <;> simp [chk] at hC
  have h1 := mO_ok hC.1.1 hE.r
  rw [hc] at h1
  exact wp_cond_true h1 (i1 _ hC.1.2 base m a w hr hE).wp
 | @condF c x y env H ex env1 H1 hc _ ih =>
  obtain ⟨k1, s1, i1⟩ := ih
  refine ⟨fun ts h => by simp at h, s1, fun C hC base m a w hr hE => ?_⟩
  cases C <;> simp [chk] at hC
  have h1 := mO_ok hC.1.1 hE.r
  rw [hc] at h1
  exact wp_cond_false h1 (i1 _ hC.2 base m a w hr hE).wp
 | @blockE id c env H env1 H1 _ ih =>
  obtain ⟨k1, s1, i1⟩ := ih
  refine ⟨fun ts h => by simp at h, s1, fun C hC base m a w hr hE => ?_⟩
  cases C <;> simp [chk] at hC
  rename_i id' B
  obtain ⟨rfl, hC⟩ := hC
  refine wp_block ?_
  refine wp_mono (i1 _ hC base m a w hr hE).wp fun e a' w' h => ?_
  obtain ⟨rfl, h⟩ := h
  simp only [Ex.toExit, Exit.inBlock, if_true]
  exact ⟨by first | rfl | trivial, h⟩
 | @blockN id c env H ex env1 H1 hne _ ih =>
  obtain ⟨k1, s1, i1⟩ := ih
  refine ⟨fun ts h => by simp at h, s1, fun C hC base m a w hr hE => ?_⟩
  cases C <;> simp [chk] at hC
  rename_i id' B
  obtain ⟨rfl, hC⟩ := hC
  refine wp_block ?_
  refine wp_mono (i1 _ hC base m a w hr hE).wp fun e a' w' h => ?_
  obtain ⟨rfl, h⟩ := h
  cases ex with
  | normal => exact ⟨rfl, h⟩
  | ret => exact ⟨rfl, h⟩
  | exit i2 =>
   have : i2 ≠ id := fun e => hne (by rw [e])
   simp only [Ex.toExit, Exit.inBlock, if_neg this]
   exact ⟨by first | rfl | trivial, h⟩
 | @loopN c env H env1 H1 ex env2 H2 _ _ ih1 ih2 =>
  obtain ⟨k1, s1, i1⟩ := ih1
  obtain ⟨k2, s2, i2⟩ := ih2
  refine ⟨fun ts h => by simp at h, Nat.le_trans s1 s2, fun C hC base m a w hr hE => ?_⟩
  cases C <;> simp [chk] at hC
  rename_i B
  refine LoopWp.round ?_
  refine wp_mono (i1 _ hC base m a w hr hE).wp fun e a' w' h => ?_
  obtain ⟨rfl, m', h1, h2, h3⟩ := h
  have := i2 (.loop B) (by simpa [chk] using hC) base m' a' w' h3.rel h1
  refine WpL.mono (C := .loop B) this fun e a'' w'' h => ?_
  obtain ⟨rfl, m'', h4, h5, h6⟩ := h
  exact ⟨rfl, m'', h4, h5.trans h2, h3.trans h6⟩
 | @loopX c env H ex env1 H1 hne _ ih =>
  obtain ⟨k1, s1, i1⟩ := ih
  refine ⟨fun ts h => by simp at h, s1, fun C hC base m a w hr hE => ?_⟩
  cases C <;> simp [chk] at hC
  rename_i B
  refine LoopWp.round ?_
  refine wp_mono (i1 _ hC base m a w hr hE).wp fun e a' w' h => ?_
  obtain ⟨rfl, h⟩ := h
  cases ex with
  | normal => exact absurd rfl hne
  | exit id => exact ⟨rfl, h⟩
  | ret => exact ⟨rfl, h⟩
 | exit =>
  refine ⟨fun ts h => by simp at h, Nat.le_refl _, fun C hC base m a w hr hE => ?_⟩
  cases C <;> simp [chk] at hC
  subst hC
  exact wp_exit ⟨rfl, m, hE, rfl, .refl hr⟩
 | ret =>
  refine ⟨fun ts h => by simp at h, Nat.le_refl _, fun C hC base m a w hr hE => ?_⟩
  cases C <;> simp [chk] at hC
  exact wp_ret ⟨rfl, m, hE, rfl, .refl hr⟩
 | opNil => exact ⟨Nat.le_refl _, rfl, rfl⟩
 | opSkip hk hw _ ih => exact ⟨ih.1, .tup [], _, ⟨hk, .inl ⟨hw, rfl, rfl⟩⟩, fun h => by rw [hw] at h; simp at h, Nat.le_refl _, ih.2⟩
 | opDo hk hw hop hkept _ ih => exact ⟨Nat.le_trans (heap_sz hop) ih.1, _, _, ⟨hk, .inr ⟨hw, .inl hop⟩⟩, fun _ => hkept, heap_sz hop, ih.2⟩
 | opCall hk hw hc _ hkept _ ih1 ih2 => exact ⟨Nat.le_trans ih1.1 ih2.1, _, _, ⟨hk, .inr ⟨hw, .inr ⟨_, _, hc, ih1.2.1, ih1.2.2⟩⟩⟩, fun _ => hkept, ih1.1, ih2.2⟩
 | @call f cf args H ex env' H' v hf hl hn _ hex hres ih =>
  obtain ⟨_, s1, i1⟩ := ih
  have hc := hT f cf hf
  unfold chkFn at hc
  split at hc
  ·rename_i fn hfn
   split at hc
   ·rename_i C hb
    simp only [Bool.and_eq_true, beq_iff_eq, Bool.not_eq_true'] at hc
    obtain ⟨⟨⟨hC, hnt⟩, hR⟩, hnm⟩ := hc
    refine ⟨s1, fun base m w args' hr hargs => ?_, fn, hfn, by rw [hb]; rfl, hnm⟩
    refine calls_of_wp hfn hb ?_
    have hE := env_start hl hn hargs
    rw [hnt]
    refine wp_mono (i1 C hC base m _ w hr hE).wp fun e a' w' h => ?_
    obtain ⟨rfl, m', h1, h2, h3⟩ := h
    obtain ⟨v', hv', hvr⟩ := results_ok hR h3.rel h1 hres
    rcases hex with rfl | rfl
    ·exact ⟨h2, v', hv', v', m', rfl, hvr, h3⟩
    ·exact ⟨h2, v', hv', v', m', rfl, hvr, h3⟩
   ·simp at hc
  ·simp at hc
 | ext h => exact hX _ _ _ _ _ h
end
theorem sim {P : Program} {T : Nat -> Option CFn} {X : Ext} (hmx : P.follows .mixedOrders = true) (hT : TabOk P T) (hX : ExtOk P X) {f : Nat} {args : List AV} {H H' : Heap} {v : AV} (h : J T X (.ca f args H v H')) : SimCa P f args H v H' :=
 (motive hmx hT hX h).2.1
end
end Go.Proofs.YtbpdhmbdpjafeaaGreatH
