/- Values, stores, operations and code of the abstract interpreter: what each operation computes on data. Conditions: none. -/
import Derived.Orders
import Derived.Scope
import Derived.KernelRfl
namespace Iv
open Go

/-- Abstract values. 'sl', 'iptr': into memory that is never written again. 'ms', 'gs', 'ptr': into a block of our own, by its name. -/
inductive D where
  | un
  | bool (b : Bool)
  | int (k : IntKind) (n : Int)
  | str (s : List UInt8)
  | agg (cs : List D)
  | tup (cs : List D)
  | nils
  | sl (ex : Bool) (len : Nat) (cells : List D)
  | ms (nm off sz len cap : Nat)
  | gs (nm off sz len : Nat)
  | ptr (nm off : Nat)
  | iptr (cells : List D) (off : Nat)
  | nilp
  | iface (t : Nat) (d : D)
  | nilif
  | fn (f : Fn) (fs cs : List D)
  | nilfn
  | nilm
  | it (nm : Nat)
  deriving Inhabited

/-- A block of our own. -/
inductive Blk where
  | fix (cells : List D)
  | grow (cells : List D)
  | iter (s : List UInt8) (pos : Nat)
  deriving Inhabited

abbrev Tm := List (Nat × D)
abbrev St := List (Nat × Blk)

structure AS where
  t : Tm
  s : St

def tget : Tm → Nat → D
  | [], _ => .un
  | (k, v) :: r, n => bif Nat.beq n k then v else tget r n

def sget : St → Nat → Option Blk
  | [], _ => none
  | (k, v) :: r, n => bif Nat.beq n k then some v else sget r n

def sset : St → Nat → Blk → St
  | [], _, _ => []
  | (k, v) :: r, n, b => bif Nat.beq n k then (k, b) :: r else (k, v) :: sset r n b

def sdel : St → Nat → St
  | [], _ => []
  | (k, v) :: r, n => bif Nat.beq n k then sdel r n else (k, v) :: sdel r n

def shas (s : St) (n : Nat) : Bool := (sget s n).isSome

mutual
def D.kill (nm : Nat) : D → D
  | .agg cs => .agg (D.kills nm cs)
  | .tup cs => .tup (D.kills nm cs)
  | .ms n o z l c => bif Nat.beq n nm then .un else .ms n o z l c
  | .gs n o z l => bif Nat.beq n nm then .un else .gs n o z l
  | .ptr n o => bif Nat.beq n nm then .un else .ptr n o
  | .it n => bif Nat.beq n nm then .un else .it n
  | .iface t d => .iface t (D.kill nm d)
  | .fn f a b => .fn f (D.kills nm a) (D.kills nm b)
  | d => d
def D.kills (nm : Nat) : List D → List D
  | [] => []
  | d :: r => D.kill nm d :: D.kills nm r
end

mutual
def D.pure : D → Bool
  | .agg cs => D.pures cs
  | .tup cs => D.pures cs
  | .ms .. => false
  | .gs .. => false
  | .ptr .. => false
  | .it .. => false
  | .iface _ d => D.pure d
  | .fn _ a b => D.pures a && D.pures b
  | _ => true
def D.pures : List D → Bool
  | [] => true
  | d :: r => D.pure d && D.pures r
end

mutual
/-- No memory is read through this value. -/
def D.flat : D → Bool
  | .agg cs => D.flats cs
  | .tup cs => D.flats cs
  | .bool _ => true
  | .int _ _ => true
  | .str _ => true
  | .un => true
  | .nils => true
  | .nilp => true
  | .nilif => true
  | .nilfn => true
  | .nilm => true
  | .iface _ d => D.flat d
  | _ => false
def D.flats : List D → Bool
  | [] => true
  | d :: r => D.flat d && D.flats r
end

def Blk.kill (nm : Nat) : Blk → Blk
  | .fix cs => .fix (D.kills nm cs)
  | .grow cs => .grow (D.kills nm cs)
  | b => b

def tkill (nm : Nat) : Tm → Tm
  | [] => []
  | (k, v) :: r => (k, D.kill nm v) :: tkill nm r

def skill (nm : Nat) : St → St
  | [] => []
  | (k, b) :: r => (k, Blk.kill nm b) :: skill nm r

/-- Forget a block and all that refers to it. -/
def AS.drop (nm : Nat) (x : AS) : AS :=
  bif shas x.s nm then ⟨tkill nm x.t, skill nm (sdel x.s nm)⟩ else x

def AS.drops : List Nat → AS → AS
  | [], x => x
  | n :: r, x => AS.drops r (x.drop n)

/-- Forget a block, whether or not it is there. -/
def AS.purge (nm : Nat) (x : AS) : AS := ⟨tkill nm x.t, skill nm (sdel x.s nm)⟩

def AS.purges : List Nat → AS → AS
  | [], x => x
  | n :: r, x => AS.purges r (x.purge n)

def restrict (l : List Nat) (t : Tm) : Tm := l.map fun n => (n, tget t n)

/-- Data by which nothing of our own is reached. -/
def fr : Nat → St → D → Option D
  | 0, _, d => bif d.pure then some d else none
  | n + 1, s, d => bif d.pure then some d else
    match d with
    | .agg cs => (cs.mapM (fr n s)).map .agg
    | .tup cs => (cs.mapM (fr n s)).map .tup
    | .iface t d => (fr n s d).map (.iface t)
    | .fn f a b => do let a ← a.mapM (fr n s); let b ← b.mapM (fr n s); some (.fn f a b)
    | .ms nm off sz len cap =>
      match sget s nm with
      | some (.fix cs) => bif Nat.ble (off + len * sz) cs.length then (((cs.drop off).take (len * sz)).mapM (fr n s)).map (.sl (Nat.beq cap len) len) else none
      | some (.grow cs) => bif Nat.ble (off + len * sz) cs.length then (((cs.drop off).take (len * sz)).mapM (fr n s)).map (.sl (Nat.beq cap len) len) else none
      | _ => none
    | .gs nm off sz len =>
      match sget s nm with
      | some (.grow cs) => bif Nat.ble (off + len * sz) cs.length then (((cs.drop off).take (len * sz)).mapM (fr n s)).map (.sl false len) else none
      | _ => none
    | .ptr nm off =>
      match sget s nm with
      | some (.fix cs) => (cs.mapM (fr n s)).map fun cs => .iptr cs off
      | _ => none
    | _ => none

/-- How the values of a type are compared: numbers, strings, bools, and the parts of structs and arrays in their order. -/
inductive ET where
  | int
  | bool
  | str
  | parts (l : List (Nat × Option Nat × ET))
  deriving Inhabited

/-- What is compared: values of such a type; or slices, pointers, interface values, functions with nil. -/
inductive EK where
  | ty (t : ET)
  | slc
  | ptr
  | ifc (c : Bool)
  | fnc
  deriving Inhabited

inductive Arg where
  | t (n : Nat)
  | c (d : D)
  | g (n : Nat)
  | f (n : Nat)
  deriving Inhabited

inductive AOp where
  | mv (x : Arg)
  | pick (c a b : Arg)
  | new (nm : Nat) (x : Arg)
  | ld (sz : Option Nat) (x : Arg)
  | st (n : Nat) (x v : Arg)
  | fa (off : Nat) (x : Arg)
  | iaA (n sz : Nat) (x i : Arg)
  | iaS (sz : Nat) (x i : Arg)
  | ixA (n sz : Nat) (ag : Bool) (x i : Arg)
  | ixS (x i : Arg)
  | fld (off : Nat) (sz : Option Nat) (x : Arg)
  | ext (i : Nat) (x : Arg)
  | bin (op : BinOp) (x y : Arg)
  | cmp (neg : Bool) (k : EK) (x y : Arg)
  | un (op : UnOp) (x : Arg)
  | bld (cells : List D) (parts : List (Nat × Nat × Arg))
  | bsl (nm len sz : Nat) (cells : List D) (parts : List (Nat × Nat × Arg))
  | mks (nm sz bytes : Nat) (zero : List D) (l c : Arg)
  | slS (x : Arg) (l h : Option Arg)
  | slV (sz : Nat) (x : Arg) (l h m : Option Arg)
  | slA (n sz : Nat) (x : Arg) (l h m : Option Arg)
  | len (st : Bool) (x : Arg)
  | cap (x : Arg)
  | app (nm sz bytes : Nat) (x y : Arg)
  | copy (sz : Nat) (x y : Arg)
  | cvI (k : IntKind) (x : Arg)
  | cvN (x : Arg)
  | cvB (nm : Nat) (x : Arg)
  | cvS (x : Arg)
  | mkif (t : Nat) (x : Arg)
  | mkfn (f : Fn) (fs cs : List Arg)
  | nilc (x : Arg)
  | rng (nm : Nat) (x : Arg)
  | next (x : Arg)
  | mm (mx : Bool) (x y : Arg)
  | call (z : Bool) (f : Nat) (args : List Arg)
  | callv (z : Bool) (x : Arg) (args : List Arg)
  deriving Inhabited

structure AOper where
  dst : Option Nat
  op : AOp
  guard : Option (Nat × Bool)
  deriving Inhabited

/-- The operation without what was put in for the proofs: whether what a call is handed is ours no longer. -/
def AOp.bare : AOp → AOp
  | .call _ f l => .call false f l
  | .callv _ x l => .callv false x l
  | o => o

def AOper.bare (o : AOper) : AOper := { o with op := o.op.bare }

inductive AC where
  | skip
  | reg (draw : Option (List (Nat × Nat))) (kl : List Nat) (ops : List AOper) (live : Option (List Nat))
  | seq (a b : AC)
  | cond (c : Arg) (a b : AC)
  | block (id : Nat) (a : AC)
  | loop (lt ls : List Nat) (ad : List (Nat × Nat × Nat)) (a : AC)
  | exit (id : Nat)
  | scope (a : AC)
  | ret
  deriving Inhabited

def loK : IntKind → Nat
  | .i8 => 128
  | .i16 => 32768
  | .i32 => 2147483648
  | .i64 => 9223372036854775808
  | _ => 0
def hiK : IntKind → Nat
  | .i8 => 127
  | .i16 => 32767
  | .i32 => 2147483647
  | .i64 => 9223372036854775807
  | .u8 => 255
  | .u16 => 65535
  | .u32 => 4294967295
  | .u64 => 18446744073709551615

/-- Does a number lie in the range of a kind? (By naturals: so that Lean stands still where one is not known.) -/
def fitsD (k : IntKind) (n : Int) : Bool :=
  match n with
  | .ofNat m => Nat.ble m (hiK k)
  | .negSucc m => Nat.ble (m + 1) (loK k)

/-- 'wrap' of the model, quick at numbers that fit. -/
def wrapD (k : IntKind) (n : Int) : Int := bif fitsD k n then n else k.wrap n

def bitsD (op : BinOp) (k : IntKind) (x y : Int) : Option D :=
  let a := BitVec.ofInt k.bits x
  let b := BitVec.ofInt k.bits y
  match op with
  | .and => some (.int k (k.wrap (a &&& b).toNat))
  | .or => some (.int k (k.wrap (a ||| b).toNat))
  | .xor => some (.int k (k.wrap (a ^^^ b).toNat))
  | .andNot => some (.int k (k.wrap (a &&& ~~~b).toNat))
  | _ => none

def strD (op : BinOp) (x y : List UInt8) : Option D :=
  match op with
  | .add => bif Nat.ble (x.length + y.length) 9223372036854775807 then some (.str (x ++ y)) else none
  | .eql => some (.bool (x == y))
  | .neq => some (.bool (!(x == y)))
  | .lss => some (.bool (Op.bytesLess x y))
  | .leq => some (.bool (Op.bytesLess x y || x == y))
  | .gtr => some (.bool (!(Op.bytesLess x y || x == y)))
  | .geq => some (.bool (!(Op.bytesLess x y)))
  | _ => none

def intD (op : BinOp) (k : IntKind) (x y : Int) : Option D :=
  match op with
  | .add => some (.int k (wrapD k (x + y)))
  | .sub => some (.int k (wrapD k (x - y)))
  | .mul => some (.int k (wrapD k (x * y)))
  | .quo => if y = 0 then none else some (.int k (wrapD k (x.tdiv y)))
  | .rem => if y = 0 then none else some (.int k (x.tmod y))
  | .eql => some (.bool (x == y))
  | .neq => some (.bool (x != y))
  | .lss => some (.bool (decide (x < y)))
  | .leq => some (.bool (decide (x ≤ y)))
  | .gtr => some (.bool (decide (x > y)))
  | .geq => some (.bool (decide (x ≥ y)))
  | op => bitsD op k x y

def shD (op : BinOp) (k : IntKind) (x y : Int) : Option D :=
  if y < 0 then none else
  let n := min y.toNat k.bits
  match op with
  | .shl => some (.int k (wrapD k (x * 2 ^ n)))
  | .shr => some (.int k (x.fdiv (2 ^ n)))
  | _ => none

def binD (op : BinOp) (a b : D) : Option D :=
  match a, b with
  | .int k x, .int j y =>
    match op with
    | .shl => shD .shl k x y
    | .shr => shD .shr k x y
    | op => if k = j then intD op k x y else none
  | .str x, .str y => strD op x y
  | _, _ => none

def unD (op : UnOp) (a : D) : Option D :=
  match op, a with
  | .neg, .int k n => some (.int k (wrapD k (0 - n)))
  | .xor, .int k n => bitsD .xor k (if k.signed then -1 else k.max) n
  | .not, .bool b => some (.bool (!b))
  | _, _ => none

def Arg.ev (G : List (Nat × List D)) (t : Tm) : Arg → D
  | .t n => tget t n
  | .c d => d
  | .g n => match G.find? (fun p => Nat.beq p.1 n) with | some p => .iptr p.2 0 | none => .un
  | .f n => .fn (.func n) [] []

def D.cells? : D → Option (List D)
  | .un => none
  | .agg cs => some cs
  | d => some [d]

def takeAt (cs : List D) (off : Nat) : Option Nat → Option D
  | none => cs[off]?
  | some n => bif Nat.ble (off + n) cs.length then some (.agg ((cs.drop off).take n)) else none

def blkCells : Blk → Option (List D)
  | .fix cs => some cs
  | .grow cs => some cs
  | .iter _ _ => none

mutual
def eqT : ET → D → D → Option Bool
  | .int, .int k a, .int j b => if k = j then some (a == b) else none
  | .bool, .bool a, .bool b => some (a == b)
  | .str, .str a, .str b => some (a == b)
  | .parts l, .agg xs, .agg ys => eqTs l xs ys
  | _, _, _ => none
def eqTs : List (Nat × Option Nat × ET) → List D → List D → Option Bool
  | [], _, _ => some true
  | (off, sz, t) :: r, xs, ys =>
    match takeAt xs off sz, takeAt ys off sz with
    | some a, some b => match eqT t a b with
      | some e => bif e then eqTs r xs ys else some false
      | none => none
    | _, _ => none
end

def cmpD : EK → D → D → Option Bool
  | .ty t, a, b => eqT t a b
  | .slc, .nils, .nils => some true
  | .slc, .nils, .sl _ (_ + 1) _ => some false
  | .slc, .sl _ (_ + 1) _, .nils => some false
  | .slc, .nils, .ms _ _ _ _ _ => some false
  | .slc, .ms _ _ _ _ _, .nils => some false
  | .slc, .nils, .gs _ _ _ (_ + 1) => some false
  | .slc, .gs _ _ _ (_ + 1), .nils => some false
  | .ptr, .nilp, .nilp => some true
  | .ptr, .nilp, .ptr _ _ => some false
  | .ptr, .ptr _ _, .nilp => some false
  | .ptr, .nilp, .iptr _ _ => some false
  | .ptr, .iptr _ _, .nilp => some false
  | .ifc c, .nilif, .nilif => bif c then some true else none
  | .ifc _, .nilif, .iface _ _ => some false
  | .ifc _, .iface _ _, .nilif => some false
  | .fnc, .nilfn, .nilfn => some true
  | .fnc, .nilfn, .fn _ _ _ => some false
  | .fnc, .fn _ _ _, .nilfn => some false
  | _, _, _ => none

/-- The cells that a pointer sees, and its place among them. -/
def seen (s : St) : D → Option (List D × Nat)
  | .ptr nm off => do let b ← sget s nm; let cs ← blkCells b; some (cs, off)
  | .iptr cs off => some (cs, off)
  | _ => none

def setAt {α : Type} : List α → Nat → List α → List α
  | cs, _, [] => cs
  | cs, off, v :: vs => setAt (cs.set off v) (off + 1) vs

def isAg : D → Bool
  | .un => true
  | .agg _ => true
  | .tup _ => true
  | _ => false

def stB (b : Blk) (off : Nat) (vs : List D) : Option Blk :=
  bif vs.any isAg then none else
  match b with
  | .fix cs => bif Nat.ble (off + vs.length) cs.length then some (.fix (setAt cs off vs)) else none
  | .grow cs => bif Nat.ble (off + vs.length) cs.length then some (.grow (setAt cs off vs)) else none
  | _ => none

def place (cells : List D) : List (Nat × Nat × D) → Option (List D)
  | [] => some cells
  | (off, n, d) :: r =>
    match d.cells? with
    | some cs => bif Nat.beq cs.length n && Nat.ble (off + n) cells.length then place (setAt cells off cs) r else none
    | none => none

def idxD (n : Nat) : D → Option Nat
  | .int _ i => if 0 ≤ i ∧ i < n then some i.toNat else none
  | _ => none

def bndD (n : Nat) : D → Option Nat
  | .int _ i => if 0 ≤ i ∧ i ≤ n then some i.toNat else none
  | _ => none

def bndO (n dflt : Nat) : Option D → Option Nat
  | none => some dflt
  | some d => bndD n d

def bytesOf (s : List UInt8) : List D := s.map fun b => .int .u8 b.toNat

def byteOfD : D → Option UInt8
  | .int .u8 n => some (UInt8.ofNat n.toNat)
  | _ => none

/-- The cells of a slice, or the bytes of a string, and how many elements there are. -/
def sliceCells (s : St) (sz : Nat) : D → Option (List D × Nat)
  | .nils => some ([], 0)
  | .str b => bif Nat.beq sz 1 then some (bytesOf b, b.length) else none
  | .sl _ len cs => bif Nat.ble (len * sz) cs.length then some (cs.take (len * sz), len) else none
  | .ms nm off z len _ => do
    let b ← sget s nm; let cs ← blkCells b
    bif Nat.beq z sz && Nat.ble (off + len * sz) cs.length then some ((cs.drop off).take (len * sz), len) else none
  | .gs nm off z len => do
    let b ← sget s nm; let cs ← blkCells b
    bif Nat.beq z sz && Nat.ble (off + len * sz) cs.length then some ((cs.drop off).take (len * sz), len) else none
  | _ => none

def lenD (st : Bool) (d : D) : Option Nat :=
  match st, d with
  | true, .str b => some b.length
  | false, .nils => some 0
  | false, .sl _ n _ => some n
  | false, .ms _ _ _ n _ => some n
  | false, .gs _ _ _ n => some n
  | _, _ => none

def AS.add (x : AS) (nm : Nat) (b : Blk) : Option AS := bif shas x.s nm then none else some ⟨x.t, (nm, b) :: x.s⟩

def room (n bytes : Nat) : Bool := Nat.ble n 4294967296 && Nat.ble bytes 4096

def appD (x : AS) (nm sz bytes : Nat) (a b : D) : Option (D × AS) := do
  let (ys, n) ← sliceCells x.s sz b
  match a with
  | .nils =>
    bif Nat.beq n 0 then some (.nils, x) else
    bif room n bytes then (x.add nm (.grow ys)).map fun x => (.gs nm 0 sz n, x) else none
  | .sl ex len cs =>
    bif Nat.beq n 0 then some (.sl ex len cs, x) else
    bif ex && room (len + n) bytes && Nat.ble (len * sz) cs.length then (x.add nm (.grow (cs.take (len * sz) ++ ys))).map fun x => (.gs nm 0 sz (len + n), x) else none
  | .ms m off z len c =>
    match sget x.s m with
    | some (.fix cs) =>
      bif Nat.beq z sz then
        bif Nat.ble (len + n) c then (stB (.fix cs) (off + len * sz) ys).map fun b => (.ms m off z (len + n) c, ⟨x.t, sset x.s m b⟩)
        else bif room (len + n) bytes && Nat.ble (off + len * sz) cs.length then (x.add nm (.grow ((cs.drop off).take (len * sz) ++ ys))).map fun x => (.gs nm 0 sz (len + n), x) else none
      else none
    | _ => none
  | .gs m off z len =>
    match sget x.s m with
    | some (.grow cs) =>
      bif Nat.beq n 0 then some (.gs m off z len, x) else
      bif Nat.beq z sz && Nat.beq off 0 && Nat.beq (len * sz) cs.length && room (len + n) bytes && !(ys.any isAg) then
        some (.gs m 0 sz (len + n), ⟨tkill m x.t, sset (skill m x.s) m (.grow (D.kills m cs ++ D.kills m ys))⟩)
      else none
    | _ => none
  | _ => none

def rep (n : Nat) (z : List D) : List D := (List.replicate n z).flatten

def decodeD (s : List UInt8) (pos : Nat) : Nat × Nat := Utf8.decode ⟨s.toArray⟩ pos

def parts (G : List (Nat × List D)) (t : Tm) (l : List (Nat × Nat × Arg)) : List (Nat × Nat × D) := l.map fun p => (p.1, p.2.1, p.2.2.ev G t)

/-- What an operation comes to; nothing of calls. -/
def step (G : List (Nat × List D)) (o : AOp) (x : AS) : Option (D × AS) :=
  match o with
  | .mv a => some (a.ev G x.t, x)
  | .pick c a b => match c.ev G x.t with
    | .bool r => some (bif r then a.ev G x.t else b.ev G x.t, x)
    | _ => none
  | .new nm a => match (a.ev G x.t).cells? with
    | some cs => (x.add nm (.fix cs)).map fun x => (.ptr nm 0, x)
    | none => none
  | .ld sz a => do let (cs, off) ← seen x.s (a.ev G x.t); let d ← takeAt cs off sz; some (d, x)
  | .st n a v => match a.ev G x.t with
    | .ptr nm off => do
      let b ← sget x.s nm
      let vs ← (v.ev G x.t).cells?
      bif Nat.beq vs.length n then (stB b off vs).map fun b => (.un, ⟨x.t, sset x.s nm b⟩) else none
    | _ => none
  | .fa o a => match a.ev G x.t with
    | .ptr nm off => some (.ptr nm (off + o), x)
    | .iptr cs off => some (.iptr cs (off + o), x)
    | _ => none
  | .iaA n sz a i => do
    let k ← idxD n (i.ev G x.t)
    match a.ev G x.t with
    | .ptr nm off => some (.ptr nm (off + k * sz), x)
    | .iptr cs off => some (.iptr cs (off + k * sz), x)
    | _ => none
  | .iaS sz a i => match a.ev G x.t with
    | .sl _ len cs => do let k ← idxD len (i.ev G x.t); some (.iptr cs (k * sz), x)
    | .ms nm off z len _ => do let k ← idxD len (i.ev G x.t); bif Nat.beq z sz then some (.ptr nm (off + k * sz), x) else none
    | .gs nm off z len => do let k ← idxD len (i.ev G x.t); bif Nat.beq z sz then some (.ptr nm (off + k * sz), x) else none
    | _ => none
  | .ixA n sz ag a i => match a.ev G x.t with
    | .agg cs => do let k ← idxD n (i.ev G x.t); let d ← takeAt cs (k * sz) (bif ag then some sz else none); some (d, x)
    | _ => none
  | .ixS a i => match a.ev G x.t with
    | .str s => do let k ← idxD s.length (i.ev G x.t); let b ← s[k]?; some (.int .u8 b.toNat, x)
    | _ => none
  | .fld off sz a => match a.ev G x.t with
    | .agg cs => do let d ← takeAt cs off sz; some (d, x)
    | _ => none
  | .ext i a => match a.ev G x.t with
    | .tup cs => do let d ← cs[i]?; some (d, x)
    | _ => none
  | .bin op a b => (binD op (a.ev G x.t) (b.ev G x.t)).map fun d => (d, x)
  | .cmp neg k a b => (cmpD k (a.ev G x.t) (b.ev G x.t)).map fun r => (.bool (bif neg then !r else r), x)
  | .un op a => (unD op (a.ev G x.t)).map fun d => (d, x)
  | .bld cells ps => (place cells (parts G x.t ps)).map fun cs => (.agg cs, x)
  | .bsl nm len sz cells ps => do
    let cs ← place cells (parts G x.t ps)
    (x.add nm (.fix cs)).map fun x => (.ms nm 0 sz len len, x)
  | .mks nm sz bytes zero l c => match l.ev G x.t, c.ev G x.t with
    | .int _ l, .int _ c =>
      if 0 ≤ l ∧ l ≤ c ∧ bytes * c ≤ 1099511627776 ∧ c ≤ 4294967296 then
        (x.add nm (.fix (rep c.toNat zero))).map fun x => (.ms nm 0 sz l.toNat c.toNat, x)
      else none
    | _, _ => none
  | .slS a l h => match a.ev G x.t with
    | .str s => do
      let h ← bndO s.length s.length (h.map (·.ev G x.t))
      let l ← bndO h 0 (l.map (·.ev G x.t))
      some (.str ((s.take h).drop l), x)
    | _ => none
  | .slV sz a l h m => match a.ev G x.t with
    | .nils => do
      let m ← bndO 0 0 (m.map (·.ev G x.t))
      let h ← bndO m 0 (h.map (·.ev G x.t))
      let _ ← bndO h 0 (l.map (·.ev G x.t))
      some (.nils, x)
    | .sl ex len cs => do
      let m' ← bndO len len (m.map (·.ev G x.t))
      let h' ← bndO m' len (h.map (·.ev G x.t))
      let l' ← bndO h' 0 (l.map (·.ev G x.t))
      bif Nat.ble (h' * sz) cs.length then
        some (.sl ((m.isSome && Nat.beq m' h') || (m.isNone && ex && Nat.beq h' len)) (h' - l') ((cs.drop (l' * sz)).take ((h' - l') * sz)), x)
      else none
    | .ms nm off z len c => do
      let m ← bndO c c (m.map (·.ev G x.t))
      let h ← bndO m len (h.map (·.ev G x.t))
      let l ← bndO h 0 (l.map (·.ev G x.t))
      bif Nat.beq z sz then some (.ms nm (bif Nat.beq m l then off else off + l * sz) z (h - l) (m - l), x) else none
    | .gs nm off z len => match m with
      | none => do
        let h ← bndO len len (h.map (·.ev G x.t))
        let l ← bndO h 0 (l.map (·.ev G x.t))
        bif Nat.beq z sz then
          (bif Nat.beq l 0 then some (.gs nm off z h, x) else bif Nat.blt l h then some (.gs nm (off + l * sz) z (h - l), x) else some (.sl false 0 [], x))
        else none
      | some m => do
        let m ← bndD len (m.ev G x.t)
        let h ← bndO m len (h.map (·.ev G x.t))
        let l ← bndO h 0 (l.map (·.ev G x.t))
        bif Nat.beq z sz && Nat.blt 0 len then some (.ms nm (bif Nat.beq m l then off else off + l * sz) z (h - l) (m - l), x) else none
    | _ => none
  | .slA n sz a l h m => do
    let m ← bndO n n (m.map (·.ev G x.t))
    let h ← bndO m n (h.map (·.ev G x.t))
    let l ← bndO h 0 (l.map (·.ev G x.t))
    match a.ev G x.t with
    | .ptr nm off => do
      let b ← sget x.s nm
      let cs ← blkCells b
      bif Nat.ble (off + m * sz) cs.length then some (.ms nm (bif Nat.beq m l then off else off + l * sz) sz (h - l) (m - l), x) else none
    | .iptr cs off => bif Nat.ble (off + h * sz) cs.length then some (.sl (Nat.beq m h) (h - l) ((cs.drop (off + l * sz)).take ((h - l) * sz)), x) else none
    | _ => none
  | .len st a => match lenD st (a.ev G x.t) with
    | some n => some (.int .i64 n, x)
    | none => none
  | .cap a => match a.ev G x.t with
    | .nils => some (.int .i64 0, x)
    | .ms _ _ _ _ c => some (.int .i64 c, x)
    | .sl true n _ => some (.int .i64 n, x)
    | _ => none
  | .app nm sz bytes a b => appD x nm sz bytes (a.ev G x.t) (b.ev G x.t)
  | .copy sz a b => do
    let (ys, n) ← sliceCells x.s sz (b.ev G x.t)
    match a.ev G x.t with
    | .nils => some (.int .i64 0, x)
    | .ms nm off z len _ => do
      let b ← sget x.s nm
      bif Nat.beq z sz then (stB b off (ys.take (min n len * sz))).map fun b => (.int .i64 (min n len : Nat), ⟨x.t, sset x.s nm b⟩) else none
    | .gs nm off z len => do
      let b ← sget x.s nm
      bif Nat.beq z sz then (stB b off (ys.take (min n len * sz))).map fun b => (.int .i64 (min n len : Nat), ⟨x.t, sset x.s nm b⟩) else none
    | _ => none
  | .cvI k a => match a.ev G x.t with
    | .int _ n => some (.int k (wrapD k n), x)
    | _ => none
  | .cvN a => match a.ev G x.t with
    | .int _ n => some (.str (Utf8.encode n).data.toList, x)
    | .str s => some (.str s, x)
    | _ => none
  | .cvB nm a => match a.ev G x.t with
    | .str s => (x.add nm (.grow (bytesOf s))).map fun x => (.gs nm 0 1 s.length, x)
    | _ => none
  | .cvS a => match a.ev G x.t with
    | .str _ => none
    | d => do
      let (cs, _) ← sliceCells x.s 1 d
      let bs ← cs.mapM byteOfD
      some (.str bs, x)
  | .mkif t a => some (.iface t (a.ev G x.t), x)
  | .mkfn f fs cs => some (.fn f (fs.map (·.ev G x.t)) (cs.map (·.ev G x.t)), x)
  | .nilc a => match a.ev G x.t with
    | .ptr nm off => some (.ptr nm off, x)
    | .iptr cs off => some (.iptr cs off, x)
    | .fn (.func f) a b => some (.fn (.func f) a b, x)
    | _ => none
  | .rng nm a => match a.ev G x.t with
    | .str s => (x.add nm (.iter s 0)).map fun x => (.it nm, x)
    | _ => none
  | .next a => match a.ev G x.t with
    | .it nm => match sget x.s nm with
      | some (.iter s pos) =>
        bif Nat.blt pos s.length then
          some (.tup [.bool true, .int .i64 pos, .int .i32 (decodeD s pos).1], ⟨x.t, sset x.s nm (.iter s (pos + (decodeD s pos).2))⟩)
        else some (.tup [.bool false], x)
      | _ => none
    | _ => none
  | .mm mx a b => match a.ev G x.t, b.ev G x.t with
    | .int k n, .int _ m => some (.int k (bif mx then (if m > n then m else n) else (if m < n then m else n)), x)
    | _, _ => none
  | .call _ _ _ => none
  | .callv _ _ _ => none

end Iv
/- How abstract values stand for values of the model, what a contract says, and the conditions under which abstract code does what is asked of it. Conditions: none. -/
namespace Iv
open Go

structure Loc where
  blk : Option Nat
  cap : Nat

abbrev Mu := Nat → Option Loc

def mu0 : Mu := fun _ => none

mutual
def VRel (M : Nat → Prop) (w : World) (μ : Mu) : D → Value → Prop
  | .un, _ => True
  | .bool b, v => v = .bool b
  | .int k n, v => v = .int k n
  | .str s, v => v = .string ⟨s.toArray⟩
  | .agg cs, v => ∃ vs, v = .agg vs ∧ VRels M w μ cs vs.toList
  | .tup cs, v => ∃ vs, v = .tuple vs ∧ VRels M w μ cs vs.toList
  | .nils, v => v = .slice none 0 0
  | .sl ex len cs, v => ∃ a cap, v = .slice a len cap ∧ len ≤ cap ∧ (ex = true → cap = len) ∧
      (len = 0 ∨ ∃ b o, a = some ⟨b, o, none⟩ ∧ ¬ M b ∧ b < w.heap.size ∧ CRel M w b o cs)
  | .ms nm off sz len cap, v => ∃ loc b, μ nm = some loc ∧ loc.blk = some b ∧ v = .slice (some ⟨b, off, none⟩) len cap ∧ len ≤ cap ∧ off + cap * sz ≤ loc.cap
  | .gs nm off sz len, v => ∃ loc cap, μ nm = some loc ∧ v = .slice (loc.blk.map fun b => ⟨b, off, none⟩) len cap ∧ len ≤ cap ∧ off + cap * sz = loc.cap ∧ (loc.blk = none → cap = 0)
  | .ptr nm off, v => ∃ loc b, μ nm = some loc ∧ loc.blk = some b ∧ v = .pointer (some ⟨b, off, none⟩)
  | .iptr cs off, v => ∃ b o, v = .pointer (some ⟨b, o + off, none⟩) ∧ ¬ M b ∧ b < w.heap.size ∧ CRel M w b o cs
  | .nilp, v => v = .pointer none
  | .iface t d, v => ∃ x, v = .iface t x ∧ VRel M w μ d x
  | .nilif, v => v = .nilIface
  | .fn f a b, v => ∃ va vb, v = .func f va vb ∧ VRels M w μ a va.toList ∧ VRels M w μ b vb.toList
  | .nilfn, v => v = .nilFunc
  | .nilm, v => v = .map none
  | .it nm, v => ∃ loc b, μ nm = some loc ∧ loc.blk = some b ∧ v = .pointer (some ⟨b, 0, none⟩)
def VRels (M : Nat → Prop) (w : World) (μ : Mu) : List D → List Value → Prop
  | [], vs => vs = []
  | d :: ds, vs => ∃ v r, vs = v :: r ∧ VRel M w μ d v ∧ VRels M w μ ds r
def CRel (M : Nat → Prop) (w : World) (b o : Nat) : List D → Prop
  | [] => True
  | d :: ds => (∃ v, w.cell? ⟨b, o, none⟩ = some v ∧ VRel M w mu0 d v) ∧ CRel M w b (o + 1) ds
end

structure Env where
  P : Program
  G : List (Nat × List D)

def GRel (E : Env) (M : Nat → Prop) (w : World) : Prop :=
  ∀ p ∈ E.G, ¬ M p.1 ∧ p.1 < w.heap.size ∧ CRel M w p.1 0 p.2

/-- What lies outside of the memory is as it was. -/
def Env0 (w w' : World) : Prop := w'.os = w.os ∧ w'.output = w.output

/-- The call comes to this, whatever the memory; what was there stays as it was, and the result shares nothing that 'M' shuts out. -/
def PureC (E : Env) (f : FuncId) (args : List D) (d : D) : Prop :=
  ∀ (M : Nat → Prop) (w : World) (vals : List Value), (∀ b, M b → b < w.heap.size) → GRel E M w → VRels M w mu0 args vals →
    Calls E.P f vals.toArray w fun e w' => ∃ v, e = .returned v ∧ VRel M w' mu0 d v ∧ w.heap.size ≤ w'.heap.size ∧ Env0 w w' ∧
      ∀ b, b < w.heap.size → w'.heap[b]? = w.heap[b]?

inductive AX where
  | normal
  | exit (id : Nat)
  | ret

def AS.put (x : AS) (dst : Option Nat) (d : D) : AS :=
  match dst with
  | some n => ⟨(n, d) :: x.t, x.s⟩
  | none => x

def frs (n : Nat) (s : St) (l : List D) : Option (List D) := l.mapM (fr n s)

/-- A function with a body of its own. -/
def callable (P : Program) (f : Nat) : Bool :=
  match P.funcs[f]? with
  | some fn => !(fn.name == "runtime.NumGoroutine" || fn.body.isNone)
  | none => false


def D.nms : D → List Nat
  | .ms n _ _ _ _ => [n]
  | .gs n _ _ _ => [n]
  | .ptr n _ => [n]
  | .it n => [n]
  | _ => []

mutual
/-- Does a value refer to this name? -/
def D.hasRef (m : Nat) : D → Bool
  | .agg cs => D.hasRefs m cs
  | .tup cs => D.hasRefs m cs
  | .ms n _ _ _ _ => Nat.beq n m
  | .gs n _ _ _ => Nat.beq n m
  | .ptr n _ => Nat.beq n m
  | .it n => Nat.beq n m
  | .iface _ d => D.hasRef m d
  | .fn _ a b => D.hasRefs m a || D.hasRefs m b
  | _ => false
def D.hasRefs (m : Nat) : List D → Bool
  | [] => false
  | d :: r => D.hasRef m d || D.hasRefs m r
end

def Blk.hasRef (m : Nat) : Blk → Bool
  | .fix cs => D.hasRefs m cs
  | .grow cs => D.hasRefs m cs
  | .iter _ _ => false

def sref (m : Nat) (s : St) (n : Nat) : Bool :=
  match sget s n with
  | some b => b.hasRef m
  | none => false

/-- The names that 'fr' comes to. -/
def frN : Nat → St → D → List Nat
  | 0, _, _ => []
  | n + 1, s, d => bif d.pure then [] else
    match d with
    | .agg cs => cs.flatMap (frN n s)
    | .tup cs => cs.flatMap (frN n s)
    | .iface _ d => frN n s d
    | .fn _ a b => a.flatMap (frN n s) ++ b.flatMap (frN n s)
    | .ms nm _ _ _ _ => nm :: (match sget s nm with
      | some (.fix cs) => cs.flatMap (frN n s)
      | some (.grow cs) => cs.flatMap (frN n s)
      | _ => [])
    | .gs nm _ _ _ => nm :: (match sget s nm with
      | some (.fix cs) => cs.flatMap (frN n s)
      | some (.grow cs) => cs.flatMap (frN n s)
      | _ => [])
    | .ptr nm _ => nm :: (match sget s nm with
      | some (.fix cs) => cs.flatMap (frN n s)
      | some (.grow cs) => cs.flatMap (frN n s)
      | _ => [])
    | _ => []

/-- A call. If the result may share memory with what is handed on, and that is our own, it is ours no longer: nothing writes it any more. -/
def ACall (z : Bool) (E : Env) (f : Nat) (ds : List D) (dst : Option Nat) (x : AS) (K : AS → Prop) : Prop :=
  ∃ as d, frs 20 x.s ds = some as ∧ PureC E f as d ∧
    bif z then K ((AS.purges (ds.flatMap (frN 20 x.s)) x).put dst d) else (d.flat || D.pures ds) = true ∧ K (x.put dst d)

def AOpK (E : Env) (o : AOper) (x : AS) (K : AS → Prop) : Prop :=
  match o.op with
  | .call z f args => ACall z E f (args.map (·.ev E.G x.t)) o.dst x K
  | .callv z c args => match c.ev E.G x.t with
    | .fn (.func f) fs cs => callable E.P f = true ∧ ACall z E f (fs ++ args.map (·.ev E.G x.t) ++ cs) o.dst x K
    | _ => False
  | op => match step E.G op x with
    | some (d, x') => K (x'.put o.dst d)
    | none => False

def AStepK (E : Env) (o : AOper) (x : AS) (K : AS → Prop) : Prop :=
  match o.guard with
  | none => AOpK E o x K
  | some (g, want) => match tget x.t g with
    | .bool b => if b = want then AOpK E o x K else K (x.put o.dst (.tup []))
    | .tup [] => K (x.put o.dst (.tup []))
    | _ => False

def ARun (E : Env) : List AOper → AS → (AS → Prop) → Prop
  | [], x, K => K x
  | o :: r, x, K => AStepK E o x fun x' => ARun E r x' K

def Arg.tmps : Arg → List Nat
  | .t n => [n]
  | _ => []

def argsTmps (l : List Arg) : List Nat := l.flatMap Arg.tmps
def optTmps : Option Arg → List Nat
  | some a => a.tmps
  | none => []
def partsTmps (l : List (Nat × Nat × Arg)) : List Nat := l.flatMap fun p => p.2.2.tmps

def AOp.tmps : AOp → List Nat
  | .mv x => x.tmps
  | .pick c a b => c.tmps ++ (a.tmps ++ b.tmps)
  | .new _ x => x.tmps
  | .ld _ x => x.tmps
  | .st _ x v => x.tmps ++ v.tmps
  | .fa _ x => x.tmps
  | .iaA _ _ x i => x.tmps ++ i.tmps
  | .iaS _ x i => x.tmps ++ i.tmps
  | .ixA _ _ _ x i => x.tmps ++ i.tmps
  | .ixS x i => x.tmps ++ i.tmps
  | .fld _ _ x => x.tmps
  | .ext _ x => x.tmps
  | .bin _ x y => x.tmps ++ y.tmps
  | .cmp _ _ x y => x.tmps ++ y.tmps
  | .un _ x => x.tmps
  | .bld _ l => partsTmps l
  | .bsl _ _ _ _ l => partsTmps l
  | .mks _ _ _ _ l c => l.tmps ++ c.tmps
  | .slS x l h => x.tmps ++ (optTmps l ++ optTmps h)
  | .slV _ x l h m => x.tmps ++ (optTmps l ++ (optTmps h ++ optTmps m))
  | .slA _ _ x l h m => x.tmps ++ (optTmps l ++ (optTmps h ++ optTmps m))
  | .len _ x => x.tmps
  | .cap x => x.tmps
  | .app _ _ _ x y => x.tmps ++ y.tmps
  | .copy _ x y => x.tmps ++ y.tmps
  | .cvI _ x => x.tmps
  | .cvN x => x.tmps
  | .cvB _ x => x.tmps
  | .cvS x => x.tmps
  | .mkif _ x => x.tmps
  | .mkfn _ a b => argsTmps a ++ argsTmps b
  | .nilc x => x.tmps
  | .rng _ x => x.tmps
  | .next x => x.tmps
  | .mm _ x y => x.tmps ++ y.tmps
  | .call _ _ l => argsTmps l
  | .callv _ x l => x.tmps ++ argsTmps l

def AOper.tmps (o : AOper) : List Nat := o.op.tmps ++ (match o.guard with | some (g, _) => [g] | none => [])

/-- The blocks that an operation reads or writes; those that it writes; the row that it moves. -/
def AOp.reads (G : List (Nat × List D)) (x : AS) : AOp → List Nat
  | .ld _ a => (a.ev G x.t).nms
  | .st _ a _ => (a.ev G x.t).nms
  | .new n _ => [n]
  | .bsl n _ _ _ _ => [n]
  | .mks n _ _ _ _ _ => [n]
  | .slA _ _ a _ _ _ => (a.ev G x.t).nms
  | .app n _ _ a b => n :: ((a.ev G x.t).nms ++ (b.ev G x.t).nms)
  | .copy _ a b => (a.ev G x.t).nms ++ (b.ev G x.t).nms
  | .cvB n _ => [n]
  | .cvS a => (a.ev G x.t).nms
  | .rng n _ => [n]
  | .next a => (a.ev G x.t).nms
  | .call _ _ args => (args.map (·.ev G x.t)).flatMap (frN 20 x.s)
  | .callv _ c args => match c.ev G x.t with
    | .fn _ fs cs => (fs ++ args.map (·.ev G x.t) ++ cs).flatMap (frN 20 x.s)
    | _ => []
  | _ => []
def AOp.writes (G : List (Nat × List D)) (x : AS) : AOp → List Nat
  | .st _ a _ => (a.ev G x.t).nms
  | .new n _ => [n]
  | .bsl n _ _ _ _ => [n]
  | .mks n _ _ _ _ _ => [n]
  | .app n _ _ a _ => n :: (a.ev G x.t).nms
  | .copy _ a _ => (a.ev G x.t).nms
  | .cvB n _ => [n]
  | .rng n _ => [n]
  | .next a => (a.ev G x.t).nms
  | .call true _ args => (args.map (·.ev G x.t)).flatMap (frN 20 x.s)
  | .callv true c args => match c.ev G x.t with
    | .fn _ fs cs => (fs ++ args.map (·.ev G x.t) ++ cs).flatMap (frN 20 x.s)
    | _ => []
  | _ => []
def AOp.moves (G : List (Nat × List D)) (x : AS) : AOp → List Nat
  | .app _ sz _ a b => match a.ev G x.t, sliceCells x.s sz (b.ev G x.t) with
    | .gs m _ _ _, some (_, n) => bif Nat.beq n 0 then [] else [m]
    | _, _ => []
  | .call true _ args => (args.map (·.ev G x.t)).flatMap (frN 20 x.s)
  | .callv true c args => match c.ev G x.t with
    | .fn _ fs cs => (fs ++ args.map (·.ev G x.t) ++ cs).flatMap (frN 20 x.s)
    | _ => []
  | _ => []

def disj (l m : List Nat) : Bool := l.all fun a => !(m.any (Nat.beq a))

/-- What an operation has to do with temporaries, blocks and names, when it is run. -/
structure FP where
  tm : List Nat
  rd : List Nat
  wr : List Nat
  kl : List Nat
  has : Nat → Bool
  th : Nat → Bool
  bh : Nat → Bool

def AOper.on (o : AOper) (x : AS) : Bool :=
  match o.guard with
  | none => true
  | some (g, want) => match tget x.t g with
    | .bool b => b == want
    | _ => false

def AOper.fp (G : List (Nat × List D)) (o : AOper) (x x' : AS) : FP :=
  bif o.on x then
    { tm := o.tmps, rd := o.op.reads G x, wr := o.op.writes G x, kl := o.op.moves G x,
      has := fun m => o.tmps.any (fun t => D.hasRef m (tget x.t t)) || (o.op.reads G x).any (sref m x.s) || (o.op.writes G x).any (sref m x'.s) ||
        (match o.dst with | some d => D.hasRef m (tget x'.t d) | none => false),
      th := fun t => (o.op.moves G x).any fun m => D.hasRef m (tget x.t t),
      bh := fun n => (o.op.moves G x).any fun m => sref m x.s n }
  else { tm := o.tmps, rd := [], wr := [], kl := [], has := fun m => o.tmps.any (fun t => D.hasRef m (tget x.t t)), th := fun _ => false, bh := fun _ => false }

def apart (p q : FP) : Bool :=
  disj p.wr q.rd && disj q.wr p.rd &&
  (q.tm.all (fun t => !p.th t) && q.rd.all (fun n => !p.bh n) && p.kl.all (fun m => !q.has m) && q.kl.all (fun m => !p.has m))

/-- The run of a region whose order is open: in the order of the text, with what each operation reads and writes. -/
def ARunD (E : Env) : List AOper → AS → List FP → (AS → List FP → Prop) → Prop
  | [], x, l, K => K x l.reverse
  | o :: r, x, l, K => AStepK E o x fun x' => ARunD E r x' (o.fp E.G x x' :: l) K

def indep (dr : List (Nat × Nat)) (l : List FP) : Bool :=
  dr.all fun p => match l[p.1]?, l[p.2]? with
    | some a, some b => apart a b
    | _, _ => false

def lim (live : Option (List Nat)) (x : AS) : AS :=
  match live with
  | none => x
  | some l => ⟨restrict l x.t, x.s⟩

/-- A nil slice as a row of its own that is empty. -/
def adopt (x : AS) : List (Nat × Nat × Nat) → AS
  | [] => x
  | (t, nm, sz) :: r =>
    match tget x.t t with
    | .nils => adopt (bif shas x.s nm then x else ⟨(t, .gs nm 0 sz 0) :: x.t, (nm, .grow []) :: x.s⟩) r
    | _ => adopt x r

def dropBut (ls : List Nat) : List Nat → AS → AS
  | [], x => x
  | n :: r, x => dropBut ls r (bif ls.any (Nat.beq n) then x else x.drop n)

def norm (lt ls : List Nat) (ad : List (Nat × Nat × Nat)) (x : AS) : AS :=
  let x := adopt x ad
  let x := dropBut ls (x.s.map (·.1)) ⟨restrict lt x.t, x.s⟩
  x

def thenQ (K : AS → Prop) (Q : AX → AS → Prop) : AX → AS → Prop
  | .normal, x => K x
  | e, x => Q e x

def blockQ (id : Nat) (Q : AX → AS → Prop) : AX → AS → Prop
  | .exit i, x => if i = id then Q .normal x else Q (.exit i) x
  | e, x => Q e x

def awp (E : Env) : AC → (AX → AS → Prop) → AS → Prop
  | .skip, Q, x => Q .normal x
  | .reg none kl ops live, Q, x => ARun E ops (AS.drops kl x) fun x' => Q .normal (lim live x')
  | .reg (some dr) kl ops live, Q, x => ARunD E ops (AS.drops kl x) [] fun x' l => indep dr l = true ∧ Q .normal (lim live x')
  | .seq a b, Q, x => awp E a (thenQ (awp E b Q) Q) x
  | .cond c a b, Q, x => match c.ev E.G x.t with
    | .bool r => (r = true → awp E a Q x) ∧ (r = false → awp E b Q x)
    | _ => False
  | .block id a, Q, x => awp E a (blockQ id Q) x
  | .loop lt ls ad a, Q, x => ∃ (I : AS → Prop) (m : AS → Nat), I (norm lt ls ad x) ∧
      ∀ y, I y → awp E a (thenQ (fun z => I (norm lt ls ad z) ∧ m (norm lt ls ad z) < m y) Q) y
  | .exit id, Q, x => Q (.exit id) x
  | .scope a, Q, x => awp E a Q x
  | .ret, Q, x => Q .ret x

inductive RV where
  | tmp (t : Nat)
  | cell (t : Nat) (sz : Option Nat)
  deriving Inhabited

def RV.get (x : AS) : RV → Option D
  | .tmp t => some (tget x.t t)
  | .cell t sz => do let (cs, off) ← seen x.s (tget x.t t); takeAt cs off sz

structure AF where
  np : Nat
  body : AC
  res : List RV
  deriving Inhabited

def retD : List D → D
  | [d] => d
  | ds => .tup ds

def AF.result (A : AF) (x : AS) : Option D := do
  let ds ← A.res.mapM (RV.get x)
  fr 20 x.s (retD ds)

def argTm : Nat → List D → Tm
  | _, [] => []
  | n, d :: r => (n, d) :: argTm (n + 1) r

def AF.start (args : List D) : AS := ⟨argTm 0 args, []⟩

/-- The function comes to this result: what has to be shown of its abstract code. -/
def AF.gives (E : Env) (A : AF) (args : List D) (d : D) : Prop :=
  D.pures args = true ∧ args.length = A.np ∧
  awp E A.body (fun e x => (match e with | .exit _ => False | _ => True) ∧ A.result x = some d) (AF.start args)

end Iv
/- The translation of the model's code into abstract code. Conditions: none. -/
namespace Iv
open Go

/-- A constant of the model as an abstract value. -/
def ofV : Nat → Value → Option D
  | 0, _ => none
  | _ + 1, .bool b => some (.bool b)
  | _ + 1, .int k n => some (.int k n)
  | _ + 1, .string s => some (.str s.data.toList)
  | n + 1, .agg cs => (cs.toList.mapM (ofV n)).map .agg
  | n + 1, .tuple cs => (cs.toList.mapM (ofV n)).map .tup
  | _ + 1, .slice none 0 0 => some .nils
  | _ + 1, .pointer none => some .nilp
  | _ + 1, .map none => some .nilm
  | _ + 1, .nilIface => some .nilif
  | _ + 1, .nilFunc => some .nilfn
  | n + 1, .iface t v => (ofV n v).map (.iface t)
  | _ + 1, _ => none

def cArg : Operand → Option Arg
  | .tmp t => some (.t t)
  | .const v => (ofV 10 v).map .c
  | .global g => some (.g g)
  | .func f => some (.f f)

def cArgs (l : Array Operand) : Option (List Arg) := l.toList.mapM cArg

def cArgO : Option Operand → Option (Option Arg)
  | none => some none
  | some x => (cArg x).map some

def isAggT (P : Program) (t : TypeId) : Option Bool := (P.underlying t).map fun
  | .struct _ => true
  | .array _ _ => true
  | _ => false

/-- How many cells a load takes together; none: one cell. -/
def cSz (P : Program) (t : TypeId) : Option (Option Nat) := do
  let i ← P.info? t
  let a ← isAggT P t
  some (bif a then some i.size else none)

def szOf (P : Program) (t : TypeId) : Option Nat := (P.info? t).map (·.size)

def zeroOf (P : Program) (t : TypeId) : Option D := do
  let i ← P.info? t
  let v ← i.zero
  ofV 10 v

def aggCells : D → Option (List D)
  | .agg cs => some cs
  | _ => none

def repAt (len size : Nat) (z : List D) : List D := bif Nat.beq (len * size) 0 then [] else rep len z

/-- How the values of a type are compared. -/
def eT (P : Program) : Nat → TypeId → Option ET
  | 0, _ => none
  | n + 1, t =>
    match P.underlying t with
    | some .bool => some .bool
    | some (.int _) => some .int
    | some .string => some .str
    | some (.struct fs) =>
      bif P.stoodInHeld t then none else
      (List.mapM (fun (f : Field) => do
        let s ← cSz P f.type
        let e ← eT P n f.type
        some (f.offset, s, e)) (fs.toList.filter (fun f => f.name != "_"))).map .parts
    | some (.array len el) => do
      let s ← cSz P el
      let k ← szOf P el
      let e ← eT P n el
      some (.parts ((List.range len).map fun i => (i * k, s, e)))
    | _ => none

def isConstO : Operand → Bool
  | .const _ => true
  | _ => false

def cmpK (P : Program) (t : TypeId) (x y : Operand) : Option EK :=
  match P.underlying t with
  | some .bool => some (.ty .bool)
  | some (.struct _) => bif P.eqGuardType P.depth t then none else (eT P 20 t).map .ty
  | some (.array _ _) => bif P.eqGuardType P.depth t then none else (eT P 20 t).map .ty
  | some (.slice _) => some .slc
  | some (.pointer _) => some .ptr
  | some (.interface _) => some (.ifc (isConstO x || isConstO y))
  | some (.func _ _ _) => some .fnc
  | _ => none

def isNumT (P : Program) (t : TypeId) : Bool :=
  match P.underlying t with
  | some (.int _) => true
  | some .string => true
  | _ => false

def cOp (P : Program) (nm : Nat) (o : Oper) : Option AOp :=
  match o.op with
  | .move x => do some (.mv (← cArg x))
  | .assign x => do some (.mv (← cArg x))
  | .pick c a b => do some (.pick (← cArg c) (← cArg a) (← cArg b))
  | .alloc t => do some (.new nm (.c (← zeroOf P t)))
  | .box _ x => do some (.new nm (← cArg x))
  | .build t ps => do
    let cells ← aggCells (← zeroOf P t)
    match P.underlying t with
    | some (.struct fs) =>
      let l ← ps.toList.mapM fun (p : Nat × Operand) => do
        let f ← fs[p.1]?
        let s ← szOf P f.type
        let a ← cArg p.2
        some (f.offset, s, a)
      bif fs.all fun f => (P.info? f.type).isSome then some (.bld cells l) else none
    | some (.array _ e) =>
      let s ← szOf P e
      let l ← ps.toList.mapM fun (p : Nat × Operand) => do
        let a ← cArg p.2
        some (p.1 * s, s, a)
      some (.bld cells l)
    | _ => none
  | .buildSlice t len ps =>
    match P.underlying t with
    | some (.slice e) => do
      let s ← szOf P e
      let z ← zeroOf P e
      let l ← ps.toList.mapM fun (p : Nat × Operand) => do
        let a ← cArg p.2
        some (p.1 * s, s, a)
      let zc ← z.cells?
      bif Nat.ble (len * s) 16777216 && Nat.beq zc.length s then some (.bsl nm len s (repAt len s zc) l) else none
    | _ => none
  | .load t x => do some (.ld (← cSz P t) (← cArg x))
  | .store t x v => do some (.st (← szOf P t) (← cArg x) (← cArg v))
  | .nilCheck x => do some (.nilc (← cArg x))
  | .binOp op t x y _ =>
    bif isNumT P t then do some (.bin op (← cArg x) (← cArg y)) else
    match op with
    | .eql => do some (.cmp false (← cmpK P t x y) (← cArg x) (← cArg y))
    | .neq => do some (.cmp true (← cmpK P t x y) (← cArg x) (← cArg y))
    | _ => none
  | .unOp op _ x => do some (.un op (← cArg x))
  | .convert s d x =>
    match P.underlying s, P.underlying d with
    | some (.int _), some (.int k) => do some (.cvI k (← cArg x))
    | some (.int _), some .string => do some (.cvN (← cArg x))
    | some .string, some .string => do some (.cvN (← cArg x))
    | some .string, some (.slice e) =>
      match P.underlying e with
      | some (.int .u8) => bif P.cellsOf e == 1 then do some (.cvB nm (← cArg x)) else none
      | _ => none
    | some (.slice e), some .string =>
      match P.underlying e with
      | some (.int .u8) => do some (.cvS (← cArg x))
      | _ => none
    | _, _ => none
  | .makeInterface t x =>
    match P.underlying t with
    | some (.interface _) => none
    | some _ => do some (.mkif t (← cArg x))
    | none => none
  | .makeFunc f a b => do some (.mkfn f (← cArgs a) (← cArgs b))
  | .makeSlice t l c =>
    match P.underlying t with
    | some (.slice e) => do
      let i ← P.info? e
      let z ← zeroOf P e
      let zc ← z.cells?
      bif Nat.beq zc.length i.size then some (.mks nm i.size i.bytes zc (← cArg l) (← cArg c)) else none
    | _ => none
  | .slice t x l h m =>
    match P.underlying t with
    | some .string => match m with
      | none => do some (.slS (← cArg x) (← cArgO l) (← cArgO h))
      | some _ => none
    | some (.slice e) => do
      let s ← szOf P e
      match h, m with
      | none, some _ => none
      | _, _ => some (.slV s (← cArg x) (← cArgO l) (← cArgO h) (← cArgO m))
    | some (.array n e) => do
      let s ← szOf P e
      match h, m with
      | none, some _ => none
      | _, _ => some (.slA n s (← cArg x) (← cArgO l) (← cArgO h) (← cArgO m))
    | _ => none
  | .fieldAddr t x f =>
    match P.underlying t with
    | some (.struct fs) => do
      let f ← fs[f]?
      let s ← szOf P f.type
      bif Nat.beq s 0 then none else some (.fa f.offset (← cArg x))
    | _ => none
  | .field t x f =>
    match P.underlying t with
    | some (.struct fs) => do
      let f ← fs[f]?
      some (.fld f.offset (← cSz P f.type) (← cArg x))
    | _ => none
  | .indexAddr t x i =>
    match P.underlying t with
    | some (.array n e) => do some (.iaA n (← szOf P e) (← cArg x) (← cArg i))
    | some (.slice e) => do some (.iaS (← szOf P e) (← cArg x) (← cArg i))
    | _ => none
  | .index t x i =>
    match P.underlying t with
    | some (.array n e) => do some (.ixA n (← szOf P e) (← isAggT P e) (← cArg x) (← cArg i))
    | some .string => do some (.ixS (← cArg x) (← cArg i))
    | _ => none
  | .range t x =>
    match P.underlying t with
    | some .string => do some (.rng nm (← cArg x))
    | _ => none
  | .next x s => bif s then do some (.next (← cArg x)) else none
  | .extract x i => do some (.ext i (← cArg x))
  | .call c =>
    match c.callee with
    | .value (.func f) => do
      let fn ← P.funcs[f]?
      bif fn.name == "runtime.NumGoroutine" || fn.body.isNone then none else some (.call false f (← cArgs c.args))
    | .value x => do some (.callv false (← cArg x) (← cArgs c.args))
    | .invoke _ _ => none
    | .builtin b =>
      match b, c.args.toList, c.argTypes.toList with
      | .len, [x], [t] =>
        match P.underlying t with
        | some .string => do some (.len true (← cArg x))
        | some (.slice _) => do some (.len false (← cArg x))
        | some (.array n _) => some (.mv (.c (.int .i64 n)))
        | _ => none
      | .cap, [x], [t] =>
        match P.underlying t with
        | some (.slice _) => do some (.cap (← cArg x))
        | _ => none
      | .append, [x, y], [t, u] =>
        match P.underlying t, P.underlying u with
        | some (.slice e), some (.slice e') => do
          let i ← P.info? e
          let j ← P.info? e'
          let z ← i.zero
          bif Nat.beq i.size j.size && !Nat.beq i.size 0 && Nat.beq z.cells.size i.size then some (.app nm i.size i.bytes (← cArg x) (← cArg y)) else none
        | some (.slice e), some .string => do
          let i ← P.info? e
          let z ← i.zero
          bif Nat.beq i.size 1 && Nat.beq z.cells.size 1 then some (.app nm i.size i.bytes (← cArg x) (← cArg y)) else none
        | _, _ => none
      | .copy, [x, y], [t, u] =>
        match P.underlying t, P.underlying u with
        | some (.slice e), some (.slice e') => do
          let i ← P.info? e
          let j ← P.info? e'
          bif Nat.beq i.size j.size then some (.copy i.size (← cArg x) (← cArg y)) else none
        | some (.slice e), some .string => do
          let i ← P.info? e
          bif Nat.beq i.size 1 then some (.copy 1 (← cArg x) (← cArg y)) else none
        | _, _ => none
      | .min, [x, y], _ => do some (.mm false (← cArg x) (← cArg y))
      | .max, [x, y], _ => do some (.mm true (← cArg x) (← cArg y))
      | _, _, _ => none
  | _ => none

def cGuard (ops : Array Oper) : Option (Nat × Bool) → Option (Option (Nat × Bool))
  | none => some none
  | some (j, b) => do
    let o ← ops[j]?
    let d ← o.dst
    some (some (d, b))

def nameAt (base id i : Nat) : Nat := base + 1000 * id + i

def cOper (P : Program) (N base id : Nat) (ops : Array Oper) (i : Nat) (o : Oper) : Option AOper := do
  let op ← cOp P (nameAt base id i) o
  let g ← cGuard ops o.guard
  bif (match o.dst with | some d => Nat.blt d N | none => true) then some { dst := o.dst, op := op, guard := g } else none

def cOpers (P : Program) (N base id : Nat) (ops : Array Oper) : Nat → List Oper → Option (List AOper)
  | _, [] => some []
  | i, o :: r => do
    let a ← cOper P N base id ops i o
    let l ← cOpers P N base id ops (i + 1) r
    some (a :: l)

def AOp.news : AOp → List Nat
  | .new n _ => [n]
  | .bsl n _ _ _ _ => [n]
  | .mks n _ _ _ _ _ => [n]
  | .app n _ _ _ _ => [n]
  | .cvB n _ => [n]
  | .rng n _ => [n]
  | _ => []

def newsOf (l : List AOper) : List Nat := l.flatMap fun o => o.op.news

/-- Does the operation read or write blocks of our own, or may it? -/
def AOp.mem : AOp → Bool
  | .ld .. => true
  | .st .. => true
  | .new .. => true
  | .bsl .. => true
  | .mks .. => true
  | .app .. => true
  | .copy .. => true
  | .slA .. => true
  | .cvB .. => true
  | .cvS .. => true
  | .rng .. => true
  | .next .. => true
  | .call .. => true
  | .callv .. => true
  | _ => false
def AOp.wr : AOp → Bool
  | .st .. => true
  | .new .. => true
  | .bsl .. => true
  | .mks .. => true
  | .app .. => true
  | .copy .. => true
  | .cvB .. => true
  | .rng .. => true
  | .next .. => true
  | .call .. => true
  | .callv .. => true
  | _ => false

def AOp.isApp : AOp → Bool
  | .app .. => true
  | .call .. => true
  | .callv .. => true
  | _ => false

def unmixed (a b : AOper) : Bool :=
  (match a.dst with | some d => !(b.tmps.any (Nat.beq d)) && (match b.dst with | some e => !Nat.beq d e | none => true) | none => true) &&
  (match b.dst with | some d => !(a.tmps.any (Nat.beq d)) | none => true)

/-- Which operations each one has behind it, as bits. -/
def ancs : List Oper → List Nat → List Nat
  | [], acc => acc
  | o :: r, acc =>
    let m := o.after.toList.foldl (fun s e => bif Region.binds .any e then s ||| 2 ^ e.on ||| acc.getD e.on 0 else s) 0
    ancs r (acc ++ [m])

/-- Pairs that are not ordered, the first one first in the text. -/
def openPairs (anc : List Nat) : List (Nat × Nat) :=
  (List.range anc.length).flatMap fun j => (List.range j).filterMap fun i => bif (anc.getD j 0).testBit i then none else some (i, j)

def conflicts (a b : AOper) : Bool := (a.op.wr && b.op.mem) || (b.op.wr && a.op.mem) || a.op.isApp || b.op.isApp

/-- The pairs that have to be looked at when the region is run; none: two that are not ordered share a temporary. -/
def drawPairs (ops : List Oper) (as : List AOper) : Option (List (Nat × Nat)) :=
  let pairs := openPairs (ancs ops [])
  bif (ops.zipIdx.all fun p => p.1.after.toList.all fun e => !Region.binds .any e || Nat.blt e.on p.2) &&
      pairs.all (fun p => unmixed (as.getD p.1 default) (as.getD p.2 default))
  then some (pairs.filter fun p => conflicts (as.getD p.1 default) (as.getD p.2 default)) else none

def comp (P : Program) (N base : Nat) : Code → Option AC
  | .skip => some .skip
  | .label _ => some .skip
  | .region id ops draw => do
    let l ← cOpers P N base id ops 0 ops.toList
    bif draw then do
      let dr ← drawPairs ops.toList l
      some (.reg (some dr) (newsOf l) l none)
    else some (.reg none (newsOf l) l none)
  | .seq a b => do some (.seq (← comp P N base a) (← comp P N base b))
  | .cond c a b => do some (.cond (← cArg c) (← comp P N base a) (← comp P N base b))
  | .block id a => do some (.block id (← comp P N base a))
  | .loop a => do some (.loop [] [] [] (← comp P N base a))
  | .exit id => some (.exit id)
  | .scope a => do some (.scope (← comp P N base a))
  | .ret => some .ret
  | _ => none

def compRes (P : Program) : ResultVar → Option RV
  | .tmp t => some (.tmp t)
  | .cell a t => do some (.cell a (← cSz P t))

def compF (P : Program) (base : Nat) (fn : Func) : Option AF := do
  let c ← fn.body
  let b ← comp P fn.ntmps base c
  let r ← fn.results.toList.mapM (compRes P)
  bif Nat.beq fn.nfree 0 then some { np := fn.params.size, body := b, res := r } else some { np := fn.params.size + fn.nfree, body := b, res := r }

/-- The code without what was put in for the proofs. -/
def AC.bare : AC → AC
  | .skip => .skip
  | .reg dr kl ops _ => .reg dr kl (ops.map AOper.bare) none
  | .seq a b => .seq a.bare b.bare
  | .cond c a b => .cond c a.bare b.bare
  | .block id a => .block id a.bare
  | .loop _ _ _ a => .loop [] [] [] a.bare
  | .exit id => .exit id
  | .scope a => .scope a.bare
  | .ret => .ret

def AF.bare (A : AF) : AF := { A with body := A.body.bare }

end Iv
