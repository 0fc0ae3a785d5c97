/- Values, stores, operations and code of the abstract interpreter: what each operation computes on data. Conditions: none. -/
import Derived.Orders
import Derived.Scope
import Derived.KernelRfl
import Derived.Laws.Entries
import Derived.Laws.Cells
set_option linter.unusedVariables false
namespace Zv
open Go
inductive D where
 | un
 | bool (b:Bool)
 | int (k:IntKind) (n:Int)
 | str (s:List UInt8)
 | agg (cs:List D)
 | tup (cs:List D)
 | nils
 | sl (ex:Bool) (len:Nat) (cells:List D)
 | ms (nm off sz len cap:Nat)
 | gs (nm off sz len:Nat)
 | ptr (nm off:Nat)
 | iptr (cells:List D) (off:Nat)
 | nilp
 | iface (t:Nat) (d:D)
 | nilif
 | fn (f:Fn) (fs cs:List D)
 | nilfn
 | nilm
 | mp (nm:Nat)
 | yl (nm:Nat)
 | it (nm:Nat)
 | adr (b off:Nat)
 deriving Inhabited
inductive ET where
 | int
 | bool
 | str
 | parts (l:List (Nat × Option Nat × ET))
 deriving Inhabited
inductive EK where
 | ty (t:ET)
 | slc
 | mpk
 | ptr
 | ifc (c:Bool)
 | fnc
 deriving Inhabited
inductive Arg where
 | t (n:Nat)
 | c (d:D)
 | g (n:Nat)
 | f (n:Nat)
 deriving Inhabited
inductive XL where
 | idb
 | ctb
 | idn
 | upt
 | ufp (u n:Nat)
 | sda
 | peq (neg:Bool)
 | mml (mx:Bool)
 deriving Inhabited
inductive XA where
 | apz (sz bytes:Nat) (z:List D)
 | ust (ty:Nat)
 | mnz (ty:Nat)
 deriving Inhabited
inductive AOp where
 | mv (x:Arg)
 | pick (c a b:Arg)
 | new (ty:Nat) (x:Arg)
 | ld (sz:Option Nat) (x:Arg)
 | st (n:Nat) (x v:Arg)
 | fa (off:Nat) (x:Arg)
 | iaA (n sz:Nat) (x i:Arg)
 | iaS (sz:Nat) (x i:Arg)
 | ixA (n sz:Nat) (ag:Bool) (x i:Arg)
 | ixS (x i:Arg)
 | fld (off:Nat) (sz:Option Nat) (x:Arg)
 | ext (i:Nat) (x:Arg)
 | bin (op:BinOp) (x y:Arg)
 | cmp (neg:Bool) (k:EK) (x y:Arg)
 | un (op:UnOp) (x:Arg)
 | bld (cells:List D) (parts:List (Nat × Nat × Arg))
 | bsl (len sz:Nat) (cells:List D) (parts:List (Nat × Nat × Arg))
 | mks (sz bytes:Nat) (zero:List D) (l c:Arg)
 | slS (x:Arg) (l h:Option Arg)
 | slV (sz:Nat) (x:Arg) (l h m:Option Arg)
 | slA (n sz:Nat) (x:Arg) (l h m:Option Arg)
 | len (st:Bool) (x:Arg)
 | cap (x:Arg)
 | app (sz bytes ty:Nat) (x y:Arg)
 | copy (sz:Nat) (x y:Arg)
 | cvI (k:IntKind) (x:Arg)
 | cvN (x:Arg)
 | cvB (x:Arg)
 | cvS (x:Arg)
 | mkif (t:Nat) (x:Arg)
 | mkfn (f:Fn) (fs cs:List Arg)
 | nilc (x:Arg)
 | rng (x:Arg)
 | next (x:Arg)
 | mm (mx:Bool) (x y:Arg)
 | mkm
 | mlk (z:D) (ok:Bool) (k:ET) (x i:Arg)
 | mup (k:ET) (x i v:Arg)
 | men (z:D) (k:ET) (x i:Arg)
 | mst (x i v:Arg)
 | mln (x:Arg)
 | rgm (x:Arg)
 | nxm (x:Arg)
 | ent (x:Arg)
 | tas (t:Nat) (z:D) (ok:Bool) (x:Arg)
 | tai (l:List Nat) (ok:Bool) (x:Arg)
 | call (f:Nat) (args:List Arg)
 | callv (x:Arg) (args:List Arg)
 | inv (name:String) (x:Arg) (args:List Arg)
 | pan (x:Arg)
 | dfr (x:Arg) (args:List Arg)
 | rcv
 | xl (k:XL) (l:List Arg)
 | xa (k:XA) (l:List Arg)
 deriving Inhabited
structure AOper where
 dst:Option Nat
 op:AOp
 guard:Option (Nat × Bool)
 deriving Inhabited
inductive AC where
 | skip
 | reg (dr:Option (List (Nat × Nat))) (ops:List AOper)
 | seq (a b:AC)
 | cond (c:Arg) (a b:AC)
 | block (id:Nat) (a:AC)
 | loop (a:AC)
 | exit (id:Nat)
 | scope (a:AC)
 | ret
 | rfn (f:Arg) (ps:List Nat) (a b:AC)
 | lab (n:Nat) (r a:AC)
 deriving Inhabited
inductive Tr (α:Type) where
 | ls (l:List (Nat × α))
 | nd (a b:Tr α)
 deriving Inhabited
noncomputable section
def lget_nil {α:Type} (_:Nat):Option α:=none
def lget_cons {α:Type} (p:Nat × α) (_:List (Nat × α)) (ih:Nat→Option α) (n:Nat):Option α:=Bool.rec (ih n) (some p.2) (Nat.beq n p.1)
def lget {α:Type} (l:List (Nat × α)) (n:Nat):Option α:=List.rec (motive:=fun _=>Nat→Option α) lget_nil lget_cons l n
def lset_nil {α:Type} (n:Nat) (v:α):List (Nat × α):=[(n,v)]
def lset_cons {α:Type} (p:Nat × α) (r:List (Nat × α)) (ih:Nat→α→List (Nat × α)) (n:Nat) (v:α):List (Nat × α):=Bool.rec (p::ih n v) ((n,v)::r) (Nat.beq n p.1)
def lset {α:Type} (l:List (Nat × α)) (n:Nat) (v:α):List (Nat × α):=List.rec (motive:=fun _=>Nat→α→List (Nat × α)) lset_nil lset_cons l n v
def ldel {α:Type}:List (Nat × α)→Nat→List (Nat × α)
 | [],_=>[]
 | (k,v)::r,n=>bif Nat.beq n k then ldel r n else (k,v)::ldel r n
def trget_ls {α:Type} (l:List (Nat × α)) (n:Nat):Option α:=lget l n
def trget_nd {α:Type} (_ _:Tr α) (iha ihb:Nat→Option α) (n:Nat):Option α:=Nat.rec (iha (n / 2)) (fun _ _=>ihb (n / 2)) (n % 2)
def Tr.get {α:Type} (t:Tr α) (n:Nat):Option α:=Tr.rec (motive:=fun _=>Nat→Option α) trget_ls trget_nd t n
def trset_ls {α:Type} (l:List (Nat × α)) (n:Nat) (v:α):Tr α := .ls (lset l n v)
def trset_nd {α:Type} (a b:Tr α) (iha ihb:Nat→α→Tr α) (n:Nat) (v:α):Tr α:=Nat.rec (.nd (iha (n / 2) v) b) (fun _ _ => .nd a (ihb (n / 2) v)) (n % 2)
def Tr.set {α:Type} (t:Tr α) (n:Nat) (v:α):Tr α:=Tr.rec (motive:=fun _=>Nat→α→Tr α) trset_ls trset_nd t n v
def tradd_ls {α:Type} (l:List (Nat × α)) (n:Nat) (v:α):Tr α := .ls ((n,v)::l)
def Tr.add {α:Type} (t:Tr α) (n:Nat) (v:α):Tr α:=Tr.rec (motive:=fun _=>Nat→α→Tr α) tradd_ls trset_nd t n v
def trdel_ls {α:Type} (l:List (Nat × α)) (n:Nat):Tr α := .ls (ldel l n)
def trdel_nd {α:Type} (a b:Tr α) (iha ihb:Nat→Tr α) (n:Nat):Tr α:=Nat.rec (.nd (iha (n / 2)) b) (fun _ _ => .nd a (ihb (n / 2))) (n % 2)
def Tr.del {α:Type} (t:Tr α) (n:Nat):Tr α:=Tr.rec (motive:=fun _=>Nat→Tr α) trdel_ls trdel_nd t n
def Tr.mk {α:Type}:Nat→Tr α
 | 0 => .ls []
 | n+1 => .nd (Tr.mk n) (Tr.mk n)
inductive Blk where
 | fix (ty:Nat) (cells:List D)
 | grow (ty:Nat) (cells:List D)
 | iter (s:List UInt8) (pos:Nat)
 | mp (es:List (D × D × Nat)) (clock:Nat)
 | mit (m:Option Nat) (since:Nat) (seen:List Nat) (stepped:Nat)
 | lp (st:LoopState) (pend:Option (Option Nat)) (t:Tr D) (ps:List Nat) (a b:AC)
 | dfd
 deriving Inhabited
abbrev Tm:=Tr D
abbrev St:=Tr Blk
structure AS where
 t:Tm
 s:St
 c:Nat
 d:List (D × List D)
 r:Option Nat
def undD:Option D→D:=Option.rec .un (fun d=>d)
def tget (t:Tm) (n:Nat):D:=undD (t.get n)
def sget (s:St) (n:Nat):Option Blk:=s.get n
def sset (s:St) (n:Nat) (b:Blk):St:=s.set n b
def sadd (s:St) (n:Nat) (b:Blk):St:=s.add n b
def sdel (s:St) (n:Nat):St:=s.del n
def tput (t:Tm) (n:Nat) (d:D):Tm:=t.set n d
mutual
def D.pure:D→Bool
 | .agg cs=>D.pures cs
 | .tup cs=>D.pures cs
 | .ms .. => false
 | .gs .. => false
 | .ptr .. => false
 | .it .. => false
 | .mp .. => false
 | .yl .. => false
 | .iface _ d=>D.pure d
 | .fn _ a b=>D.pures a&&D.pures b
 | _=>true
def D.pures:List D→Bool
 | []=>true
 | d::r=>D.pure d&&D.pures r
end
mutual
def D.flat:D→Bool
 | .agg cs=>D.flats cs
 | .tup cs=>D.flats cs
 | .bool _=>true
 | .int _ _=>true
 | .str _=>true
 | .un=>true
 | .nils=>true
 | .nilp=>true
 | .nilif=>true
 | .nilfn=>true
 | .nilm=>true
 | .iface _ d=>D.flat d
 | _=>false
def D.flats:List D→Bool
 | []=>true
 | d::r=>D.flat d&&D.flats r
end
def fr:Nat→St→D→Option D
 | 0,_,d=>bif d.pure then some d else none
 | n+1,s,d=>bif d.pure then some d else
  match d with
  | .agg cs=>(cs.mapM (fr n s)).map .agg
  | .tup cs=>(cs.mapM (fr n s)).map .tup
  | .iface t d=>(fr n s d).map (.iface t)
  | .fn f a b=>do let a ←a.mapM (fr n s); let b ←b.mapM (fr n s); some (.fn f a b)
  | .ms nm off sz len cap=>
   match sget s nm with
   | some (.fix _ cs)=>bif Nat.ble (off+len*sz) cs.length then (((cs.drop off).take (len*sz)).mapM (fr n s)).map (.sl (Nat.beq cap len) len) else none
   | some (.grow _ cs)=>bif Nat.ble (off+len*sz) cs.length then (((cs.drop off).take (len*sz)).mapM (fr n s)).map (.sl (Nat.beq cap len) len) else none
   | _=>none
  | .gs nm off sz len=>
   match sget s nm with
   | some (.grow _ cs)=>bif Nat.ble (off+len*sz) cs.length then (((cs.drop off).take (len*sz)).mapM (fr n s)).map (.sl false len) else none
   | _=>none
  | .ptr nm off=>
   match sget s nm with
   | some (.fix _ cs)=>(cs.mapM (fr n s)).map fun cs => .iptr cs off
   | _=>none
  | _=>none
def loK:IntKind→Nat
 | .i8=>128
 | .i16=>32768
 | .i32=>2147483648
 | .i64=>9223372036854775808
 | _=>0
def hiK:IntKind→Nat
 | .i8=>127
 | .i16=>32767
 | .i32=>2147483647
 | .i64=>9223372036854775807
 | .u8=>255
 | .u16=>65535
 | .u32=>4294967295
 | .u64=>18446744073709551615
def fitsD (k:IntKind) (n:Int):Bool:=
 match n with
 | .ofNat m=>Nat.ble m (hiK k)
 | .negSucc m=>Nat.ble (m+1) (loK k)
def wrapD (k:IntKind) (n:Int):Int:=bif fitsD k n then n else k.wrap n
def bitsD (op:BinOp) (k:IntKind) (x y:Int):Option D:=
 let a:=BitVec.ofInt k.bits x
 let b:=BitVec.ofInt k.bits y
 match op with
 | .and=>some (.int k (k.wrap (a&&&b).toNat))
 | .or=>some (.int k (k.wrap (a ||| b).toNat))
 | .xor=>some (.int k (k.wrap (a ^^^ b).toNat))
 | .andNot=>some (.int k (k.wrap (a &&& ~~~b).toNat))
 | _=>none
def strD (op:BinOp) (x y:List UInt8):Option D:=
 match op with
 | .add=>bif Nat.ble (x.length+y.length) 9223372036854775807 then some (.str (x++y)) else none
 | .eql=>some (.bool (x==y))
 | .neq=>some (.bool (!(x==y)))
 | .lss=>some (.bool (Op.bytesLess x y))
 | .leq=>some (.bool (Op.bytesLess x y||x==y))
 | .gtr=>some (.bool (!(Op.bytesLess x y||x==y)))
 | .geq=>some (.bool (!(Op.bytesLess x y)))
 | _=>none
def intD (op:BinOp) (k:IntKind) (x y:Int):Option D:=
 match op with
 | .add=>some (.int k (wrapD k (x+y)))
 | .sub=>some (.int k (wrapD k (x-y)))
 | .mul=>some (.int k (wrapD k (x*y)))
 | .quo=>if y=0 then none else some (.int k (wrapD k (x.tdiv y)))
 | .rem=>if y=0 then none else some (.int k (x.tmod y))
 | .eql=>some (.bool (x==y))
 | .neq=>some (.bool (x != y))
 | .lss=>some (.bool (decide (x<y)))
 | .leq=>some (.bool (decide (x≤y)))
 | .gtr=>some (.bool (decide (x>y)))
 | .geq=>some (.bool (decide (x≥y)))
 | op=>bitsD op k x y
def shD (op:BinOp) (k:IntKind) (x y:Int):Option D:=
 if y<0 then none else
 let n:=min y.toNat k.bits
 match op with
 | .shl=>some (.int k (wrapD k (x*2 ^ n)))
 | .shr=>some (.int k (x.fdiv (2 ^ n)))
 | _=>none
def binD (op:BinOp) (a b:D):Option D:=
 match a,b with
 | .int k x,.int j y=>
  match op with
  | .shl=>shD .shl k x y
  | .shr=>shD .shr k x y
  | op=>if k=j then intD op k x y else none
 | .str x,.str y=>strD op x y
 | _,_=>none
def unD (op:UnOp) (a:D):Option D:=
 match op,a with
 | .neg,.int k n=>some (.int k (wrapD k (0-n)))
 | .xor,.int k n=>bitsD .xor k (if k.signed then -1 else k.max) n
 | .not,.bool b=>some (.bool (!b))
 | _,_=>none
def ev_t (n:Nat) (_:List (Nat × List D)) (t:Tm):D:=tget t n
def ev_c (d:D) (_:List (Nat × List D)) (_:Tm):D:=d
def ev_g (n:Nat) (G:List (Nat × List D)) (_:Tm):D:=Option.rec .un (fun l => .iptr l 0) (lget G n)
def ev_f (n:Nat) (_:List (Nat × List D)) (_:Tm):D := .fn (.func n) [] []
def Arg.ev (G:List (Nat × List D)) (t:Tm) (a:Arg):D:=Arg.rec (motive:=fun _=>List (Nat × List D)→Tm→D) ev_t ev_c ev_g ev_f a G t
def D.cells?:D→Option (List D)
 | .un=>none
 | .agg cs=>some cs
 | d=>some [d]
def takeAt (cs:List D) (off:Nat):Option Nat→Option D
 | none=>cs[off]?
 | some n=>bif Nat.ble (off+n) cs.length then some (.agg ((cs.drop off).take n)) else none
def blkCells:Blk→Option (List D)
 | .fix _ cs=>some cs
 | .grow _ cs=>some cs
 | _=>none
mutual
def eqT:ET→D→D→Option Bool
 | .int,.int k a,.int j b=>if k=j then some (a==b) else none
 | .bool,.bool a,.bool b=>some (a==b)
 | .str,.str a,.str b=>some (a==b)
 | .parts l,.agg xs,.agg ys=>eqTs l xs ys
 | _,_,_=>none
def eqTs:List (Nat × Option Nat × ET)→List D→List D→Option Bool
 | [],_,_=>some true
 | (off,sz,t)::r,xs,ys=>
  match takeAt xs off sz,takeAt ys off sz with
  | some a,some b=>match eqT t a b with
   | some e=>bif e then eqTs r xs ys else some false
   | none=>none
  | _,_=>none
end
def cmpD:EK→D→D→Option Bool
 | .ty t,a,b=>eqT t a b
 | .mpk,.nilm,.nilm=>some true
 | .mpk,.nilm,.mp _=>some false
 | .mpk,.mp _,.nilm=>some false
 | .slc,.nils,.nils=>some true
 | .slc,.nils,.sl _ (_+1) _=>some false
 | .slc,.sl _ (_+1) _,.nils=>some false
 | .slc,.nils,.ms _ _ _ _ _=>some false
 | .slc,.ms _ _ _ _ _,.nils=>some false
 | .slc,.nils,.gs _ _ _ (_+1)=>some false
 | .slc,.gs _ _ _ (_+1),.nils=>some false
 | .ptr,.nilp,.nilp=>some true
 | .ptr,.nilp,.ptr _ _=>some false
 | .ptr,.ptr _ _,.nilp=>some false
 | .ptr,.nilp,.iptr _ _=>some false
 | .ptr,.iptr _ _,.nilp=>some false
 | .ifc c,.nilif,.nilif=>bif c then some true else none
 | .ifc _,.nilif,.iface _ _=>some false
 | .ifc _,.iface _ _,.nilif=>some false
 | .fnc,.nilfn,.nilfn=>some true
 | .fnc,.nilfn,.fn _ _ _=>some false
 | .fnc,.fn _ _ _,.nilfn=>some false
 | _,_,_=>none
def seen (s:St):D→Option (List D × Nat)
 | .ptr nm off=>do let b ←sget s nm; let cs ←blkCells b; some (cs,off)
 | .iptr cs off=>some (cs,off)
 | _=>none
def setAt {α:Type}:List α→Nat→List α→List α
 | cs,_,[]=>cs
 | cs,off,v::vs=>setAt (cs.set off v) (off+1) vs
def isAg:D→Bool
 | .un=>true
 | .agg _=>true
 | .tup _=>true
 | _=>false
def stB (b:Blk) (off:Nat) (vs:List D):Option Blk:=
 bif vs.any isAg then none else
 match b with
 | .fix ty cs=>bif Nat.ble (off+vs.length) cs.length then some (.fix ty (setAt cs off vs)) else none
 | .grow ty cs=>bif Nat.ble (off+vs.length) cs.length then some (.grow ty (setAt cs off vs)) else none
 | _=>none
def place (cells:List D):List (Nat × Nat × D)→Option (List D)
 | []=>some cells
 | (off,n,d)::r=>
  match d.cells? with
  | some cs=>bif Nat.beq cs.length n&&Nat.ble (off+n) cells.length then place (setAt cells off cs) r else none
  | none=>none
def idxD (n:Nat):D→Option Nat
 | .int _ i=>if 0≤i∧i<n then some i.toNat else none
 | _=>none
def bndD (n:Nat):D→Option Nat
 | .int _ i=>if 0≤i∧i≤n then some i.toNat else none
 | _=>none
def bndO (n dflt:Nat):Option D→Option Nat
 | none=>some dflt
 | some d=>bndD n d
def bytesOf (s:List UInt8):List D:=s.map fun b => .int .u8 b.toNat
def byteOfD:D→Option UInt8
 | .int .u8 n=>some (UInt8.ofNat n.toNat)
 | _=>none
def sliceCells (s:St) (sz:Nat):D→Option (List D × Nat)
 | .nils=>some ([],0)
 | .str b=>bif Nat.beq sz 1 then some (bytesOf b,b.length) else none
 | .sl _ len cs=>bif Nat.ble (len*sz) cs.length then some (cs.take (len*sz),len) else none
 | .ms nm off z len _=>do
  let b ←sget s nm; let cs ←blkCells b
  bif Nat.beq z sz&&Nat.ble (off+len*sz) cs.length then some ((cs.drop off).take (len*sz),len) else none
 | .gs nm off z len=>do
  let b ←sget s nm; let cs ←blkCells b
  bif Nat.beq z sz&&Nat.ble (off+len*sz) cs.length then some ((cs.drop off).take (len*sz),len) else none
 | _=>none
def lenD (st:Bool) (d:D):Option Nat:=
 match st,d with
 | true,.str b=>some b.length
 | false,.nils=>some 0
 | false,.sl _ n _=>some n
 | false,.ms _ _ _ n _=>some n
 | false,.gs _ _ _ n=>some n
 | _,_=>none
def AS.add (x:AS) (b:Blk):AS:={ x with s:=sadd x.s x.c b,c:=x.c+1 }
def room (n bytes:Nat):Bool:=Nat.ble n 4294967296&&Nat.ble bytes 4096
def appD (x:AS) (sz bytes ty:Nat) (a b:D):Option (D × AS):=do
 let (ys,n) ←sliceCells x.s sz b
 match a with
 | .nils=>
  bif Nat.beq n 0 then some (.nils,x) else
  bif room n bytes then some (.gs x.c 0 sz n,x.add (.grow ty ys)) else none
 | .sl ex len cs=>
  bif Nat.beq n 0 then some (.sl ex len cs,x) else
  bif ex&&room (len+n) bytes&&Nat.ble (len*sz) cs.length then some (.gs x.c 0 sz (len+n),x.add (.grow ty (cs.take (len*sz)++ys))) else none
 | .ms m off z len c=>
  match sget x.s m with
  | some (.fix t0 cs)=>
   bif Nat.beq z sz then
    bif Nat.ble (len+n) c then (stB (.fix t0 cs) (off+len*sz) ys).map fun b=>(.ms m off z (len+n) c,{ x with s:=sset x.s m b })
    else bif room (len+n) bytes&&Nat.ble (off+len*sz) cs.length then some (.gs x.c 0 sz (len+n),x.add (.grow ty ((cs.drop off).take (len*sz)++ys))) else none
   else none
  | _=>none
 | .gs m off z len=>
  match sget x.s m with
  | some (.grow t0 cs)=>
   bif Nat.beq n 0 then some (.gs m off z len,x) else
   bif Nat.beq z sz && !(ys.any isAg) then
    bif Nat.ble (off+(len+n)*sz) cs.length then (stB (.grow t0 cs) (off+len*sz) ys).map fun b=>(.gs m off sz (len+n),{ x with s:=sset x.s m b })
    else bif Nat.beq off 0&&Nat.ble (len*sz) cs.length&&room (len+n) bytes then
     some (.gs x.c 0 sz (len+n),{ x with s:=sadd (sdel x.s m) x.c (.grow (bif Nat.beq t0 ty then ty else 0) (cs.take (len*sz)++ys)),c:=x.c+1 })
    else none
   else none
  | _=>none
 | _=>none
def rep (n:Nat) (z:List D):List D:=(List.replicate n z).flatten
def decodeD (s:List UInt8) (pos:Nat):Nat × Nat:=Utf8.decode ⟨s.toArray⟩ pos
def parts (G:List (Nat × List D)) (t:Tm) (l:List (Nat × Nat × Arg)):List (Nat × Nat × D):=l.map fun p=>(p.1,p.2.1,p.2.2.ev G t)
def aggD (d:D):List D:=[d]
def keqs:List D→List D→Option Bool
 | [],[]=>some true
 | .int k a::xs,.int j b::ys=>if k=j then (match keqs xs ys with
  | some r=>some (a==b&&r)
  | none=>none) else none
 | _,_=>none
def keyEq (k:ET) (a b:D):Option Bool:=
 match k with
 | .parts l=>match a,b with
  | .agg xs,.agg ys=>bif Nat.beq xs.length l.length then keqs xs ys else none
  | _,_=>none
 | k=>eqT k a b
def keyOk (k:ET) (a:D):Bool:=
 match k with
 | .parts _=>match keyEq k a a with
  | some _=>true
  | none=>false
 | _=>true
def mfind (k:ET) (i:D):List (D × D × Nat)→Nat→Option (Option (Nat × D))
 | [],_=>bif keyOk k i then some none else none
 | (key,v,_)::r,n=>
  match keyEq k i key with
  | some true=>some (some (n,v))
  | some false=>mfind k i r (n+1)
  | none=>none
def mset:List (D × D × Nat)→Nat→D→List (D × D × Nat)
 | [],_,_=>[]
 | (k,_,b)::r,0,v=>(k,v,b)::r
 | e::r,n+1,v=>e::mset r n v
def mborn:List (D × D × Nat)→Nat→Nat
 | [],_=>0
 | (_,_,b)::_,0=>b
 | _::r,n+1=>mborn r n
def mstamp:List (D × D × Nat)→Int→Option Nat
 | [],_=>none
 | (_,_,b)::r,n=>bif (b:Int)==n then some 0 else (mstamp r n).map (· + 1)
def st_mv (a:Arg) (G:List (Nat × List D)) (x:AS):Option (D × AS):=some (a.ev G x.t,x)
def st_pick (c:Arg) (a:Arg) (b:Arg) (G:List (Nat × List D)) (x:AS):Option (D × AS):=match c.ev G x.t with
  | .bool r=>some (bif r then a.ev G x.t else b.ev G x.t,x)
  | _=>none
def st_new (ty:Nat) (a:Arg) (G:List (Nat × List D)) (x:AS):Option (D × AS):=match (a.ev G x.t).cells? with
  | some cs=>some (.ptr x.c 0,x.add (.fix ty cs))
  | none=>none
def st_ld (sz:Option Nat) (a:Arg) (G:List (Nat × List D)) (x:AS):Option (D × AS):=do let (cs,off) ←seen x.s (a.ev G x.t); let d ←takeAt cs off sz; some (d,x)
def st_st (n:Nat) (a:Arg) (v:Arg) (G:List (Nat × List D)) (x:AS):Option (D × AS):=match a.ev G x.t with
  | .ptr nm off=>do
   let b ←sget x.s nm
   let vs ← (v.ev G x.t).cells?
   bif Nat.beq vs.length n then (stB b off vs).map fun b=>(.un,{ x with s:=sset x.s nm b }) else none
  | _=>none
def st_fa (o:Nat) (a:Arg) (G:List (Nat × List D)) (x:AS):Option (D × AS):=match a.ev G x.t with
  | .ptr nm off=>some (.ptr nm (off+o),x)
  | .iptr cs off=>some (.iptr cs (off+o),x)
  | _=>none
def st_iaA (n:Nat) (sz:Nat) (a:Arg) (i:Arg) (G:List (Nat × List D)) (x:AS):Option (D × AS):=do
  let k ←idxD n (i.ev G x.t)
  match a.ev G x.t with
  | .ptr nm off=>some (.ptr nm (off+k*sz),x)
  | .iptr cs off=>some (.iptr cs (off+k*sz),x)
  | _=>none
def st_iaS (sz:Nat) (a:Arg) (i:Arg) (G:List (Nat × List D)) (x:AS):Option (D × AS):=match a.ev G x.t with
  | .sl _ len cs=>do let k ←idxD len (i.ev G x.t); some (.iptr cs (k*sz),x)
  | .ms nm off z len _=>do let k ←idxD len (i.ev G x.t); bif Nat.beq z sz then some (.ptr nm (off+k*sz),x) else none
  | .gs nm off z len=>do let k ←idxD len (i.ev G x.t); bif Nat.beq z sz then some (.ptr nm (off+k*sz),x) else none
  | _=>none
def st_ixA (n:Nat) (sz:Nat) (ag:Bool) (a:Arg) (i:Arg) (G:List (Nat × List D)) (x:AS):Option (D × AS):=match a.ev G x.t with
  | .agg cs=>do let k ←idxD n (i.ev G x.t); let d ←takeAt cs (k*sz) (bif ag then some sz else none); some (d,x)
  | _=>none
def st_ixS (a:Arg) (i:Arg) (G:List (Nat × List D)) (x:AS):Option (D × AS):=match a.ev G x.t with
  | .str s=>do let k ←idxD s.length (i.ev G x.t); let b ←s[k]?; some (.int .u8 b.toNat,x)
  | _=>none
def st_fld (off:Nat) (sz:Option Nat) (a:Arg) (G:List (Nat × List D)) (x:AS):Option (D × AS):=match a.ev G x.t with
  | .agg cs=>do let d ←takeAt cs off sz; some (d,x)
  | _=>none
def st_ext (i:Nat) (a:Arg) (G:List (Nat × List D)) (x:AS):Option (D × AS):=match a.ev G x.t with
  | .tup cs=>do let d ←cs[i]?; some (d,x)
  | _=>none
def st_bin (op:BinOp) (a:Arg) (b:Arg) (G:List (Nat × List D)) (x:AS):Option (D × AS):=(binD op (a.ev G x.t) (b.ev G x.t)).map fun d=>(d,x)
def st_cmp (neg:Bool) (k:EK) (a:Arg) (b:Arg) (G:List (Nat × List D)) (x:AS):Option (D × AS):=(cmpD k (a.ev G x.t) (b.ev G x.t)).map fun r=>(.bool (bif neg then !r else r),x)
def st_un (op:UnOp) (a:Arg) (G:List (Nat × List D)) (x:AS):Option (D × AS):=(unD op (a.ev G x.t)).map fun d=>(d,x)
def st_bld (cells:List D) (ps:List (Nat × Nat × Arg)) (G:List (Nat × List D)) (x:AS):Option (D × AS):=(place cells (parts G x.t ps)).map fun cs=>(.agg cs,x)
def st_bsl (len:Nat) (sz:Nat) (cells:List D) (ps:List (Nat × Nat × Arg)) (G:List (Nat × List D)) (x:AS):Option (D × AS):=do
  let cs ←place cells (parts G x.t ps)
  some (.ms x.c 0 sz len len,x.add (.fix 0 cs))
def st_mks (sz:Nat) (bytes:Nat) (zero:List D) (l:Arg) (c:Arg) (G:List (Nat × List D)) (x:AS):Option (D × AS):=match l.ev G x.t,c.ev G x.t with
  | .int _ l,.int _ c=>
   if 0≤l∧l≤c∧bytes*c≤1099511627776∧c≤4294967296 then
    some (.ms x.c 0 sz l.toNat c.toNat,x.add (.fix 0 (rep c.toNat zero)))
   else none
  | _,_=>none
def st_slS (a:Arg) (l:Option Arg) (h:Option Arg) (G:List (Nat × List D)) (x:AS):Option (D × AS):=match a.ev G x.t with
  | .str s=>do
   let h ←bndO s.length s.length (h.map (·.ev G x.t))
   let l ←bndO h 0 (l.map (·.ev G x.t))
   some (.str ((s.take h).drop l),x)
  | _=>none
def st_slV (sz:Nat) (a:Arg) (l:Option Arg) (h:Option Arg) (m:Option Arg) (G:List (Nat × List D)) (x:AS):Option (D × AS):=match a.ev G x.t with
  | .nils=>do
   let m ←bndO 0 0 (m.map (·.ev G x.t))
   let h ←bndO m 0 (h.map (·.ev G x.t))
   let _ ←bndO h 0 (l.map (·.ev G x.t))
   some (.nils,x)
  | .sl ex len cs=>do
   let m' ←bndO len len (m.map (·.ev G x.t))
   let h' ←bndO m' len (h.map (·.ev G x.t))
   let l' ←bndO h' 0 (l.map (·.ev G x.t))
   bif Nat.ble (h'*sz) cs.length then
    some (.sl ((m.isSome&&Nat.beq m' h')||(m.isNone&&ex&&Nat.beq h' len)) (h'-l') ((cs.drop (l'*sz)).take ((h'-l')*sz)),x)
   else none
  | .ms nm off z len c=>do
   let m ←bndO c c (m.map (·.ev G x.t))
   let h ←bndO m len (h.map (·.ev G x.t))
   let l ←bndO h 0 (l.map (·.ev G x.t))
   bif Nat.beq z sz then some (.ms nm (bif Nat.beq m l then off else off+l*sz) z (h-l) (m-l),x) else none
  | .gs nm off z len=>match m with
   | none=>do
    let h ←bndO len len (h.map (·.ev G x.t))
    let l ←bndO h 0 (l.map (·.ev G x.t))
    bif Nat.beq z sz then
     (bif Nat.beq l 0 then some (.gs nm off z h,x) else bif Nat.blt l h then some (.gs nm (off+l*sz) z (h-l),x) else some (.sl false 0 [],x))
    else none
   | some m=>do
    let m ←bndD len (m.ev G x.t)
    let h ←bndO m len (h.map (·.ev G x.t))
    let l ←bndO h 0 (l.map (·.ev G x.t))
    bif Nat.beq z sz&&Nat.blt 0 len then some (.ms nm (bif Nat.beq m l then off else off+l*sz) z (h-l) (m-l),x) else none
  | _=>none
def st_slA (n:Nat) (sz:Nat) (a:Arg) (l:Option Arg) (h:Option Arg) (m:Option Arg) (G:List (Nat × List D)) (x:AS):Option (D × AS):=do
  let m ←bndO n n (m.map (·.ev G x.t))
  let h ←bndO m n (h.map (·.ev G x.t))
  let l ←bndO h 0 (l.map (·.ev G x.t))
  match a.ev G x.t with
  | .ptr nm off=>do
   let b ←sget x.s nm
   let cs ←blkCells b
   bif Nat.ble (off+m*sz) cs.length then some (.ms nm (bif Nat.beq m l then off else off+l*sz) sz (h-l) (m-l),x) else none
  | .iptr cs off=>bif Nat.ble (off+h*sz) cs.length then some (.sl (Nat.beq m h) (h-l) ((cs.drop (off+l*sz)).take ((h-l)*sz)),x) else none
  | _=>none
def st_len (st:Bool) (a:Arg) (G:List (Nat × List D)) (x:AS):Option (D × AS):=match lenD st (a.ev G x.t) with
  | some n=>some (.int .i64 n,x)
  | none=>none
def st_cap (a:Arg) (G:List (Nat × List D)) (x:AS):Option (D × AS):=match a.ev G x.t with
  | .nils=>some (.int .i64 0,x)
  | .ms _ _ _ _ c=>some (.int .i64 c,x)
  | .sl true n _=>some (.int .i64 n,x)
  | _=>none
def st_app (sz:Nat) (bytes:Nat) (ty:Nat) (a:Arg) (b:Arg) (G:List (Nat × List D)) (x:AS):Option (D × AS):=appD x sz bytes ty (a.ev G x.t) (b.ev G x.t)
def st_copy (sz:Nat) (a:Arg) (b:Arg) (G:List (Nat × List D)) (x:AS):Option (D × AS):=do
  let (ys,n) ←sliceCells x.s sz (b.ev G x.t)
  match a.ev G x.t with
  | .nils=>some (.int .i64 0,x)
  | .ms nm off z len _=>do
   let b ←sget x.s nm
   bif Nat.beq z sz then (stB b off (ys.take (min n len*sz))).map fun b=>(.int .i64 (min n len:Nat),{ x with s:=sset x.s nm b }) else none
  | .gs nm off z len=>do
   let b ←sget x.s nm
   bif Nat.beq z sz then (stB b off (ys.take (min n len*sz))).map fun b=>(.int .i64 (min n len:Nat),{ x with s:=sset x.s nm b }) else none
  | _=>none
def st_cvI (k:IntKind) (a:Arg) (G:List (Nat × List D)) (x:AS):Option (D × AS):=match a.ev G x.t with
  | .int _ n=>some (.int k (wrapD k n),x)
  | _=>none
def st_cvN (a:Arg) (G:List (Nat × List D)) (x:AS):Option (D × AS):=match a.ev G x.t with
  | .int _ n=>some (.str (Utf8.encode n).data.toList,x)
  | .str s=>some (.str s,x)
  | _=>none
def st_cvB (a:Arg) (G:List (Nat × List D)) (x:AS):Option (D × AS):=match a.ev G x.t with
  | .str s=>some (.gs x.c 0 1 s.length,x.add (.grow 0 (bytesOf s)))
  | _=>none
def st_cvS (a:Arg) (G:List (Nat × List D)) (x:AS):Option (D × AS):=match a.ev G x.t with
  | .str _=>none
  | d=>do
   let (cs,_) ←sliceCells x.s 1 d
   let bs ←cs.mapM byteOfD
   some (.str bs,x)
def st_mkif (t:Nat) (a:Arg) (G:List (Nat × List D)) (x:AS):Option (D × AS):=some (.iface t (a.ev G x.t),x)
def st_mkfn (f:Fn) (fs:List Arg) (cs:List Arg) (G:List (Nat × List D)) (x:AS):Option (D × AS):=some (.fn f (fs.map (·.ev G x.t)) (cs.map (·.ev G x.t)),x)
def st_nilc (a:Arg) (G:List (Nat × List D)) (x:AS):Option (D × AS):=match a.ev G x.t with
  | .ptr nm off=>some (.ptr nm off,x)
  | .iptr cs off=>some (.iptr cs off,x)
  | .fn (.func f) a b=>some (.fn (.func f) a b,x)
  | _=>none
def st_rng (a:Arg) (G:List (Nat × List D)) (x:AS):Option (D × AS):=match a.ev G x.t with
  | .str s=>some (.it x.c,x.add (.iter s 0))
  | _=>none
def st_next (a:Arg) (G:List (Nat × List D)) (x:AS):Option (D × AS):=match a.ev G x.t with
  | .it nm=>match sget x.s nm with
   | some (.iter s pos)=>
    bif Nat.blt pos s.length then
     some (.tup [.bool true,.int .i64 pos,.int .i32 (decodeD s pos).1],{ x with s:=sset x.s nm (.iter s (pos+(decodeD s pos).2)) })
    else some (.tup [.bool false],x)
   | _=>none
  | _=>none
def st_mm (mx:Bool) (a:Arg) (b:Arg) (G:List (Nat × List D)) (x:AS):Option (D × AS):=match a.ev G x.t,b.ev G x.t with
  | .int k n,.int _ m=>some (.int k (bif mx then (if m>n then m else n) else (if m<n then m else n)),x)
  | _,_=>none
def st_mkm  (G:List (Nat × List D)) (x:AS):Option (D × AS):=some (.mp x.c,x.add (.mp [] 0))
def st_mlk (z:D) (ok:Bool) (k:ET) (a:Arg) (i:Arg) (G:List (Nat × List D)) (x:AS):Option (D × AS):=match a.ev G x.t with
  | .nilm=>match mfind k (i.ev G x.t) [] 0 with
   | some _=>some (bif ok then .tup (aggD z++[.bool false]) else z,x)
   | none=>none
  | .mp nm=>match sget x.s nm with
   | some (.mp es _)=>match mfind k (i.ev G x.t) es 0 with
    | some (some (_,v))=>some (bif ok then .tup (aggD v++[.bool true]) else v,x)
    | some none=>some (bif ok then .tup (aggD z++[.bool false]) else z,x)
    | none=>none
   | _=>none
  | _=>none
def st_mup (k:ET) (a:Arg) (i:Arg) (v:Arg) (G:List (Nat × List D)) (x:AS):Option (D × AS):=match a.ev G x.t with
  | .mp nm=>match sget x.s nm with
   | some (.mp es c)=>match mfind k (i.ev G x.t) es 0 with
    | some (some (j,_))=>some (.un,{ x with s:=sset x.s nm (.mp (mset es j (v.ev G x.t)) c) })
    | some none=>some (.un,{ x with s:=sset x.s nm (.mp (es++[(i.ev G x.t,v.ev G x.t,c)]) (c+1)) })
    | none=>none
   | _=>none
  | _=>none
def st_men (z:D) (k:ET) (a:Arg) (i:Arg) (G:List (Nat × List D)) (x:AS):Option (D × AS):=match a.ev G x.t with
  | .mp nm=>match sget x.s nm with
   | some (.mp es c)=>match mfind k (i.ev G x.t) es 0 with
    | some (some (j,v))=>some (.tup (aggD v++[.int .i64 (mborn es j)]),x)
    | some none=>some (.tup (aggD z++[.int .i64 c]),{ x with s:=sset x.s nm (.mp (es++[(i.ev G x.t,z,c)]) (c+1)) })
    | none=>none
   | _=>none
  | _=>none
def st_mst (a:Arg) (i:Arg) (v:Arg) (G:List (Nat × List D)) (x:AS):Option (D × AS):=match a.ev G x.t,i.ev G x.t with
  | .mp nm,.int _ n=>match sget x.s nm with
   | some (.mp es c)=>match mstamp es n with
    | some j=>some (.un,{ x with s:=sset x.s nm (.mp (mset es j (v.ev G x.t)) c) })
    | none=>none
   | _=>none
  | _,_=>none
def st_mln (a:Arg) (G:List (Nat × List D)) (x:AS):Option (D × AS):=match a.ev G x.t with
  | .nilm=>some (.int .i64 0,x)
  | .mp nm=>match sget x.s nm with
   | some (.mp es _)=>some (.int .i64 es.length,x)
   | _=>none
  | _=>none
def st_rgm (a:Arg) (G:List (Nat × List D)) (x:AS):Option (D × AS):=match a.ev G x.t with
  | .nilm=>some (.it x.c,x.add (.mit none 0 [] 0))
  | .mp nm=>match sget x.s nm with
   | some (.mp _ c)=>some (.it x.c,x.add (.mit (some nm) c [] c))
   | _=>none
  | _=>none
def st_nxm (a:Arg) (G:List (Nat × List D)) (x:AS):Option (D × AS):=match a.ev G x.t with
  | .it nm=>match sget x.s nm with
   | some (.mit none _ _ _)=>some (.tup [.bool false],x)
   | some (.mit (some m) since seen last)=>match sget x.s m with
    | some (.mp es c)=>bif seen.isEmpty||es.isEmpty||es.any (fun e=>Nat.blt e.2.2 last) then
      match es.filter (fun e => !seen.any (Nat.beq e.2.2)) with
      | []=>some (.tup [.bool false],x)
      | [(k,v,b)]=>bif Nat.blt b since then some (.tup [.bool true,k,v],{ x with s:=sset x.s nm (.mit (some m) since (seen++[b]) c) }) else none
      | _=>none
     else none
    | _=>none
   | _=>none
  | _=>none
def st_ent (a:Arg) (G:List (Nat × List D)) (x:AS):Option (D × AS):=match a.ev G x.t with
  | .it nm=>match sget x.s nm with
   | some (.mit (some m) _ seen last)=>match sget x.s m,seen.getLast? with
    | some (.mp es c),some b=>bif Nat.beq c last then match es.filter (fun e=>Nat.beq e.2.2 b) with
      | (k,v,_)::_=>some (.tup [k,v],x)
      | []=>none
     else none
    | _,_=>none
   | _=>none
  | _=>none
def st_tas (t:Nat) (z:D) (ok:Bool) (a:Arg) (G:List (Nat × List D)) (x:AS):Option (D × AS):=match a.ev G x.t with
  | .nilif=>bif ok then some (.tup (aggD z++[.bool false]),x) else none
  | .iface u d=>bif Nat.beq u t then some (bif ok then .tup (aggD d++[.bool true]) else d,x) else bif ok then some (.tup (aggD z++[.bool false]),x) else none
  | _=>none
def st_tai (l:List Nat) (ok:Bool) (a:Arg) (G:List (Nat × List D)) (x:AS):Option (D × AS):=match a.ev G x.t with
  | .nilif=>bif ok then some (.tup [.nilif,.bool false],x) else none
  | .iface u d=>bif l.any (Nat.beq u) then some (bif ok then .tup [.iface u d,.bool true] else .iface u d,x) else bif ok then some (.tup [.nilif,.bool false],x) else none
  | _=>none
def idxB (c:UInt8):List UInt8→Int
 | [] => -1
 | b::r=>bif b==c then 0 else (match idxB c r with
  | .ofNat n => .ofNat (n+1)
  | _ => -1)
def mmAll (mx:Bool) (k:IntKind):Int→List D→Option D
 | n,[]=>some (.int k n)
 | n,.int _ m::r=>mmAll mx k (bif mx then (if m>n then m else n) else (if m<n then m else n)) r
 | _,_=>none
def byteX:D→Option UInt8
 | .int .u8 (.ofNat n)=>bif Nat.blt n 256 then some (UInt8.ofNat n) else none
 | _=>none
def peqD (a b:D):Option Bool:=
 match a,b with
 | .ptr a i,.ptr b j=>bif Nat.beq a b&&Nat.beq i j then some true else none
 | a,b=>cmpD .ptr a b
def xlook (k:XL) (l:List D) (s:St):Option D:=
 match k,l with
 | .idb,[.str s,.int .u8 c]=>some (.int .i64 (idxB c.toNat.toUInt8 s))
 | .ctb,[.str s,.int .u8 c]=>some (.int .i64 (s.count c.toNat.toUInt8))
 | .idn,[d]=>some d
 | .upt,[.ptr nm off]=>match sget s nm with
  | some (.fix _ cs)=>bif Nat.blt off cs.length then some (.ptr nm off) else none
  | _=>none
 | .ufp u n,[.ptr nm 0]=>match sget s nm with
  | some (.fix ty cs)=>bif Nat.beq ty (u+1)&&Nat.beq cs.length n then some (.ptr nm 0) else none
  | _=>none
 | .sda,[.nils]=>some .nilp
 | .sda,[.gs nm off _ (_+1)]=>some (.ptr nm off)
 | .sda,[.ms nm off _ _ (_+1)]=>some (.ptr nm off)
 | .peq neg,[a,b]=>(peqD a b).map fun r => .bool (bif neg then !r else r)
 | .mml mx,.int k n::r=>mmAll mx k n r
 | _,_=>none
def xact (k:XA) (l:List D) (s:St) (c:Nat):Option (D × St × Nat):=
 match k,l with
 | .apz sz bytes z,[.nils,.int _ (.ofNat n)]=>
  bif !Nat.beq n 0&&room n bytes then some (.gs c 0 sz n,sadd s c (.grow 0 (rep n z)),c+1) else none
 | .ust _,[.nilp,.int .i64 (.ofNat 0)]=>some (.str [],s,c)
 | .ust _,[.ptr _ _,.int .i64 (.ofNat 0)]=>some (.str [],s,c)
 | .ust ty,[.ptr nm 0,.int .i64 (.ofNat (n+1))]=>match sget s nm with
  | some (.grow t0 cs)=>bif Nat.beq t0 ty&&(Nat.ble (n+1) cs.length&&Nat.ble (n+1) 4294967296) then ((cs.take (n+1)).mapM byteX).map fun bs=>(.str bs,sdel s nm,c) else none
  | _=>none
 | .mnz ty,[.int .i64 (.ofNat n)]=>bif Nat.ble n 4294967296 then some (.gs c 0 1 n,sadd s c (.grow ty []),c+1) else none
 | _,_=>none
def st_xl (k:XL) (l:List Arg) (G:List (Nat × List D)) (x:AS):Option (D × AS):=(xlook k (l.map (·.ev G x.t)) x.s).map fun d=>(d,x)
def st_xa (k:XA) (l:List Arg) (G:List (Nat × List D)) (x:AS):Option (D × AS):=(xact k (l.map (·.ev G x.t)) x.s x.c).map fun p=>(p.1,⟨x.t,p.2.1,p.2.2,x.d,x.r⟩)
def step (G:List (Nat × List D)) (o:AOp) (x:AS):Option (D × AS):=
 AOp.rec (motive:=fun _=>List (Nat × List D)→AS→Option (D × AS))
  st_mv
  st_pick
  st_new
  st_ld
  st_st
  st_fa
  st_iaA
  st_iaS
  st_ixA
  st_ixS
  st_fld
  st_ext
  st_bin
  st_cmp
  st_un
  st_bld
  st_bsl
  st_mks
  st_slS
  st_slV
  st_slA
  st_len
  st_cap
  st_app
  st_copy
  st_cvI
  st_cvN
  st_cvB
  st_cvS
  st_mkif
  st_mkfn
  st_nilc
  st_rng
  st_next
  st_mm
  st_mkm
  st_mlk
  st_mup
  st_men
  st_mst
  st_mln
  st_rgm
  st_nxm
  st_ent
  st_tas
  st_tai
  (fun _ _ _ _=>none)
  (fun _ _ _ _=>none)
  (fun _ _ _ _ _=>none)
  (fun _ _ _=>none)
  (fun _ _ _ _=>none)
  (fun _ _=>none)
  st_xl
  st_xa
  o G x
@[simp] theorem step_mv (a0:Arg) (G:List (Nat × List D)) (x:AS):step G (.mv a0) x=st_mv a0 G x:=rfl
@[simp] theorem step_pick (a0:Arg) (a1:Arg) (a2:Arg) (G:List (Nat × List D)) (x:AS):step G (.pick a0 a1 a2) x=st_pick a0 a1 a2 G x:=rfl
@[simp] theorem step_new (a0:Nat) (a1:Arg) (G:List (Nat × List D)) (x:AS):step G (.new a0 a1) x=st_new a0 a1 G x:=rfl
@[simp] theorem step_ld (a0:Option Nat) (a1:Arg) (G:List (Nat × List D)) (x:AS):step G (.ld a0 a1) x=st_ld a0 a1 G x:=rfl
@[simp] theorem step_st (a0:Nat) (a1:Arg) (a2:Arg) (G:List (Nat × List D)) (x:AS):step G (.st a0 a1 a2) x=st_st a0 a1 a2 G x:=rfl
@[simp] theorem step_fa (a0:Nat) (a1:Arg) (G:List (Nat × List D)) (x:AS):step G (.fa a0 a1) x=st_fa a0 a1 G x:=rfl
@[simp] theorem step_iaA (a0:Nat) (a1:Nat) (a2:Arg) (a3:Arg) (G:List (Nat × List D)) (x:AS):step G (.iaA a0 a1 a2 a3) x=st_iaA a0 a1 a2 a3 G x:=rfl
@[simp] theorem step_iaS (a0:Nat) (a1:Arg) (a2:Arg) (G:List (Nat × List D)) (x:AS):step G (.iaS a0 a1 a2) x=st_iaS a0 a1 a2 G x:=rfl
@[simp] theorem step_ixA (a0:Nat) (a1:Nat) (a2:Bool) (a3:Arg) (a4:Arg) (G:List (Nat × List D)) (x:AS):step G (.ixA a0 a1 a2 a3 a4) x=st_ixA a0 a1 a2 a3 a4 G x:=rfl
@[simp] theorem step_ixS (a0:Arg) (a1:Arg) (G:List (Nat × List D)) (x:AS):step G (.ixS a0 a1) x=st_ixS a0 a1 G x:=rfl
@[simp] theorem step_fld (a0:Nat) (a1:Option Nat) (a2:Arg) (G:List (Nat × List D)) (x:AS):step G (.fld a0 a1 a2) x=st_fld a0 a1 a2 G x:=rfl
@[simp] theorem step_ext (a0:Nat) (a1:Arg) (G:List (Nat × List D)) (x:AS):step G (.ext a0 a1) x=st_ext a0 a1 G x:=rfl
@[simp] theorem step_bin (a0:BinOp) (a1:Arg) (a2:Arg) (G:List (Nat × List D)) (x:AS):step G (.bin a0 a1 a2) x=st_bin a0 a1 a2 G x:=rfl
@[simp] theorem step_cmp (a0:Bool) (a1:EK) (a2:Arg) (a3:Arg) (G:List (Nat × List D)) (x:AS):step G (.cmp a0 a1 a2 a3) x=st_cmp a0 a1 a2 a3 G x:=rfl
@[simp] theorem step_un (a0:UnOp) (a1:Arg) (G:List (Nat × List D)) (x:AS):step G (.un a0 a1) x=st_un a0 a1 G x:=rfl
@[simp] theorem step_bld (a0:List D) (a1:List (Nat × Nat × Arg)) (G:List (Nat × List D)) (x:AS):step G (.bld a0 a1) x=st_bld a0 a1 G x:=rfl
@[simp] theorem step_bsl (a0:Nat) (a1:Nat) (a2:List D) (a3:List (Nat × Nat × Arg)) (G:List (Nat × List D)) (x:AS):step G (.bsl a0 a1 a2 a3) x=st_bsl a0 a1 a2 a3 G x:=rfl
@[simp] theorem step_mks (a0:Nat) (a1:Nat) (a2:List D) (a3:Arg) (a4:Arg) (G:List (Nat × List D)) (x:AS):step G (.mks a0 a1 a2 a3 a4) x=st_mks a0 a1 a2 a3 a4 G x:=rfl
@[simp] theorem step_slS (a0:Arg) (a1:Option Arg) (a2:Option Arg) (G:List (Nat × List D)) (x:AS):step G (.slS a0 a1 a2) x=st_slS a0 a1 a2 G x:=rfl
@[simp] theorem step_slV (a0:Nat) (a1:Arg) (a2:Option Arg) (a3:Option Arg) (a4:Option Arg) (G:List (Nat × List D)) (x:AS):step G (.slV a0 a1 a2 a3 a4) x=st_slV a0 a1 a2 a3 a4 G x:=rfl
@[simp] theorem step_slA (a0:Nat) (a1:Nat) (a2:Arg) (a3:Option Arg) (a4:Option Arg) (a5:Option Arg) (G:List (Nat × List D)) (x:AS):step G (.slA a0 a1 a2 a3 a4 a5) x=st_slA a0 a1 a2 a3 a4 a5 G x:=rfl
@[simp] theorem step_len (a0:Bool) (a1:Arg) (G:List (Nat × List D)) (x:AS):step G (.len a0 a1) x=st_len a0 a1 G x:=rfl
@[simp] theorem step_cap (a0:Arg) (G:List (Nat × List D)) (x:AS):step G (.cap a0) x=st_cap a0 G x:=rfl
@[simp] theorem step_app (a0:Nat) (a1:Nat) (a2:Nat) (a3:Arg) (a4:Arg) (G:List (Nat × List D)) (x:AS):step G (.app a0 a1 a2 a3 a4) x=st_app a0 a1 a2 a3 a4 G x:=rfl
@[simp] theorem step_copy (a0:Nat) (a1:Arg) (a2:Arg) (G:List (Nat × List D)) (x:AS):step G (.copy a0 a1 a2) x=st_copy a0 a1 a2 G x:=rfl
@[simp] theorem step_cvI (a0:IntKind) (a1:Arg) (G:List (Nat × List D)) (x:AS):step G (.cvI a0 a1) x=st_cvI a0 a1 G x:=rfl
@[simp] theorem step_cvN (a0:Arg) (G:List (Nat × List D)) (x:AS):step G (.cvN a0) x=st_cvN a0 G x:=rfl
@[simp] theorem step_cvB (a0:Arg) (G:List (Nat × List D)) (x:AS):step G (.cvB a0) x=st_cvB a0 G x:=rfl
@[simp] theorem step_cvS (a0:Arg) (G:List (Nat × List D)) (x:AS):step G (.cvS a0) x=st_cvS a0 G x:=rfl
@[simp] theorem step_mkif (a0:Nat) (a1:Arg) (G:List (Nat × List D)) (x:AS):step G (.mkif a0 a1) x=st_mkif a0 a1 G x:=rfl
@[simp] theorem step_mkfn (a0:Fn) (a1:List Arg) (a2:List Arg) (G:List (Nat × List D)) (x:AS):step G (.mkfn a0 a1 a2) x=st_mkfn a0 a1 a2 G x:=rfl
@[simp] theorem step_nilc (a0:Arg) (G:List (Nat × List D)) (x:AS):step G (.nilc a0) x=st_nilc a0 G x:=rfl
@[simp] theorem step_rng (a0:Arg) (G:List (Nat × List D)) (x:AS):step G (.rng a0) x=st_rng a0 G x:=rfl
@[simp] theorem step_next (a0:Arg) (G:List (Nat × List D)) (x:AS):step G (.next a0) x=st_next a0 G x:=rfl
@[simp] theorem step_mm (a0:Bool) (a1:Arg) (a2:Arg) (G:List (Nat × List D)) (x:AS):step G (.mm a0 a1 a2) x=st_mm a0 a1 a2 G x:=rfl
@[simp] theorem step_mkm  (G:List (Nat × List D)) (x:AS):step G (.mkm ) x=st_mkm  G x:=rfl
@[simp] theorem step_mlk (a0:D) (a1:Bool) (a2:ET) (a3:Arg) (a4:Arg) (G:List (Nat × List D)) (x:AS):step G (.mlk a0 a1 a2 a3 a4) x=st_mlk a0 a1 a2 a3 a4 G x:=rfl
@[simp] theorem step_mup (a0:ET) (a1:Arg) (a2:Arg) (a3:Arg) (G:List (Nat × List D)) (x:AS):step G (.mup a0 a1 a2 a3) x=st_mup a0 a1 a2 a3 G x:=rfl
@[simp] theorem step_men (a0:D) (a1:ET) (a2:Arg) (a3:Arg) (G:List (Nat × List D)) (x:AS):step G (.men a0 a1 a2 a3) x=st_men a0 a1 a2 a3 G x:=rfl
@[simp] theorem step_mst (a0:Arg) (a1:Arg) (a2:Arg) (G:List (Nat × List D)) (x:AS):step G (.mst a0 a1 a2) x=st_mst a0 a1 a2 G x:=rfl
@[simp] theorem step_mln (a0:Arg) (G:List (Nat × List D)) (x:AS):step G (.mln a0) x=st_mln a0 G x:=rfl
@[simp] theorem step_rgm (a0:Arg) (G:List (Nat × List D)) (x:AS):step G (.rgm a0) x=st_rgm a0 G x:=rfl
@[simp] theorem step_nxm (a0:Arg) (G:List (Nat × List D)) (x:AS):step G (.nxm a0) x=st_nxm a0 G x:=rfl
@[simp] theorem step_ent (a0:Arg) (G:List (Nat × List D)) (x:AS):step G (.ent a0) x=st_ent a0 G x:=rfl
@[simp] theorem step_tas (a0:Nat) (a1:D) (a2:Bool) (a3:Arg) (G:List (Nat × List D)) (x:AS):step G (.tas a0 a1 a2 a3) x=st_tas a0 a1 a2 a3 G x:=rfl
@[simp] theorem step_tai (a0:List Nat) (a1:Bool) (a2:Arg) (G:List (Nat × List D)) (x:AS):step G (.tai a0 a1 a2) x=st_tai a0 a1 a2 G x:=rfl
@[simp] theorem step_call (a0:Nat) (a1:List Arg) (G:List (Nat × List D)) (x:AS):step G (.call a0 a1) x=none:=rfl
@[simp] theorem step_callv (a0:Arg) (a1:List Arg) (G:List (Nat × List D)) (x:AS):step G (.callv a0 a1) x=none:=rfl
@[simp] theorem step_inv (a0:String) (a1:Arg) (a2:List Arg) (G:List (Nat × List D)) (x:AS):step G (.inv a0 a1 a2) x=none:=rfl
@[simp] theorem step_pan (a0:Arg) (G:List (Nat × List D)) (x:AS):step G (.pan a0) x=none:=rfl
@[simp] theorem step_dfr (a0:Arg) (a1:List Arg) (G:List (Nat × List D)) (x:AS):step G (.dfr a0 a1) x=none:=rfl
@[simp] theorem step_xl (a0:XL) (a1:List Arg) (G:List (Nat × List D)) (x:AS):step G (.xl a0 a1) x=st_xl a0 a1 G x:=rfl
@[simp] theorem step_xa (a0:XA) (a1:List Arg) (G:List (Nat × List D)) (x:AS):step G (.xa a0 a1) x=st_xa a0 a1 G x:=rfl
@[simp] theorem step_rcv  (G:List (Nat × List D)) (x:AS):step G (.rcv ) x=none:=rfl
end
theorem sts:type_of% @st_mv.eq_1∧type_of% @st_pick.eq_1∧type_of% @st_new.eq_1∧type_of% @st_ld.eq_1∧type_of% @st_st.eq_1∧type_of% @st_fa.eq_1∧type_of% @st_iaA.eq_1∧type_of% @st_iaS.eq_1∧type_of% @st_ixA.eq_1∧type_of% @st_ixS.eq_1∧type_of% @st_fld.eq_1∧type_of% @st_ext.eq_1∧type_of% @st_bin.eq_1∧type_of% @st_cmp.eq_1∧type_of% @st_un.eq_1∧type_of% @st_bld.eq_1∧type_of% @st_bsl.eq_1∧type_of% @st_mks.eq_1∧type_of% @st_slS.eq_1∧type_of% @st_slV.eq_1∧type_of% @st_slA.eq_1∧type_of% @st_len.eq_1∧type_of% @st_cap.eq_1∧type_of% @st_app.eq_1∧type_of% @st_copy.eq_1∧type_of% @st_cvI.eq_1∧type_of% @st_cvN.eq_1∧type_of% @st_cvB.eq_1∧type_of% @st_cvS.eq_1∧type_of% @st_mkif.eq_1∧type_of% @st_mkfn.eq_1∧type_of% @st_nilc.eq_1∧type_of% @st_rng.eq_1∧type_of% @st_next.eq_1∧type_of% @st_mm.eq_1∧type_of% @st_mkm.eq_1∧type_of% @st_mlk.eq_1∧type_of% @st_mup.eq_1∧type_of% @st_men.eq_1∧type_of% @st_mst.eq_1∧type_of% @st_mln.eq_1∧type_of% @st_rgm.eq_1∧type_of% @st_nxm.eq_1∧type_of% @st_ent.eq_1∧type_of% @st_tas.eq_1∧type_of% @st_tai.eq_1∧type_of% @st_xl.eq_1∧type_of% @st_xa.eq_1:=
 ⟨@st_mv.eq_1,@st_pick.eq_1,@st_new.eq_1,@st_ld.eq_1,@st_st.eq_1,@st_fa.eq_1,@st_iaA.eq_1,@st_iaS.eq_1,@st_ixA.eq_1,@st_ixS.eq_1,@st_fld.eq_1,@st_ext.eq_1,@st_bin.eq_1,@st_cmp.eq_1,@st_un.eq_1,@st_bld.eq_1,@st_bsl.eq_1,@st_mks.eq_1,@st_slS.eq_1,@st_slV.eq_1,@st_slA.eq_1,@st_len.eq_1,@st_cap.eq_1,@st_app.eq_1,@st_copy.eq_1,@st_cvI.eq_1,@st_cvN.eq_1,@st_cvB.eq_1,@st_cvS.eq_1,@st_mkif.eq_1,@st_mkfn.eq_1,@st_nilc.eq_1,@st_rng.eq_1,@st_next.eq_1,@st_mm.eq_1,@st_mkm.eq_1,@st_mlk.eq_1,@st_mup.eq_1,@st_men.eq_1,@st_mst.eq_1,@st_mln.eq_1,@st_rgm.eq_1,@st_nxm.eq_1,@st_ent.eq_1,@st_tas.eq_1,@st_tai.eq_1,@st_xl.eq_1,@st_xa.eq_1⟩
theorem stq:type_of% sts∧type_of% @step_mv∧type_of% @step_pick∧type_of% @step_new∧type_of% @step_ld∧type_of% @step_st∧type_of% @step_fa∧type_of% @step_iaA∧type_of% @step_iaS∧type_of% @step_ixA∧type_of% @step_ixS∧type_of% @step_fld∧type_of% @step_ext∧type_of% @step_bin∧type_of% @step_cmp∧type_of% @step_un∧type_of% @step_bld∧type_of% @step_bsl∧type_of% @step_mks∧type_of% @step_slS∧type_of% @step_slV∧type_of% @step_slA∧type_of% @step_len∧type_of% @step_cap∧type_of% @step_app∧type_of% @step_copy∧type_of% @step_cvI∧type_of% @step_cvN∧type_of% @step_cvB∧type_of% @step_cvS∧type_of% @step_mkif∧type_of% @step_mkfn∧type_of% @step_nilc∧type_of% @step_rng∧type_of% @step_next∧type_of% @step_mm∧type_of% @step_mkm∧type_of% @step_mlk∧type_of% @step_mup∧type_of% @step_men∧type_of% @step_mst∧type_of% @step_mln∧type_of% @step_rgm∧type_of% @step_nxm∧type_of% @step_ent∧type_of% @step_tas∧type_of% @step_tai∧type_of% @step_call∧type_of% @step_callv∧type_of% @step_inv∧type_of% @step_pan∧type_of% @step_dfr∧type_of% @step_xl∧type_of% @step_xa∧type_of% @step_rcv:=
 ⟨sts,@step_mv,@step_pick,@step_new,@step_ld,@step_st,@step_fa,@step_iaA,@step_iaS,@step_ixA,@step_ixS,@step_fld,@step_ext,@step_bin,@step_cmp,@step_un,@step_bld,@step_bsl,@step_mks,@step_slS,@step_slV,@step_slA,@step_len,@step_cap,@step_app,@step_copy,@step_cvI,@step_cvN,@step_cvB,@step_cvS,@step_mkif,@step_mkfn,@step_nilc,@step_rng,@step_next,@step_mm,@step_mkm,@step_mlk,@step_mup,@step_men,@step_mst,@step_mln,@step_rgm,@step_nxm,@step_ent,@step_tas,@step_tai,@step_call,@step_callv,@step_inv,@step_pan,@step_dfr,@step_xl,@step_xa,@step_rcv⟩
end Zv
noncomputable section
namespace Zv
open Go
structure Loc where
 blk:Option Nat
 cap:Nat
abbrev Mu:=Nat→Option Loc
def mu0:Mu:=fun _=>none
mutual
def VRel (M:Nat→Prop) (w:World) (μ:Mu):D→Value→Prop
 | .un,_=>True
 | .bool b,v=>v = .bool b
 | .int k n,v=>v = .int k n
 | .str s,v=>v = .string ⟨s.toArray⟩
 | .agg cs,v=>∃ vs,v = .agg vs∧VRels M w μ cs vs.toList
 | .tup cs,v=>∃ vs,v = .tuple vs∧VRels M w μ cs vs.toList
 | .nils,v=>v = .slice none 0 0
 | .sl ex len cs,v=>∃ a cap,v = .slice a len cap∧len≤cap∧(ex=true→cap=len) ∧
   (len=0∨∃ b o,a=some ⟨b,o,none⟩∧¬ M b∧b<w.heap.size∧CRel M w b o cs)
 | .ms nm off sz len cap,v=>∃ loc b,μ nm=some loc∧loc.blk=some b∧v = .slice (some ⟨b,off,none⟩) len cap∧len≤cap∧off+cap*sz≤loc.cap
 | .gs nm off sz len,v=>∃ loc cap,μ nm=some loc∧v = .slice (loc.blk.map fun b=>⟨b,off,none⟩) len cap∧len≤cap∧off+cap*sz=loc.cap∧(loc.blk=none→cap=0)
 | .ptr nm off,v=>∃ loc b,μ nm=some loc∧loc.blk=some b∧v = .pointer (some ⟨b,off,none⟩)
 | .iptr cs off,v=>∃ b o,v = .pointer (some ⟨b,o+off,none⟩)∧¬ M b∧b<w.heap.size∧CRel M w b o cs
 | .nilp,v=>v = .pointer none
 | .iface t d,v=>∃ x,v = .iface t x∧VRel M w μ d x
 | .nilif,v=>v = .nilIface
 | .fn f a b,v=>∃ va vb,v = .func f va vb∧VRels M w μ a va.toList∧VRels M w μ b vb.toList
 | .nilfn,v=>v = .nilFunc
 | .nilm,v=>v = .map none
 | .mp nm,v=>∃ loc b,μ nm=some loc∧loc.blk=some b∧v = .map (some b)
 | .yl nm,v=>∃ loc b,μ nm=some loc∧loc.blk=some b∧v = .func (.yield b) #[] #[]
 | .it nm,v=>∃ loc b,μ nm=some loc∧loc.blk=some b∧v = .pointer (some ⟨b,0,none⟩)
 | .adr b off,v=>v = .pointer (some ⟨b,off,none⟩)
def VRels (M:Nat→Prop) (w:World) (μ:Mu):List D→List Value→Prop
 | [],vs=>vs=[]
 | d::ds,vs=>∃ v r,vs=v::r∧VRel M w μ d v∧VRels M w μ ds r
def CRel (M:Nat→Prop) (w:World) (b o:Nat):List D→Prop
 | []=>True
 | d::ds=>(∃ v,w.cell? ⟨b,o,none⟩=some v∧VRel M w mu0 d v)∧CRel M w b (o+1) ds
end
structure Env where
 P:Program
 G:List (Nat × List D)
def GRel (E:Env) (M:Nat→Prop) (w:World):Prop:=
 ∀ p∈E.G,¬ M p.1∧p.1<w.heap.size∧CRel M w p.1 0 p.2
def Env0 (w w':World):Prop:=w'.os=w.os∧w'.output=w.output
def PureC (E:Env) (f:FuncId) (args:List D) (d:D):Prop:=
 ∀ (M:Nat→Prop) (w:World) (vals:List Value),(∀ b,M b→b<w.heap.size)→GRel E M w→VRels M w mu0 args vals →
  Calls E.P f vals.toArray w fun e w'=>∃ v,e = .returned v∧VRel M w' mu0 d v∧w.heap.size≤w'.heap.size∧Env0 w w' ∧
   ∀ b,b<w.heap.size→w'.heap[b]?=w.heap[b]?
def AS.put (x:AS) (dst:Option Nat) (d:D):AS:=
 match dst with
 | some n=>{ x with t:=tput x.t n d }
 | none=>x
def callable (P:Program) (f:Nat):Bool:=
 match P.funcs[f]? with
 | some fn => !(fn.name == "runtime.NumGoroutine" || fn.body.isNone)
 | none=>false
def Arg.tmps:Arg→List Nat
 | .t n=>[n]
 | _=>[]
def argsTmps (l:List Arg):List Nat:=l.flatMap Arg.tmps
def optTmps:Option Arg→List Nat
 | some a=>a.tmps
 | none=>[]
def partsTmps (l:List (Nat × Nat × Arg)):List Nat:=l.flatMap fun p=>p.2.2.tmps
def AOp.tmps:AOp→List Nat
 | .mv x=>x.tmps
 | .pick c a b=>c.tmps++(a.tmps++b.tmps)
 | .new _ x=>x.tmps
 | .ld _ x=>x.tmps
 | .st _ x v=>x.tmps++v.tmps
 | .fa _ x=>x.tmps
 | .iaA _ _ x i=>x.tmps++i.tmps
 | .iaS _ x i=>x.tmps++i.tmps
 | .ixA _ _ _ x i=>x.tmps++i.tmps
 | .ixS x i=>x.tmps++i.tmps
 | .fld _ _ x=>x.tmps
 | .ext _ x=>x.tmps
 | .bin _ x y=>x.tmps++y.tmps
 | .cmp _ _ x y=>x.tmps++y.tmps
 | .un _ x=>x.tmps
 | .bld _ l=>partsTmps l
 | .bsl _ _ _ l=>partsTmps l
 | .mks _ _ _ l c=>l.tmps++c.tmps
 | .slS x l h=>x.tmps++(optTmps l++optTmps h)
 | .slV _ x l h m=>x.tmps++(optTmps l++(optTmps h++optTmps m))
 | .slA _ _ x l h m=>x.tmps++(optTmps l++(optTmps h++optTmps m))
 | .len _ x=>x.tmps
 | .cap x=>x.tmps
 | .app _ _ _ x y=>x.tmps++y.tmps
 | .copy _ x y=>x.tmps++y.tmps
 | .cvI _ x=>x.tmps
 | .cvN x=>x.tmps
 | .cvB x=>x.tmps
 | .cvS x=>x.tmps
 | .mkif _ x=>x.tmps
 | .mkfn _ a b=>argsTmps a++argsTmps b
 | .nilc x=>x.tmps
 | .rng x=>x.tmps
 | .next x=>x.tmps
 | .mm _ x y=>x.tmps++y.tmps
 | .mkm=>[]
 | .mlk _ _ _ x i=>x.tmps++i.tmps
 | .mup _ x i v=>x.tmps++(i.tmps++v.tmps)
 | .men _ _ x i=>x.tmps++i.tmps
 | .mst x i v=>x.tmps++(i.tmps++v.tmps)
 | .mln x=>x.tmps
 | .rgm x=>x.tmps
 | .nxm x=>x.tmps
 | .ent x=>x.tmps
 | .tas _ _ _ x=>x.tmps
 | .tai _ _ x=>x.tmps
 | .call _ l=>argsTmps l
 | .callv x l=>x.tmps++argsTmps l
 | .inv _ x l=>x.tmps++argsTmps l
 | .pan x=>x.tmps
 | .dfr x l=>x.tmps++argsTmps l
 | .rcv=>[]
 | .xl _ l=>argsTmps l
 | .xa _ l=>argsTmps l
def AOper.tmps (o:AOper):List Nat:=o.op.tmps++(match o.guard with|some (g,_)=>[g]|none=>[])
inductive RV where
 | tmp (t:Nat)
 | cell (t:Nat) (sz:Option Nat)
 deriving Inhabited
def RV.get (x:AS):RV→Option D
 | .tmp t=>some (tget x.t t)
 | .cell t sz=>do let (cs,off) ←seen x.s (tget x.t t); takeAt cs off sz
structure AF where
 np:Nat
 body:AC
 res:List RV
 deriving Inhabited
def retD:List D→D
 | [d]=>d
 | ds => .tup ds
def argTm:Nat→List D→Tm→Tm
 | _,[],t=>t
 | n,d::r,t=>argTm (n+1) r (tput t n d)
end Zv
end
noncomputable section
namespace Zv
open Go
def ofV:Nat→Value→Option D
 | 0,_=>none
 | _+1,.bool b=>some (.bool b)
 | _+1,.int k n=>some (.int k n)
 | _+1,.string s=>some (.str s.data.toList)
 | n+1,.agg cs=>(cs.toList.mapM (ofV n)).map .agg
 | n+1,.tuple cs=>(cs.toList.mapM (ofV n)).map .tup
 | _+1,.slice none 0 0=>some .nils
 | _+1,.pointer none=>some .nilp
 | _+1,.map none=>some .nilm
 | _+1,.nilIface=>some .nilif
 | _+1,.nilFunc=>some .nilfn
 | n+1,.iface t v=>(ofV n v).map (.iface t)
 | _+1,_=>none
def cArg:Operand→Option Arg
 | .tmp t=>some (.t t)
 | .const v=>(ofV 10 v).map .c
 | .global g=>some (.g g)
 | .func f=>some (.f f)
def cArgs (l:Array Operand):Option (List Arg):=l.toList.mapM cArg
def cArgO:Option Operand→Option (Option Arg)
 | none=>some none
 | some x=>(cArg x).map some
def isAggT (P:Program) (t:TypeId):Option Bool:=(P.underlying t).map fun
 | .struct _=>true
 | .array _ _=>true
 | _=>false
def cSz (P:Program) (t:TypeId):Option (Option Nat):=do
 let i ←P.info? t
 let a ←isAggT P t
 some (bif a then some i.size else none)
def szOf (P:Program) (t:TypeId):Option Nat:=(P.info? t).map (·.size)
def zeroOf (P:Program) (t:TypeId):Option D:=do
 let i ←P.info? t
 let v ←i.zero
 ofV 10 v
def aggCells:D→Option (List D)
 | .agg cs=>some cs
 | _=>none
def repAt (len size:Nat) (z:List D):List D:=bif Nat.beq (len*size) 0 then [] else rep len z
def eT (P:Program):Nat→TypeId→Option ET
 | 0,_=>none
 | n+1,t=>
  match P.underlying t with
  | some .bool=>some .bool
  | some (.int _)=>some .int
  | some .string=>some .str
  | some (.struct fs)=>
   bif P.stoodInHeld t then none else
   (List.mapM (fun (f:Field)=>do
    let s ←cSz P f.type
    let e ←eT P n f.type
    some (f.offset,s,e)) (fs.toList.filter (fun f=>f.name != "_"))).map .parts
  | some (.array len el)=>do
   let s ←cSz P el
   let k ←szOf P el
   let e ←eT P n el
   some (.parts ((List.range len).map fun i=>(i*k,s,e)))
  | _=>none
def keyT (P:Program) (t:TypeId):Option ET:=
 match P.underlying t with
 | some .bool=>some .bool
 | some (.int _)=>some .int
 | some .string=>some .str
 | some (.array len el)=>match P.underlying el,cSz P el,szOf P el with
  | some (.int _),some none,some 1=>some (.parts ((List.range len).map fun i=>(i,none,.int)))
  | _,_,_=>none
 | _=>none
def isConstO:Operand→Bool
 | .const _=>true
 | _=>false
def cmpK (P:Program) (t:TypeId) (x y:Operand):Option EK:=
 match P.underlying t with
 | some .bool=>some (.ty .bool)
 | some (.struct _)=>bif P.eqGuardType P.depth t then none else (eT P 20 t).map .ty
 | some (.array _ _)=>bif P.eqGuardType P.depth t then none else (eT P 20 t).map .ty
 | some (.slice _)=>some .slc
 | some (.pointer _)=>some .ptr
 | some (.interface _)=>some (.ifc (isConstO x||isConstO y))
 | some (.func _ _ _)=>some .fnc
 | _=>none
def isNumT (P:Program) (t:TypeId):Bool:=
 match P.underlying t with
 | some (.int _)=>true
 | some .string=>true
 | _=>false
def cOp0 (P:Program) (o:Oper):Option AOp:=
 match o.op with
 | .move x=>do some (.mv (←cArg x))
 | .assign x=>do some (.mv (←cArg x))
 | .pick c a b=>do some (.pick (←cArg c) (←cArg a) (←cArg b))
 | .alloc t=>do some (.new (t+1) (.c (←zeroOf P t)))
 | .box t x=>do some (.new (t+1) (←cArg x))
 | .build t ps=>do
  let cells ←aggCells (←zeroOf P t)
  match P.underlying t with
  | some (.struct fs)=>
   let l ←ps.toList.mapM fun (p:Nat × Operand)=>do
    let f ←fs[p.1]?
    let s ←szOf P f.type
    let a ←cArg p.2
    some (f.offset,s,a)
   bif fs.all fun f=>(P.info? f.type).isSome then some (.bld cells l) else none
  | some (.array _ e)=>
   let s ←szOf P e
   let l ←ps.toList.mapM fun (p:Nat × Operand)=>do
    let a ←cArg p.2
    some (p.1*s,s,a)
   some (.bld cells l)
  | _=>none
 | .buildSlice t len ps=>
  match P.underlying t with
  | some (.slice e)=>do
   let s ←szOf P e
   let z ←zeroOf P e
   let l ←ps.toList.mapM fun (p:Nat × Operand)=>do
    let a ←cArg p.2
    some (p.1*s,s,a)
   let zc ←z.cells?
   bif Nat.ble (len*s) 16777216&&Nat.beq zc.length s then some (.bsl len s (repAt len s zc) l) else none
  | _=>none
 | .load t x=>do some (.ld (←cSz P t) (←cArg x))
 | .store t x v=>do some (.st (←szOf P t) (←cArg x) (←cArg v))
 | .nilCheck x=>do some (.nilc (←cArg x))
 | .binOp op t x y _=>
  bif isNumT P t then do some (.bin op (←cArg x) (←cArg y)) else
  match op with
  | .eql=>do some (.cmp false (←cmpK P t x y) (←cArg x) (←cArg y))
  | .neq=>do some (.cmp true (←cmpK P t x y) (←cArg x) (←cArg y))
  | _=>none
 | .unOp op _ x=>do some (.un op (←cArg x))
 | .convert s d x=>
  match P.underlying s,P.underlying d with
  | some (.int _),some (.int k)=>do some (.cvI k (←cArg x))
  | some (.int _),some .string=>do some (.cvN (←cArg x))
  | some .string,some .string=>do some (.cvN (←cArg x))
  | some .string,some (.slice e)=>
   match P.underlying e with
   | some (.int .u8)=>bif P.cellsOf e==1 then do some (.cvB (←cArg x)) else none
   | _=>none
  | some (.slice e),some .string=>
   match P.underlying e with
   | some (.int .u8)=>do some (.cvS (←cArg x))
   | _=>none
  | _,_=>none
 | .makeInterface t x=>
  match P.underlying t with
  | some (.interface _)=>none
  | some _=>do some (.mkif t (←cArg x))
  | none=>none
 | .makeFunc f a b=>do some (.mkfn f (←cArgs a) (←cArgs b))
 | .makeSlice t l c=>
  match P.underlying t with
  | some (.slice e)=>do
   let i ←P.info? e
   let z ←zeroOf P e
   let zc ←z.cells?
   bif Nat.beq zc.length i.size then some (.mks i.size i.bytes zc (←cArg l) (←cArg c)) else none
  | _=>none
 | .slice t x l h m=>
  match P.underlying t with
  | some .string=>match m with
   | none=>do some (.slS (←cArg x) (←cArgO l) (←cArgO h))
   | some _=>none
  | some (.slice e)=>do
   let s ←szOf P e
   match h,m with
   | none,some _=>none
   | _,_=>some (.slV s (←cArg x) (←cArgO l) (←cArgO h) (←cArgO m))
  | some (.array n e)=>do
   let s ←szOf P e
   match h,m with
   | none,some _=>none
   | _,_=>some (.slA n s (←cArg x) (←cArgO l) (←cArgO h) (←cArgO m))
  | _=>none
 | .fieldAddr t x f=>
  match P.underlying t with
  | some (.struct fs)=>do
   let f ←fs[f]?
   let s ←szOf P f.type
   bif Nat.beq s 0 then none else some (.fa f.offset (←cArg x))
  | _=>none
 | .field t x f=>
  match P.underlying t with
  | some (.struct fs)=>do
   let f ←fs[f]?
   some (.fld f.offset (←cSz P f.type) (←cArg x))
  | _=>none
 | .indexAddr t x i=>
  match P.underlying t with
  | some (.array n e)=>do some (.iaA n (←szOf P e) (←cArg x) (←cArg i))
  | some (.slice e)=>do some (.iaS (←szOf P e) (←cArg x) (←cArg i))
  | _=>none
 | .index t x i=>
  match P.underlying t with
  | some (.array n e)=>do some (.ixA n (←szOf P e) (←isAggT P e) (←cArg x) (←cArg i))
  | some .string=>do some (.ixS (←cArg x) (←cArg i))
  | _=>none
 | .range t x=>
  match P.underlying t with
  | some .string=>do some (.rng (←cArg x))
  | some (.map _ _)=>do some (.rgm (←cArg x))
  | _=>none
 | .next x s=>bif s then do some (.next (←cArg x)) else do some (.nxm (←cArg x))
 | .entry x=>do some (.ent (←cArg x))
 | .makeMap _ none=>some .mkm
 | .lookup t x i ok=>match P.underlying t with
  | some (.map k e)=>do some (.mlk (←zeroOf P e) ok (←keyT P k) (←cArg x) (←cArg i))
  | _=>none
 | .mapUpdate t x i v=>match P.underlying t with
  | some (.map k _)=>do some (.mup (←keyT P k) (←cArg x) (←cArg i) (←cArg v))
  | _=>none
 | .insert t x i v=>match P.underlying t with
  | some (.map k _)=>do some (.mup (←keyT P k) (←cArg x) (←cArg i) (←cArg v))
  | _=>none
 | .typeAssert x _ t ok=>match P.underlying t with
  | some (.interface _)=>none
  | some _=>do some (.tas t (←zeroOf P t) ok (←cArg x))
  | none=>none
 | .panic x=>do some (.pan (←cArg x))
 | .defer c=>match c.callee with
  | .value x=>do some (.dfr (←cArg x) (←cArgs c.args))
  | _=>none
 | .extract x i=>do some (.ext i (←cArg x))
 | .call c=>
  match c.callee with
  | .value (.func f)=>do
   let fn ←P.funcs[f]?
   bif fn.name == "runtime.NumGoroutine" || fn.body.isNone then none else some (.call f (←cArgs c.args))
  | .value x=>do some (.callv (←cArg x) (←cArgs c.args))
  | .invoke r m=>do some (.inv m (←cArg r) (←cArgs c.args))
  | .builtin b=>
   match b,c.args.toList,c.argTypes.toList with
   | .len,[x],[t]=>
    match P.underlying t with
    | some .string=>do some (.len true (←cArg x))
    | some (.slice _)=>do some (.len false (←cArg x))
    | some (.array n _)=>some (.mv (.c (.int .i64 n)))
    | some (.map _ _)=>do some (.mln (←cArg x))
    | _=>none
   | .cap,[x],[t]=>
    match P.underlying t with
    | some (.slice _)=>do some (.cap (←cArg x))
    | _=>none
   | .append,[x,y],[t,u]=>
    match P.underlying t,P.underlying u with
    | some (.slice e),some (.slice e')=>do
     let i ←P.info? e
     let j ←P.info? e'
     let z ←i.zero
     bif Nat.beq i.size j.size && !Nat.beq i.size 0&&Nat.beq z.cells.size i.size then some (.app i.size i.bytes (e+1) (←cArg x) (←cArg y)) else none
    | some (.slice e),some .string=>do
     let i ←P.info? e
     let z ←i.zero
     bif Nat.beq i.size 1&&Nat.beq z.cells.size 1 then some (.app i.size i.bytes (e+1) (←cArg x) (←cArg y)) else none
    | _,_=>none
   | .copy,[x,y],[t,u]=>
    match P.underlying t,P.underlying u with
    | some (.slice e),some (.slice e')=>do
     let i ←P.info? e
     let j ←P.info? e'
     bif Nat.beq i.size j.size then some (.copy i.size (←cArg x) (←cArg y)) else none
    | some (.slice e),some .string=>do
     let i ←P.info? e
     bif Nat.beq i.size 1 then some (.copy 1 (←cArg x) (←cArg y)) else none
    | _,_=>none
   | .min,[x,y],_=>do some (.mm false (←cArg x) (←cArg y))
   | .max,[x,y],_=>do some (.mm true (←cArg x) (←cArg y))
   | .recover,[],[]=>some .rcv
   | _,_,_=>none
 | _=>none
def isRow (P:Program) (f:Nat) (name:String):Bool:=
 match P.funcs[f]? with
 | some fn=>fn.body.isNone&&(fn.name==name&&((Extern.findNext fn).isNone && !(fn.name == "runtime.NumGoroutine")))
 | none=>false
def cRow (P:Program) (f:Nat) (as:Array Operand):Option AOp:=
 bif isRow P f "internal/bytealg.IndexByteString" then (cArgs as).map (.xl .idb) else none
def cExt (P:Program) (o:Oper):Option AOp:=
 match o.op with
 | .call c=>match c.callee with
  | .value (.func f)=>cRow P f c.args
  | _=>none
 | _=>none
def cOp (P:Program) (o:Oper):Option AOp:=
 match cExt P o with
 | some op=>some op
 | none=>cOp0 P o
def cGuard (ops:Array Oper):Option (Nat × Bool)→Option (Option (Nat × Bool))
 | none=>some none
 | some (j,b)=>do
  let o ←ops[j]?
  let d ←o.dst
  some (some (d,b))
def cOper (P:Program) (N:Nat) (ops:Array Oper) (o:Oper):Option AOper:=do
 let op ←cOp P o
 let g ←cGuard ops o.guard
 bif (match o.dst with|some d=>Nat.blt d N|none=>true) then some { dst:=o.dst,op:=op,guard:=g } else none
def cOpers (P:Program) (N:Nat) (ops:Array Oper):List Oper→Option (List AOper)
 | []=>some []
 | o::r=>do
  let a ←cOper P N ops o
  let l ←cOpers P N ops r
  some (a::l)
def AOp.kd:AOp→Nat
 | .new .. => 1
 | .bsl .. => 1
 | .mks .. => 1
 | .mkm=>1
 | .st .. => 2
 | .app .. => 2
 | .copy .. => 2
 | .cvB .. => 2
 | .rng .. => 2
 | .next .. => 2
 | .mup .. => 2
 | .men .. => 2
 | .mst .. => 2
 | .rgm .. => 2
 | .nxm .. => 2
 | .call .. => 2
 | .callv .. => 2
 | .inv .. => 2
 | .pan .. => 3
 | .dfr .. => 3
 | .rcv=>3
 | .xa .. => 2
 | _=>0
def ancs:List Oper→List Nat→List Nat
 | [],acc=>acc
 | o::r,acc=>
  let m:=o.after.toList.foldl (fun s e=>bif Region.binds .any e then s ||| 2 ^ e.on ||| acc.getD e.on 0 else s) 0
  ancs r (acc++[m])
def dstM (o:AOper):Nat:=match o.dst with
 | some d=>2 ^ d
 | none=>0
def mskM (o:AOper):Nat:=o.tmps.foldl (fun m t=>m ||| 2 ^ t) 0
def ordGo (n:Nat) (anc:List Nat):List Nat→Nat→List Nat→List Nat
 | [],m,acc=>acc++(List.range n).filter (fun i => !m.testBit i)
 | e::r,m,acc=>
  let A:=anc.getD e 0
  ordGo n anc r (m ||| A ||| 2 ^ e) (acc++(List.range n).filter (fun i=>A.testBit i && !m.testBit i)++[e])
def ordK (anc:List Nat) (kd:List Nat):List Nat→List Nat→List (Nat × Nat)
 | [],_=>[]
 | i::r,efs=>(i,(efs.takeWhile fun e => !(anc.getD i 0).testBit e).length)::ordK anc kd r (bif Nat.beq (kd.getD i 0) 2 then i::efs else efs)
def mkOrder (anc:List Nat) (kd:List Nat):List (Nat × Nat):=
 ordK anc kd (ordGo kd.length anc ((List.range kd.length).filter fun i=>Nat.beq (kd.getD i 0) 2) 0 []) []
def orderOK (n:Nat) (anc:List Nat) (as:List AOper):List (Nat × Nat)→Nat→List Nat→List (Nat × Nat × Nat)→Bool
 | [],dn,_,_=>Nat.beq dn (2 ^ n-1)
 | (i,k)::r,dn,efs,em=>
  match as[i]? with
  | none=>false
  | some o=>
   let A:=anc.getD i 0
   let dm:=dstM o
   let rm:=mskM o
   let ef:=Nat.beq o.op.kd 2
   Nat.blt i n&&(!(dn.testBit i)&&(Nat.beq (A&&&dn) A&&((bif ef then Nat.beq A dn else (efs.drop k).all fun e=>A.testBit e)&&(Nat.beq (dm&&&rm) 0 &&
    ((em.all fun q=>Nat.beq (dm&&&q.2.1) 0&&(A.testBit q.1||(Nat.beq (dm&&&q.2.2) 0&&Nat.beq (q.2.1&&&rm) 0))) &&
     orderOK n anc as r (dn ||| 2 ^ i) (bif ef then i::efs else efs) ((i,dm,rm)::em))))))
def stuckC:AC := .cond (.c .un) .skip .skip
def orStuck (a:Option AC):AC:=
 match a with
 | some a=>a
 | none=>stuckC
def restAC:AC→Nat→Option AC
 | .seq a b,n=>match restAC a n with
  | some r=>some (.seq r b)
  | none=>restAC b n
 | .block i .skip,n=>bif Nat.beq i n&&Nat.beq (n % 2) 1 then some .skip else none
 | _,_=>none
def labsAC:AC→List Nat
 | .seq a b=>labsAC a++labsAC b
 | .block i .skip=>bif Nat.beq (i % 2) 1 then [i] else []
 | _=>[]
def wrapAC (p:AC):List Nat→AC→AC
 | [],x=>x
 | n::ns,x=>match restAC p n with
  | some r => .lab n (wrapAC p ns r) (wrapAC p ns x)
  | none=>stuckC
def comp (P:Program) (N:Nat):Code→Option AC
 | .skip=>some .skip
 | .label l=>some (.block (2*l+1) .skip)
 | .region _ ops draw=>do
  let l ←cOpers P N ops ops.toList
  bif draw then
   let anc:=ancs ops.toList []
   let ord:=mkOrder anc (l.map fun o=>o.op.kd)
   bif orderOK ops.size anc l ord 0 [] []&&Nat.ble ops.size ord.length then some (.reg (some ord) (ord.filterMap fun p=>l[p.1]?)) else none
  else some (.reg none l)
 | .seq a b=>do some (.seq (←comp P N a) (←comp P N b))
 | .cond c a b=>do some (.cond (←cArg c) (orStuck (comp P N a)) (orStuck (comp P N b)))
 | .block id a=>do some (.block (2*id) (←comp P N a))
 | .loop a=>do some (.loop (←comp P N a))
 | .exit id=>some (.exit (2*id))
 | .goto l=>some (.exit (2*l+1))
 | .scope a=>do
  let p ←comp P N a
  some (.scope (wrapAC p (labsAC p) p))
 | .ret=>some .ret
 | .rangeFunc f ps a b=>do
  let g ←cArg f
  let a' ←comp P N a
  let b' ←comp P N b
  bif ps.toList.all (fun p=>Nat.blt p N) then some (.rfn g ps.toList a' b') else none
 | _=>none
def compRes (P:Program):ResultVar→Option RV
 | .tmp t=>some (.tmp t)
 | .cell a t=>do some (.cell a (←cSz P t))
def compF (P:Program) (fn:Func):Option AF:=do
 let c ←fn.body
 let b ←comp P fn.ntmps c
 let r ←fn.results.toList.mapM (compRes P)
 bif Nat.beq fn.nfree 0 then some { np:=fn.params.size,body:=b,res:=r } else some { np:=fn.params.size+fn.nfree,body:=b,res:=r }
end Zv
end
set_option linter.unusedSimpArgs false
namespace Zv
open Go
structure Ext (M:Nat→Prop) (w:World) (M':Nat→Prop) (w':World):Prop where
 size:w.heap.size≤w'.heap.size
 same:∀ b,b<w.heap.size→¬ M b→w'.heap[b]?=w.heap[b]?
 less:∀ b,b<w.heap.size→M' b→M b
theorem Ext.refl (M:Nat→Prop) (w:World):Ext M w M w:=⟨Nat.le_refl _,fun _ _ _=>rfl,fun _ _ h=>h⟩
theorem cell_of_heap {w w':World} {b:Nat} (h:w'.heap[b]?=w.heap[b]?) (o:Nat):w'.cell? ⟨b,o,none⟩=w.cell? ⟨b,o,none⟩:=by
 simp only [World.cell?,h]
def muLe (μ μ':Mu):Prop:=∀ nm l,μ nm=some l→μ' nm=some l
theorem muLe.refl (μ:Mu):muLe μ μ:=fun _ _ h=>h
theorem mu0_le (μ:Mu):muLe mu0 μ:=fun _ _ h=>by simp [mu0] at h
section
variable {M M':Nat→Prop} {w w':World}
mutual
theorem VRel.mono (hx:Ext M w M' w'):∀ {μ μ':Mu} (d:D) (v:Value),muLe μ μ'→VRel M w μ d v→VRel M' w' μ' d v
 | _,_,.un,_,_,_=>by simp only [VRel]
 | _,_,.bool _,_,_,h=>by simpa only [VRel] using h
 | _,_,.int _ _,_,_,h=>by simpa only [VRel] using h
 | _,_,.str _,_,_,h=>by simpa only [VRel] using h
 | _,_,.agg cs,_,hm,h=>by
  simp only [VRel] at h ⊢
  obtain ⟨vs,rfl,h⟩:=h
  exact ⟨vs,rfl,VRels.mono hx cs _ hm h⟩
 | _,_,.tup cs,_,hm,h=>by
  simp only [VRel] at h ⊢
  obtain ⟨vs,rfl,h⟩:=h
  exact ⟨vs,rfl,VRels.mono hx cs _ hm h⟩
 | _,_,.nils,_,_,h=>by simpa only [VRel] using h
 | _,_,.sl ex len cs,_,_,h=>by
  simp only [VRel] at h ⊢
  obtain ⟨a,cap,rfl,hl,he,h⟩:=h
  refine ⟨a,cap,rfl,hl,he,h.imp id ?_⟩
  rintro ⟨b,o,rfl,hb,hlt,hc⟩
  exact ⟨b,o,rfl,fun hn=>hb (hx.less b hlt hn),Nat.lt_of_lt_of_le hlt hx.size,CRel.mono hx b hb hlt cs o hc⟩
 | _,_,.ms nm off sz len cap,_,hm,h=>by
  simp only [VRel] at h ⊢
  obtain ⟨l,b,h1,h⟩:=h
  exact ⟨l,b,hm _ _ h1,h⟩
 | _,_,.gs nm off sz len,_,hm,h=>by
  simp only [VRel] at h ⊢
  obtain ⟨l,b,h1,h⟩:=h
  exact ⟨l,b,hm _ _ h1,h⟩
 | _,_,.ptr nm off,_,hm,h=>by
  simp only [VRel] at h ⊢
  obtain ⟨l,b,h1,h⟩:=h
  exact ⟨l,b,hm _ _ h1,h⟩
 | _,_,.iptr cs off,_,_,h=>by
  simp only [VRel] at h ⊢
  obtain ⟨b,o,rfl,hb,hlt,hc⟩:=h
  exact ⟨b,o,rfl,fun hn=>hb (hx.less b hlt hn),Nat.lt_of_lt_of_le hlt hx.size,CRel.mono hx b hb hlt cs o hc⟩
 | _,_,.nilp,_,_,h=>by simpa only [VRel] using h
 | _,_,.iface t d,_,hm,h=>by
  simp only [VRel] at h ⊢
  obtain ⟨x,rfl,h⟩:=h
  exact ⟨x,rfl,VRel.mono hx d x hm h⟩
 | _,_,.nilif,_,_,h=>by simpa only [VRel] using h
 | _,_,.fn f a b,_,hm,h=>by
  simp only [VRel] at h ⊢
  obtain ⟨va,vb,rfl,h1,h2⟩:=h
  exact ⟨va,vb,rfl,VRels.mono hx a _ hm h1,VRels.mono hx b _ hm h2⟩
 | _,_,.nilfn,_,_,h=>by simpa only [VRel] using h
 | _,_,.nilm,_,_,h=>by simpa only [VRel] using h
 | _,_,.adr _ _,_,_,h=>by simpa only [VRel] using h
 | _,_,.mp nm,_,hm,h=>by
  simp only [VRel] at h ⊢
  obtain ⟨l,b,h1,h⟩:=h
  exact ⟨l,b,hm _ _ h1,h⟩
 | _,_,.yl nm,_,hm,h=>by
  simp only [VRel] at h ⊢
  obtain ⟨l,b,h1,h⟩:=h
  exact ⟨l,b,hm _ _ h1,h⟩
 | _,_,.it nm,_,hm,h=>by
  simp only [VRel] at h ⊢
  obtain ⟨l,b,h1,h⟩:=h
  exact ⟨l,b,hm _ _ h1,h⟩
theorem VRels.mono (hx:Ext M w M' w'):∀ {μ μ':Mu} (ds:List D) (vs:List Value),muLe μ μ'→VRels M w μ ds vs→VRels M' w' μ' ds vs
 | _,_,[],_,_,h=>by simpa only [VRels] using h
 | _,_,d::ds,_,hm,h=>by
  simp only [VRels] at h ⊢
  obtain ⟨v,r,rfl,h1,h2⟩:=h
  exact ⟨v,r,rfl,VRel.mono hx d v hm h1,VRels.mono hx ds r hm h2⟩
theorem CRel.mono (hx:Ext M w M' w') (b:Nat) (hb:¬ M b) (hlt:b<w.heap.size):∀ (ds:List D) (o:Nat),CRel M w b o ds→CRel M' w' b o ds
 | [],_,_=>by simp only [CRel]
 | d::ds,o,h=>by
  simp only [CRel] at h ⊢
  obtain ⟨⟨v,hv,h1⟩,h2⟩:=h
  exact ⟨⟨v,by rw [cell_of_heap (hx.same b hlt hb)]; exact hv,VRel.mono hx d v (muLe.refl _) h1⟩,CRel.mono hx b hb hlt ds (o+1) h2⟩
end
end
section
variable {M:Nat→Prop} {w:World}
mutual
theorem VRel.pure:∀ {μ μ':Mu} (d:D) (v:Value),d.pure=true→VRel M w μ d v→VRel M w μ' d v
 | _,_,.un,_,_,_=>by simp only [VRel]
 | _,_,.bool _,_,_,h=>by simpa only [VRel] using h
 | _,_,.int _ _,_,_,h=>by simpa only [VRel] using h
 | _,_,.str _,_,_,h=>by simpa only [VRel] using h
 | _,_,.agg cs,_,hp,h=>by
  simp only [D.pure] at hp
  simp only [VRel] at h ⊢
  obtain ⟨vs,rfl,h⟩:=h
  exact ⟨vs,rfl,VRels.pure cs _ hp h⟩
 | _,_,.tup cs,_,hp,h=>by
  simp only [D.pure] at hp
  simp only [VRel] at h ⊢
  obtain ⟨vs,rfl,h⟩:=h
  exact ⟨vs,rfl,VRels.pure cs _ hp h⟩
 | _,_,.nils,_,_,h=>by simpa only [VRel] using h
 | _,_,.sl ex len cs,_,_,h=>by simpa only [VRel] using h
 | _,_,.ms ..,_,hp,_=>by simp [D.pure] at hp
 | _,_,.gs ..,_,hp,_=>by simp [D.pure] at hp
 | _,_,.ptr ..,_,hp,_=>by simp [D.pure] at hp
 | _,_,.iptr cs off,_,_,h=>by simpa only [VRel] using h
 | _,_,.nilp,_,_,h=>by simpa only [VRel] using h
 | _,_,.iface t d,_,hp,h=>by
  simp only [D.pure] at hp
  simp only [VRel] at h ⊢
  obtain ⟨x,rfl,h⟩:=h
  exact ⟨x,rfl,VRel.pure d x hp h⟩
 | _,_,.nilif,_,_,h=>by simpa only [VRel] using h
 | _,_,.fn f a b,_,hp,h=>by
  simp only [D.pure,Bool.and_eq_true] at hp
  simp only [VRel] at h ⊢
  obtain ⟨va,vb,rfl,h1,h2⟩:=h
  exact ⟨va,vb,rfl,VRels.pure a _ hp.1 h1,VRels.pure b _ hp.2 h2⟩
 | _,_,.nilfn,_,_,h=>by simpa only [VRel] using h
 | _,_,.nilm,_,_,h=>by simpa only [VRel] using h
 | _,_,.adr _ _,_,_,h=>by simpa only [VRel] using h
 | _,_,.it ..,_,hp,_=>by simp [D.pure] at hp
 | _,_,.mp ..,_,hp,_=>by simp [D.pure] at hp
 | _,_,.yl ..,_,hp,_=>by simp [D.pure] at hp
theorem VRels.pure:∀ {μ μ':Mu} (ds:List D) (vs:List Value),D.pures ds=true→VRels M w μ ds vs→VRels M w μ' ds vs
 | _,_,[],_,_,h=>by simpa only [VRels] using h
 | _,_,d::ds,_,hp,h=>by
  simp only [D.pures,Bool.and_eq_true] at hp
  simp only [VRels] at h ⊢
  obtain ⟨v,r,rfl,h1,h2⟩:=h
  exact ⟨v,r,rfl,VRel.pure d v hp.1 h1,VRels.pure ds r hp.2 h2⟩
end
end
mutual
theorem VRel.flat {M M':Nat→Prop} {w w':World}:∀ {μ μ':Mu} (d:D) (v:Value),d.flat=true→VRel M w μ d v→VRel M' w' μ' d v
 | _,_,.un,_,_,_=>by simp only [VRel]
 | _,_,.bool _,_,_,h=>by simpa only [VRel] using h
 | _,_,.int _ _,_,_,h=>by simpa only [VRel] using h
 | _,_,.str _,_,_,h=>by simpa only [VRel] using h
 | _,_,.agg cs,_,hp,h=>by
  simp only [D.flat] at hp
  simp only [VRel] at h ⊢
  obtain ⟨vs,rfl,h⟩:=h
  exact ⟨vs,rfl,VRels.flat cs _ hp h⟩
 | _,_,.tup cs,_,hp,h=>by
  simp only [D.flat] at hp
  simp only [VRel] at h ⊢
  obtain ⟨vs,rfl,h⟩:=h
  exact ⟨vs,rfl,VRels.flat cs _ hp h⟩
 | _,_,.nils,_,_,h=>by simpa only [VRel] using h
 | _,_,.sl ..,_,hp,_=>by simp [D.flat] at hp
 | _,_,.ms ..,_,hp,_=>by simp [D.flat] at hp
 | _,_,.gs ..,_,hp,_=>by simp [D.flat] at hp
 | _,_,.ptr ..,_,hp,_=>by simp [D.flat] at hp
 | _,_,.iptr ..,_,hp,_=>by simp [D.flat] at hp
 | _,_,.nilp,_,_,h=>by simpa only [VRel] using h
 | _,_,.iface t d,_,hp,h=>by
  simp only [D.flat] at hp
  simp only [VRel] at h ⊢
  obtain ⟨x,rfl,h⟩:=h
  exact ⟨x,rfl,VRel.flat d x hp h⟩
 | _,_,.nilif,_,_,h=>by simpa only [VRel] using h
 | _,_,.fn ..,_,hp,_=>by simp [D.flat] at hp
 | _,_,.nilfn,_,_,h=>by simpa only [VRel] using h
 | _,_,.nilm,_,_,h=>by simpa only [VRel] using h
 | _,_,.adr _ _,_,_,h=>by simpa only [VRel] using h
 | _,_,.it ..,_,hp,_=>by simp [D.flat] at hp
 | _,_,.mp ..,_,hp,_=>by simp [D.flat] at hp
 | _,_,.yl ..,_,hp,_=>by simp [D.flat] at hp
theorem VRels.flat {M M':Nat→Prop} {w w':World}:∀ {μ μ':Mu} (ds:List D) (vs:List Value),D.flats ds=true→VRels M w μ ds vs→VRels M' w' μ' ds vs
 | _,_,[],_,_,h=>by simpa only [VRels] using h
 | _,_,d::ds,_,hp,h=>by
  simp only [D.flats,Bool.and_eq_true] at hp
  simp only [VRels] at h ⊢
  obtain ⟨v,r,rfl,h1,h2⟩:=h
  exact ⟨v,r,rfl,VRel.flat d v hp.1 h1,VRels.flat ds r hp.2 h2⟩
end
section lists
variable {M:Nat→Prop} {w:World} {μ:Mu}
theorem VRels.length:∀ {ds:List D} {vs:List Value},VRels M w μ ds vs→vs.length=ds.length
 | [],_,h=>by simp only [VRels] at h; subst h; rfl
 | d::ds,_,h=>by
  simp only [VRels] at h
  obtain ⟨v,r,rfl,_,h2⟩:=h
  simp [VRels.length h2]
theorem VRels.get:∀ {ds:List D} {vs:List Value} (i:Nat) (d:D),VRels M w μ ds vs→ds[i]?=some d→∃ v,vs[i]?=some v∧VRel M w μ d v
 | [],_,i,d,h,hi=>by simp at hi
 | d::ds,_,0,e,h,hi=>by
  simp only [VRels] at h
  obtain ⟨v,r,rfl,h1,h2⟩:=h
  simp at hi; subst hi
  exact ⟨v,by simp,h1⟩
 | d::ds,_,i+1,e,h,hi=>by
  simp only [VRels] at h
  obtain ⟨v,r,rfl,h1,h2⟩:=h
  simp at hi
  obtain ⟨v',hv,hr⟩:=VRels.get i e h2 hi
  exact ⟨v',by simpa using hv,hr⟩
theorem VRels.cons {d:D} {ds:List D} {v:Value} {vs:List Value} (h:VRel M w μ d v) (h':VRels M w μ ds vs):VRels M w μ (d::ds) (v::vs):=by
 simp only [VRels]; exact ⟨v,vs,rfl,h,h'⟩
theorem VRels.nil:VRels M w μ [] []:=by simp only [VRels]
theorem VRels.mk:∀ {ds:List D} {vs:List Value},vs.length=ds.length→(∀ (i:Nat) (d:D) (v:Value),ds[i]?=some d→vs[i]?=some v→VRel M w μ d v)→VRels M w μ ds vs
 | [],vs,hl,_=>by
  have:vs=[]:=List.eq_nil_of_length_eq_zero (by simpa using hl)
  subst this; exact VRels.nil
 | d::ds,[],hl,_=>by simp at hl
 | d::ds,v::vs,hl,h=>by
  refine VRels.cons (h 0 d v (by simp) (by simp)) (VRels.mk (by simpa using hl) ?_)
  intro i d' v' h1 h2
  exact h (i+1) d' v' (by simpa using h1) (by simpa using h2)
theorem VRels.at {ds:List D} {vs:List Value} {i:Nat} {d:D} {v:Value} (h:VRels M w μ ds vs) (h1:ds[i]?=some d) (h2:vs[i]?=some v):VRel M w μ d v:=by
 obtain ⟨v',hv,hr⟩:=VRels.get i d h h1
 rw [h2] at hv; cases hv; exact hr
theorem VRels.append {ds es:List D} {vs us:List Value} (h:VRels M w μ ds vs) (h':VRels M w μ es us):VRels M w μ (ds++es) (vs++us):=by
 induction ds generalizing vs with
 | nil=>simp only [VRels] at h; subst h; simpa using h'
 | cons d ds ih=>
  simp only [VRels] at h
  obtain ⟨v,r,rfl,h1,h2⟩:=h
  exact VRels.cons h1 (ih h2)
theorem VRels.drop (n:Nat) {ds:List D} {vs:List Value} (h:VRels M w μ ds vs):VRels M w μ (ds.drop n) (vs.drop n):=by
 refine VRels.mk (by simp [h.length]) fun i d v h1 h2 => ?_
 simp at h1 h2
 exact h.at h1 h2
theorem VRels.take (n:Nat) {ds:List D} {vs:List Value} (h:VRels M w μ ds vs):VRels M w μ (ds.take n) (vs.take n):=by
 refine VRels.mk (by simp [h.length]) fun i d v h1 h2 => ?_
 rw [List.getElem?_take] at h1 h2
 split at h1
 ·rename_i hi
  rw [if_pos hi] at h2
  exact h.at h1 h2
 ·simp at h1
theorem CRel.get:∀ {b o:Nat} {ds:List D} (i:Nat) (d:D),CRel M w b o ds→ds[i]?=some d→∃ v,w.cell? ⟨b,o+i,none⟩=some v∧VRel M w mu0 d v
 | _,_,[],i,d,_,hi=>by simp at hi
 | b,o,d::ds,0,e,h,hi=>by
  simp only [CRel] at h
  simp at hi; subst hi
  simpa using h.1
 | b,o,d::ds,i+1,e,h,hi=>by
  simp only [CRel] at h
  simp at hi
  obtain ⟨v,hv,hr⟩:=CRel.get i e h.2 hi
  exact ⟨v,by rw [←hv]; congr 2; omega,hr⟩
theorem CRel.mk:∀ {b o:Nat} {ds:List D},(∀ (i:Nat) (d:D),ds[i]?=some d→∃ v,w.cell? ⟨b,o+i,none⟩=some v∧VRel M w mu0 d v)→CRel M w b o ds
 | _,_,[],_=>by simp only [CRel]
 | b,o,d::ds,h=>by
  simp only [CRel]
  refine ⟨by simpa using h 0 d (by simp),CRel.mk fun i e hi => ?_⟩
  obtain ⟨v,hv,hr⟩:=h (i+1) e (by simpa using hi)
  exact ⟨v,by rw [←hv]; congr 2; omega,hr⟩
theorem CRel.drop {b o:Nat} {ds:List D} (n:Nat) (h:CRel M w b o ds):CRel M w b (o+n) (ds.drop n):=
 CRel.mk fun i d hi=>by
  simp at hi
  obtain ⟨v,hv,hr⟩:=CRel.get _ _ h hi
  exact ⟨v,by rw [←hv]; congr 2; omega,hr⟩
theorem CRel.take {b o:Nat} {ds:List D} (n:Nat) (h:CRel M w b o ds):CRel M w b o (ds.take n):=
 CRel.mk fun i d hi=>by
  rw [List.getElem?_take] at hi
  split at hi
  ·exact CRel.get _ _ h hi
  ·simp at hi
end lists
section places
theorem beq_ne {n k:Nat} (h:n≠k):Nat.beq n k=false:=by
 cases e:Nat.beq n k
 ·rfl
 ·exact absurd (Nat.eq_of_beq_eq_true e) h
section
variable {α:Type}
theorem lget_c (k:Nat) (v:α) (r:List (Nat × α)) (n:Nat):lget ((k,v)::r) n=if n=k then some v else lget r n:=by
 show (Bool.rec (lget r n) (some v) (Nat.beq n k):Option α)=_
 by_cases h:n=k
 ·subst h; simp
 ·rw [if_neg h,beq_ne h]
theorem lset_c (k:Nat) (w:α) (r:List (Nat × α)) (n:Nat) (v:α):lset ((k,w)::r) n v=if n=k then (n,v)::r else (k,w)::lset r n v:=by
 show (Bool.rec ((k,w)::lset r n v) ((n,v)::r) (Nat.beq n k):List (Nat × α))=_
 by_cases h:n=k
 ·subst h; simp
 ·rw [if_neg h,beq_ne h]
theorem lget_lset (l:List (Nat × α)) (n:Nat) (v:α) (m:Nat):lget (lset l n v) m=if m=n then some v else lget l m:=by
 induction l with
 | nil=>show lget [(n,v)] m=_; rw [lget_c]
 | cons p r ih=>
  obtain ⟨k,w⟩:=p
  rw [lset_c]
  by_cases h:n=k
  ·subst h
   rw [if_pos rfl,lget_c,lget_c]
   by_cases h:m=n <;> simp [h]
  ·rw [if_neg h,lget_c,lget_c,ih]
   by_cases h1:m=k
   ·subst h1
    rw [if_pos rfl,if_pos rfl,if_neg (fun e=>h e.symm)]
   ·rw [if_neg h1,if_neg h1]
theorem lget_ldel (l:List (Nat × α)) (n m:Nat):lget (ldel l n) m=if m=n then none else lget l m:=by
 induction l with
 | nil=>simp only [ldel]; show none=_; split <;> rfl
 | cons p r ih=>
  obtain ⟨k,w⟩:=p
  simp only [ldel]
  by_cases h:n=k
  ·subst h
   simp only [show Nat.beq n n=true by simp,cond_true,ih,lget_c]
   by_cases h:m=n <;> simp [h]
  ·rw [beq_ne h,cond_false,lget_c,lget_c,ih]
   by_cases h1:m=k
   ·subst h1
    rw [if_pos rfl,if_pos rfl,if_neg (fun e=>h e.symm)]
   ·rw [if_neg h1,if_neg h1]
theorem get_nd (a b:Tr α) (n:Nat):(Tr.nd a b).get n=if n % 2=0 then a.get (n / 2) else b.get (n / 2):=by
 show (Nat.rec (a.get (n / 2)) (fun _ _=>b.get (n / 2)) (n % 2):Option α)=_
 rcases h:n % 2 with _|m
 ·rfl
 ·rfl
theorem set_nd (a b:Tr α) (n:Nat) (v:α):(Tr.nd a b).set n v=if n % 2=0 then .nd (a.set (n / 2) v) b else .nd a (b.set (n / 2) v):=by
 show (Nat.rec (.nd (a.set (n / 2) v) b) (fun _ _ => .nd a (b.set (n / 2) v)) (n % 2):Tr α)=_
 rcases h:n % 2 with _|m
 ·rfl
 ·rfl
theorem add_nd (a b:Tr α) (n:Nat) (v:α):(Tr.nd a b).add n v=if n % 2=0 then .nd (a.add (n / 2) v) b else .nd a (b.add (n / 2) v):=by
 show (Nat.rec (.nd (a.add (n / 2) v) b) (fun _ _ => .nd a (b.add (n / 2) v)) (n % 2):Tr α)=_
 rcases h:n % 2 with _|m
 ·rfl
 ·rfl
theorem del_nd (a b:Tr α) (n:Nat):(Tr.nd a b).del n=if n % 2=0 then .nd (a.del (n / 2)) b else .nd a (b.del (n / 2)):=by
 show (Nat.rec (.nd (a.del (n / 2)) b) (fun _ _ => .nd a (b.del (n / 2))) (n % 2):Tr α)=_
 rcases h:n % 2 with _|m
 ·rfl
 ·rfl
theorem half_eq {n m:Nat} (h:n % 2=m % 2):(m / 2=n / 2)↔m=n:=by omega
theorem Tr.get_set (t:Tr α):∀ (n:Nat) (v:α) (m:Nat),(t.set n v).get m=if m=n then some v else t.get m:=by
 induction t with
 | ls l=>intro n v m; exact lget_lset l n v m
 | nd a b iha ihb=>
  intro n v m
  rw [set_nd,get_nd]
  by_cases h:n % 2=0
  ·rw [if_pos h,get_nd]
   by_cases h1:m % 2=0
   ·rw [if_pos h1,if_pos h1,iha]
    simp only [half_eq (show n % 2=m % 2 by omega)]
   ·rw [if_neg h1,if_neg h1,if_neg (fun e=>h1 (by rw [e]; exact h))]
  ·rw [if_neg h,get_nd]
   by_cases h1:m % 2=0
   ·rw [if_pos h1,if_pos h1,if_neg (fun e=>h (by rw [←e]; exact h1))]
   ·rw [if_neg h1,if_neg h1,ihb]
    simp only [half_eq (show n % 2=m % 2 by omega)]
theorem Tr.get_add (t:Tr α):∀ (n:Nat) (v:α) (m:Nat),(t.add n v).get m=if m=n then some v else t.get m:=by
 induction t with
 | ls l=>intro n v m; exact lget_c n v l m
 | nd a b iha ihb=>
  intro n v m
  rw [add_nd,get_nd]
  by_cases h:n % 2=0
  ·rw [if_pos h,get_nd]
   by_cases h1:m % 2=0
   ·rw [if_pos h1,if_pos h1,iha]
    simp only [half_eq (show n % 2=m % 2 by omega)]
   ·rw [if_neg h1,if_neg h1,if_neg (fun e=>h1 (by rw [e]; exact h))]
  ·rw [if_neg h,get_nd]
   by_cases h1:m % 2=0
   ·rw [if_pos h1,if_pos h1,if_neg (fun e=>h (by rw [←e]; exact h1))]
   ·rw [if_neg h1,if_neg h1,ihb]
    simp only [half_eq (show n % 2=m % 2 by omega)]
theorem Tr.get_del (t:Tr α):∀ (n m:Nat),(t.del n).get m=if m=n then none else t.get m:=by
 induction t with
 | ls l=>intro n m; exact lget_ldel l n m
 | nd a b iha ihb=>
  intro n m
  rw [del_nd,get_nd]
  by_cases h:n % 2=0
  ·rw [if_pos h,get_nd]
   by_cases h1:m % 2=0
   ·rw [if_pos h1,if_pos h1,iha]
    simp only [half_eq (show n % 2=m % 2 by omega)]
   ·rw [if_neg h1,if_neg h1,if_neg (fun e=>h1 (by rw [e]; exact h))]
  ·rw [if_neg h,get_nd]
   by_cases h1:m % 2=0
   ·rw [if_pos h1,if_pos h1,if_neg (fun e=>h (by rw [←e]; exact h1))]
   ·rw [if_neg h1,if_neg h1,ihb]
    simp only [half_eq (show n % 2=m % 2 by omega)]
end
theorem tget_tput (t:Tm) (k:Nat) (v:D) (n:Nat):tget (tput t k v) n=if n=k then v else tget t n:=by
 simp only [tget,tput,Tr.get_set]
 split <;> rfl
theorem sget_sadd (s:St) (n m:Nat) (b:Blk):sget (sadd s n b) m=if m=n then some b else sget s m:=Tr.get_add s n b m
theorem sget_sset (s:St) (n m:Nat) (b:Blk):sget (sset s n b) m=if m=n then some b else sget s m:=Tr.get_set s n b m
theorem sget_sdel (s:St) (n m:Nat):sget (sdel s n) m=if m=n then none else sget s m:=Tr.get_del s n m
end places
end Zv
namespace Zv
open Go
def Thaw (n:Nat) (fz:Nat × Nat):Prop:=∀ o,o<n→¬ (fz.1≤o∧o<fz.2)
def Nm (μ:Mu) (b:Nat):Prop:=∃ nm l,μ nm=some l∧l.blk=some b
def Mm (M0:Nat→Prop) (μ:Mu):Nat→Prop:=fun b=>M0 b∨Nm μ b
def MEs (M:Nat→Prop) (w:World) (μ:Mu):List (D × D × Nat)→List MapEntry→Prop
 | [],es=>es=[]
 | (k,v,n)::r,es=>∃ e r',es=e::r'∧VRel M w μ k e.key∧VRel M w μ v e.val∧e.born=n∧MEs M w μ r r'
def jumpC (n:Nat):Code:=bif Nat.beq (n % 2) 0 then .exit (n / 2) else .goto (n / 2)
def jumpTo (n:Nat) (k:List Item):Option (List Item):=bif Nat.beq (n % 2) 0 then exitTo (n / 2) k else gotoIn (n / 2) k
theorem jumpC_even (n:Nat):jumpC (2*n) = .exit n:=by
 have h1:2*n % 2=0:=by omega
 have h2:2*n / 2=n:=by omega
 simp [jumpC,h1,h2]
theorem jumpC_odd (n:Nat):jumpC (2*n+1) = .goto n:=by
 have h1:(2*n+1) % 2=1:=by omega
 have h2:(2*n+1) / 2=n:=by omega
 simp only [jumpC,h1,h2]; rfl
theorem jumpTo_even (n:Nat) (k:List Item):jumpTo (2*n) k=exitTo n k:=by
 have h1:2*n % 2=0:=by omega
 have h2:2*n / 2=n:=by omega
 simp [jumpTo,h1,h2]
theorem jumpTo_odd (n:Nat) (k:List Item):jumpTo (2*n+1) k=gotoIn n k:=by
 have h1:(2*n+1) % 2=1:=by omega
 have h2:(2*n+1) / 2=n:=by omega
 simp only [jumpTo,h1,h2]; rfl
theorem jumpTo_nil (n:Nat):jumpTo n []=none:=by
 unfold jumpTo
 cases Nat.beq (n % 2) 0 <;> rfl
theorem jumpTo_block (id:Nat) (k:List Item):jumpTo (2*id) (.inBlock id::k)=some k:=by
 rw [jumpTo_even]; simp [exitTo]
theorem jumpTo_block_ne {i id:Nat} (h:i≠2*id) (k:List Item):jumpTo i (.inBlock id::k)=jumpTo i k:=by
 unfold jumpTo
 cases hp:Nat.beq (i % 2) 0
 ·rfl
 ·have hp':=Nat.eq_of_beq_eq_true hp
  have:(id==i / 2)=false:=by simp; omega
  simp [exitTo,this]
theorem jumpTo_scope {i:Nat} {p:Code} (h:∀ l,i=2*l+1→findLabel p l=none) (k:List Item):jumpTo i (.inScope p::k)=jumpTo i k:=by
 unfold jumpTo
 cases hp:Nat.beq (i % 2) 0
 ·have:findLabel p (i / 2)=none:=h (i / 2) (by
   have:i % 2≠0:=fun e=>by rw [e] at hp; cases hp
   omega)
  simp [gotoIn,this]
 ·rfl
def jumpOf:Option Nat→Code
 | none => .ret
 | some i=>jumpC i
def BRel (P:Program) (M:Nat→Prop) (w:World) (μ:Mu) (nm:Nat):Blk→Prop
 | .fix ty cs=>∃ loc b vs e fz,μ nm=some loc∧loc.blk=some b∧loc.cap=cs.length∧M b∧w.heap[b]?=some (.cells vs e fz)∧Thaw vs.size fz∧VRels M w μ cs vs.toList∧∀ k,ty=k+1→e=k
 | .grow ty cs=>∃ loc,μ nm=some loc∧((loc.blk=none∧cs=[]∧loc.cap=0) ∨
   ∃ b vs e fz,loc.blk=some b∧M b∧w.heap[b]?=some (.cells vs e fz)∧Thaw vs.size fz∧vs.size=loc.cap∧cs.length≤loc.cap∧VRels M w μ cs (vs.toList.take cs.length)∧∀ k,ty=k+1→e=k)
 | .iter s pos=>∃ loc b,μ nm=some loc∧loc.blk=some b∧M b∧w.heap[b]?=some (.stringIter ⟨s.toArray⟩ pos)
 | .mp es c=>∃ loc b ents,μ nm=some loc∧loc.blk=some b∧M b∧w.heap[b]?=some (.map ents c)∧MEs M w μ es ents.toList
 | .mit m since seen last=>∃ loc b mo,μ nm=some loc∧loc.blk=some b∧M b∧w.heap[b]?=some (.mapIter mo since seen.toArray last) ∧
   (match m with|none=>mo=none|some mn=>∃ l bm,μ mn=some l∧l.blk=some bm∧mo=some bm)
 | .lp st pend t ps a b=>∃ loc bk lo N,μ nm=some loc∧loc.blk=some bk∧M bk∧w.heap[bk]?=some (.loop lo)∧lo.state=st∧lo.pending=pend.map jumpOf∧lo.params.toList=ps ∧
   (ps.all fun p=>Nat.blt p N)=true∧comp P N lo.assign=some a∧comp P N lo.body=some b∧N≤lo.tmps.size∧∀ n,VRel M w μ (tget t n) (lo.tmps.getD n undef)
 | .dfd=>∃ loc b,μ nm=some loc∧loc.blk=some b∧M b∧w.heap[b]?=some (.deferred (some []))
def DfRel (M:Nat→Prop) (w:World) (μ:Mu):List (D × List D)→List Deferred→Prop
 | [],ds=>ds=[]
 | (.it nm,_)::r,ds=>∃ l b r',μ nm=some l∧l.blk=some b∧ds={ target := .collected b,args := #[] }::r'∧DfRel M w μ r r'
 | (f,l)::r,ds=>∃ fn first cap args r',VRel M w μ f (.func fn first cap)∧VRels M w μ l args.toList∧ds={ target := .fn fn cap,args:=first++args }::r'∧DfRel M w μ r r'
def muSet (μ:Mu) (nm:Nat) (l:Option Loc):Mu:=fun n=>if n=nm then l else μ n
structure Rel (E:Env) (M0:Nat→Prop) (w0:World) (N:Nat) (μ:Mu) (a:Act) (w:World) (x:AS):Prop where
 size:w0.heap.size≤w.heap.size
 old:∀ b,b<w0.heap.size→w.heap[b]?=w0.heap[b]?
 m0lt:∀ b,M0 b→b<w0.heap.size
 defers:DfRel (Mm M0 μ) w μ x.d a.defers
 n:N≤a.tmps.size
 tm:∀ n,VRel (Mm M0 μ) w μ (tget x.t n) (a.tmps.getD n undef)
 st:∀ nm blk l,μ nm=some l→sget x.s nm=some blk→BRel E.P (Mm M0 μ) w μ nm blk
 lt:∀ nm l,μ nm=some l→nm<x.c
 own:∀ nm l b,μ nm=some l→l.blk=some b→w0.heap.size≤b∧b<w.heap.size
 inj:∀ n m l l' b,(sget x.s n).isSome=true→(sget x.s m).isSome=true→μ n=some l→μ m=some l'→l.blk=some b→l'.blk=some b→n=m
 glob:GRel E M0 w0
 env:Env0 w0 w
def Live (s:St) (μ:Mu) (b:Nat):Prop:=∃ nm l,(sget s nm).isSome=true∧μ nm=some l∧l.blk=some b
structure Fr (c:Nat) (s:St) (μ:Mu) (w:World) (c':Nat) (s':St) (μ':Mu) (w':World):Prop where
 size:w.heap.size≤w'.heap.size
 same:∀ b,b<w.heap.size→¬ Live s μ b→w'.heap[b]?=w.heap[b]?
 live:∀ b,b<w.heap.size→Live s' μ' b→Live s μ b
 mu:muLe μ μ'
 cle:c≤c'
 kept:∀ nm,nm<c→μ nm=none→μ' nm=none
 new:∀ b,b<w.heap.size→Nm μ' b→Nm μ b
theorem nonew {μ:Mu} {n:Nat}:∀ b,b<n→Nm μ b→Nm μ b:=fun _ _ h=>h
theorem Fr.refl (c:Nat) (s:St) (μ:Mu) (w:World):Fr c s μ w c s μ w:=⟨Nat.le_refl _,fun _ _ _=>rfl,fun _ _ h=>h,muLe.refl μ,Nat.le_refl _,fun _ _ h=>h,nonew⟩
theorem Fr.trans {c c1 c2:Nat} {s s1 s2:St} {μ μ1 μ2:Mu} {w w1 w2:World} (h:Fr c s μ w c1 s1 μ1 w1) (h':Fr c1 s1 μ1 w1 c2 s2 μ2 w2):Fr c s μ w c2 s2 μ2 w2:=
 ⟨Nat.le_trans h.size h'.size,fun b hb hl=>by
  rw [h'.same b (Nat.lt_of_lt_of_le hb h.size) (fun e=>hl (h.live b hb e)),h.same b hb hl],
  fun b hb e=>h.live b hb (h'.live b (Nat.lt_of_lt_of_le hb h.size) e),fun n l e=>h'.mu n l (h.mu n l e),Nat.le_trans h.cle h'.cle,fun nm hn e=>h'.kept nm (Nat.lt_of_lt_of_le hn h.cle) (h.kept nm hn e),
  fun b hb hn=>h.new b hb (h'.new b (Nat.lt_of_lt_of_le hb h.size) hn)⟩
section
variable {P:Program} {M M':Nat→Prop} {w w':World} {μ μ':Mu}
theorem MEs.mono (hx:Ext M w M' w') (hm:muLe μ μ'):∀ {es:List (D × D × Nat)} {vs:List MapEntry},MEs M w μ es vs→MEs M' w' μ' es vs
 | [],_,h=>by simpa only [MEs] using h
 | (k,v,n)::r,_,h=>by
  simp only [MEs] at h ⊢
  obtain ⟨e,r',rfl,h1,h2,h3,h4⟩:=h
  exact ⟨e,r',rfl,VRel.mono hx _ _ hm h1,VRel.mono hx _ _ hm h2,h3,MEs.mono hx hm h4⟩
theorem DfRel.mono (hx:Ext M w M' w') (hm:muLe μ μ'):∀ {l:List (D × List D)} {ds:List Deferred},DfRel M w μ l ds→DfRel M' w' μ' l ds
 | [],_,h=>by simpa only [DfRel] using h
 | (f,as)::r,ds,h=>by
  cases f
  case it nm=>
   simp only [DfRel] at h ⊢
   obtain ⟨l,b,r',h1,h2,rfl,h3⟩:=h
   exact ⟨l,b,r',hm _ _ h1,h2,rfl,DfRel.mono hx hm h3⟩
  all_goals
   unfold DfRel at h ⊢
   obtain ⟨fn,first,cap,args,r',h1,h2,rfl,h3⟩:=h
   exact ⟨fn,first,cap,args,r',VRel.mono hx _ _ hm h1,VRels.mono hx _ _ hm h2,rfl,DfRel.mono hx hm h3⟩
theorem BRel.mono {nm:Nat} {blk:Blk} (hx:Ext M w M' w') (hm:muLe μ μ')
  (hb:∀ l b,μ nm=some l→l.blk=some b→w'.heap[b]?=w.heap[b]?∧(M b→M' b)) (h:BRel P M w μ nm blk):BRel P M' w' μ' nm blk:=by
 cases blk with
 | fix ty cs=>
  obtain ⟨l,b,vs,e,fz,h1,h2,h3,h4,h5,h6,h7,h8⟩:=h
  exact ⟨l,b,vs,e,fz,hm _ _ h1,h2,h3,(hb l b h1 h2).2 h4,by rw [(hb l b h1 h2).1]; exact h5,h6,VRels.mono hx _ _ hm h7,h8⟩
 | grow ty cs=>
  obtain ⟨l,h1,h⟩:=h
  refine ⟨l,hm _ _ h1,h.imp id ?_⟩
  rintro ⟨b,vs,e,fz,h2,h4,h5,h6,h7,h8,h9,h10⟩
  exact ⟨b,vs,e,fz,h2,(hb l b h1 h2).2 h4,by rw [(hb l b h1 h2).1]; exact h5,h6,h7,h8,VRels.mono hx _ _ hm h9,h10⟩
 | iter s pos=>
  obtain ⟨l,b,h1,h2,h4,h5⟩:=h
  exact ⟨l,b,hm _ _ h1,h2,(hb l b h1 h2).2 h4,by rw [(hb l b h1 h2).1]; exact h5⟩
 | mp es c=>
  obtain ⟨l,b,ents,h1,h2,h4,h5,h6⟩:=h
  exact ⟨l,b,ents,hm _ _ h1,h2,(hb l b h1 h2).2 h4,by rw [(hb l b h1 h2).1]; exact h5,MEs.mono hx hm h6⟩
 | mit m since sn last=>
  obtain ⟨l,b,mo,h1,h2,h4,h5,h6⟩:=h
  refine ⟨l,b,mo,hm _ _ h1,h2,(hb l b h1 h2).2 h4,by rw [(hb l b h1 h2).1]; exact h5,?_⟩
  cases m with
  | none=>exact h6
  | some mn=>
   obtain ⟨l',bm,h7,h8,h9⟩:=h6
   exact ⟨l',bm,hm _ _ h7,h8,h9⟩
 | lp st pend t ps a b=>
  obtain ⟨l,bk,lo,N,h1,h2,h4,h5,h6,h7,h8,h9,h10,h11,h12,h13⟩:=h
  exact ⟨l,bk,lo,N,hm _ _ h1,h2,(hb l bk h1 h2).2 h4,by rw [(hb l bk h1 h2).1]; exact h5,h6,h7,h8,h9,h10,h11,h12,fun n=>VRel.mono hx _ _ hm (h13 n)⟩
 | dfd=>
  obtain ⟨l,b,h1,h2,h4,h5⟩:=h
  exact ⟨l,b,hm _ _ h1,h2,(hb l b h1 h2).2 h4,by rw [(hb l b h1 h2).1]; exact h5⟩
end
section
variable {E:Env} {M0:Nat→Prop} {w0:World} {N:Nat} {μ:Mu} {M:Nat→Prop} {a:Act} {w:World} {x:AS}
theorem ext_mu {μ':Mu} {w':World} (hs:w.heap.size≤w'.heap.size) (hsame:∀ b,b<w.heap.size→¬ Mm M0 μ b→w'.heap[b]?=w.heap[b]?) (hm:muLe μ μ')
  (hn:∀ b,b<w.heap.size→Nm μ' b→Nm μ b):Ext (Mm M0 μ) w (Mm M0 μ') w':=
 ⟨hs,hsame,fun b hb h=>h.imp id (hn b hb)⟩
theorem Mm.named {nm:Nat} {l:Loc} {b:Nat} (h:μ nm=some l) (hb:l.blk=some b):Mm M0 μ b := .inr ⟨nm,l,h,hb⟩
theorem Mm.mono {μ':Mu} (hm:muLe μ μ') {b:Nat} (h:Mm M0 μ b):Mm M0 μ' b:=h.imp id fun ⟨nm,l,h1,h2⟩=>⟨nm,l,hm nm l h1,h2⟩
theorem Mm.set {nm:Nat} {l:Loc} {b:Nat} (hb:l.blk=some b):Mm M0 (muSet μ nm (some l)) b := .inr ⟨nm,l,by simp [muSet],hb⟩
theorem Fr.ext {c c':Nat} {s s':St} {μ':Mu} {w':World} (h:Fr c s μ w c' s' μ' w'):Ext (Mm M0 μ) w (Mm M0 μ') w':=
 ext_mu h.size (fun b hb hn=>h.same b hb fun ⟨nm,l,_,h1,h2⟩=>hn (.inr ⟨nm,l,h1,h2⟩)) h.mu h.new
theorem Rel.isM (h:Rel E M0 w0 N μ a w x) {nm:Nat} {l:Loc} {b:Nat} (hl:μ nm=some l) (hb:l.blk=some b):Mm M0 μ b := .inr ⟨nm,l,hl,hb⟩
theorem Rel.congr (h:Rel E M0 w0 N μ a w x) {x':AS} (ht:∀ n,tget x'.t n=tget x.t n∨tget x'.t n = .un) (hs:∀ n,sget x'.s n=sget x.s n) (hc:x.c≤x'.c) (hd:x'.d=x.d):Rel E M0 w0 N μ a w x':=
 {h with
  defers:=by rw [hd]; exact h.defers
  tm:=fun n=>by
   rcases ht n with e|e
   ·rw [e]; exact h.tm n
   ·rw [e]; simp only [VRel]
  st:=fun nm blk l hl hb=>h.st nm blk l hl (by rw [←hs]; exact hb)
  lt:=fun nm l hl=>Nat.lt_of_lt_of_le (h.lt nm l hl) hc
  inj:=fun n m l l' b h1 h2=>h.inj n m l l' b (by rw [←hs]; exact h1) (by rw [←hs]; exact h2) }
theorem Rel.world (h:Rel E M0 w0 N μ a w x) {w':World} (hw:w'.heap=w.heap) (he:Env0 w w':=by exact ⟨rfl,rfl⟩):Rel E M0 w0 N μ a w' x:=by
 have hx:Ext (Mm M0 μ) w (Mm M0 μ) w':=⟨by rw [hw]; exact Nat.le_refl _,fun b _ _=>by rw [hw],fun b _ hm=>hm⟩
 exact {h with
  size:=by rw [hw]; exact h.size
  old:=fun b hb=>by rw [hw]; exact h.old b hb
  env:=⟨he.1.trans h.env.1,he.2.trans h.env.2⟩
  defers:=DfRel.mono hx (muLe.refl _) h.defers
  own:=fun nm l b h1 h2=>by rw [hw]; exact h.own nm l b h1 h2
  tm:=fun n=>VRel.mono hx _ _ (muLe.refl _) (h.tm n)
  st:=fun nm blk l hl hb=>BRel.mono hx (muLe.refl _) (fun l b _ _=>⟨by rw [hw],id⟩) (h.st nm blk l hl hb) }
theorem getD_put {a:Act} {d:Nat} {v:Value} (hd:d<a.tmps.size) (n:Nat) :
  (a.put (some d) v).tmps.getD n undef=if n=d then v else a.tmps.getD n undef:=by
 simp only [Act.put]
 by_cases h:n=d
 ·subst h
  simp [Array.getD_eq_getD_getElem?,hd]
 ·simp only [Array.getD_eq_getD_getElem?,if_neg h]
  rw [Array.getElem?_setIfInBounds_ne (fun e=>h e.symm)]
theorem Rel.put (h:Rel E M0 w0 N μ a w x) {dst:Option Nat} {d:D} {v:Value} (hd:(match dst with|some k=>Nat.blt k N|none=>true)=true)
  (hv:VRel (Mm M0 μ) w μ d v):Rel E M0 w0 N μ (a.put dst v) w (x.put dst d):=by
 cases dst with
 | none=>exact h
 | some k=>
  have hk:k<a.tmps.size:=Nat.lt_of_lt_of_le (by simpa [Nat.blt_eq] using hd) h.n
  exact {h with
   n:=by simpa [Act.put] using h.n
   defers:=h.defers
   tm:=fun n=>by
    rw [getD_put hk]
    simp only [AS.put,tget_tput]
    by_cases hn:n=k
    ·rw [if_pos hn,if_pos hn]; exact hv
    ·rw [if_neg hn,if_neg hn]; exact h.tm n }
theorem Rel.less (h:Rel E M0 w0 N μ a w x) {s':St} (hs:∀ n b,sget s' n=some b→sget x.s n=some b):Rel E M0 w0 N μ a w ⟨x.t,s',x.c,x.d,x.r⟩∧Fr x.c x.s μ w x.c s' μ w:=by
 have hi:∀ n,(sget s' n).isSome=true→(sget x.s n).isSome=true:=fun n hn=>by
  obtain ⟨b,hb⟩:=Option.isSome_iff_exists.1 hn
  rw [hs n b hb]; rfl
 exact ⟨{h with
  st:=fun nm blk l hl hb=>h.st nm blk l hl (hs nm blk hb)
  lt:=h.lt
  inj:=fun n m l l' b h1 h2=>h.inj n m l l' b (hi n h1) (hi m h2) },
  ⟨Nat.le_refl _,fun _ _ _=>rfl,fun b _ ⟨nm,l,h1,h2,h3⟩=>⟨nm,l,hi nm h1,h2,h3⟩,muLe.refl μ,Nat.le_refl _,fun _ _ h=>h,nonew⟩⟩
theorem Rel.free (h:Rel E M0 w0 N μ a w x) {nm:Nat} (hn:x.c≤nm):μ nm=none:=by
 cases hl:μ nm with
 | none=>rfl
 | some l=>have:=h.lt nm l hl; omega
theorem Rel.free_le (h:Rel E M0 w0 N μ a w x) {nm:Nat} (hn:x.c≤nm) (loc:Option Loc):muLe μ (muSet μ nm loc):=fun n l hl=>by
 have:n≠nm:=fun e=>by have:=h.lt n l hl; omega
 simpa [muSet,this] using hl
theorem Rel.install (h:Rel E M0 w0 N μ a w x) (nm:Nat) (hn:x.c≤nm) (blk:Blk) (loc:Loc) {w':World} {x':AS}
  (hsz:w.heap.size≤w'.heap.size) (hsame:∀ b,b<w.heap.size→w'.heap[b]?=w.heap[b]?)
  (hb:∀ b,loc.blk=some b→w.heap.size≤b∧b<w'.heap.size) (ht:∀ n,tget x'.t n=tget x.t n) (hs:∀ n,sget x'.s n=if n=nm then some blk else sget x.s n)
  (hc:x'.c=nm+1) (hd:x'.d=x.d)
  (hB:Ext (Mm M0 μ) w (Mm M0 (muSet μ nm (some loc))) w'→BRel E.P (Mm M0 (muSet μ nm (some loc))) w' (muSet μ nm (some loc)) nm blk) (he:Env0 w w':=by exact ⟨rfl,rfl⟩) :
  Ext (Mm M0 μ) w (Mm M0 (muSet μ nm (some loc))) w'∧Rel E M0 w0 N (muSet μ nm (some loc)) a w' x'∧Fr x.c x.s μ w x'.c x'.s (muSet μ nm (some loc)) w':=by
 have hle:=h.free_le hn (some loc)
 have hnew:∀ b,b<w.heap.size→Nm (muSet μ nm (some loc)) b→Nm μ b:=fun b hlt ⟨k,l,hl,hlb⟩=>by
  by_cases hk:k=nm
  ·simp only [muSet,if_pos hk] at hl; cases hl; have:=(hb b hlb).1; omega
  ·simp only [muSet,if_neg hk] at hl; exact ⟨k,l,hl,hlb⟩
 have hx:Ext (Mm M0 μ) w (Mm M0 (muSet μ nm (some loc))) w':=ext_mu hsz (fun b hb _=>hsame b hb) hle hnew
 refine ⟨hx,{
  size:=Nat.le_trans h.size hsz
  old:=fun b hb=>by rw [hsame b (Nat.lt_of_lt_of_le hb h.size)]; exact h.old b hb
  env:=⟨he.1.trans h.env.1,he.2.trans h.env.2⟩
  m0lt:=h.m0lt
  defers:=by rw [hd]; exact DfRel.mono hx hle h.defers
  n:=h.n
  tm:=fun n=>by rw [ht]; exact VRel.mono hx _ _ hle (h.tm n)
  st:=fun k b l hl hk=>by
   rw [hs] at hk
   by_cases hkn:k=nm
   ·rw [if_pos hkn] at hk; cases hk; rw [hkn]; exact hB hx
   ·rw [if_neg hkn] at hk
    have hl':μ k=some l:=by simpa [muSet,hkn] using hl
    exact BRel.mono hx hle (fun l b hl hlb=>⟨hsame b (h.own k l b hl hlb).2,Mm.mono hle⟩) (h.st k b l hl' hk)
  lt:=fun k l hl=>by
   rw [hc]
   by_cases hkn:k=nm
   ·omega
   ·have:=h.lt k l (by simpa [muSet,hkn] using hl); omega
  own:=fun k l b hl hlb=>by
   by_cases hkn:k=nm
   ·simp only [muSet,if_pos hkn] at hl; cases hl
    exact ⟨Nat.le_trans h.size (hb b hlb).1,(hb b hlb).2⟩
   ·simp only [muSet,if_neg hkn] at hl
    exact ⟨(h.own k l b hl hlb).1,Nat.lt_of_lt_of_le (h.own k l b hl hlb).2 hsz⟩
  inj:=fun n m l l' b s1 s2 h1 h2 h3 h4=>by
   by_cases hn1:n=nm
   ·by_cases hm1:m=nm
    ·rw [hn1,hm1]
    ·simp only [muSet,if_pos hn1] at h1
     simp only [muSet,if_neg hm1] at h2
     cases h1
     have:=(hb b h3).1; have:=(h.own m l' b h2 h4).2; omega
   ·by_cases hm1:m=nm
    ·simp only [muSet,if_neg hn1] at h1
     simp only [muSet,if_pos hm1] at h2
     cases h2
     have:=(hb b h4).1; have:=(h.own n l b h1 h3).2; omega
    ·simp only [muSet,if_neg hn1] at h1
     simp only [muSet,if_neg hm1] at h2
     rw [hs,if_neg hn1] at s1
     rw [hs,if_neg hm1] at s2
     exact h.inj n m l l' b s1 s2 h1 h2 h3 h4
  glob:=h.glob },⟨hsz,fun b hb _=>hsame b hb,fun b hlt hl => ?_,hle,by rw [hc]; omega,fun m hm e=>by rw [muSet,if_neg (by omega)]; exact e,hnew⟩⟩
 obtain ⟨k,l,h1,h2,h3⟩:=hl
 by_cases hk:k=nm
 ·simp only [muSet,if_pos hk] at h2
  cases h2
  have:=(hb b h3).1; omega
 ·rw [hs,if_neg hk] at h1
  exact ⟨k,l,h1,by simpa [muSet,hk] using h2,h3⟩
theorem Rel.fresh (h:Rel E M0 w0 N μ a w x) (nm:Nat) (hn:x.c≤nm) (blk:Blk) (o:Obj) (cap:Nat) {w':World} {x':AS}
  (hw:w'.heap=w.heap.push o) (ht:∀ n,tget x'.t n=tget x.t n) (hs:∀ n,sget x'.s n=if n=nm then some blk else sget x.s n) (hc:x'.c=nm+1) (hd:x'.d=x.d)
  (hB:Ext (Mm M0 μ) w (Mm M0 (muSet μ nm (some ⟨some w.heap.size,cap⟩))) w'→Mm M0 (muSet μ nm (some ⟨some w.heap.size,cap⟩)) w.heap.size→BRel E.P (Mm M0 (muSet μ nm (some ⟨some w.heap.size,cap⟩))) w' (muSet μ nm (some ⟨some w.heap.size,cap⟩)) nm blk) (he:Env0 w w':=by exact ⟨rfl,rfl⟩) :
  Ext (Mm M0 μ) w (Mm M0 (muSet μ nm (some ⟨some w.heap.size,cap⟩))) w'∧Rel E M0 w0 N (muSet μ nm (some ⟨some w.heap.size,cap⟩)) a w' x'∧Fr x.c x.s μ w x'.c x'.s (muSet μ nm (some ⟨some w.heap.size,cap⟩)) w':=by
 have hget:∀ b,b<w.heap.size→w'.heap[b]?=w.heap[b]?:=fun b hb=>by
  rw [hw,Array.getElem?_push_lt hb,Array.getElem?_eq_getElem hb]
 have hsz:w'.heap.size=w.heap.size+1:=by rw [hw]; simp
 exact h.install nm hn blk ⟨some w.heap.size,cap⟩ (by omega) hget (fun b hb=>by cases hb; omega) ht hs hc hd (fun hx=>hB hx (Mm.set rfl)) he
theorem Rel.write (h:Rel E M0 w0 N μ a w x) (nm:Nat) (blk:Blk) (l:Loc) (b:Nat) {w':World} {x':AS} (hl:μ nm=some l) (hlb:l.blk=some b) (hlive:(sget x.s nm).isSome=true)
  (hsz:w'.heap.size=w.heap.size) (hheap:∀ k,k≠b→w'.heap[k]?=w.heap[k]?)
  (ht:∀ n,tget x'.t n=tget x.t n) (hs:∀ n,sget x'.s n=if n=nm then some blk else sget x.s n) (hc:x'.c=x.c) (hd:x'.d=x.d)
  (hB:Ext (Mm M0 μ) w (Mm M0 μ) w'→BRel E.P (Mm M0 μ) w' μ nm blk) (he:Env0 w w':=by exact ⟨rfl,rfl⟩):Ext (Mm M0 μ) w (Mm M0 μ) w'∧Rel E M0 w0 N μ a w' x'∧Fr x.c x.s μ w x'.c x'.s μ w':=by
 have hM:=h.isM hl hlb
 have hx:Ext (Mm M0 μ) w (Mm M0 μ) w':=⟨by omega,fun k _ hk=>hheap k fun e=>hk (e ▸ hM),fun _ _ hm=>hm⟩
 have hi:∀ n,(sget x'.s n).isSome=true→(sget x.s n).isSome=true:=fun n hn=>by
  rw [hs] at hn
  by_cases e:n=nm
  ·rw [e]; exact hlive
  ·rwa [if_neg e] at hn
 refine ⟨hx,{h with
  size:=by have:=h.size; omega
  old:=fun k hk=>by rw [hheap k fun e=>by have:=h.own nm l b hl hlb; omega]; exact h.old k hk
  env:=⟨he.1.trans h.env.1,he.2.trans h.env.2⟩
  defers:=by rw [hd]; exact DfRel.mono hx (muLe.refl _) h.defers
  tm:=fun n=>by rw [ht]; exact VRel.mono hx _ _ (muLe.refl _) (h.tm n)
  own:=fun nm l b h1 h2=>by rw [hsz]; exact h.own nm l b h1 h2
  lt:=fun nm l hl=>by rw [hc]; exact h.lt nm l hl
  inj:=fun n m l l' b s1 s2=>h.inj n m l l' b (hi n s1) (hi m s2)
  st:=fun k bk lk hlk hk=>by
   rw [hs] at hk
   by_cases hkn:k=nm
   ·rw [if_pos hkn] at hk; cases hk; rw [hkn]; exact hB hx
   ·rw [if_neg hkn] at hk
    refine BRel.mono hx (muLe.refl _) (fun l' b' hl' hlb'=>⟨hheap b' fun e => ?_,id⟩) (h.st k bk lk hlk hk)
    subst e
    exact hkn (h.inj k nm l' l b' (by rw [hk]; rfl) hlive hl' hl hlb' hlb) },
  ⟨by omega,fun k hk hn=>hheap k fun e=>hn (e ▸ ⟨nm,l,hlive,hl,hlb⟩),fun k _ ⟨n,l,h1,h2,h3⟩=>⟨n,l,hi n h1,h2,h3⟩,muLe.refl μ,by rw [hc]; exact Nat.le_refl _,fun _ _ h=>h,nonew⟩⟩
theorem Rel.globals (h:Rel E M0 w0 N μ a w x):GRel E (Mm M0 μ) w:=fun p hp=>by
 obtain ⟨h1,h2,h3⟩:=h.glob p hp
 have hx:Ext M0 w0 (Mm M0 μ) w:=⟨h.size,fun b hb _=>h.old b hb,fun b hb hm=>by
  rcases hm with hm|⟨nm,l,e1,e2⟩
  ·exact hm
  ·have:=(h.own nm l b e1 e2).1; omega⟩
 refine ⟨fun hm=>h1 (hx.less p.1 h2 hm),Nat.lt_of_lt_of_le h2 h.size,CRel.mono hx p.1 h1 h2 p.2 0 h3⟩
end
end Zv
namespace Zv.Ab
open Go Zv
def m (a b:Nat):AOper:=⟨some a,.mv (.t b),none⟩
def l (a b:Nat):AOper:=⟨some a,.ld none (.t b),none⟩
def u (a:Nat) (o:AOp):AOper:=⟨some a,o,none⟩
def w (o:AOp):AOper:=⟨none,o,none⟩
def my (a b g:Nat):AOper:=⟨some a,.mv (.t b),some (g,true)⟩
def mn (a b g:Nat):AOper:=⟨some a,.mv (.t b),some (g,false)⟩
def y (a g:Nat) (o:AOp):AOper:=⟨some a,o,some (g,true)⟩
def n (a g:Nat) (o:AOp):AOper:=⟨some a,o,some (g,false)⟩
def e (a k b:Nat):AOper:=⟨some a,.ext k (.t b),none⟩
def f (a k b:Nat):AOper:=⟨some a,.fa k (.t b),none⟩
def b (a:Nat) (o:BinOp) (x z:Nat):AOper:=⟨some a,.bin o (.t x) (.t z),none⟩
def d (a:Nat) (o:BinOp) (x:Nat) (z:D):AOper:=⟨some a,.bin o (.t x) (.c z),none⟩
def c (a:Nat) (z:D):AOper:=⟨some a,.mv (.c z),none⟩
def s (x z:AC):AC := .seq x z
def r (x:List AOper):AC := .reg none x
def i (x:Int):D := .int .i64 x
theorem abq:(∀ a b,m a b=⟨some a,.mv (.t b),none⟩)∧(∀ a b,l a b=⟨some a,.ld none (.t b),none⟩)∧(∀ a o,u a o=⟨some a,o,none⟩)∧(∀ o,w o=⟨none,o,none⟩)∧(∀ a b g,my a b g=⟨some a,.mv (.t b),some (g,true)⟩)∧(∀ a b g,mn a b g=⟨some a,.mv (.t b),some (g,false)⟩)∧(∀ a g o,y a g o=⟨some a,o,some (g,true)⟩)∧(∀ a g o,n a g o=⟨some a,o,some (g,false)⟩) ∧
  (∀ x,r x = .reg none x)∧(∀ x,i x = .int .i64 x)∧(∀ a k b,e a k b=⟨some a,.ext k (.t b),none⟩)∧(∀ a k b,f a k b=⟨some a,.fa k (.t b),none⟩)∧(∀ a o x z,b a o x z=⟨some a,.bin o (.t x) (.t z),none⟩)∧(∀ a o x z,d a o x z=⟨some a,.bin o (.t x) (.c z),none⟩)∧(∀ a z,c a z=⟨some a,.mv (.c z),none⟩)∧∀ x z,s x z = .seq x z:=
 ⟨fun _ _=>rfl,fun _ _=>rfl,fun _ _=>rfl,fun _=>rfl,fun _ _ _=>rfl,fun _ _ _=>rfl,fun _ _ _=>rfl,fun _ _ _=>rfl,fun _=>rfl,fun _=>rfl,fun _ _ _=>rfl,fun _ _ _=>rfl,fun _ _ _ _=>rfl,fun _ _ _ _=>rfl,fun _ _=>rfl,fun _ _=>rfl⟩
end Zv.Ab
