/- Values, stores, operations and code of the abstract interpreter: what each operation computes on data. Conditions: none. -/
import Derived.Orders
import Derived.Scope
import Derived.KernelRfl
set_option linter.unusedVariables false
namespace Zv
open Go
theorem aB.{u,v}:type_of% @Option.bind_eq_some_iff.{u,v}:=@Option.bind_eq_some_iff
theorem aC.{u}:type_of% @Option.bind_eq_bind.{u}:=@Option.bind_eq_bind
theorem aD.{u}:type_of% @Option.some.injEq.{u}:=@Option.some.injEq
theorem aE:type_of% @decide_eq_false:=@decide_eq_false
theorem aG.{u}:type_of% @if_neg.{u}:=@if_neg
theorem aH:type_of% @decide_eq_true:=@decide_eq_true
theorem aI.{u}:type_of% @List.getElem?_eq_getElem.{u}:=@List.getElem?_eq_getElem
theorem aK:type_of% @Nat.le_refl:=@Nat.le_refl
theorem aL:type_of% @eq_false:=@eq_false
theorem aM:type_of% @not_true_eq_false:=@not_true_eq_false
theorem aN:type_of% @not_false_eq_true:=@not_false_eq_true
theorem aO.{u}:type_of% @List.length_cons.{u}:=@List.length_cons
theorem aP:type_of% @decide_false:=@decide_false
theorem aQ:type_of% @decide_true:=@decide_true
theorem aR:type_of% @Result.andThen_ok:=@Result.andThen_ok
theorem aS.{u}:type_of% @if_pos.{u}:=@if_pos
theorem aT.{u,v}:type_of% @Option.map_eq_some_iff.{u,v}:=@Option.map_eq_some_iff
theorem aV.{u}:type_of% @List.getElem?_cons_zero.{u}:=@List.getElem?_cons_zero
theorem aW:type_of% @Bool.not_false:=@Bool.not_false
theorem aX.{u}:type_of% @List.length_nil.{u}:=@List.length_nil
theorem bD:type_of% @Bool.not_true:=@Bool.not_true
theorem bE.{u,v}:type_of% @Option.bind_some.{u,v}:=@Option.bind_some
theorem bG.{u}:type_of% @cond_true.{u}:=@cond_true
theorem bH:type_of% @Nat.eq_of_beq_eq_true:=@Nat.eq_of_beq_eq_true
theorem bJ:type_of% @Sem.run_bind:=@Sem.run_bind
theorem bL:type_of% @run_underlying:=@run_underlying
theorem bM:type_of% @Nat.zero_add:=@Nat.zero_add
theorem bN:type_of% @decide_not:=@decide_not
theorem bO:type_of% @Nat.ble_eq_true_of_le:=@Nat.ble_eq_true_of_le
theorem bQ.{u}:type_of% @List.getElem_mem.{u}:=@List.getElem_mem
theorem bR.{u,v}:type_of% @Option.map_some.{u,v}:=@Option.map_some
theorem bS.{u,v}:type_of% @List.map_cons.{u,v}:=@List.map_cons
theorem bV:type_of% @Sem.run_pure:=@Sem.run_pure
theorem bW:type_of% @Bool.and_eq_true:=@Bool.and_eq_true
theorem bY:type_of% @Nat.lt_of_lt_of_le:=@Nat.lt_of_lt_of_le
theorem bZ:type_of% @decide_eq_true_eq:=@decide_eq_true_eq
theorem cA.{u}:type_of% @List.cons_append.{u}:=@List.cons_append
theorem cB.{u}:type_of% @Option.isNone_none.{u}:=@Option.isNone_none
theorem cC.{u}:type_of% @List.take_zero.{u}:=@List.take_zero
theorem cD:type_of% @decide_eq_false_iff_not:=@decide_eq_false_iff_not
theorem cE.{u}:type_of% @List.mem_cons_self.{u}:=@List.mem_cons_self
theorem cF.{u}:type_of% @List.all_eq_true.{u}:=@List.all_eq_true
theorem cH.{u}:type_of% @List.mem_cons.{u}:=@List.mem_cons
theorem cK.{u}:type_of% @List.nil_append.{u}:=@List.nil_append
theorem cO.{u}:type_of% @cond_false.{u}:=@cond_false
theorem cQ:type_of% @Int.toNat_natCast:=@Int.toNat_natCast
theorem cS.{u}:type_of% @List.take_of_length_le.{u}:=@List.take_of_length_le
theorem cT:type_of% @Bool.false_eq_true:=@Bool.false_eq_true
theorem cU:type_of% @Nat.le_of_ble_eq_true:=@Nat.le_of_ble_eq_true
theorem cY.{u,v}:type_of% @List.mem_map.{u,v}:=@List.mem_map
theorem dA.{u}:type_of% @List.mem_cons_of_mem.{u}:=@List.mem_cons_of_mem
theorem dB.{u,v}:type_of% @List.length_map.{u,v}:=@List.length_map
theorem dD.{u}:type_of% @List.all_nil.{u}:=@List.all_nil
theorem dE.{u}:type_of% @List.getElem?_eq_some_iff.{u}:=@List.getElem?_eq_some_iff
theorem dG.{u}:type_of% @List.append_nil.{u}:=@List.append_nil
theorem dJ.{u}:type_of% @ne_eq.{u}:=@ne_eq
theorem dK:type_of% @step_lone_go:=@step_lone_go
theorem dM:type_of% @Nat.zero_le:=@Nat.zero_le
theorem dO.{u}:type_of% @List.flatten_cons.{u}:=@List.flatten_cons
theorem dS:type_of% @Nat.mul_one:=@Nat.mul_one
theorem dU.{u,v}:type_of% @List.map_nil.{u,v}:=@List.map_nil
theorem dZ.{u}:type_of% @List.length_append.{u}:=@List.length_append
theorem eA:type_of% @Nat.zero_mul:=@Nat.zero_mul
theorem eC:type_of% @Nat.lt_of_not_le:=@Nat.lt_of_not_le
theorem eH.{u}:type_of% @List.mem_of_mem_take.{u}:=@List.mem_of_mem_take
theorem eI.{u}:type_of% @List.length_take.{u}:=@List.length_take
theorem eM.{u}:type_of% @List.eq_nil_of_length_eq_zero.{u}:=@List.eq_nil_of_length_eq_zero
theorem eO.{u,v}:type_of% @Prod.mk.injEq.{u,v}:=@Prod.mk.injEq
theorem eP.{u}:type_of% @Option.isSome_iff_exists.{u}:=@Option.isSome_iff_exists
theorem eQ:type_of% @Nat.beq_refl:=@Nat.beq_refl
theorem eS.{u}:type_of% @beq_self_eq_true.{u}:=@beq_self_eq_true
theorem eV.{u}:type_of% @List.getElem_of_mem.{u}:=@List.getElem_of_mem
theorem fF:type_of% @Bool.eq_iff_iff:=@Bool.eq_iff_iff
theorem fV.{u}:type_of% @List.mem_singleton.{u}:=@List.mem_singleton
theorem fW:type_of% @Steps.trans:=@Steps.trans
theorem fZ:type_of% @Nat.le_trans:=@Nat.le_trans
theorem gI:type_of% @Bool.not_eq_true:=@Bool.not_eq_true
theorem gP.{u}:type_of% @List.length_drop.{u}:=@List.length_drop
theorem gQ.{u}:type_of% @List.drop_zero.{u}:=@List.drop_zero
theorem gV.{u}:type_of% @Array.getD_eq_getD_getElem?.{u}:=@Array.getD_eq_getD_getElem?
theorem gZ.{u}:type_of% @Array.length_toList.{u}:=@Array.length_toList
theorem iI:type_of% @Nat.lt_succ_iff_lt_or_eq:=@Nat.lt_succ_iff_lt_or_eq
theorem iV.{u}:type_of% @if_false.{u}:=@if_false
theorem kH.{u}:type_of% @List.getElem?_eq_none.{u}:=@List.getElem?_eq_none
theorem mJ.{u}:type_of% @List.getD_eq_getElem?_getD.{u}:=@List.getD_eq_getElem?_getD
inductive D where
 | un
 | bool (b:Bool)
 | int (k:IntKind) (n:Int)
 | str (s:List UInt8)
 | agg (cs:List D)
 | tup (cs:List D)
 | nils
 | sl (ex:Bool) (len:Nat) (cells:List D)
 | ms (nm off sz len cap:Nat)
 | gs (nm off sz len:Nat)
 | ptr (nm off:Nat)
 | iptr (cells:List D) (off:Nat)
 | nilp
 | iface (t:Nat) (d:D)
 | nilif
 | fn (f:Fn) (fs cs:List D)
 | nilfn
 | nilm
 | mp (nm:Nat)
 | yl (nm:Nat)
 | it (nm:Nat)
 | adr (b off:Nat)
 deriving Inhabited
inductive ET where
 | int
 | bool
 | str
 | parts (l:List (Nat×Option Nat×ET))
 deriving Inhabited
inductive EK where
 | ty (t:ET)
 | slc
 | mpk
 | ptr
 | ifc (c:Bool)
 | fnc
 deriving Inhabited
inductive Arg where
 | t (n:Nat)
 | c (d:D)
 | g (n:Nat)
 | f (n:Nat)
 deriving Inhabited
inductive XL where
 | idb
 | ctb
 | idn
 | upt
 | ufp (u n:Nat)
 | sda
 | peq (neg:Bool)
 | mml (mx:Bool)
 deriving Inhabited
inductive XA where
 | apz (sz bytes:Nat) (z:List D)
 | ust (ty:Nat)
 | mnz (ty:Nat)
 deriving Inhabited
inductive AOp where
 | mv (x:Arg)
 | pick (c a b:Arg)
 | new (ty:Nat) (x:Arg)
 | ld (sz:Option Nat) (x:Arg)
 | st (n:Nat) (x v:Arg)
 | fa (off:Nat) (x:Arg)
 | iaA (n sz:Nat) (x i:Arg)
 | iaS (sz:Nat) (x i:Arg)
 | ixA (n sz:Nat) (ag:Bool) (x i:Arg)
 | ixS (x i:Arg)
 | fld (off:Nat) (sz:Option Nat) (x:Arg)
 | ext (i:Nat) (x:Arg)
 | bin (op:BinOp) (x y:Arg)
 | cmp (neg:Bool) (k:EK) (x y:Arg)
 | un (op:UnOp) (x:Arg)
 | bld (cells:List D) (parts:List (Nat×Nat×Arg))
 | bsl (len sz:Nat) (cells:List D) (parts:List (Nat×Nat×Arg))
 | mks (sz bytes:Nat) (zero:List D) (l c:Arg)
 | slS (x:Arg) (l h:Option Arg)
 | slV (sz:Nat) (x:Arg) (l h m:Option Arg)
 | slA (n sz:Nat) (x:Arg) (l h m:Option Arg)
 | len (st:Bool) (x:Arg)
 | cap (x:Arg)
 | app (sz bytes ty:Nat) (x y:Arg)
 | copy (sz:Nat) (x y:Arg)
 | cvI (k:IntKind) (x:Arg)
 | cvN (x:Arg)
 | cvB (x:Arg)
 | cvS (x:Arg)
 | mkif (t:Nat) (x:Arg)
 | mkfn (f:Fn) (fs cs:List Arg)
 | nilc (x:Arg)
 | rng (x:Arg)
 | next (x:Arg)
 | mm (mx:Bool) (x y:Arg)
 | mkm
 | mlk (z:D) (ok:Bool) (k:ET) (x i:Arg)
 | mup (k:ET) (x i v:Arg)
 | men (z:D) (k:ET) (x i:Arg)
 | mst (x i v:Arg)
 | mln (x:Arg)
 | rgm (x:Arg)
 | nxm (x:Arg)
 | ent (x:Arg)
 | tas (t:Nat) (z:D) (ok:Bool) (x:Arg)
 | tai (l:List Nat) (ok:Bool) (x:Arg)
 | call (f:Nat) (args:List Arg)
 | callv (x:Arg) (args:List Arg)
 | inv (name:String) (x:Arg) (args:List Arg)
 | pan (x:Arg)
 | dfr (x:Arg) (args:List Arg)
 | rcv
 | xl (k:XL) (l:List Arg)
 | xa (k:XA) (l:List Arg)
 deriving Inhabited
structure cR where
 dst:Option Nat
 op:AOp
 guard:Option (Nat×Bool)
 deriving Inhabited
inductive AC where
 | skip
 | reg (dr:Option (List (Nat×Nat))) (ops:List cR)
 | seq (a b:AC)
 | cond (c:Arg) (a b:AC)
 | block (id:Nat) (a:AC)
 | loop (a:AC)
 | exit (id:Nat)
 | scope (a:AC)
 | ret
 | rfn (f:Arg) (ps:List Nat) (a b:AC)
 | lab (n:Nat) (r a:AC)
 deriving Inhabited
inductive Tr (α:Type) where
 | ls (l:List (Nat×α))
 | nd (a b:Tr α)
 deriving Inhabited
noncomputable section
def lget_nil{α:Type}(_:Nat):Option α:=none
def lget_cons{α:Type}(p:Nat×α)(_:List (Nat×α))(ih:Nat→Option α)(n:Nat):Option α:=Bool.rec (ih n) (some p.2) (Nat.beq n p.1)
def lget{α:Type}(l:List (Nat×α))(n:Nat):Option α:=List.rec (motive:=fun _=>Nat→Option α) lget_nil lget_cons l n
def lset_nil{α:Type}(n:Nat)(v:α):List (Nat×α):=[(n,v)]
def lset_cons{α:Type}(p:Nat×α)(r:List (Nat×α))(ih:Nat→α→List (Nat×α))(n:Nat)(v:α):List (Nat×α):=Bool.rec (p::ih n v) ((n,v)::r) (Nat.beq n p.1)
def lset{α:Type}(l:List (Nat×α))(n:Nat)(v:α):List (Nat×α):=List.rec (motive:=fun _=>Nat→α→List (Nat×α)) lset_nil lset_cons l n v
def ldel{α:Type}:List (Nat×α)→Nat→List (Nat×α)
 | [],_=>[]
 | (k,v)::r,n=>bif Nat.beq n k then ldel r n else(k,v)::ldel r n
def trget_ls{α:Type}(l:List (Nat×α))(n:Nat):Option α:=lget l n
def trget_nd{α:Type}(_ _:Tr α)(Dr Ix:Nat→Option α)(n:Nat):Option α:=Nat.rec (Dr (n / 2)) (fun _ _=>Ix (n / 2)) (n % 2)
def Tr.get{α:Type}(t:Tr α)(n:Nat):Option α:=Tr.rec (motive:=fun _=>Nat→Option α) trget_ls trget_nd t n
def trset_ls{α:Type}(l:List (Nat×α))(n:Nat)(v:α):Tr α:=.ls (lset l n v)
def trset_nd{α:Type}(a b:Tr α)(Dr Ix:Nat→α→Tr α)(n:Nat)(v:α):Tr α:=Nat.rec (.nd (Dr (n / 2) v) b) (fun _ _=>.nd a (Ix (n / 2) v)) (n % 2)
def Tr.set{α:Type}(t:Tr α)(n:Nat)(v:α):Tr α:=Tr.rec (motive:=fun _=>Nat→α→Tr α) trset_ls trset_nd t n v
def tradd_ls{α:Type}(l:List (Nat×α))(n:Nat)(v:α):Tr α:=.ls ((n,v)::l)
def Tr.add{α:Type}(t:Tr α)(n:Nat)(v:α):Tr α:=Tr.rec (motive:=fun _=>Nat→α→Tr α) tradd_ls trset_nd t n v
def trdel_ls{α:Type}(l:List (Nat×α))(n:Nat):Tr α:=.ls (ldel l n)
def trdel_nd{α:Type}(a b:Tr α)(Dr Ix:Nat→Tr α)(n:Nat):Tr α:=Nat.rec (.nd (Dr (n / 2)) b) (fun _ _=>.nd a (Ix (n / 2))) (n % 2)
def Tr.del{α:Type}(t:Tr α)(n:Nat):Tr α:=Tr.rec (motive:=fun _=>Nat→Tr α) trdel_ls trdel_nd t n
def Tr.mk{α:Type}:Nat→Tr α
 | 0=>.ls []
 | n+1=>.nd (Tr.mk n) (Tr.mk n)
inductive Blk where
 | fix (ty:Nat) (cells:List D)
 | grow (ty:Nat) (cells:List D)
 | iter (s:List UInt8) (pos:Nat)
 | mp (es:List (D×D×Nat)) (clock:Nat)
 | mit (m:Option Nat) (Ak:Nat) (seen:List Nat) (Xv:Nat)
 | lp (st:LoopState) (Ck:Option (Option Nat)) (t:Tr D) (ps:List Nat) (a b:AC)
 | dfd
 deriving Inhabited
abbrev Tm:=Tr D
abbrev St:=Tr Blk
structure AS where
 t:Tm
 s:St
 c:Nat
 d:List (D×List D)
 r:Option Nat
def undD:Option D→D:=Option.rec .un (fun d=>d)
def tget(t:Tm)(n:Nat):D:=undD (t.get n)
def sget(s:St)(n:Nat):Option Blk:=s.get n
def sset(s:St)(n:Nat)(b:Blk):St:=s.set n b
def sadd(s:St)(n:Nat)(b:Blk):St:=s.add n b
def sdel(s:St)(n:Nat):St:=s.del n
def tput(t:Tm)(n:Nat)(d:D):Tm:=t.set n d
mutual
def D.pure:D→Bool
 | .agg cs=>D.pures cs
 | .tup cs=>D.pures cs
 | .ms ..=>false
 | .gs ..=>false
 | .ptr ..=>false
 | .it ..=>false
 | .mp ..=>false
 | .yl ..=>false
 | .iface _ d=>D.pure d
 | .fn _ a b=>D.pures a&&D.pures b
 | _=>true
def D.pures:List D→Bool
 | []=>true
 | d::r=>D.pure d&&D.pures r
end
mutual
def D.flat:D→Bool
 | .agg cs=>D.flats cs
 | .tup cs=>D.flats cs
 | .bool _=>true
 | .int _ _=>true
 | .str _=>true
 | .un=>true
 | .nils=>true
 | .nilp=>true
 | .nilif=>true
 | .nilfn=>true
 | .nilm=>true
 | .iface _ d=>D.flat d
 | _=>false
def D.flats:List D→Bool
 | []=>true
 | d::r=>D.flat d&&D.flats r
end
def fr:Nat→St→D→Option D
 | 0,_,d=>bif d.pure then some d else none
 | n+1,s,d=>bif d.pure then some d else
  match d with
  | .agg cs=>(cs.mapM (fr n s)).map .agg
  | .tup cs=>(cs.mapM (fr n s)).map .tup
  | .iface t d=>(fr n s d).map (.iface t)
  | .fn f a b=>do let a ←a.mapM (fr n s);let b ←b.mapM (fr n s);some (.fn f a b)
  | .ms nm off sz len cap=>
   match sget s nm with
   | some (.fix _ cs)=>bif Nat.ble (off+len*sz) cs.length then(((cs.drop off).take (len*sz)).mapM (fr n s)).map (.sl (Nat.beq cap len) len) else none
   | some (.grow _ cs)=>bif Nat.ble (off+len*sz) cs.length then(((cs.drop off).take (len*sz)).mapM (fr n s)).map (.sl (Nat.beq cap len) len) else none
   | _=>none
  | .gs nm off sz len=>
   match sget s nm with
   | some (.grow _ cs)=>bif Nat.ble (off+len*sz) cs.length then(((cs.drop off).take (len*sz)).mapM (fr n s)).map (.sl false len) else none
   | _=>none
  | .ptr nm off=>
   match sget s nm with
   | some (.fix _ cs)=>(cs.mapM (fr n s)).map fun cs=>.iptr cs off
   | _=>none
  | _=>none
def loK:IntKind→Nat
 | .i8=>128
 | .i16=>32768
 | .i32=>2147483648
 | .i64=>9223372036854775808
 | _=>0
def hiK:IntKind→Nat
 | .i8=>127
 | .i16=>32767
 | .i32=>2147483647
 | .i64=>9223372036854775807
 | .u8=>255
 | .u16=>65535
 | .u32=>4294967295
 | .u64=>18446744073709551615
def fitsD(k:IntKind)(n:Int):Bool:=
 match n with
 | .ofNat m=>Nat.ble m (hiK k)
 | .negSucc m=>Nat.ble (m+1) (loK k)
def bX(k:IntKind)(n:Int):Int:=bif fitsD k n then n else k.wrap n
def yX(op:BinOp)(k:IntKind)(x y:Int):Option D:=
 let a:=BitVec.ofInt k.bits x
 let b:=BitVec.ofInt k.bits y
 match op with
 | .and=>some (.int k (k.wrap (a&&&b).toNat))
 | .or=>some (.int k (k.wrap (a ||| b).toNat))
 | .xor=>some (.int k (k.wrap (a ^^^ b).toNat))
 | .andNot=>some (.int k (k.wrap (a &&& ~~~b).toNat))
 | _=>none
def strD(op:BinOp)(x y:List UInt8):Option D:=
 match op with
 | .add=>bif Nat.ble (x.length+y.length) 9223372036854775807 then some (.str (x++y)) else none
 | .eql=>some (.bool (x==y))
 | .neq=>some (.bool (!(x==y)))
 | .lss=>some (.bool (Op.bytesLess x y))
 | .leq=>some (.bool (Op.bytesLess x y||x==y))
 | .gtr=>some (.bool (!(Op.bytesLess x y||x==y)))
 | .geq=>some (.bool (!(Op.bytesLess x y)))
 | _=>none
def intD(op:BinOp)(k:IntKind)(x y:Int):Option D:=
 match op with
 | .add=>some (.int k (bX k (x+y)))
 | .sub=>some (.int k (bX k (x-y)))
 | .mul=>some (.int k (bX k (x*y)))
 | .quo=>if y=0 then none else some (.int k (bX k (x.tdiv y)))
 | .rem=>if y=0 then none else some (.int k (x.tmod y))
 | .eql=>some (.bool (x==y))
 | .neq=>some (.bool (x != y))
 | .lss=>some (.bool (decide (x<y)))
 | .leq=>some (.bool (decide (x≤y)))
 | .gtr=>some (.bool (decide (x>y)))
 | .geq=>some (.bool (decide (x≥y)))
 | op=>yX op k x y
def shD(op:BinOp)(k:IntKind)(x y:Int):Option D:=
 if y<0 then none else
 let n:=min y.toNat k.bits
 match op with
 | .shl=>some (.int k (bX k (x*2 ^ n)))
 | .shr=>some (.int k (x.fdiv (2 ^ n)))
 | _=>none
def kN(op:BinOp)(a b:D):Option D:=
 match a,b with
 | .int k x,.int j y=>
  match op with
  | .shl=>shD .shl k x y
  | .shr=>shD .shr k x y
  | op=>if k=j then intD op k x y else none
 | .str x,.str y=>strD op x y
 | _,_=>none
def unD(op:UnOp)(a:D):Option D:=
 match op,a with
 | .neg,.int k n=>some (.int k (bX k (0-n)))
 | .xor,.int k n=>yX .xor k (if k.signed then -1 else k.max) n
 | .not,.bool b=>some (.bool (!b))
 | _,_=>none
def ev_t(n:Nat)(_:List (Nat×List D))(t:Tm):D:=tget t n
def ev_c(d:D)(_:List (Nat×List D))(_:Tm):D:=d
def ev_g(n:Nat)(G:List (Nat×List D))(_:Tm):D:=Option.rec .un (fun l=>.iptr l 0) (lget G n)
def ev_f(n:Nat)(_:List (Nat×List D))(_:Tm):D:=.fn (.func n) [] []
def Arg.ev(G:List (Nat×List D))(t:Tm)(a:Arg):D:=Arg.rec (motive:=fun _=>List (Nat×List D)→Tm→D) ev_t ev_c ev_g ev_f a G t
def D.cells?:D→Option (List D)
 | .un=>none
 | .agg cs=>some cs
 | d=>some [d]
def cX(cs:List D)(off:Nat):Option Nat→Option D
 | none=>cs[off]?
 | some n=>bif Nat.ble (off+n) cs.length then some (.agg ((cs.drop off).take n)) else none
def eR:Blk→Option (List D)
 | .fix _ cs=>some cs
 | .grow _ cs=>some cs
 | _=>none
mutual
def eqT:ET→D→D→Option Bool
 | .int,.int k a,.int j b=>if k=j then some (a==b) else none
 | .bool,.bool a,.bool b=>some (a==b)
 | .str,.str a,.str b=>some (a==b)
 | .parts l,.agg xs,.agg ys=>uC l xs ys
 | _,_,_=>none
def uC:List (Nat×Option Nat×ET)→List D→List D→Option Bool
 | [],_,_=>some true
 | (off,sz,t)::r,xs,ys=>
  match cX xs off sz,cX ys off sz with
  | some a,some b=>match eqT t a b with
   | some e=>bif e then uC r xs ys else some false
   | none=>none
  | _,_=>none
end
def oW:EK→D→D→Option Bool
 | .ty t,a,b=>eqT t a b
 | .mpk,.nilm,.nilm=>some true
 | .mpk,.nilm,.mp _=>some false
 | .mpk,.mp _,.nilm=>some false
 | .slc,.nils,.nils=>some true
 | .slc,.nils,.sl _ (_+1) _=>some false
 | .slc,.sl _ (_+1) _,.nils=>some false
 | .slc,.nils,.ms _ _ _ _ _=>some false
 | .slc,.ms _ _ _ _ _,.nils=>some false
 | .slc,.nils,.gs _ _ _ (_+1)=>some false
 | .slc,.gs _ _ _ (_+1),.nils=>some false
 | .ptr,.nilp,.nilp=>some true
 | .ptr,.nilp,.ptr _ _=>some false
 | .ptr,.ptr _ _,.nilp=>some false
 | .ptr,.nilp,.iptr _ _=>some false
 | .ptr,.iptr _ _,.nilp=>some false
 | .ifc c,.nilif,.nilif=>bif c then some true else none
 | .ifc _,.nilif,.iface _ _=>some false
 | .ifc _,.iface _ _,.nilif=>some false
 | .fnc,.nilfn,.nilfn=>some true
 | .fnc,.nilfn,.fn _ _ _=>some false
 | .fnc,.fn _ _ _,.nilfn=>some false
 | _,_,_=>none
def seen(s:St):D→Option (List D×Nat)
 | .ptr nm off=>do let b ←sget s nm;let cs ←eR b;some (cs,off)
 | .iptr cs off=>some (cs,off)
 | _=>none
def fJ{α:Type}:List α→Nat→List α→List α
 | cs,_,[]=>cs
 | cs,off,v::vs=>fJ (cs.set off v) (off+1) vs
def eG:D→Bool
 | .un=>true
 | .agg _=>true
 | .tup _=>true
 | _=>false
def stB(b:Blk)(off:Nat)(vs:List D):Option Blk:=
 bif vs.any eG then none else
 match b with
 | .fix ty cs=>bif Nat.ble (off+vs.length) cs.length then some (.fix ty (fJ cs off vs)) else none
 | .grow ty cs=>bif Nat.ble (off+vs.length) cs.length then some (.grow ty (fJ cs off vs)) else none
 | _=>none
def place(cells:List D):List (Nat×Nat×D)→Option (List D)
 | []=>some cells
 | (off,n,d)::r=>
  match d.cells? with
  | some cs=>bif Nat.beq cs.length n&&Nat.ble (off+n) cells.length then place (fJ cells off cs) r else none
  | none=>none
def iF(n:Nat):D→Option Nat
 | .int _ i=>if 0≤i∧i<n then some i.toNat else none
 | _=>none
def vH(n:Nat):D→Option Nat
 | .int _ i=>if 0≤i∧i≤n then some i.toNat else none
 | _=>none
def gH(n dflt:Nat):Option D→Option Nat
 | none=>some dflt
 | some d=>vH n d
def mW(s:List UInt8):List D:=s.map fun b=>.int .u8 b.toNat
def byteOfD:D→Option UInt8
 | .int .u8 n=>some (UInt8.ofNat n.toNat)
 | _=>none
def cP(s:St)(sz:Nat):D→Option (List D×Nat)
 | .nils=>some ([],0)
 | .str b=>bif Nat.beq sz 1 then some (mW b,b.length) else none
 | .sl _ len cs=>bif Nat.ble (len*sz) cs.length then some (cs.take (len*sz),len) else none
 | .ms nm off z len _=>do
  let b ←sget s nm;let cs ←eR b
  bif Nat.beq z sz&&Nat.ble (off+len*sz) cs.length then some ((cs.drop off).take (len*sz),len) else none
 | .gs nm off z len=>do
  let b ←sget s nm;let cs ←eR b
  bif Nat.beq z sz&&Nat.ble (off+len*sz) cs.length then some ((cs.drop off).take (len*sz),len) else none
 | _=>none
def lenD(st:Bool)(d:D):Option Nat:=
 match st,d with
 | true,.str b=>some b.length
 | false,.nils=>some 0
 | false,.sl _ n _=>some n
 | false,.ms _ _ _ n _=>some n
 | false,.gs _ _ _ n=>some n
 | _,_=>none
def AS.add(x:AS)(b:Blk):AS:={ x with s:=sadd x.s x.c b,c:=x.c+1 }
def room(n bytes:Nat):Bool:=Nat.ble n 4294967296&&Nat.ble bytes 4096
def iS(x:AS)(sz bytes ty:Nat)(a b:D):Option (D×AS):=do
 let (ys,n) ←cP x.s sz b
 match a with
 | .nils=>
  bif Nat.beq n 0 then some (.nils,x) else
  bif room n bytes then some (.gs x.c 0 sz n,x.add (.grow ty ys)) else none
 | .sl ex len cs=>
  bif Nat.beq n 0 then some (.sl ex len cs,x) else
  bif ex&&room (len+n) bytes&&Nat.ble (len*sz) cs.length then some (.gs x.c 0 sz (len+n),x.add (.grow ty (cs.take (len*sz)++ys))) else none
 | .ms m off z len c=>
  match sget x.s m with
  | some (.fix t0 cs)=>
   bif Nat.beq z sz then
    bif Nat.ble (len+n) c then(stB (.fix t0 cs) (off+len*sz) ys).map fun b=>(.ms m off z (len+n) c,{ x with s:=sset x.s m b })
    else bif room (len+n) bytes&&Nat.ble (off+len*sz) cs.length then some (.gs x.c 0 sz (len+n),x.add (.grow ty ((cs.drop off).take (len*sz)++ys))) else none
   else none
  | _=>none
 | .gs m off z len=>
  match sget x.s m with
  | some (.grow t0 cs)=>
   bif Nat.beq n 0 then some (.gs m off z len,x) else
   bif Nat.beq z sz && !(ys.any eG) then
    bif Nat.ble (off+(len+n)*sz) cs.length then(stB (.grow t0 cs) (off+len*sz) ys).map fun b=>(.gs m off sz (len+n),{ x with s:=sset x.s m b })
    else bif Nat.beq off 0&&Nat.ble (len*sz) cs.length&&room (len+n) bytes then
     some (.gs x.c 0 sz (len+n),{ x with s:=sadd (sdel x.s m) x.c (.grow (bif Nat.beq t0 ty then ty else 0) (cs.take (len*sz)++ys)),c:=x.c+1 })
    else none
   else none
  | _=>none
 | _=>none
def rep(n:Nat)(z:List D):List D:=(List.replicate n z).flatten
def pO(s:List UInt8)(pos:Nat):Nat×Nat:=Utf8.decode ⟨s.toArray⟩ pos
def parts(G:List (Nat×List D))(t:Tm)(l:List (Nat×Nat×Arg)):List (Nat×Nat×D):=l.map fun p=>(p.1,p.2.1,p.2.2.ev G t)
def zH(d:D):List D:=[d]
def keqs:List D→List D→Option Bool
 | [],[]=>some true
 | .int k a::xs,.int j b::ys=>if k=j then(match keqs xs ys with
  | some r=>some (a==b&&r)
  | none=>none) else none
 | _,_=>none
def keyEq(k:ET)(a b:D):Option Bool:=
 match k with
 | .parts l=>match a,b with
  | .agg xs,.agg ys=>bif Nat.beq xs.length l.length then keqs xs ys else none
  | _,_=>none
 | k=>eqT k a b
def keyOk(k:ET)(a:D):Bool:=
 match k with
 | .parts _=>match keyEq k a a with
  | some _=>true
  | none=>false
 | _=>true
def mfind(k:ET)(i:D):List (D×D×Nat)→Nat→Option (Option (Nat×D))
 | [],_=>bif keyOk k i then some none else none
 | (key,v,_)::r,n=>
  match keyEq k i key with
  | some true=>some (some (n,v))
  | some false=>mfind k i r (n+1)
  | none=>none
def mset:List (D×D×Nat)→Nat→D→List (D×D×Nat)
 | [],_,_=>[]
 | (k,_,b)::r,0,v=>(k,v,b)::r
 | e::r,n+1,v=>e::mset r n v
def mborn:List (D×D×Nat)→Nat→Nat
 | [],_=>0
 | (_,_,b)::_,0=>b
 | _::r,n+1=>mborn r n
def mstamp:List (D×D×Nat)→Int→Option Nat
 | [],_=>none
 | (_,_,b)::r,n=>bif (b:Int)==n then some 0 else(mstamp r n).map (· + 1)
def st_mv(a:Arg)(G:List (Nat×List D))(x:AS):Option (D×AS):=some (a.ev G x.t,x)
def pD(c:Arg)(a:Arg)(b:Arg)(G:List (Nat×List D))(x:AS):Option (D×AS):=match c.ev G x.t with
  | .bool r=>some (bif r then a.ev G x.t else b.ev G x.t,x)
  | _=>none
def sS(ty:Nat)(a:Arg)(G:List (Nat×List D))(x:AS):Option (D×AS):=match(a.ev G x.t).cells? with
  | some cs=>some (.ptr x.c 0,x.add (.fix ty cs))
  | none=>none
def st_ld(sz:Option Nat)(a:Arg)(G:List (Nat×List D))(x:AS):Option (D×AS):=do let (cs,off) ←seen x.s (a.ev G x.t);let d ←cX cs off sz;some (d,x)
def st_st(n:Nat)(a:Arg)(v:Arg)(G:List (Nat×List D))(x:AS):Option (D×AS):=match a.ev G x.t with
  | .ptr nm off=>do
   let b ←sget x.s nm
   let vs ← (v.ev G x.t).cells?
   bif Nat.beq vs.length n then(stB b off vs).map fun b=>(.un,{ x with s:=sset x.s nm b }) else none
  | _=>none
def st_fa(o:Nat)(a:Arg)(G:List (Nat×List D))(x:AS):Option (D×AS):=match a.ev G x.t with
  | .ptr nm off=>some (.ptr nm (off+o),x)
  | .iptr cs off=>some (.iptr cs (off+o),x)
  | _=>none
def tB(n:Nat)(sz:Nat)(a:Arg)(i:Arg)(G:List (Nat×List D))(x:AS):Option (D×AS):=do
  let k ←iF n (i.ev G x.t)
  match a.ev G x.t with
  | .ptr nm off=>some (.ptr nm (off+k*sz),x)
  | .iptr cs off=>some (.iptr cs (off+k*sz),x)
  | _=>none
def tA(sz:Nat)(a:Arg)(i:Arg)(G:List (Nat×List D))(x:AS):Option (D×AS):=match a.ev G x.t with
  | .sl _ len cs=>do let k ←iF len (i.ev G x.t);some (.iptr cs (k*sz),x)
  | .ms nm off z len _=>do let k ←iF len (i.ev G x.t);bif Nat.beq z sz then some (.ptr nm (off+k*sz),x) else none
  | .gs nm off z len=>do let k ←iF len (i.ev G x.t);bif Nat.beq z sz then some (.ptr nm (off+k*sz),x) else none
  | _=>none
def sZ(n:Nat)(sz:Nat)(ag:Bool)(a:Arg)(i:Arg)(G:List (Nat×List D))(x:AS):Option (D×AS):=match a.ev G x.t with
  | .agg cs=>do let k ←iF n (i.ev G x.t);let d ←cX cs (k*sz) (bif ag then some sz else none);some (d,x)
  | _=>none
def sY(a:Arg)(i:Arg)(G:List (Nat×List D))(x:AS):Option (D×AS):=match a.ev G x.t with
  | .str s=>do let k ←iF s.length (i.ev G x.t);let b ←s[k]?;some (.int .u8 b.toNat,x)
  | _=>none
def qX(off:Nat)(sz:Option Nat)(a:Arg)(G:List (Nat×List D))(x:AS):Option (D×AS):=none
def tC(i:Nat)(a:Arg)(G:List (Nat×List D))(x:AS):Option (D×AS):=match a.ev G x.t with
  | .tup cs=>do let d ←cs[i]?;some (d,x)
  | _=>none
def tH(op:BinOp)(a:Arg)(b:Arg)(G:List (Nat×List D))(x:AS):Option (D×AS):=(kN op (a.ev G x.t) (b.ev G x.t)).map fun d=>(d,x)
def tE(neg:Bool)(k:EK)(a:Arg)(b:Arg)(G:List (Nat×List D))(x:AS):Option (D×AS):=(oW k (a.ev G x.t) (b.ev G x.t)).map fun r=>(.bool (bif neg then !r else r),x)
def st_un(op:UnOp)(a:Arg)(G:List (Nat×List D))(x:AS):Option (D×AS):=(unD op (a.ev G x.t)).map fun d=>(d,x)
def tG(cells:List D)(ps:List (Nat×Nat×Arg))(G:List (Nat×List D))(x:AS):Option (D×AS):=(place cells (parts G x.t ps)).map fun cs=>(.agg cs,x)
def tF(len:Nat)(sz:Nat)(cells:List D)(ps:List (Nat×Nat×Arg))(G:List (Nat×List D))(x:AS):Option (D×AS):=do
  let cs ←place cells (parts G x.t ps)
  some (.ms x.c 0 sz len len,x.add (.fix 0 cs))
def sU(sz:Nat)(bytes:Nat)(zero:List D)(l:Arg)(c:Arg)(G:List (Nat×List D))(x:AS):Option (D×AS):=match l.ev G x.t,c.ev G x.t with
  | .int _ l,.int _ c=>
   if 0≤l∧l≤c∧bytes*c≤1099511627776∧c≤4294967296 then
    some (.ms x.c 0 sz l.toNat c.toNat,x.add (.fix 0 (rep c.toNat zero)))
   else none
  | _,_=>none
def sQ(a:Arg)(l:Option Arg)(h:Option Arg)(G:List (Nat×List D))(x:AS):Option (D×AS):=match a.ev G x.t with
  | .str s=>do
   let h ←gH s.length s.length (h.map (·.ev G x.t))
   let l ←gH h 0 (l.map (·.ev G x.t))
   some (.str ((s.take h).drop l),x)
  | _=>none
def sP(sz:Nat)(a:Arg)(l:Option Arg)(h:Option Arg)(m:Option Arg)(G:List (Nat×List D))(x:AS):Option (D×AS):=match a.ev G x.t with
  | .nils=>do
   let m ←gH 0 0 (m.map (·.ev G x.t))
   let h ←gH m 0 (h.map (·.ev G x.t))
   let _ ←gH h 0 (l.map (·.ev G x.t))
   some (.nils,x)
  | .sl ex len cs=>do
   let m' ←gH len len (m.map (·.ev G x.t))
   let h' ←gH m' len (h.map (·.ev G x.t))
   let l' ←gH h' 0 (l.map (·.ev G x.t))
   bif Nat.ble (h'*sz) cs.length then
    some (.sl ((m.isSome&&Nat.beq m' h')||(m.isNone&&ex&&Nat.beq h' len)) (h'-l') ((cs.drop (l'*sz)).take ((h'-l')*sz)),x)
   else none
  | .ms nm off z len c=>do
   let m ←gH c c (m.map (·.ev G x.t))
   let h ←gH m len (h.map (·.ev G x.t))
   let l ←gH h 0 (l.map (·.ev G x.t))
   bif Nat.beq z sz then some (.ms nm (bif Nat.beq m l then off else off+l*sz) z (h-l) (m-l),x) else none
  | .gs nm off z len=>match m with
   | none=>do
    let h ←gH len len (h.map (·.ev G x.t))
    let l ←gH h 0 (l.map (·.ev G x.t))
    bif Nat.beq z sz then
     (bif Nat.beq l 0 then some (.gs nm off z h,x) else bif Nat.blt l h then some (.gs nm (off+l*sz) z (h-l),x) else some (.sl false 0 [],x))
    else none
   | some m=>do
    let m ←vH len (m.ev G x.t)
    let h ←gH m len (h.map (·.ev G x.t))
    let l ←gH h 0 (l.map (·.ev G x.t))
    bif Nat.beq z sz&&Nat.blt 0 len then some (.ms nm (bif Nat.beq m l then off else off+l*sz) z (h-l) (m-l),x) else none
  | _=>none
def kR(n:Nat)(sz:Nat)(a:Arg)(l:Option Arg)(h:Option Arg)(m:Option Arg)(G:List (Nat×List D))(x:AS):Option (D×AS):=do
  let m ←gH n n (m.map (·.ev G x.t))
  let h ←gH m n (h.map (·.ev G x.t))
  let l ←gH h 0 (l.map (·.ev G x.t))
  match a.ev G x.t with
  | .ptr nm off=>do
   let b ←sget x.s nm
   let cs ←eR b
   bif Nat.ble (off+m*sz) cs.length then some (.ms nm (bif Nat.beq m l then off else off+l*sz) sz (h-l) (m-l),x) else none
  | .iptr cs off=>bif Nat.ble (off+h*sz) cs.length then some (.sl (Nat.beq m h) (h-l) ((cs.drop (off+l*sz)).take ((h-l)*sz)),x) else none
  | _=>none
def sX(st:Bool)(a:Arg)(G:List (Nat×List D))(x:AS):Option (D×AS):=match lenD st (a.ev G x.t) with
  | some n=>some (.int .i64 n,x)
  | none=>none
def rA(a:Arg)(G:List (Nat×List D))(x:AS):Option (D×AS):=none
def tI(sz:Nat)(bytes:Nat)(ty:Nat)(a:Arg)(b:Arg)(G:List (Nat×List D))(x:AS):Option (D×AS):=iS x sz bytes ty (a.ev G x.t) (b.ev G x.t)
def jJ(sz:Nat)(a:Arg)(b:Arg)(G:List (Nat×List D))(x:AS):Option (D×AS):=do
  let (ys,n) ←cP x.s sz (b.ev G x.t)
  match a.ev G x.t with
  | .nils=>some (.int .i64 0,x)
  | .ms nm off z len _=>do
   let b ←sget x.s nm
   bif Nat.beq z sz then(stB b off (ys.take (min n len*sz))).map fun b=>(.int .i64 (min n len:Nat),{ x with s:=sset x.s nm b }) else none
  | .gs nm off z len=>do
   let b ←sget x.s nm
   bif Nat.beq z sz then(stB b off (ys.take (min n len*sz))).map fun b=>(.int .i64 (min n len:Nat),{ x with s:=sset x.s nm b }) else none
  | _=>none
def pW(k:IntKind)(a:Arg)(G:List (Nat×List D))(x:AS):Option (D×AS):=match a.ev G x.t with
  | .int _ n=>some (.int k (bX k n),x)
  | _=>none
def tD(a:Arg)(G:List (Nat×List D))(x:AS):Option (D×AS):=match a.ev G x.t with
  | .int _ n=>some (.str (Utf8.encode n).data.toList,x)
  | .str s=>some (.str s,x)
  | _=>none
def qZ(a:Arg)(G:List (Nat×List D))(x:AS):Option (D×AS):=match a.ev G x.t with
  | .str s=>some (.gs x.c 0 1 s.length,x.add (.grow 0 (mW s)))
  | _=>none
def pV(a:Arg)(G:List (Nat×List D))(x:AS):Option (D×AS):=match a.ev G x.t with
  | .str _=>none
  | d=>do
   let (cs,_) ←cP x.s 1 d
   let bs ←cs.mapM byteOfD
   some (.str bs,x)
def pG(t:Nat)(a:Arg)(G:List (Nat×List D))(x:AS):Option (D×AS):=some (.iface t (a.ev G x.t),x)
def pH(f:Fn)(fs:List Arg)(cs:List Arg)(G:List (Nat×List D))(x:AS):Option (D×AS):=some (.fn f (fs.map (·.ev G x.t)) (cs.map (·.ev G x.t)),x)
def pE(a:Arg)(G:List (Nat×List D))(x:AS):Option (D×AS):=match a.ev G x.t with
  | .ptr nm off=>some (.ptr nm off,x)
  | .iptr cs off=>some (.iptr cs off,x)
  | .fn (.func f) a b=>some (.fn (.func f) a b,x)
  | _=>none
def sR(a:Arg)(G:List (Nat×List D))(x:AS):Option (D×AS):=match a.ev G x.t with
  | .str s=>some (.it x.c,x.add (.iter s 0))
  | _=>none
def pF(a:Arg)(G:List (Nat×List D))(x:AS):Option (D×AS):=match a.ev G x.t with
  | .it nm=>match sget x.s nm with
   | some (.iter s pos)=>
    bif Nat.blt pos s.length then
     some (.tup [.bool true,.int .i64 pos,.int .i32 (pO s pos).1],{ x with s:=sset x.s nm (.iter s (pos+(pO s pos).2)) })
    else some (.tup [.bool false],x)
   | _=>none
  | _=>none
def st_mm(mx:Bool)(a:Arg)(b:Arg)(G:List (Nat×List D))(x:AS):Option (D×AS):=match a.ev G x.t,b.ev G x.t with
  | .int k n,.int _ m=>some (.int k (bif mx then(if m>n then m else n) else(if m<n then m else n)),x)
  | _,_=>none
def qW(G:List (Nat×List D))(x:AS):Option (D×AS):=some (.mp x.c,x.add (.mp [] 0))
def qV(z:D)(ok:Bool)(k:ET)(a:Arg)(i:Arg)(G:List (Nat×List D))(x:AS):Option (D×AS):=match a.ev G x.t with
  | .nilm=>match mfind k (i.ev G x.t) [] 0 with
   | some _=>some (bif ok then .tup (zH z++[.bool false]) else z,x)
   | none=>none
  | .mp nm=>match sget x.s nm with
   | some (.mp es _)=>match mfind k (i.ev G x.t) es 0 with
    | some (some (_,v))=>some (bif ok then .tup (zH v++[.bool true]) else v,x)
    | some none=>some (bif ok then .tup (zH z++[.bool false]) else z,x)
    | none=>none
   | _=>none
  | _=>none
def qT(k:ET)(a:Arg)(i:Arg)(v:Arg)(G:List (Nat×List D))(x:AS):Option (D×AS):=match a.ev G x.t with
  | .mp nm=>match sget x.s nm with
   | some (.mp es c)=>match mfind k (i.ev G x.t) es 0 with
    | some (some (j,_))=>some (.un,{ x with s:=sset x.s nm (.mp (mset es j (v.ev G x.t)) c) })
    | some none=>some (.un,{ x with s:=sset x.s nm (.mp (es++[(i.ev G x.t,v.ev G x.t,c)]) (c+1)) })
    | none=>none
   | _=>none
  | _=>none
def sV(z:D)(k:ET)(a:Arg)(i:Arg)(G:List (Nat×List D))(x:AS):Option (D×AS):=match a.ev G x.t with
  | .mp nm=>match sget x.s nm with
   | some (.mp es c)=>match mfind k (i.ev G x.t) es 0 with
    | some (some (j,v))=>some (.tup (zH v++[.int .i64 (mborn es j)]),x)
    | some none=>some (.tup (zH z++[.int .i64 c]),{ x with s:=sset x.s nm (.mp (es++[(i.ev G x.t,z,c)]) (c+1)) })
    | none=>none
   | _=>none
  | _=>none
def sT(a:Arg)(i:Arg)(v:Arg)(G:List (Nat×List D))(x:AS):Option (D×AS):=match a.ev G x.t,i.ev G x.t with
  | .mp nm,.int _ n=>match sget x.s nm with
   | some (.mp es c)=>match mstamp es n with
    | some j=>some (.un,{ x with s:=sset x.s nm (.mp (mset es j (v.ev G x.t)) c) })
    | none=>none
   | _=>none
  | _,_=>none
def qU(a:Arg)(G:List (Nat×List D))(x:AS):Option (D×AS):=none
def qR(a:Arg)(G:List (Nat×List D))(x:AS):Option (D×AS):=match a.ev G x.t with
  | .nilm=>some (.it x.c,x.add (.mit none 0 [] 0))
  | .mp nm=>match sget x.s nm with
   | some (.mp _ c)=>some (.it x.c,x.add (.mit (some nm) c [] c))
   | _=>none
  | _=>none
def qS(a:Arg)(G:List (Nat×List D))(x:AS):Option (D×AS):=match a.ev G x.t with
  | .it nm=>match sget x.s nm with
   | some (.mit none _ _ _)=>some (.tup [.bool false],x)
   | some (.mit (some m) Ak seen Ap)=>match sget x.s m with
    | some (.mp es c)=>bif seen.isEmpty||es.isEmpty||es.any (fun e=>Nat.blt e.2.2 Ap) then
      match es.filter (fun e=>!seen.any (Nat.beq e.2.2)) with
      | []=>some (.tup [.bool false],x)
      | [(k,v,b)]=>bif Nat.blt b Ak then some (.tup [.bool true,k,v],{ x with s:=sset x.s nm (.mit (some m) Ak (seen++[b]) c) }) else none
      | _=>none
     else none
    | _=>none
   | _=>none
  | _=>none
def qY(a:Arg)(G:List (Nat×List D))(x:AS):Option (D×AS):=match a.ev G x.t with
  | .it nm=>match sget x.s nm with
   | some (.mit (some m) _ seen Ap)=>match sget x.s m,seen.getLast? with
    | some (.mp es c),some b=>bif Nat.beq c Ap then match es.filter (fun e=>Nat.beq e.2.2 b) with
      | (k,v,_)::_=>some (.tup [k,v],x)
      | []=>none
     else none
    | _,_=>none
   | _=>none
  | _=>none
def qQ(t:Nat)(z:D)(ok:Bool)(a:Arg)(G:List (Nat×List D))(x:AS):Option (D×AS):=match a.ev G x.t with
  | .nilif=>bif ok then some (.tup (zH z++[.bool false]),x) else none
  | .iface u d=>bif Nat.beq u t then some (bif ok then .tup (zH d++[.bool true]) else d,x) else bif ok then some (.tup (zH z++[.bool false]),x) else none
  | _=>none
def sO(l:List Nat)(ok:Bool)(a:Arg)(G:List (Nat×List D))(x:AS):Option (D×AS):=match a.ev G x.t with
  | .nilif=>bif ok then some (.tup [.nilif,.bool false],x) else none
  | .iface u d=>bif l.any (Nat.beq u) then some (bif ok then .tup [.iface u d,.bool true]else .iface u d,x) else bif ok then some (.tup [.nilif,.bool false],x) else none
  | _=>none
def idxB(c:UInt8):List UInt8→Int
 | []=>-1
 | b::r=>bif b==c then 0 else(match idxB c r with
  | .ofNat n=>.ofNat (n+1)
  | _=>-1)
def mmAll(mx:Bool)(k:IntKind):Int→List D→Option D
 | n,[]=>some (.int k n)
 | n,.int _ m::r=>mmAll mx k (bif mx then(if m>n then m else n) else(if m<n then m else n)) r
 | _,_=>none
def byteX:D→Option UInt8
 | .int .u8 (.ofNat n)=>bif Nat.blt n 256 then some (UInt8.ofNat n) else none
 | _=>none
def peqD(a b:D):Option Bool:=
 match a,b with
 | .ptr a i,.ptr b j=>bif Nat.beq a b&&Nat.beq i j then some true else none
 | a,b=>oW .ptr a b
def xlook(k:XL)(l:List D)(s:St):Option D:=
 match k,l with
 | .idb,[.str s,.int .u8 c]=>some (.int .i64 (idxB c.toNat.toUInt8 s))
 | .ctb,[.str s,.int .u8 c]=>some (.int .i64 (s.count c.toNat.toUInt8))
 | .idn,[d]=>some d
 | .upt,[.ptr nm off]=>match sget s nm with
  | some (.fix _ cs)=>bif Nat.blt off cs.length then some (.ptr nm off) else none
  | _=>none
 | .ufp u n,[.ptr nm 0]=>match sget s nm with
  | some (.fix ty cs)=>bif Nat.beq ty (u+1)&&Nat.beq cs.length n then some (.ptr nm 0) else none
  | _=>none
 | .sda,[.nils]=>some .nilp
 | .sda,[.gs nm off _ (_+1)]=>some (.ptr nm off)
 | .sda,[.ms nm off _ _ (_+1)]=>some (.ptr nm off)
 | .peq neg,[a,b]=>(peqD a b).map fun r=>.bool (bif neg then !r else r)
 | .mml mx,.int k n::r=>mmAll mx k n r
 | _,_=>none
def xact(k:XA)(l:List D)(s:St)(c:Nat):Option (D×St×Nat):=
 match k,l with
 | .apz sz bytes z,[.nils,.int _ (.ofNat n)]=>
  bif !Nat.beq n 0&&room n bytes then some (.gs c 0 sz n,sadd s c (.grow 0 (rep n z)),c+1) else none
 | .ust _,[.nilp,.int .i64 (.ofNat 0)]=>some (.str [],s,c)
 | .ust _,[.ptr _ _,.int .i64 (.ofNat 0)]=>some (.str [],s,c)
 | .ust ty,[.ptr nm 0,.int .i64 (.ofNat (n+1))]=>match sget s nm with
  | some (.grow t0 cs)=>bif Nat.beq t0 ty&&(Nat.ble (n+1) cs.length&&Nat.ble (n+1) 4294967296) then((cs.take (n+1)).mapM byteX).map fun bs=>(.str bs,sdel s nm,c) else none
  | _=>none
 | .mnz ty,[.int .i64 (.ofNat n)]=>bif Nat.ble n 4294967296 then some (.gs c 0 1 n,sadd s c (.grow ty []),c+1) else none
 | _,_=>none
def xN(k:XL)(l:List Arg)(G:List (Nat×List D))(x:AS):Option (D×AS):=(xlook k (l.map (·.ev G x.t)) x.s).map fun d=>(d,x)
def st_xa(k:XA)(l:List Arg)(G:List (Nat×List D))(x:AS):Option (D×AS):=(xact k (l.map (·.ev G x.t)) x.s x.c).map fun p=>(p.1,⟨x.t,p.2.1,p.2.2,x.d,x.r⟩)
def step(G:List (Nat×List D))(o:AOp)(x:AS):Option (D×AS):=
 AOp.rec (motive:=fun _=>List (Nat×List D)→AS→Option (D×AS))
  st_mv
  pD
  sS
  st_ld
  st_st
  st_fa
  tB
  tA
  sZ
  sY
  qX
  tC
  tH
  tE
  st_un
  tG
  tF
  sU
  sQ
  sP
  kR
  sX
  rA
  tI
  jJ
  pW
  tD
  qZ
  pV
  pG
  pH
  pE
  sR
  pF
  st_mm
  qW
  qV
  qT
  sV
  sT
  qU
  qR
  qS
  qY
  qQ
  sO
  (fun _ _ _ _=>none)
  (fun _ _ _ _=>none)
  (fun _ _ _ _ _=>none)
  (fun _ _ _=>none)
  (fun _ _ _ _=>none)
  (fun _ _=>none)
  xN
  st_xa
  o G x
@[simp] theorem eE (a0:Arg) (G:List (Nat×List D)) (x:AS):step G (.mv a0) x=st_mv a0 G x:=rfl
@[simp] theorem fQ (a0:Arg) (a1:Arg) (a2:Arg) (G:List (Nat×List D)) (x:AS):step G (.pick a0 a1 a2) x=pD a0 a1 a2 G x:=rfl
@[simp] theorem step_new (a0:Nat) (a1:Arg) (G:List (Nat×List D)) (x:AS):step G (.new a0 a1) x=sS a0 a1 G x:=rfl
@[simp] theorem eJ (a0:Option Nat) (a1:Arg) (G:List (Nat×List D)) (x:AS):step G (.ld a0 a1) x=st_ld a0 a1 G x:=rfl
@[simp] theorem step_st (a0:Nat) (a1:Arg) (a2:Arg) (G:List (Nat×List D)) (x:AS):step G (.st a0 a1 a2) x=st_st a0 a1 a2 G x:=rfl
@[simp] theorem fG (a0:Nat) (a1:Arg) (G:List (Nat×List D)) (x:AS):step G (.fa a0 a1) x=st_fa a0 a1 G x:=rfl
@[simp] theorem oP (a0:Nat) (a1:Nat) (a2:Arg) (a3:Arg) (G:List (Nat×List D)) (x:AS):step G (.iaA a0 a1 a2 a3) x=tB a0 a1 a2 a3 G x:=rfl
@[simp] theorem eY (a0:Nat) (a1:Arg) (a2:Arg) (G:List (Nat×List D)) (x:AS):step G (.iaS a0 a1 a2) x=tA a0 a1 a2 G x:=rfl
@[simp] theorem xI (a0:Nat) (a1:Nat) (a2:Bool) (a3:Arg) (a4:Arg) (G:List (Nat×List D)) (x:AS):step G (.ixA a0 a1 a2 a3 a4) x=sZ a0 a1 a2 a3 a4 G x:=rfl
@[simp] theorem step_ixS (a0:Arg) (a1:Arg) (G:List (Nat×List D)) (x:AS):step G (.ixS a0 a1) x=sY a0 a1 G x:=rfl
@[simp] theorem step_fld (a0:Nat) (a1:Option Nat) (a2:Arg) (G:List (Nat×List D)) (x:AS):step G (.fld a0 a1 a2) x=qX a0 a1 a2 G x:=rfl
@[simp] theorem xJ (a0:Nat) (a1:Arg) (G:List (Nat×List D)) (x:AS):step G (.ext a0 a1) x=tC a0 a1 G x:=rfl
@[simp] theorem dW (a0:BinOp) (a1:Arg) (a2:Arg) (G:List (Nat×List D)) (x:AS):step G (.bin a0 a1 a2) x=tH a0 a1 a2 G x:=rfl
@[simp] theorem nV (a0:Bool) (a1:EK) (a2:Arg) (a3:Arg) (G:List (Nat×List D)) (x:AS):step G (.cmp a0 a1 a2 a3) x=tE a0 a1 a2 a3 G x:=rfl
@[simp] theorem lH (a0:UnOp) (a1:Arg) (G:List (Nat×List D)) (x:AS):step G (.un a0 a1) x=st_un a0 a1 G x:=rfl
@[simp] theorem fH (a0:List D) (a1:List (Nat×Nat×Arg)) (G:List (Nat×List D)) (x:AS):step G (.bld a0 a1) x=tG a0 a1 G x:=rfl
@[simp] theorem iB (a0:Nat) (a1:Nat) (a2:List D) (a3:List (Nat×Nat×Arg)) (G:List (Nat×List D)) (x:AS):step G (.bsl a0 a1 a2 a3) x=tF a0 a1 a2 a3 G x:=rfl
@[simp] theorem step_mks (a0:Nat) (a1:Nat) (a2:List D) (a3:Arg) (a4:Arg) (G:List (Nat×List D)) (x:AS):step G (.mks a0 a1 a2 a3 a4) x=sU a0 a1 a2 a3 a4 G x:=rfl
@[simp] theorem step_slS (a0:Arg) (a1:Option Arg) (a2:Option Arg) (G:List (Nat×List D)) (x:AS):step G (.slS a0 a1 a2) x=sQ a0 a1 a2 G x:=rfl
@[simp] theorem qH (a0:Nat) (a1:Arg) (a2:Option Arg) (a3:Option Arg) (a4:Option Arg) (G:List (Nat×List D)) (x:AS):step G (.slV a0 a1 a2 a3 a4) x=sP a0 a1 a2 a3 a4 G x:=rfl
@[simp] theorem iA (a0:Nat) (a1:Nat) (a2:Arg) (a3:Option Arg) (a4:Option Arg) (a5:Option Arg) (G:List (Nat×List D)) (x:AS):step G (.slA a0 a1 a2 a3 a4 a5) x=kR a0 a1 a2 a3 a4 a5 G x:=rfl
@[simp] theorem jO (a0:Bool) (a1:Arg) (G:List (Nat×List D)) (x:AS):step G (.len a0 a1) x=sX a0 a1 G x:=rfl
@[simp] theorem step_cap (a0:Arg) (G:List (Nat×List D)) (x:AS):step G (.cap a0) x=rA a0 G x:=rfl
@[simp] theorem step_app (a0:Nat) (a1:Nat) (a2:Nat) (a3:Arg) (a4:Arg) (G:List (Nat×List D)) (x:AS):step G (.app a0 a1 a2 a3 a4) x=tI a0 a1 a2 a3 a4 G x:=rfl
@[simp] theorem jN (a0:Nat) (a1:Arg) (a2:Arg) (G:List (Nat×List D)) (x:AS):step G (.copy a0 a1 a2) x=jJ a0 a1 a2 G x:=rfl
@[simp] theorem kZ (a0:IntKind) (a1:Arg) (G:List (Nat×List D)) (x:AS):step G (.cvI a0 a1) x=pW a0 a1 G x:=rfl
@[simp] theorem step_cvN (a0:Arg) (G:List (Nat×List D)) (x:AS):step G (.cvN a0) x=tD a0 G x:=rfl
@[simp] theorem step_cvB (a0:Arg) (G:List (Nat×List D)) (x:AS):step G (.cvB a0) x=qZ a0 G x:=rfl
@[simp] theorem xK (a0:Arg) (G:List (Nat×List D)) (x:AS):step G (.cvS a0) x=pV a0 G x:=rfl
@[simp] theorem step_mkif (a0:Nat) (a1:Arg) (G:List (Nat×List D)) (x:AS):step G (.mkif a0 a1) x=pG a0 a1 G x:=rfl
@[simp] theorem step_mkfn (a0:Fn) (a1:List Arg) (a2:List Arg) (G:List (Nat×List D)) (x:AS):step G (.mkfn a0 a1 a2) x=pH a0 a1 a2 G x:=rfl
@[simp] theorem dP (a0:Arg) (G:List (Nat×List D)) (x:AS):step G (.nilc a0) x=pE a0 G x:=rfl
@[simp] theorem step_rng (a0:Arg) (G:List (Nat×List D)) (x:AS):step G (.rng a0) x=sR a0 G x:=rfl
@[simp] theorem step_next (a0:Arg) (G:List (Nat×List D)) (x:AS):step G (.next a0) x=pF a0 G x:=rfl
@[simp] theorem step_mm (a0:Bool) (a1:Arg) (a2:Arg) (G:List (Nat×List D)) (x:AS):step G (.mm a0 a1 a2) x=st_mm a0 a1 a2 G x:=rfl
@[simp] theorem step_mkm  (G:List (Nat×List D)) (x:AS):step G (.mkm ) x=qW  G x:=rfl
@[simp] theorem step_mlk (a0:D) (a1:Bool) (a2:ET) (a3:Arg) (a4:Arg) (G:List (Nat×List D)) (x:AS):step G (.mlk a0 a1 a2 a3 a4) x=qV a0 a1 a2 a3 a4 G x:=rfl
@[simp] theorem step_mup (a0:ET) (a1:Arg) (a2:Arg) (a3:Arg) (G:List (Nat×List D)) (x:AS):step G (.mup a0 a1 a2 a3) x=qT a0 a1 a2 a3 G x:=rfl
@[simp] theorem step_men (a0:D) (a1:ET) (a2:Arg) (a3:Arg) (G:List (Nat×List D)) (x:AS):step G (.men a0 a1 a2 a3) x=sV a0 a1 a2 a3 G x:=rfl
@[simp] theorem step_mst (a0:Arg) (a1:Arg) (a2:Arg) (G:List (Nat×List D)) (x:AS):step G (.mst a0 a1 a2) x=sT a0 a1 a2 G x:=rfl
@[simp] theorem step_mln (a0:Arg) (G:List (Nat×List D)) (x:AS):step G (.mln a0) x=qU a0 G x:=rfl
@[simp] theorem step_rgm (a0:Arg) (G:List (Nat×List D)) (x:AS):step G (.rgm a0) x=qR a0 G x:=rfl
@[simp] theorem step_nxm (a0:Arg) (G:List (Nat×List D)) (x:AS):step G (.nxm a0) x=qS a0 G x:=rfl
@[simp] theorem step_ent (a0:Arg) (G:List (Nat×List D)) (x:AS):step G (.ent a0) x=qY a0 G x:=rfl
@[simp] theorem step_tas (a0:Nat) (a1:D) (a2:Bool) (a3:Arg) (G:List (Nat×List D)) (x:AS):step G (.tas a0 a1 a2 a3) x=qQ a0 a1 a2 a3 G x:=rfl
@[simp] theorem step_tai (a0:List Nat) (a1:Bool) (a2:Arg) (G:List (Nat×List D)) (x:AS):step G (.tai a0 a1 a2) x=sO a0 a1 a2 G x:=rfl
@[simp] theorem step_call (a0:Nat) (a1:List Arg) (G:List (Nat×List D)) (x:AS):step G (.call a0 a1) x=none:=rfl
@[simp] theorem step_callv (a0:Arg) (a1:List Arg) (G:List (Nat×List D)) (x:AS):step G (.callv a0 a1) x=none:=rfl
@[simp] theorem step_inv (a0:String) (a1:Arg) (a2:List Arg) (G:List (Nat×List D)) (x:AS):step G (.inv a0 a1 a2) x=none:=rfl
@[simp] theorem step_pan (a0:Arg) (G:List (Nat×List D)) (x:AS):step G (.pan a0) x=none:=rfl
@[simp] theorem step_dfr (a0:Arg) (a1:List Arg) (G:List (Nat×List D)) (x:AS):step G (.dfr a0 a1) x=none:=rfl
@[simp] theorem step_xl (a0:XL) (a1:List Arg) (G:List (Nat×List D)) (x:AS):step G (.xl a0 a1) x=xN a0 a1 G x:=rfl
@[simp] theorem step_xa (a0:XA) (a1:List Arg) (G:List (Nat×List D)) (x:AS):step G (.xa a0 a1) x=st_xa a0 a1 G x:=rfl
@[simp] theorem step_rcv  (G:List (Nat×List D)) (x:AS):step G (.rcv ) x=none:=rfl
end
theorem sts:type_of% @st_mv.eq_1∧type_of% @pD.eq_1∧type_of% @sS.eq_1∧type_of% @st_ld.eq_1∧type_of% @st_st.eq_1∧type_of% @st_fa.eq_1∧type_of% @tB.eq_1∧type_of% @tA.eq_1∧type_of% @sZ.eq_1∧type_of% @sY.eq_1∧type_of% @qX.eq_1∧type_of% @tC.eq_1∧type_of% @tH.eq_1∧type_of% @tE.eq_1∧type_of% @st_un.eq_1∧type_of% @tG.eq_1∧type_of% @tF.eq_1∧type_of% @sU.eq_1∧type_of% @sQ.eq_1∧type_of% @sP.eq_1∧type_of% @kR.eq_1∧type_of% @sX.eq_1∧type_of% @rA.eq_1∧type_of% @tI.eq_1∧type_of% @jJ.eq_1∧type_of% @pW.eq_1∧type_of% @tD.eq_1∧type_of% @qZ.eq_1∧type_of% @pV.eq_1∧type_of% @pG.eq_1∧type_of% @pH.eq_1∧type_of% @pE.eq_1∧type_of% @sR.eq_1∧type_of% @pF.eq_1∧type_of% @st_mm.eq_1∧type_of% @qW.eq_1∧type_of% @qV.eq_1∧type_of% @qT.eq_1∧type_of% @sV.eq_1∧type_of% @sT.eq_1∧type_of% @qU.eq_1∧type_of% @qR.eq_1∧type_of% @qS.eq_1∧type_of% @qY.eq_1∧type_of% @qQ.eq_1∧type_of% @sO.eq_1∧type_of% @xN.eq_1∧type_of% @st_xa.eq_1:=
 ⟨@st_mv.eq_1,@pD.eq_1,@sS.eq_1,@st_ld.eq_1,@st_st.eq_1,@st_fa.eq_1,@tB.eq_1,@tA.eq_1,@sZ.eq_1,@sY.eq_1,@qX.eq_1,@tC.eq_1,@tH.eq_1,@tE.eq_1,@st_un.eq_1,@tG.eq_1,@tF.eq_1,@sU.eq_1,@sQ.eq_1,@sP.eq_1,@kR.eq_1,@sX.eq_1,@rA.eq_1,@tI.eq_1,@jJ.eq_1,@pW.eq_1,@tD.eq_1,@qZ.eq_1,@pV.eq_1,@pG.eq_1,@pH.eq_1,@pE.eq_1,@sR.eq_1,@pF.eq_1,@st_mm.eq_1,@qW.eq_1,@qV.eq_1,@qT.eq_1,@sV.eq_1,@sT.eq_1,@qU.eq_1,@qR.eq_1,@qS.eq_1,@qY.eq_1,@qQ.eq_1,@sO.eq_1,@xN.eq_1,@st_xa.eq_1⟩
theorem stq:type_of% sts∧type_of% @eE∧type_of% @fQ∧type_of% @step_new∧type_of% @eJ∧type_of% @step_st∧type_of% @fG∧type_of% @oP∧type_of% @eY∧type_of% @xI∧type_of% @step_ixS∧type_of% @step_fld∧type_of% @xJ∧type_of% @dW∧type_of% @nV∧type_of% @lH∧type_of% @fH∧type_of% @iB∧type_of% @step_mks∧type_of% @step_slS∧type_of% @qH∧type_of% @iA∧type_of% @jO∧type_of% @step_cap∧type_of% @step_app∧type_of% @jN∧type_of% @kZ∧type_of% @step_cvN∧type_of% @step_cvB∧type_of% @xK∧type_of% @step_mkif∧type_of% @step_mkfn∧type_of% @dP∧type_of% @step_rng∧type_of% @step_next∧type_of% @step_mm∧type_of% @step_mkm∧type_of% @step_mlk∧type_of% @step_mup∧type_of% @step_men∧type_of% @step_mst∧type_of% @step_mln∧type_of% @step_rgm∧type_of% @step_nxm∧type_of% @step_ent∧type_of% @step_tas∧type_of% @step_tai∧type_of% @step_call∧type_of% @step_callv∧type_of% @step_inv∧type_of% @step_pan∧type_of% @step_dfr∧type_of% @step_xl∧type_of% @step_xa∧type_of% @step_rcv:=
 ⟨sts,@eE,@fQ,@step_new,@eJ,@step_st,@fG,@oP,@eY,@xI,@step_ixS,@step_fld,@xJ,@dW,@nV,@lH,@fH,@iB,@step_mks,@step_slS,@qH,@iA,@jO,@step_cap,@step_app,@jN,@kZ,@step_cvN,@step_cvB,@xK,@step_mkif,@step_mkfn,@dP,@step_rng,@step_next,@step_mm,@step_mkm,@step_mlk,@step_mup,@step_men,@step_mst,@step_mln,@step_rgm,@step_nxm,@step_ent,@step_tas,@step_tai,@step_call,@step_callv,@step_inv,@step_pan,@step_dfr,@step_xl,@step_xa,@step_rcv⟩
end Zv
noncomputable section
namespace Zv
open Go
structure Loc where
 blk:Option Nat
 cap:Nat
abbrev Mu:=Nat→Option Loc
def mu0:Mu:=fun _=>none
mutual
def aY(M:Nat→Prop)(w:World)(μ:Mu):D→Value→Prop
 | .un,_=>True
 | .bool b,v=>v = .bool b
 | .int k n,v=>v = .int k n
 | .str s,v=>v = .string ⟨s.toArray⟩
 | .agg cs,v=>∃vs,v = .agg vs∧bI M w μ cs vs.toList
 | .tup cs,v=>∃vs,v = .tuple vs∧bI M w μ cs vs.toList
 | .nils,v=>v = .slice none 0 0
 | .sl ex len cs,v=>∃a cap,v = .slice a len cap∧len≤cap∧(ex=true→cap=len) ∧
   (len=0∨∃b o,a=some ⟨b,o,none⟩∧¬M b∧b<w.heap.size∧iK M w b o cs)
 | .ms nm off sz len cap,v=>∃loc b,μ nm=some loc∧loc.blk=some b∧v = .slice (some ⟨b,off,none⟩) len cap∧len≤cap∧off+cap*sz≤loc.cap
 | .gs nm off sz len,v=>∃loc cap,μ nm=some loc∧v = .slice (loc.blk.map fun b=>⟨b,off,none⟩) len cap∧len≤cap∧off+cap*sz=loc.cap∧(loc.blk=none→cap=0)
 | .ptr nm off,v=>∃loc b,μ nm=some loc∧loc.blk=some b∧v = .pointer (some ⟨b,off,none⟩)
 | .iptr cs off,v=>∃b o,v = .pointer (some ⟨b,o+off,none⟩)∧¬M b∧b<w.heap.size∧iK M w b o cs
 | .nilp,v=>v = .pointer none
 | .iface t d,v=>∃x,v = .iface t x∧aY M w μ d x
 | .nilif,v=>v = .nilIface
 | .fn f a b,v=>∃va vb,v = .func f va vb∧bI M w μ a va.toList∧bI M w μ b vb.toList
 | .nilfn,v=>v = .nilFunc
 | .nilm,v=>v = .map none
 | .mp nm,v=>∃loc b,μ nm=some loc∧loc.blk=some b∧v = .map (some b)
 | .yl nm,v=>∃loc b,μ nm=some loc∧loc.blk=some b∧v = .func (.yield b) #[] #[]
 | .it nm,v=>∃loc b,μ nm=some loc∧loc.blk=some b∧v = .pointer (some ⟨b,0,none⟩)
 | .adr b off,v=>v = .pointer (some ⟨b,off,none⟩)
def bI(M:Nat→Prop)(w:World)(μ:Mu):List D→List Value→Prop
 | [],vs=>vs=[]
 | d::ds,vs=>∃v r,vs=v::r∧aY M w μ d v∧bI M w μ ds r
def iK(M:Nat→Prop)(w:World)(b o:Nat):List D→Prop
 | []=>True
 | d::ds=>(∃v,w.cell? ⟨b,o,none⟩=some v∧aY M w mu0 d v)∧iK M w b (o+1) ds
end
structure Env where
 P:Program
 G:List (Nat×List D)
def GRel(E:Env)(M:Nat→Prop)(w:World):Prop:=
 ∀p∈E.G,¬M p.1∧p.1<w.heap.size∧iK M w p.1 0 p.2
def vJ(w w':World):Prop:=w'.os=w.os∧w'.output=w.output
def zJ(E:Env)(f:FuncId)(args:List D)(d:D):Prop:=
 ∀(M:Nat→Prop) (w:World) (vals:List Value),(∀b,M b→b<w.heap.size)→GRel E M w→bI M w mu0 args vals →
  Calls E.P f vals.toArray w fun e w'=>∃v,e = .returned v∧aY M w' mu0 d v∧w.heap.size≤w'.heap.size∧vJ w w' ∧
   ∀b,b<w.heap.size→w'.heap[b]?=w.heap[b]?
def AS.put(x:AS)(dst:Option Nat)(d:D):AS:=
 match dst with
 | some n=>{ x with t:=tput x.t n d }
 | none=>x
def callable(P:Program)(f:Nat):Bool:=
 match P.funcs[f]? with
 | some fn => !(fn.name == "runtime.NumGoroutine" || fn.body.isNone)
 | none=>false
def Arg.tmps:Arg→List Nat
 | .t n=>[n]
 | _=>[]
def lV(l:List Arg):List Nat:=l.flatMap Arg.tmps
def mN:Option Arg→List Nat
 | some a=>a.tmps
 | none=>[]
def uY(l:List (Nat×Nat×Arg)):List Nat:=l.flatMap fun p=>p.2.2.tmps
def AOp.tmps:AOp→List Nat
 | .mv x=>x.tmps
 | .pick c a b=>c.tmps++(a.tmps++b.tmps)
 | .new _ x=>x.tmps
 | .ld _ x=>x.tmps
 | .st _ x v=>x.tmps++v.tmps
 | .fa _ x=>x.tmps
 | .iaA _ _ x i=>x.tmps++i.tmps
 | .iaS _ x i=>x.tmps++i.tmps
 | .ixA _ _ _ x i=>x.tmps++i.tmps
 | .ixS x i=>x.tmps++i.tmps
 | .fld _ _ x=>x.tmps
 | .ext _ x=>x.tmps
 | .bin _ x y=>x.tmps++y.tmps
 | .cmp _ _ x y=>x.tmps++y.tmps
 | .un _ x=>x.tmps
 | .bld _ l=>uY l
 | .bsl _ _ _ l=>uY l
 | .mks _ _ _ l c=>l.tmps++c.tmps
 | .slS x l h=>x.tmps++(mN l++mN h)
 | .slV _ x l h m=>x.tmps++(mN l++(mN h++mN m))
 | .slA _ _ x l h m=>x.tmps++(mN l++(mN h++mN m))
 | .len _ x=>x.tmps
 | .cap x=>x.tmps
 | .app _ _ _ x y=>x.tmps++y.tmps
 | .copy _ x y=>x.tmps++y.tmps
 | .cvI _ x=>x.tmps
 | .cvN x=>x.tmps
 | .cvB x=>x.tmps
 | .cvS x=>x.tmps
 | .mkif _ x=>x.tmps
 | .mkfn _ a b=>lV a++lV b
 | .nilc x=>x.tmps
 | .rng x=>x.tmps
 | .next x=>x.tmps
 | .mm _ x y=>x.tmps++y.tmps
 | .mkm=>[]
 | .mlk _ _ _ x i=>x.tmps++i.tmps
 | .mup _ x i v=>x.tmps++(i.tmps++v.tmps)
 | .men _ _ x i=>x.tmps++i.tmps
 | .mst x i v=>x.tmps++(i.tmps++v.tmps)
 | .mln x=>x.tmps
 | .rgm x=>x.tmps
 | .nxm x=>x.tmps
 | .ent x=>x.tmps
 | .tas _ _ _ x=>x.tmps
 | .tai _ _ x=>x.tmps
 | .call _ l=>lV l
 | .callv x l=>x.tmps++lV l
 | .inv _ x l=>x.tmps++lV l
 | .pan x=>x.tmps
 | .dfr x l=>x.tmps++lV l
 | .rcv=>[]
 | .xl _ l=>lV l
 | .xa _ l=>lV l
def cR.tmps(o:cR):List Nat:=o.op.tmps++(match o.guard with|some (g,_)=>[g]|none=>[])
inductive RV where
 | tmp (t:Nat)
 | cell (t:Nat) (sz:Option Nat)
 deriving Inhabited
def RV.get(x:AS):RV→Option D
 | .tmp t=>some (tget x.t t)
 | .cell t sz=>do let (cs,off) ←seen x.s (tget x.t t);cX cs off sz
structure AF where
 np:Nat
 body:AC
 res:List RV
 deriving Inhabited
def retD:List D→D
 | [d]=>d
 | ds=>.tup ds
def iW:Nat→List D→Tm→Tm
 | _,[],t=>t
 | n,d::r,t=>iW (n+1) r (tput t n d)
end Zv
end
noncomputable section
namespace Zv
open Go
def ofV:Nat→Value→Option D
 | 0,_=>none
 | _+1,.bool b=>some (.bool b)
 | _+1,.int k n=>some (.int k n)
 | _+1,.string s=>some (.str s.data.toList)
 | n+1,.agg cs=>(cs.toList.mapM (ofV n)).map .agg
 | n+1,.tuple cs=>(cs.toList.mapM (ofV n)).map .tup
 | _+1,.slice none 0 0=>some .nils
 | _+1,.pointer none=>some .nilp
 | _+1,.map none=>some .nilm
 | _+1,.nilIface=>some .nilif
 | _+1,.nilFunc=>some .nilfn
 | n+1,.iface t v=>(ofV n v).map (.iface t)
 | _+1,_=>none
def dI:Operand→Option Arg
 | .tmp t=>some (.t t)
 | .const v=>(ofV 10 v).map .c
 | .global g=>some (.g g)
 | .func f=>some (.f f)
def mG(l:Array Operand):Option (List Arg):=l.toList.mapM dI
def kB:Option Operand→Option (Option Arg)
 | none=>some none
 | some x=>(dI x).map some
def wD(P:Program)(t:TypeId):Option Bool:=(P.underlying t).map fun
 | .struct _=>true
 | .array _ _=>true
 | _=>false
def cSz(P:Program)(t:TypeId):Option (Option Nat):=do
 let i ←P.info? t
 let a ←wD P t
 some (bif a then some i.size else none)
def iN(P:Program)(t:TypeId):Option Nat:=(P.info? t).map (·.size)
def iX(P:Program)(t:TypeId):Option D:=do
 let i ←P.info? t
 let v ←i.zero
 ofV 10 v
def uO:D→Option (List D)
 | .agg cs=>some cs
 | _=>none
def xT(len size:Nat)(z:List D):List D:=bif Nat.beq (len*size) 0 then[]else rep len z
def eT(P:Program):Nat→TypeId→Option ET
 | 0,_=>none
 | n+1,t=>
  match P.underlying t with
  | some .bool=>some .bool
  | some (.int _)=>some .int
  | some .string=>some .str
  | some (.struct fs)=>
   bif P.stoodInHeld t then none else
   (List.mapM (fun(f:Field)=>do
    let s ←cSz P f.type
    let e ←eT P n f.type
    some (f.offset,s,e)) (fs.toList.filter (fun f=>f.name != "_"))).map .parts
  | some (.array len el)=>do
   let s ←cSz P el
   let k ←iN P el
   let e ←eT P n el
   some (.parts ((List.range len).map fun i=>(i*k,s,e)))
  | _=>none
def keyT(P:Program)(t:TypeId):Option ET:=
 match P.underlying t with
 | some .bool=>some .bool
 | some (.int _)=>some .int
 | some .string=>some .str
 | some (.array len el)=>match P.underlying el,cSz P el,iN P el with
  | some (.int _),some none,some 1=>some (.parts ((List.range len).map fun i=>(i,none,.int)))
  | _,_,_=>none
 | _=>none
def tU:Operand→Bool
 | .const _=>true
 | _=>false
def cmpK(P:Program)(t:TypeId)(x y:Operand):Option EK:=
 match P.underlying t with
 | some .bool=>some (.ty .bool)
 | some (.struct _)=>bif P.eqGuardType P.depth t then none else(eT P 20 t).map .ty
 | some (.array _ _)=>bif P.eqGuardType P.depth t then none else(eT P 20 t).map .ty
 | some (.slice _)=>some .slc
 | some (.pointer _)=>some .ptr
 | some (.interface _)=>some (.ifc (tU x||tU y))
 | some (.func _ _ _)=>some .fnc
 | _=>none
def isNumT(P:Program)(t:TypeId):Bool:=
 match P.underlying t with
 | some (.int _)=>true
 | some .string=>true
 | _=>false
def yW(P:Program)(o:Oper):Option AOp:=
 match o.op with
 | .move x=>do some (.mv (←dI x))
 | .assign x=>do some (.mv (←dI x))
 | .pick c a b=>do some (.pick (←dI c) (←dI a) (←dI b))
 | .alloc t=>do some (.new (t+1) (.c (←iX P t)))
 | .box t x=>do some (.new (t+1) (←dI x))
 | .build t ps=>do
  let cells ←uO (←iX P t)
  match P.underlying t with
  | some (.struct fs)=>
   let l ←ps.toList.mapM fun(p:Nat×Operand)=>do
    let f ←fs[p.1]?
    let s ←iN P f.type
    let a ←dI p.2
    some (f.offset,s,a)
   bif fs.all fun f=>(P.info? f.type).isSome then some (.bld cells l) else none
  | some (.array _ e)=>
   let s ←iN P e
   let l ←ps.toList.mapM fun(p:Nat×Operand)=>do
    let a ←dI p.2
    some (p.1*s,s,a)
   some (.bld cells l)
  | _=>none
 | .buildSlice t len ps=>
  match P.underlying t with
  | some (.slice e)=>do
   let s ←iN P e
   let z ←iX P e
   let l ←ps.toList.mapM fun(p:Nat×Operand)=>do
    let a ←dI p.2
    some (p.1*s,s,a)
   let zc ←z.cells?
   bif Nat.ble (len*s) 16777216&&Nat.beq zc.length s then some (.bsl len s (xT len s zc) l) else none
  | _=>none
 | .load t x=>do some (.ld (←cSz P t) (←dI x))
 | .store t x v=>do some (.st (←iN P t) (←dI x) (←dI v))
 | .nilCheck x=>do some (.nilc (←dI x))
 | .binOp op t x y _=>
  bif isNumT P t then do some (.bin op (←dI x) (←dI y)) else
  match op with
  | .eql=>do some (.cmp false (←cmpK P t x y) (←dI x) (←dI y))
  | .neq=>do some (.cmp true (←cmpK P t x y) (←dI x) (←dI y))
  | _=>none
 | .unOp op _ x=>do some (.un op (←dI x))
 | .convert s d x=>
  match P.underlying s,P.underlying d with
  | some (.int _),some (.int k)=>do some (.cvI k (←dI x))
  | some (.int _),some .string=>do some (.cvN (←dI x))
  | some .string,some .string=>do some (.cvN (←dI x))
  | some .string,some (.slice e)=>
   match P.underlying e with
   | some (.int .u8)=>bif P.cellsOf e==1 then do some (.cvB (←dI x)) else none
   | _=>none
  | some (.slice e),some .string=>
   match P.underlying e with
   | some (.int .u8)=>do some (.cvS (←dI x))
   | _=>none
  | _,_=>none
 | .makeInterface t x=>
  match P.underlying t with
  | some (.interface _)=>none
  | some _=>do some (.mkif t (←dI x))
  | none=>none
 | .makeFunc f a b=>do some (.mkfn f (←mG a) (←mG b))
 | .makeSlice t l c=>
  match P.underlying t with
  | some (.slice e)=>do
   let i ←P.info? e
   let z ←iX P e
   let zc ←z.cells?
   bif Nat.beq zc.length i.size then some (.mks i.size i.bytes zc (←dI l) (←dI c)) else none
  | _=>none
 | .slice t x l h m=>
  match P.underlying t with
  | some .string=>match m with
   | none=>do some (.slS (←dI x) (←kB l) (←kB h))
   | some _=>none
  | some (.slice e)=>do
   let s ←iN P e
   match h,m with
   | none,some _=>none
   | _,_=>some (.slV s (←dI x) (←kB l) (←kB h) (←kB m))
  | some (.array n e)=>do
   let s ←iN P e
   match h,m with
   | none,some _=>none
   | _,_=>some (.slA n s (←dI x) (←kB l) (←kB h) (←kB m))
  | _=>none
 | .fieldAddr t x f=>
  match P.underlying t with
  | some (.struct fs)=>do
   let f ←fs[f]?
   let s ←iN P f.type
   bif Nat.beq s 0 then none else some (.fa f.offset (←dI x))
  | _=>none
 | .field t x f=>
  match P.underlying t with
  | some (.struct fs)=>do
   let f ←fs[f]?
   some (.fld f.offset (←cSz P f.type) (←dI x))
  | _=>none
 | .indexAddr t x i=>
  match P.underlying t with
  | some (.array n e)=>do some (.iaA n (←iN P e) (←dI x) (←dI i))
  | some (.slice e)=>do some (.iaS (←iN P e) (←dI x) (←dI i))
  | _=>none
 | .index t x i=>
  match P.underlying t with
  | some (.array n e)=>do some (.ixA n (←iN P e) (←wD P e) (←dI x) (←dI i))
  | some .string=>do some (.ixS (←dI x) (←dI i))
  | _=>none
 | .range t x=>
  match P.underlying t with
  | some .string=>do some (.rng (←dI x))
  | some (.map _ _)=>do some (.rgm (←dI x))
  | _=>none
 | .next x s=>bif s then do some (.next (←dI x)) else do some (.nxm (←dI x))
 | .entry x=>do some (.ent (←dI x))
 | .makeMap _ none=>some .mkm
 | .lookup t x i ok=>match P.underlying t with
  | some (.map k e)=>do some (.mlk (←iX P e) ok (←keyT P k) (←dI x) (←dI i))
  | _=>none
 | .mapUpdate t x i v=>match P.underlying t with
  | some (.map k _)=>do some (.mup (←keyT P k) (←dI x) (←dI i) (←dI v))
  | _=>none
 | .insert t x i v=>match P.underlying t with
  | some (.map k _)=>do some (.mup (←keyT P k) (←dI x) (←dI i) (←dI v))
  | _=>none
 | .typeAssert x _ t ok=>match P.underlying t with
  | some (.interface _)=>none
  | some _=>do some (.tas t (←iX P t) ok (←dI x))
  | none=>none
 | .panic x=>do some (.pan (←dI x))
 | .defer c=>match c.callee with
  | .value x=>do some (.dfr (←dI x) (←mG c.args))
  | _=>none
 | .extract x i=>do some (.ext i (←dI x))
 | .call c=>
  match c.callee with
  | .value (.func f)=>do
   let fn ←P.funcs[f]?
   bif fn.name == "runtime.NumGoroutine" || fn.body.isNone then none else some (.call f (←mG c.args))
  | .value x=>do some (.callv (←dI x) (←mG c.args))
  | .invoke r m=>do some (.inv m (←dI r) (←mG c.args))
  | .builtin b=>
   match b,c.args.toList,c.argTypes.toList with
   | .len,[x],[t]=>
    match P.underlying t with
    | some .string=>do some (.len true (←dI x))
    | some (.slice _)=>do some (.len false (←dI x))
    | some (.array n _)=>some (.mv (.c (.int .i64 n)))
    | some (.map _ _)=>do some (.mln (←dI x))
    | _=>none
   | .cap,[x],[t]=>
    match P.underlying t with
    | some (.slice _)=>do some (.cap (←dI x))
    | _=>none
   | .append,[x,y],[t,u]=>
    match P.underlying t,P.underlying u with
    | some (.slice e),some (.slice e')=>do
     let i ←P.info? e
     let j ←P.info? e'
     let z ←i.zero
     bif Nat.beq i.size j.size && !Nat.beq i.size 0&&Nat.beq z.cells.size i.size then some (.app i.size i.bytes (e+1) (←dI x) (←dI y)) else none
    | some (.slice e),some .string=>do
     let i ←P.info? e
     let z ←i.zero
     bif Nat.beq i.size 1&&Nat.beq z.cells.size 1 then some (.app i.size i.bytes (e+1) (←dI x) (←dI y)) else none
    | _,_=>none
   | .copy,[x,y],[t,u]=>
    match P.underlying t,P.underlying u with
    | some (.slice e),some (.slice e')=>do
     let i ←P.info? e
     let j ←P.info? e'
     bif Nat.beq i.size j.size then some (.copy i.size (←dI x) (←dI y)) else none
    | some (.slice e),some .string=>do
     let i ←P.info? e
     bif Nat.beq i.size 1 then some (.copy 1 (←dI x) (←dI y)) else none
    | _,_=>none
   | .min,[x,y],_=>do some (.mm false (←dI x) (←dI y))
   | .max,[x,y],_=>do some (.mm true (←dI x) (←dI y))
   | .recover,[],[]=>some .rcv
   | _,_,_=>none
 | _=>none
def isRow(P:Program)(f:Nat)(name:String):Bool:=
 match P.funcs[f]? with
 | some fn=>fn.body.isNone&&(fn.name==name&&((Extern.findNext fn).isNone && !(fn.name == "runtime.NumGoroutine")))
 | none=>false
def cRow(P:Program)(f:Nat)(az:Array Operand):Option AOp:=
 bif isRow P f "internal/bytealg.IndexByteString" then(mG az).map (.xl .idb) else none
def cExt(P:Program)(o:Oper):Option AOp:=
 match o.op with
 | .call c=>match c.callee with
  | .value (.func f)=>cRow P f c.args
  | _=>none
 | _=>none
def cOp(P:Program)(o:Oper):Option AOp:=
 match cExt P o with
 | some op=>some op
 | none=>yW P o
def cGuard(ops:Array Oper):Option (Nat×Bool)→Option (Option (Nat×Bool))
 | none=>some none
 | some (j,b)=>do
  let o ←ops[j]?
  let d ←o.dst
  some (some (d,b))
def yV(P:Program)(N:Nat)(ops:Array Oper)(o:Oper):Option cR:=do
 let op ←cOp P o
 let g ←cGuard ops o.guard
 bif (match o.dst with|some d=>Nat.blt d N|none=>true) then some { dst:=o.dst,op:=op,guard:=g } else none
def lZ(P:Program)(N:Nat)(ops:Array Oper):List Oper→Option (List cR)
 | []=>some []
 | o::r=>do
  let a ←yV P N ops o
  let l ←lZ P N ops r
  some (a::l)
def AOp.kd:AOp→Nat
 | .new ..=>1
 | .bsl ..=>1
 | .mks ..=>1
 | .mkm=>1
 | .st ..=>2
 | .app ..=>2
 | .copy ..=>2
 | .cvB ..=>2
 | .rng ..=>2
 | .next ..=>2
 | .mup ..=>2
 | .men ..=>2
 | .mst ..=>2
 | .rgm ..=>2
 | .nxm ..=>2
 | .call ..=>2
 | .callv ..=>2
 | .inv ..=>2
 | .pan ..=>3
 | .dfr ..=>3
 | .rcv=>3
 | .xa ..=>2
 | _=>0
def ancs:List Oper→List Nat→List Nat
 | [],acc=>acc
 | o::r,acc=>
  let m:=o.after.toList.foldl (fun s e=>bif Region.binds .any e then s ||| 2 ^ e.on ||| acc.getD e.on 0 else s) 0
  ancs r (acc++[m])
def dstM(o:cR):Nat:=match o.dst with
 | some d=>2 ^ d
 | none=>0
def mskM(o:cR):Nat:=o.tmps.foldl (fun m t=>m ||| 2 ^ t) 0
def ordGo(n:Nat)(Am:List Nat):List Nat→Nat→List Nat→List Nat
 | [],m,acc=>acc++(List.range n).filter (fun i=>!m.testBit i)
 | e::r,m,acc=>
  let A:=Am.getD e 0
  ordGo n Am r (m ||| A ||| 2 ^ e) (acc++(List.range n).filter (fun i=>A.testBit i && !m.testBit i)++[e])
def ordK(Am:List Nat)(kd:List Nat):List Nat→List Nat→List (Nat×Nat)
 | [],_=>[]
 | i::r,Li=>(i,(Li.takeWhile fun e=>!(Am.getD i 0).testBit e).length)::ordK Am kd r (bif Nat.beq (kd.getD i 0) 2 then i::Li else Li)
def uZ(Am:List Nat)(kd:List Nat):List (Nat×Nat):=
 ordK Am kd (ordGo kd.length Am ((List.range kd.length).filter fun i=>Nat.beq (kd.getD i 0) 2) 0 []) []
def nS(n:Nat)(Am:List Nat)(az:List cR):List (Nat×Nat)→Nat→List Nat→List (Nat×Nat×Nat)→Bool
 | [],dn,_,_=>Nat.beq dn (2 ^ n-1)
 | (i,k)::r,dn,Li,em=>
  match az[i]? with
  | none=>false
  | some o=>
   let A:=Am.getD i 0
   let dm:=dstM o
   let rm:=mskM o
   let ef:=Nat.beq o.op.kd 2
   Nat.blt i n&&(!(dn.testBit i)&&(Nat.beq (A&&&dn) A&&((bif ef then Nat.beq A dn else(Li.drop k).all fun e=>A.testBit e)&&(Nat.beq (dm&&&rm) 0 &&
    ((em.all fun q=>Nat.beq (dm&&&q.2.1) 0&&(A.testBit q.1||(Nat.beq (dm&&&q.2.2) 0&&Nat.beq (q.2.1&&&rm) 0))) &&
     nS n Am az r (dn ||| 2 ^ i) (bif ef then i::Li else Li) ((i,dm,rm)::em))))))
def stuckC:AC:=.cond (.c .un) .skip .skip
def nT(a:Option AC):AC:=
 match a with
 | some a=>a
 | none=>stuckC
def jG:AC→Nat→Option AC
 | .seq a b,n=>match jG a n with
  | some r=>some (.seq r b)
  | none=>jG b n
 | .block i .skip,n=>bif Nat.beq i n&&Nat.beq (n % 2) 1 then some .skip else none
 | _,_=>none
def oU:AC→List Nat
 | .seq a b=>oU a++oU b
 | .block i .skip=>bif Nat.beq (i % 2) 1 then[i] else[]
 | _=>[]
def lX(p:AC):List Nat→AC→AC
 | [],x=>x
 | n::ns,x=>match jG p n with
  | some r=>.lab n (lX p ns r) (lX p ns x)
  | none=>stuckC
def comp(P:Program)(N:Nat):Code→Option AC
 | .skip=>some .skip
 | .label l=>some (.block (2*l+1) .skip)
 | .region _ ops draw=>do
  let l ←lZ P N ops ops.toList
  bif draw then
   let Am:=ancs ops.toList []
   let ord:=uZ Am (l.map fun o=>o.op.kd)
   bif nS ops.size Am l ord 0 [] []&&Nat.ble ops.size ord.length then some (.reg (some ord) (ord.filterMap fun p=>l[p.1]?)) else none
  else some (.reg none l)
 | .seq a b=>do some (.seq (←comp P N a) (←comp P N b))
 | .cond c a b=>do some (.cond (←dI c) (nT (comp P N a)) (nT (comp P N b)))
 | .block id a=>do some (.block (2*id) (←comp P N a))
 | .loop a=>do some (.loop (←comp P N a))
 | .exit id=>some (.exit (2*id))
 | .goto l=>some (.exit (2*l+1))
 | .scope a=>do
  let p ←comp P N a
  some (.scope (lX p (oU p) p))
 | .ret=>some .ret
 | .rangeFunc f ps a b=>do
  let g ←dI f
  let a' ←comp P N a
  let b' ←comp P N b
  bif ps.toList.all (fun p=>Nat.blt p N) then some (.rfn g ps.toList a' b') else none
 | _=>none
def pP(P:Program):ResultVar→Option RV
 | .tmp t=>some (.tmp t)
 | .cell a t=>do some (.cell a (←cSz P t))
def compF(P:Program)(fn:Func):Option AF:=do
 let c ←fn.body
 let b ←comp P fn.ntmps c
 let r ←fn.results.toList.mapM (pP P)
 bif Nat.beq fn.nfree 0 then some { np:=fn.params.size,body:=b,res:=r } else some { np:=fn.params.size+fn.nfree,body:=b,res:=r }
end Zv
end
