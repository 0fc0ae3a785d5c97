/- Running abstract code: calls with effects, panics, deferred calls, ranges over functions. Conditions: none. -/
import Derived.Test.YtnpoohbeicakkaaGreatDoorZAA
import Derived.Laws.Entries
import Derived.Laws.Cells
import Derived.Laws.Strings
set_option linter.unusedVariables false
set_option linter.unusedSimpArgs false
namespace Zv
open Go
abbrev Ch:=List (D×Bool)
inductive Out where
 | normal
 | exit (id:Nat)
 | ret
 | pan (c:Ch)
 deriving Inhabited
inductive FO where
 | ret (d:D)
 | pan (c:Ch)
 deriving Inhabited
inductive CE where
 | fn (f:Nat)
 | yl (nm:Nat)
inductive FR where
 | no
 | ok (o:FO) (s:St) (c:Nat)
structure Cx where
 T:Nat→Option AF
 G:List (Nat×List D)
 M:Nat→String→Option Nat
 K:Nat→List (List D×D)
 X:Nat→Option (List D→St→Nat→FR)
inductive R where
 | no
 | ok (o:Out) (x:AS)
abbrev CL:=CE→List D→St→Nat→FR
noncomputable section
def evs_nil(_:List (Nat×List D))(_:Tm):List D:=[]
def evs_cons(a:Arg)(_:List Arg)(ih:List (Nat×List D)→Tm→List D)(G:List (Nat×List D))(t:Tm):List D:=a.ev G t::ih G t
def evs(l:List Arg)(G:List (Nat×List D))(t:Tm):List D:=List.rec (motive:=fun _=>List (Nat×List D)→Tm→List D) evs_nil evs_cons l G t
def iI(dst:Option Nat)(t:Tm)(d:D):Tm:=Option.rec t (fun n=>tput t n d) dst
def back_fo_ret(d:D)(dst:Option Nat)(x:AS)(s:St)(c:Nat):R:=.ok .normal ⟨iI dst x.t d,s,c,x.d,x.r⟩
def back_fo_pan(ch:Ch)(_:Option Nat)(x:AS)(s:St)(c:Nat):R:=.ok (.pan ch) ⟨x.t,s,c,x.d,x.r⟩
def back_no(_:Option Nat)(_:AS):R:=.no
def back_ok(o:FO)(s:St)(c:Nat)(dst:Option Nat)(x:AS):R:=FO.rec (motive:=fun _=>Option Nat→AS→St→Nat→R) back_fo_ret back_fo_pan o dst x s c
def back(dst:Option Nat)(x:AS)(r:FR):R:=FR.rec (motive:=fun _=>Option Nat→AS→R) back_no back_ok r dst x
def callM(cl:CL)(dst:Option Nat)(x:AS)(args:List D)(r:Option Nat):R:=Option.rec .no (fun f=>back dst x (cl (.fn f) args x.s x.c)) r
def kN(cx:Cx)(cl:CL)(dst:Option Nat)(x:AS)(d:D)(args:List D):R:=
 match d with
 | .fn (.func f) fs cs=>back dst x (cl (.fn f) (fs++args++cs) x.s x.c)
 | .fn (.method name) fs cs=>match fs++args,cs with
  | .iface t v::r,[]=>callM cl dst x (v::r) (cx.M t name)
  | _,_=>.no
 | .yl nm=>back dst x (cl (.yl nm) args x.s x.c)
 | _=>.no
def zval_some(p:D×AS)(dst:Option Nat):R:=.ok .normal ⟨iI dst p.2.t p.1,p.2.s,p.2.c,p.2.d,p.2.r⟩
def zval_none(_:Option Nat):R:=.no
def zval(dst:Option Nat)(r:Option (D×AS)):R:=Option.rec (motive:=fun _=>Option Nat→R) zval_none zval_some r dst
def zo_call(f:Nat)(l:List Arg)(cx:Cx)(cl:CL)(dst:Option Nat)(x:AS):R:=back dst x (cl (.fn f) (evs l cx.G x.t) x.s x.c)
def zo_callv(c:Arg)(l:List Arg)(cx:Cx)(cl:CL)(dst:Option Nat)(x:AS):R:=kN cx cl dst x (c.ev cx.G x.t) (evs l cx.G x.t)
def zo_inv(name:String)(r:Arg)(l:List Arg)(cx:Cx)(cl:CL)(dst:Option Nat)(x:AS):R:=match r.ev cx.G x.t with
 | .iface t v=>callM cl dst x (v::evs l cx.G x.t) (cx.M t name)
 | _=>.no
def zo_pan(a:Arg)(cx:Cx)(_:CL)(_:Option Nat)(x:AS):R:=match a.ev cx.G x.t with
 | .iface t v=>.ok (.pan [(.iface t v,false)]) x
 | _=>.no
def zo_dfr(f:Arg)(l:List Arg)(cx:Cx)(_:CL)(dst:Option Nat)(x:AS):R:=match f.ev cx.G x.t with
 | .fn g p q=>Option.rec (.ok .normal ⟨iI dst x.t .un,x.s,x.c,(.fn g p q,evs l cx.G x.t)::x.d,x.r⟩) (fun _=>.no) x.r
 | _=>.no
def zo_rcv(_:Cx)(_:CL)(_:Option Nat)(_:AS):R:=.no
def zOp(cx:Cx)(cl:CL)(o:cR)(x:AS):R:=
 AOp.rec (motive:=fun _=>Cx→CL→Option Nat→AS→R)
  (fun a0 cx _ dst x=>zval dst (wP a0 cx.G x))
  (fun a0 a1 a2 cx _ dst x=>zval dst (nP a0 a1 a2 cx.G x))
  (fun a0 a1 cx _ dst x=>zval dst (sM a0 a1 cx.G x))
  (fun a0 a1 cx _ dst x=>zval dst (wR a0 a1 cx.G x))
  (fun a0 a1 a2 cx _ dst x=>zval dst (st_st a0 a1 a2 cx.G x))
  (fun a0 a1 cx _ dst x=>zval dst (wT a0 a1 cx.G x))
  (fun a0 a1 a2 a3 cx _ dst x=>zval dst (qN a0 a1 a2 a3 cx.G x))
  (fun a0 a1 a2 cx _ dst x=>zval dst (qM a0 a1 a2 cx.G x))
  (fun a0 a1 a2 a3 a4 cx _ dst x=>zval dst (qL a0 a1 a2 a3 a4 cx.G x))
  (fun a0 a1 cx _ dst x=>zval dst (qK a0 a1 cx.G x))
  (fun a0 a1 a2 cx _ dst x=>zval dst (pC a0 a1 a2 cx.G x))
  (fun a0 a1 cx _ dst x=>zval dst (qO a0 a1 cx.G x))
  (fun a0 a1 a2 cx _ dst x=>zval dst (qU a0 a1 a2 cx.G x))
  (fun a0 a1 a2 a3 cx _ dst x=>zval dst (qS a0 a1 a2 a3 cx.G x))
  (fun a0 a1 cx _ dst x=>zval dst (wO a0 a1 cx.G x))
  (fun a0 a1 cx _ dst x=>zval dst (qT a0 a1 cx.G x))
  (fun a0 a1 a2 a3 cx _ dst x=>zval dst (sR a0 a1 a2 a3 cx.G x))
  (fun a0 a1 a2 a3 a4 cx _ dst x=>zval dst (sP a0 a1 a2 a3 a4 cx.G x))
  (fun a0 a1 a2 cx _ dst x=>zval dst (qE a0 a1 a2 cx.G x))
  (fun a0 a1 a2 a3 a4 cx _ dst x=>zval dst (qD a0 a1 a2 a3 a4 cx.G x))
  (fun a0 a1 a2 a3 a4 a5 cx _ dst x=>zval dst (jU a0 a1 a2 a3 a4 a5 cx.G x))
  (fun a0 a1 cx _ dst x=>zval dst (qJ a0 a1 cx.G x))
  (fun a0 cx _ dst x=>zval dst (pF a0 cx.G x))
  (fun a0 a1 a2 a3 a4 cx _ dst x=>zval dst (sS a0 a1 a2 a3 a4 cx.G x))
  (fun a0 a1 a2 cx _ dst x=>zval dst (jA a0 a1 a2 cx.G x))
  (fun a0 a1 cx _ dst x=>zval dst (qQ a0 a1 cx.G x))
  (fun a0 cx _ dst x=>zval dst (qP a0 cx.G x))
  (fun a0 cx _ dst x=>zval dst (qR a0 cx.G x))
  (fun a0 cx _ dst x=>zval dst (pE a0 cx.G x))
  (fun a0 a1 cx _ dst x=>zval dst (nR a0 a1 cx.G x))
  (fun a0 a1 a2 cx _ dst x=>zval dst (nS a0 a1 a2 cx.G x))
  (fun a0 cx _ dst x=>zval dst (nQ a0 cx.G x))
  (fun a0 cx _ dst x=>zval dst (sL a0 cx.G x))
  (fun a0 cx _ dst x=>zval dst (oL a0 cx.G x))
  (fun a0 a1 a2 cx _ dst x=>zval dst (wQ a0 a1 a2 cx.G x))
  (fun  cx _ dst x=>zval dst (qI  cx.G x))
  (fun a0 a1 a2 a3 a4 cx _ dst x=>zval dst (pA a0 a1 a2 a3 a4 cx.G x))
  (fun a0 a1 a2 a3 cx _ dst x=>zval dst (qH a0 a1 a2 a3 cx.G x))
  (fun a0 a1 a2 a3 cx _ dst x=>zval dst (sQ a0 a1 a2 a3 cx.G x))
  (fun a0 a1 a2 cx _ dst x=>zval dst (sO a0 a1 a2 cx.G x))
  (fun a0 cx _ dst x=>zval dst (oZ a0 cx.G x))
  (fun a0 cx _ dst x=>zval dst (qF a0 cx.G x))
  (fun a0 cx _ dst x=>zval dst (qG a0 cx.G x))
  (fun a0 cx _ dst x=>zval dst (pD a0 cx.G x))
  (fun a0 a1 a2 a3 cx _ dst x=>zval dst (oY a0 a1 a2 a3 cx.G x))
  (fun a0 a1 a2 cx _ dst x=>zval dst (qC a0 a1 a2 cx.G x))
  zo_call
  zo_callv
  zo_inv
  zo_pan
  zo_dfr
  zo_rcv
  (fun a0 a1 cx _ dst x=>zval dst (sI a0 a1 cx.G x))
  (fun a0 a1 cx _ dst x=>zval dst (wN a0 a1 cx.G x))
  o.op cx cl o.dst x
def wanted(o:cR)(x:AS):Option Bool:=
 match o.guard with
 | none=>some true
 | some (g,want)=>match tget x.t g with
  | .bool b=>some (b==want)
  | .tup []=>some false
  | _=>none
def zops_nil(_:Cx)(_:CL)(x:AS):R:=.ok .normal x
def zthen(k:AS→R)(o:Out)(x:AS):R:=Out.rec (motive:=fun _=>(AS→R)→AS→R) (fun k x=>k x) (fun i _ x=>.ok (.exit i) x) (fun _ x=>.ok .ret x) (fun c _ x=>.ok (.pan c) x) o k x
def zbind(r:R)(k:AS→R):R:=R.rec .no (fun o x=>zthen k o x) r
def tW(o:cR)(ih:Cx→CL→AS→R)(cx:Cx)(cl:CL)(x:AS)(b:Bool):R:=
 Bool.rec (ih cx cl ⟨iI o.dst x.t (.tup []),x.s,x.c,x.d,x.r⟩) (zbind (zOp cx cl o x) (ih cx cl)) b
def zops_cons(o:cR)(_:List cR)(ih:Cx→CL→AS→R)(cx:Cx)(cl:CL)(x:AS):R:=
 Option.rec .no (tW o ih cx cl x) (wanted o x)
def nL(cx:Cx)(cl:CL)(l:List cR)(x:AS):R:=List.rec (motive:=fun _=>Cx→CL→AS→R) zops_nil zops_cons l cx cl x
def cT(G:List (Nat×List D))(op:AOp)(t:Tm):Option ((Nat→D)×Blk):=
 match op with
 | .new ty a=>match(a.ev G t).cells? with
  | some cs=>some (fun nm=>.ptr nm 0,.fix ty cs)
  | none=>none
 | .bsl len sz cells ps=>(place cells (parts G t ps)).map fun cs=>(fun nm=>.ms nm 0 sz len len,.fix 0 cs)
 | .mks sz bytes zero l c=>match l.ev G t,c.ev G t with
  | .int _ l,.int _ c=>
   if 0≤l∧l≤c∧bytes*c≤1099511627776∧c≤4294967296 then some (fun nm=>.ms nm 0 sz l.toNat c.toNat,.fix 0 (rep c.toNat zero)) else none
  | _,_=>none
 | .mkm=>some (fun nm=>.mp nm,.mp [] 0)
 | _=>none
mutual
def sameD:Nat→D→D→Bool
 | 0,_,_=>false
 | n+1,a,b=>
  match a,b with
  | .un,.un=>true
  | .bool x,.bool y=>x==y
  | .int j x,.int k y=>decide (j=k)&&x==y
  | .str x,.str y=>x==y
  | .agg x,.agg y=>nD n x y
  | .tup x,.tup y=>nD n x y
  | .nils,.nils=>true
  | .nilp,.nilp=>true
  | .nilm,.nilm=>true
  | .nilif,.nilif=>true
  | .nilfn,.nilfn=>true
  | .iface j x,.iface k y=>Nat.beq j k&&sameD n x y
  | .sl e j x,.sl e' k y=>(e==e')&&Nat.beq j k&&nD n x y
  | .iptr x j,.iptr y k=>Nat.beq j k&&nD n x y
  | .ms a b c d e,.ms a' b' c' d' e'=>Nat.beq a a'&&Nat.beq b b'&&Nat.beq c c'&&Nat.beq d d'&&Nat.beq e e'
  | .gs a b c d,.gs a' b' c' d'=>Nat.beq a a'&&Nat.beq b b'&&Nat.beq c c'&&Nat.beq d d'
  | .ptr a b,.ptr a' b'=>Nat.beq a a'&&Nat.beq b b'
  | .mp a,.mp b=>Nat.beq a b
  | .yl a,.yl b=>Nat.beq a b
  | .it a,.it b=>Nat.beq a b
  | .adr a b,.adr a' b'=>Nat.beq a a'&&Nat.beq b b'
  | .fn (.func f) x x',.fn (.func g) y y'=>Nat.beq f g&&nD n x y&&nD n x' y'
  | _,_=>false
def nD:Nat→List D→List D→Bool
 | _,[],[]=>true
 | 0,_,_=>false
 | n+1,a::x,b::y=>sameD n a b&&nD n x y
 | _,_,_=>false
end
def cC(G:List (Nat×List D))(op:AOp)(x:AS)(d:D)(s:St):Bool:=
 match step G op ⟨x.t,s,x.c,x.d,x.r⟩ with
 | some p=>sameD 1000 d p.1||@decide (d=p.1) (Classical.propDecidable _)
 | none=>false
def zany_nil(_:List St)(x:AS):R:=.ok .normal x
def lH(cx:Cx)(cl:CL)(c0:Nat)(e:Nat×Nat×cR)(r:List (Nat×Nat×cR))(ih:List St→AS→R)(hist:List St)(x:AS):R:=
 match wanted e.2.2 x with
 | none=>.no
 | some false=>ih (bif Nat.beq e.2.2.op.kd 2 then x.s::hist else hist) ⟨iI e.2.2.dst x.t (.tup []),x.s,x.c,x.d,x.r⟩
 | some true=>match e.2.2.op.kd with
  | 0=>match step cx.G e.2.2.op x with
   | some p=>bif (hist.take e.2.1).all (cC cx.G e.2.2.op x p.1) then ih hist ⟨iI e.2.2.dst x.t p.1,x.s,x.c,x.d,x.r⟩else .no
   | none=>.no
  | 1=>match cT cx.G e.2.2.op x.t with
   | some p=>bif (x.s::hist.take e.2.1).all (fun s=>(sget s (c0+e.1)).isNone) then ih hist ⟨iI e.2.2.dst x.t (p.1 (c0+e.1)),sadd x.s (c0+e.1) p.2,x.c,x.d,x.r⟩else .no
   | none=>.no
  | 2=>match zOp cx cl e.2.2 x with
   | .ok .normal y=>ih (x.s::hist) y
   | .ok (.pan ch) y=>bif r.all (fun f=>Nat.beq f.2.1 0) then .ok (.pan ch) y else .no
   | _=>.no
  | _=>.no
def sA(cx:Cx)(cl:CL)(c0:Nat)(l:List (Nat×Nat×cR)):List St→AS→R:=List.rec zany_nil (lH cx cl c0) l
def cX:List (Nat×Nat×cR)→Tm→Tm
 | [],t=>t
 | e::r,t=>cX r (bif Nat.beq e.2.1 0 then t else iI e.2.2.dst t .un)
def eG:List (Nat×Nat)→List cR→List (Nat×Nat×cR)
 | p::r,o::l=>(p.1,p.2,o)::eG r l
 | _,_=>[]
abbrev ZK:=Cx→CL→Nat→AS→R
def zc_skip(_:Cx)(_:CL)(_:Nat)(x:AS):R:=.ok .normal x
def zc_reg(dr:Option (List (Nat×Nat)))(ops:List cR)(cx:Cx)(cl:CL)(_:Nat)(x:AS):R:=
 Option.rec (nL cx cl ops x) (fun ord=>sA cx cl x.c (eG ord ops) [] ⟨cX (eG ord ops) x.t,x.s,x.c+ops.length,x.d,x.r⟩) dr
def zc_seq(_ _:AC)(iha ihb:ZK)(cx:Cx)(cl:CL)(k:Nat)(x:AS):R:=zbind (iha cx cl k x) (ihb cx cl k)
def vV(c:Arg)(_ _:AC)(iha ihb:ZK)(cx:Cx)(cl:CL)(k:Nat)(x:AS):R:=match c.ev cx.G x.t with
 | .bool r=>Bool.rec (ihb cx cl k x) (iha cx cl k x) r
 | _=>.no
def zblk(id:Nat)(o:Out)(x:AS):R:=Out.rec (.ok .normal x) (fun i=>Bool.rec (.ok (.exit i) x) (.ok .normal x) (Nat.beq i id)) (.ok .ret x) (fun c=>.ok (.pan c) x) o
def zc_block(id:Nat)(_:AC)(iha:ZK)(cx:Cx)(cl:CL)(k:Nat)(x:AS):R:=R.rec .no (zblk id) (iha cx cl k x)
def zloop_0(_:AS→R)(_:AS):R:=.no
def zloop_s(_:Nat)(ih:(AS→R)→AS→R)(f:AS→R)(x:AS):R:=zbind (f x) (ih f)
def zloop(n:Nat)(f:AS→R)(x:AS):R:=Nat.rec (motive:=fun _=>(AS→R)→AS→R) zloop_0 zloop_s n f x
def zc_loop(_:AC)(iha:ZK)(cx:Cx)(cl:CL)(k:Nat)(x:AS):R:=zloop k (iha cx cl k) x
def zc_exit(id:Nat)(_:Cx)(_:CL)(_:Nat)(x:AS):R:=.ok (.exit id) x
def zc_scope(_:AC)(iha:ZK)(cx:Cx)(cl:CL)(k:Nat)(x:AS):R:=iha cx cl k x
def zc_ret(_:Cx)(_:CL)(_:Nat)(x:AS):R:=.ok .ret x
def lU(nm:Nat)(y:AS):R:=
 match sget y.s nm with
 | some (.lp st pend t ps a b)=>match st with
  | .busy=>.no
  | _=>
   let z:AS:=⟨y.t,sset y.s nm (.lp .exhausted pend t ps a b),y.c,y.d,y.r⟩
   match pend with
   | none=>.ok .normal z
   | some none=>.ok .ret z
   | some (some i)=>.ok (.exit i) z
 | _=>.no
def zc_rfn(f:Arg)(ps:List Nat)(a b:AC)(_ _:ZK)(cx:Cx)(cl:CL)(_:Nat)(x:AS):R:=
 match x.r with
 | some l0=>match sget x.s l0 with
  | some (.lp ..)=>zbind (kN cx cl none ⟨x.t,sadd x.s x.c (.lp .ready none x.t ps a b),x.c+1,x.d,some l0⟩ (f.ev cx.G x.t) [.yl x.c]) (lU x.c)
  | _=>.no
 | none=>zbind (kN cx cl none ⟨x.t,sadd (sadd x.s x.c .dfd) (x.c+1) (.lp .ready none x.t ps a b),x.c+2,(.it x.c,[])::x.d,none⟩ (f.ev cx.G x.t) [.yl (x.c+1)]) (lU (x.c+1))
def zlab_0(n:Nat)(_:AS→R)(r:R):R:=match r with
 | .ok (.exit i) y=>bif Nat.beq i n then .no else .ok (.exit i) y
 | r=>r
def zlab_s(_:Nat)(ih:Nat→(AS→R)→R→R)(n:Nat)(f:AS→R)(r:R):R:=match r with
 | .ok (.exit i) y=>bif Nat.beq i n then ih n f (f y) else .ok (.exit i) y
 | r=>r
def zlab(k:Nat)(n:Nat)(f:AS→R)(r:R):R:=Nat.rec (motive:=fun _=>Nat→(AS→R)→R→R) zlab_0 zlab_s k n f r
def zc_lab(n:Nat)(_ _:AC)(ihr iha:ZK)(cx:Cx)(cl:CL)(k:Nat)(x:AS):R:=zlab k n (ihr cx cl k) (iha cx cl k x)
def zC(c:AC)(cx:Cx)(cl:CL)(k:Nat)(x:AS):R:=
 AC.rec (motive:=fun _=>ZK) zc_skip zc_reg zc_seq vV zc_block zc_loop zc_exit zc_scope zc_ret zc_rfn zc_lab c cx cl k x
abbrev dS:=Option Ch
inductive RS where
 | no
 | ok (o:Out) (x:AS) (m:dS)
def jL(cx:Cx)(cl:CL):List cR→AS→dS→RS
 | [],x,m=>.ok .normal x m
 | o::r,x,m=>match wanted o x with
  | some true=>match o.op with
   | .rcv=>match m with
    | some ((v,false)::older)=>jL cx cl r (x.put o.dst v) (some ((v,true)::older))
    | _=>jL cx cl r (x.put o.dst .nilif) m
   | _=>match zOp cx cl o x with
    | .ok .normal y=>jL cx cl r y m
    | .ok e y=>.ok e y m
    | .no=>.no
  | some false=>jL cx cl r (x.put o.dst (.tup [])) m
  | none=>.no
def AC.noRcv:AC→Bool
 | .skip=>true
 | .reg _ ops=>ops.all fun o=>match o.op with | .rcv=>false|_=>true
 | .seq a b=>a.noRcv&&b.noRcv
 | .cond _ a b=>a.noRcv&&b.noRcv
 | .block _ a=>a.noRcv
 | .loop a=>a.noRcv
 | .exit _=>true
 | .scope a=>a.noRcv
 | .ret=>true
 | .rfn _ _ a b=>a.noRcv&&b.noRcv
 | .lab _ a b=>a.noRcv&&b.noRcv
def zS(cx:Cx)(cl:CL)(k:Nat):AC→AS→dS→RS
 | .reg none ops,x,m=>jL cx cl ops x m
 | .seq a b,x,m=>match zS cx cl k a x m with
  | .ok .normal y m=>zS cx cl k b y m
  | r=>r
 | .cond c a b,x,m=>match c.ev cx.G x.t with
  | .bool r=>bif r then zS cx cl k a x m else zS cx cl k b x m
  | _=>.no
 | .block id a,x,m=>match zS cx cl k a x m with
  | .ok (.exit i) y m=>bif Nat.beq i id then .ok .normal y m else .ok (.exit i) y m
  | r=>r
 | .scope a,x,m=>zS cx cl k a x m
 | c,x,m=>bif c.noRcv then match zC c cx cl k x with
   | .ok o y=>.ok o y m
   | .no=>.no
  else .no
def results(A:AF)(x:AS):Option D:=(A.res.mapM (RV.get x)).map retD
def settle:dS→dS
 | some ((_,true)::_)=>none
 | m=>m
def raised(m:dS)(ch:Ch):dS:=
 match m with
 | some old=>some (ch++old)
 | none=>some ch
def tm0:Tm:=.nd (.nd (.nd (.nd (.ls []) (.ls [])) (.nd (.ls []) (.ls []))) (.nd (.nd (.ls []) (.ls [])) (.nd (.ls []) (.ls [])))) (.nd (.nd (.nd (.ls []) (.ls [])) (.nd (.ls []) (.ls []))) (.nd (.nd (.ls []) (.ls [])) (.nd (.ls []) (.ls []))))
def start(args:List D)(s:St)(c:Nat):AS:=⟨jZ 0 args tm0,s,c,[],none⟩
inductive DR where
 | no
 | ok (o:FO) (m:dS) (s:St) (c:Nat)
inductive DS where
 | no
 | ok (m:dS) (s:St) (c:Nat)
def zDs(dcl:Nat→List D→dS→St→Nat→DR):List (D×List D)→dS→St→Nat→DS
 | [],m,s,c=>.ok m s c
 | (.fn (.func f) fs cs,args)::r,m,s,c=>match dcl f (fs++args++cs) m s c with
  | .ok (.ret _) m s c=>zDs dcl r (settle m) s c
  | .ok (.pan ch) m s c=>zDs dcl r (raised m ch) s c
  | .no=>.no
 | (.it nm,[])::r,m,s,c=>match sget s nm with
  | some .dfd=>zDs dcl r m (sdel s nm) c
  | _=>.no
 | _::_,_,_,_=>.no
def oX(dcl:Nat→List D→dS→St→Nat→DR)(A:AF)(m:dS)(x:AS):FR:=
 match zDs dcl x.d m x.s x.c with
 | .ok none s c=>match results A ⟨x.t,s,c,x.d,x.r⟩ with
  | some d=>.ok (.ret d) s c
  | none=>.no
 | .ok (some ch) s c=>.ok (.pan ch) s c
 | .no=>.no
def oC:List Nat→List D→Tm→Tm
 | p::ps,d::ds,t=>oC ps ds (tput t p d)
 | _,_,t=>t
def zRound(cx:Cx)(cl:CL)(k:Nat)(nm:Nat)(args:List D)(s:St)(c:Nat):FR:=
 match sget s nm with
 | some (.lp _ _ t ps a b)=>
  bif Nat.beq args.length ps.length then
   match zC a cx cl k ⟨oC ps args t,s,c,[],some nm⟩ with
   | .ok .normal y=>match sget y.s nm with
    | some (.lp .ready pend t' ps' a' b')=>
     match zC b cx cl k ⟨y.t,sset y.s nm (.lp .busy pend t' ps' a' b'),y.c,y.d,y.r⟩ with
     | .ok (.pan ch) z=>match z.d with
      | []=>.ok (.pan ch) z.s z.c
      | _=>.no
     | .ok o z=>
      let jump:Option (Option Nat):=match o with | .exit i=>some (some i) | .ret=>some none|_=>none
      match sget z.s nm with
      | some (.lp _ _ t' ps' a' b')=>.ok (.ret (.bool jump.isNone)) (sset z.s nm (.lp (bif jump.isNone then .ready else .done) jump t' ps' a' b')) z.c
      | _=>.no
     | .no=>.no
    | _=>.no
   | .ok (.pan ch) z=>match z.d with
    | []=>.ok (.pan ch) z.s z.c
    | _=>.no
   | _=>.no
  else .no
 | _=>.no
def zbody(dcl:Nat→List D→dS→St→Nat→DR)(A:AF)(r:R):FR:=
 match r with
 | .ok .normal x=>oX dcl A none x
 | .ok .ret x=>oX dcl A none x
 | .ok (.pan ch) x=>oX dcl A (some ch) x
 | _=>.no
def zdone(A:AF)(o:FO)(x:AS)(m:dS):DR:=
 match x.d,o with
 | [],.pan ch=>.ok (.pan ch) m x.s x.c
 | [],.ret _=>match results A x with
  | some d=>.ok (.ret d) m x.s x.c
  | none=>.no
 | _,_=>.no
def zdbody(A:AF)(r:RS):DR:=
 match r with
 | .ok .normal x m=>zdone A (.ret .un) x m
 | .ok .ret x m=>zdone A (.ret .un) x m
 | .ok (.pan ch) x m=>zdone A (.pan ch) x m
 | _=>.no
structure FD where
 fn:CL
 df:Nat→List D→dS→St→Nat→DR
def zcall(cx:Cx)(k:Nat)(p:FD)(f:Nat)(args:List D)(s:St)(c:Nat):FR:=
 match cx.T f with
 | some A=>bif Nat.beq args.length A.np then zbody p.df A (zC A.body cx p.fn k (start args s c)) else .no
 | none=>.no
def zdef(cx:Cx)(k:Nat)(p:FD)(f:Nat)(args:List D)(m:dS)(s:St)(c:Nat):DR:=
 match cx.T f with
 | some A=>bif Nat.beq args.length A.np then zdbody A (zS cx p.fn k A.body (start args s c) m) else .no
 | none=>.no
def zlook(fa:List D):List (List D×D)→Option D
 | []=>none
 | p::r=>bif nD 1000 p.1 fa then some p.2 else zlook fa r
def zmemo(cx:Cx)(f:Nat)(inner:List D→St→Nat→FR)(args:List D)(s:St)(c:Nat):FR:=
 match cx.K f with
 | []=>inner args s c
 | p::l=>match args.mapM (fr 20 s) with
  | none=>inner args s c
  | some fa=>match zlook fa (p::l) with
   | some d=>.ok (.ret d) s c
   | none=>inner args s c
def zspec(cx:Cx)(f:Nat)(inner:List D→St→Nat→FR):List D→St→Nat→FR:=Option.rec inner (fun g=>g) (cx.X f)
def zn0:FD:=⟨fun _ _ _ _=>.no,fun _ _ _ _ _=>.no⟩
def znS(cx:Cx)(k:Nat)(_:Nat)(p:FD):FD:=
 ⟨fun ce=>CE.rec (fun f=>zspec cx f (zmemo cx f (zcall cx k p f))) (fun nm=>zRound cx p.fn k nm) ce,zdef cx k p⟩
def zN(cx:Cx)(k n:Nat):FD:=Nat.rec zn0 (znS cx k) n
end
structure Ext (M:Nat→Prop) (w:World) (M':Nat→Prop) (w':World):Prop where
 size:w.heap.size≤w'.heap.size
 same:∀b,b<w.heap.size→¬M b→w'.heap[b]?=w.heap[b]?
 less:∀b,b<w.heap.size→M' b→M b
theorem Ext.refl(M:Nat→Prop)(w:World):Ext M w M w:=⟨aJ _,fun _ _ _=>rfl,fun _ _ h=>h⟩
theorem cell_of_heap{w w':World}{b:Nat}(h:w'.heap[b]?=w.heap[b]?)(o:Nat):w'.cell? ⟨b,o,none⟩=w.cell? ⟨b,o,none⟩:=by
 simp only[World.cell?,h]
def fV(μ μ':Mu):Prop:=∀nm l,μ nm=some l→μ' nm=some l
theorem fV.refl(μ:Mu):fV μ μ:=fun _ _ h=>h
theorem mu0_le(μ:Mu):fV mu0 μ:=fun _ _ h=>by simp[mu0]at h
section
variable {M M':Nat→Prop} {w w':World}
mutual
theorem aP.mono(hx:Ext M w M' w'):∀{μ μ':Mu} (d:D) (v:Value),fV μ μ'→aP M w μ d v→aP M' w' μ' d v
 | _,_,.un,_,_,_=>by simp only[aP]
 | _,_,.bool _,_,_,h=>by simpa only[aP]using h
 | _,_,.int _ _,_,_,h=>by simpa only[aP]using h
 | _,_,.str _,_,_,h=>by simpa only[aP]using h
 | _,_,.agg cs,_,hm,h=>by
  simp only[aP]at h ⊢;obtain⟨vs,rfl,h⟩:=h;exact⟨vs,rfl,aX.mono hx cs _ hm h⟩
 | _,_,.tup cs,_,hm,h=>by
  simp only[aP]at h ⊢;obtain⟨vs,rfl,h⟩:=h;exact⟨vs,rfl,aX.mono hx cs _ hm h⟩
 | _,_,.nils,_,_,h=>by simpa only[aP]using h
 | _,_,.sl ex len cs,_,_,h=>by
  simp only[aP]at h ⊢;obtain⟨a,cap,rfl,hl,he,h⟩:=h;refine⟨a,cap,rfl,hl,he,h.imp id ?_⟩;rintro⟨b,o,rfl,hb,hlt,hc⟩;exact⟨b,o,rfl,fun hn=>hb (hx.less b hlt hn),bY hlt hx.size,iD.mono hx b hb hlt cs o hc⟩
 | _,_,.ms nm off sz len cap,_,hm,h=>by
  simp only[aP]at h ⊢;obtain⟨l,b,h1,h⟩:=h;exact⟨l,b,hm _ _ h1,h⟩
 | _,_,.gs nm off sz len,_,hm,h=>by
  simp only[aP]at h ⊢;obtain⟨l,b,h1,h⟩:=h;exact⟨l,b,hm _ _ h1,h⟩
 | _,_,.ptr nm off,_,hm,h=>by
  simp only[aP]at h ⊢;obtain⟨l,b,h1,h⟩:=h;exact⟨l,b,hm _ _ h1,h⟩
 | _,_,.iptr cs off,_,_,h=>by
  simp only[aP]at h ⊢;obtain⟨b,o,rfl,hb,hlt,hc⟩:=h;exact⟨b,o,rfl,fun hn=>hb (hx.less b hlt hn),bY hlt hx.size,iD.mono hx b hb hlt cs o hc⟩
 | _,_,.nilp,_,_,h=>by simpa only[aP]using h
 | _,_,.iface t d,_,hm,h=>by
  simp only[aP]at h ⊢;obtain⟨x,rfl,h⟩:=h;exact⟨x,rfl,aP.mono hx d x hm h⟩
 | _,_,.nilif,_,_,h=>by simpa only[aP]using h
 | _,_,.fn f a b,_,hm,h=>by
  simp only[aP]at h ⊢;obtain⟨va,vb,rfl,h1,h2⟩:=h;exact⟨va,vb,rfl,aX.mono hx a _ hm h1,aX.mono hx b _ hm h2⟩
 | _,_,.nilfn,_,_,h=>by simpa only[aP]using h
 | _,_,.nilm,_,_,h=>by simpa only[aP]using h
 | _,_,.adr _ _,_,_,h=>by simpa only[aP]using h
 | _,_,.mp nm,_,hm,h=>by
  simp only[aP]at h ⊢;obtain⟨l,b,h1,h⟩:=h;exact⟨l,b,hm _ _ h1,h⟩
 | _,_,.yl nm,_,hm,h=>by
  simp only[aP]at h ⊢;obtain⟨l,b,h1,h⟩:=h;exact⟨l,b,hm _ _ h1,h⟩
 | _,_,.it nm,_,hm,h=>by
  simp only[aP]at h ⊢;obtain⟨l,b,h1,h⟩:=h;exact⟨l,b,hm _ _ h1,h⟩
theorem aX.mono(hx:Ext M w M' w'):∀{μ μ':Mu} (ds:List D) (vs:List Value),fV μ μ'→aX M w μ ds vs→aX M' w' μ' ds vs
 | _,_,[],_,_,h=>by simpa only[aX]using h
 | _,_,d::ds,_,hm,h=>by
  simp only[aX]at h ⊢;obtain⟨v,r,rfl,h1,h2⟩:=h;exact⟨v,r,rfl,aP.mono hx d v hm h1,aX.mono hx ds r hm h2⟩
theorem iD.mono(hx:Ext M w M' w')(b:Nat)(hb:¬M b)(hlt:b<w.heap.size):∀(ds:List D) (o:Nat),iD M w b o ds→iD M' w' b o ds
 | [],_,_=>by simp only[iD]
 | d::ds,o,h=>by
  simp only[iD]at h ⊢;obtain⟨⟨v,hv,h1⟩,h2⟩:=h;exact⟨⟨v,by rw[cell_of_heap (hx.same b hlt hb)];exact hv,aP.mono hx d v (fV.refl _) h1⟩,iD.mono hx b hb hlt ds (o+1) h2⟩
end
end
section
variable {M:Nat→Prop} {w:World}
mutual
theorem aP.pure:∀{μ μ':Mu} (d:D) (v:Value),d.pure=true→aP M w μ d v→aP M w μ' d v
 | _,_,.un,_,_,_=>by simp only[aP]
 | _,_,.bool _,_,_,h=>by simpa only[aP]using h
 | _,_,.int _ _,_,_,h=>by simpa only[aP]using h
 | _,_,.str _,_,_,h=>by simpa only[aP]using h
 | _,_,.agg cs,_,hp,h=>by
  simp only[D.pure]at hp;simp only[aP]at h ⊢;obtain⟨vs,rfl,h⟩:=h;exact⟨vs,rfl,aX.pure cs _ hp h⟩
 | _,_,.tup cs,_,hp,h=>by
  simp only[D.pure]at hp;simp only[aP]at h ⊢;obtain⟨vs,rfl,h⟩:=h;exact⟨vs,rfl,aX.pure cs _ hp h⟩
 | _,_,.nils,_,_,h=>by simpa only[aP]using h
 | _,_,.sl ex len cs,_,_,h=>by simpa only[aP]using h
 | _,_,.ms ..,_,hp,_=>by simp[D.pure]at hp
 | _,_,.gs ..,_,hp,_=>by simp[D.pure]at hp
 | _,_,.ptr ..,_,hp,_=>by simp[D.pure]at hp
 | _,_,.iptr cs off,_,_,h=>by simpa only[aP]using h
 | _,_,.nilp,_,_,h=>by simpa only[aP]using h
 | _,_,.iface t d,_,hp,h=>by
  simp only[D.pure]at hp;simp only[aP]at h ⊢;obtain⟨x,rfl,h⟩:=h;exact⟨x,rfl,aP.pure d x hp h⟩
 | _,_,.nilif,_,_,h=>by simpa only[aP]using h
 | _,_,.fn f a b,_,hp,h=>by
  simp only[D.pure,bE]at hp;simp only[aP]at h ⊢;obtain⟨va,vb,rfl,h1,h2⟩:=h;exact⟨va,vb,rfl,aX.pure a _ hp.1 h1,aX.pure b _ hp.2 h2⟩
 | _,_,.nilfn,_,_,h=>by simpa only[aP]using h
 | _,_,.nilm,_,_,h=>by simpa only[aP]using h
 | _,_,.adr _ _,_,_,h=>by simpa only[aP]using h
 | _,_,.it ..,_,hp,_=>by simp[D.pure]at hp
 | _,_,.mp ..,_,hp,_=>by simp[D.pure]at hp
 | _,_,.yl ..,_,hp,_=>by simp[D.pure]at hp
theorem aX.pure:∀{μ μ':Mu} (ds:List D) (vs:List Value),D.pures ds=true→aX M w μ ds vs→aX M w μ' ds vs
 | _,_,[],_,_,h=>by simpa only[aX]using h
 | _,_,d::ds,_,hp,h=>by
  simp only[D.pures,bE]at hp;simp only[aX]at h ⊢;obtain⟨v,r,rfl,h1,h2⟩:=h;exact⟨v,r,rfl,aP.pure d v hp.1 h1,aX.pure ds r hp.2 h2⟩
end
end
mutual
theorem aP.flat{M M':Nat→Prop}{w w':World}:∀{μ μ':Mu} (d:D) (v:Value),d.flat=true→aP M w μ d v→aP M' w' μ' d v
 | _,_,.un,_,_,_=>by simp only[aP]
 | _,_,.bool _,_,_,h=>by simpa only[aP]using h
 | _,_,.int _ _,_,_,h=>by simpa only[aP]using h
 | _,_,.str _,_,_,h=>by simpa only[aP]using h
 | _,_,.agg cs,_,hp,h=>by
  simp only[D.flat]at hp;simp only[aP]at h ⊢;obtain⟨vs,rfl,h⟩:=h;exact⟨vs,rfl,aX.flat cs _ hp h⟩
 | _,_,.tup cs,_,hp,h=>by
  simp only[D.flat]at hp;simp only[aP]at h ⊢;obtain⟨vs,rfl,h⟩:=h;exact⟨vs,rfl,aX.flat cs _ hp h⟩
 | _,_,.nils,_,_,h=>by simpa only[aP]using h
 | _,_,.sl ..,_,hp,_=>by simp[D.flat]at hp
 | _,_,.ms ..,_,hp,_=>by simp[D.flat]at hp
 | _,_,.gs ..,_,hp,_=>by simp[D.flat]at hp
 | _,_,.ptr ..,_,hp,_=>by simp[D.flat]at hp
 | _,_,.iptr ..,_,hp,_=>by simp[D.flat]at hp
 | _,_,.nilp,_,_,h=>by simpa only[aP]using h
 | _,_,.iface t d,_,hp,h=>by
  simp only[D.flat]at hp;simp only[aP]at h ⊢;obtain⟨x,rfl,h⟩:=h;exact⟨x,rfl,aP.flat d x hp h⟩
 | _,_,.nilif,_,_,h=>by simpa only[aP]using h
 | _,_,.fn ..,_,hp,_=>by simp[D.flat]at hp
 | _,_,.nilfn,_,_,h=>by simpa only[aP]using h
 | _,_,.nilm,_,_,h=>by simpa only[aP]using h
 | _,_,.adr _ _,_,_,h=>by simpa only[aP]using h
 | _,_,.it ..,_,hp,_=>by simp[D.flat]at hp
 | _,_,.mp ..,_,hp,_=>by simp[D.flat]at hp
 | _,_,.yl ..,_,hp,_=>by simp[D.flat]at hp
theorem aX.flat{M M':Nat→Prop}{w w':World}:∀{μ μ':Mu} (ds:List D) (vs:List Value),D.flats ds=true→aX M w μ ds vs→aX M' w' μ' ds vs
 | _,_,[],_,_,h=>by simpa only[aX]using h
 | _,_,d::ds,_,hp,h=>by
  simp only[D.flats,bE]at hp;simp only[aX]at h ⊢;obtain⟨v,r,rfl,h1,h2⟩:=h;exact⟨v,r,rfl,aP.flat d v hp.1 h1,aX.flat ds r hp.2 h2⟩
end
section lists
variable {M:Nat→Prop} {w:World} {μ:Mu}
theorem aX.length:∀{ds:List D} {vs:List Value},aX M w μ ds vs→vs.length=ds.length
 | [],_,h=>by simp only[aX]at h;subst h;rfl
 | d::ds,_,h=>by
  simp only[aX]at h;obtain⟨v,r,rfl,_,h2⟩:=h;simp[aX.length h2]
theorem aX.get:∀{ds:List D} {vs:List Value} (i:Nat) (d:D),aX M w μ ds vs→ds[i]?=some d→∃v,vs[i]?=some v∧aP M w μ d v
 | [],_,i,d,h,hi=>by simp at hi
 | d::ds,_,0,e,h,hi=>by
  simp only[aX]at h;obtain⟨v,r,rfl,h1,h2⟩:=h;simp at hi;subst hi;exact⟨v,by simp,h1⟩
 | d::ds,_,i+1,e,h,hi=>by
  simp only[aX]at h;obtain⟨v,r,rfl,h1,h2⟩:=h;simp at hi;obtain⟨v',hv,hr⟩:=aX.get i e h2 hi;exact⟨v',by simpa using hv,hr⟩
theorem aX.cons{d:D}{ds:List D}{v:Value}{vs:List Value}(h:aP M w μ d v)(h':aX M w μ ds vs):aX M w μ (d::ds) (v::vs):=by
 simp only[aX];exact⟨v,vs,rfl,h,h'⟩
theorem aX.nil:aX M w μ [] []:=by simp only[aX]
theorem aX.mk:∀{ds:List D} {vs:List Value},vs.length=ds.length→(∀(i:Nat) (d:D) (v:Value),ds[i]?=some d→vs[i]?=some v→aP M w μ d v)→aX M w μ ds vs
 | [],vs,hl,_=>by
  have:vs=[]:=dY (by simpa using hl)
  subst this;exact aX.nil
 | d::ds,[],hl,_=>by simp at hl
 | d::ds,v::vs,hl,h=>by
  refine aX.cons (h 0 d v (by simp) (by simp)) (aX.mk (by simpa using hl) ?_)
  intro i d' v' h1 h2;exact h (i+1) d' v' (by simpa using h1) (by simpa using h2)
theorem aX.at{ds:List D}{vs:List Value}{i:Nat}{d:D}{v:Value}(h:aX M w μ ds vs)(h1:ds[i]?=some d)(h2:vs[i]?=some v):aP M w μ d v:=by
 obtain⟨v',hv,hr⟩:=aX.get i d h h1;rw[h2]at hv;cases hv;exact hr
theorem aX.append{ds es:List D}{vs us:List Value}(h:aX M w μ ds vs)(h':aX M w μ es us):aX M w μ (ds++es) (vs++us):=by
 induction ds generalizing vs with
 | nil=>simp only[aX]at h;subst h;simpa using h'
 | cons d ds ih=>
  simp only[aX]at h;obtain⟨v,r,rfl,h1,h2⟩:=h;exact aX.cons h1 (ih h2)
theorem aX.drop(n:Nat){ds:List D}{vs:List Value}(h:aX M w μ ds vs):aX M w μ (ds.drop n) (vs.drop n):=by
 refine aX.mk (by simp[h.length]) fun i d v h1 h2=>?_
 simp at h1 h2;exact h.at h1 h2
theorem aX.take(n:Nat){ds:List D}{vs:List Value}(h:aX M w μ ds vs):aX M w μ (ds.take n) (vs.take n):=by
 refine aX.mk (by simp[h.length]) fun i d v h1 h2=>?_
 rw[eL]at h1 h2;split at h1
 ·rename_i hi;rw[aH hi]at h2;exact h.at h1 h2
 ·simp at h1
theorem iD.get:∀{b o:Nat} {ds:List D} (i:Nat) (d:D),iD M w b o ds→ds[i]?=some d→∃v,w.cell? ⟨b,o+i,none⟩=some v∧aP M w mu0 d v
 | _,_,[],i,d,_,hi=>by simp at hi
 | b,o,d::ds,0,e,h,hi=>by
  simp only[iD]at h;simp at hi;subst hi;simpa using h.1
 | b,o,d::ds,i+1,e,h,hi=>by
  simp only[iD]at h;simp at hi;obtain⟨v,hv,hr⟩:=iD.get i e h.2 hi;exact⟨v,by rw[←hv];congr 2;omega,hr⟩
theorem iD.mk:∀{b o:Nat} {ds:List D},(∀(i:Nat) (d:D),ds[i]?=some d→∃v,w.cell? ⟨b,o+i,none⟩=some v∧aP M w mu0 d v)→iD M w b o ds
 | _,_,[],_=>by simp only[iD]
 | b,o,d::ds,h=>by
  simp only[iD];refine⟨by simpa using h 0 d (by simp),iD.mk fun i e hi=>?_⟩
  obtain⟨v,hv,hr⟩:=h (i+1) e (by simpa using hi)
  exact⟨v,by rw[←hv];congr 2;omega,hr⟩
theorem iD.drop{b o:Nat}{ds:List D}(n:Nat)(h:iD M w b o ds):iD M w b (o+n) (ds.drop n):=
 iD.mk fun i d hi=>by
  simp at hi;obtain⟨v,hv,hr⟩:=iD.get _ _ h hi;exact⟨v,by rw[←hv];congr 2;omega,hr⟩
theorem iD.take{b o:Nat}{ds:List D}(n:Nat)(h:iD M w b o ds):iD M w b o (ds.take n):=
 iD.mk fun i d hi=>by
  rw[eL]at hi;split at hi
  ·exact iD.get _ _ h hi
  ·simp at hi
end lists
section places
theorem iY{n k:Nat}(h:n≠k):Nat.beq n k=false:=by
 cases e:Nat.beq n k
 ·rfl
 ·exact absurd (aR e) h
section
variable {α:Type}
theorem oF(k:Nat)(v:α)(r:List (Nat×α))(n:Nat):lget ((k,v)::r) n=if n=k then some v else lget r n:=by
 show(Bool.rec (lget r n) (some v) (Nat.beq n k):Option α)=_;by_cases h:n=k
 ·subst h;simp
 ·rw[aD h,iY h]
theorem lset_c(k:Nat)(w:α)(r:List (Nat×α))(n:Nat)(v:α):lset ((k,w)::r) n v=if n=k then(n,v)::r else(k,w)::lset r n v:=by
 show(Bool.rec ((k,w)::lset r n v) ((n,v)::r) (Nat.beq n k):List (Nat×α))=_;by_cases h:n=k
 ·subst h;simp
 ·rw[aD h,iY h]
theorem lget_lset(l:List (Nat×α))(n:Nat)(v:α)(m:Nat):lget (lset l n v) m=if m=n then some v else lget l m:=by
 induction l with
 | nil=>show lget [(n,v)] m=_;rw[oF]
 | cons p r ih=>
  obtain⟨k,w⟩:=p;rw[lset_c];by_cases h:n=k
  ·subst h;rw[aH rfl,oF,oF];by_cases h:m=n<;>simp[h]
  ·rw[aD h,oF,oF,ih];by_cases h1:m=k
   ·subst h1;rw[aH rfl,aH rfl,aD (fun e=>h e.symm)]
   ·rw[aD h1,aD h1]
theorem lget_ldel(l:List (Nat×α))(n m:Nat):lget (ldel l n) m=if m=n then none else lget l m:=by
 induction l with
 | nil=>simp only[ldel];show none=_;split<;>rfl
 | cons p r ih=>
  obtain⟨k,w⟩:=p;simp only[ldel];by_cases h:n=k
  ·subst h;simp only[show Nat.beq n n=true by simp,aS,ih,oF]
   by_cases h:m=n<;>simp[h]
  ·rw[iY h,cF,oF,oF,ih];by_cases h1:m=k
   ·subst h1;rw[aH rfl,aH rfl,aD (fun e=>h e.symm)]
   ·rw[aD h1,aD h1]
theorem rF(a b:Tr α)(n:Nat):(Tr.nd a b).get n=if n % 2=0 then a.get (n / 2) else b.get (n / 2):=by
 show(Nat.rec (a.get (n / 2)) (fun _ _=>b.get (n / 2)) (n % 2):Option α)=_
 rcases h:n % 2 with _|m
 ·rfl
 ·rfl
theorem set_nd(a b:Tr α)(n:Nat)(v:α):(Tr.nd a b).set n v=if n % 2=0 then .nd (a.set (n / 2) v) b else .nd a (b.set (n / 2) v):=by
 show(Nat.rec (.nd (a.set (n / 2) v) b) (fun _ _=>.nd a (b.set (n / 2) v)) (n % 2):Tr α)=_
 rcases h:n % 2 with _|m
 ·rfl
 ·rfl
theorem add_nd(a b:Tr α)(n:Nat)(v:α):(Tr.nd a b).add n v=if n % 2=0 then .nd (a.add (n / 2) v) b else .nd a (b.add (n / 2) v):=by
 show(Nat.rec (.nd (a.add (n / 2) v) b) (fun _ _=>.nd a (b.add (n / 2) v)) (n % 2):Tr α)=_
 rcases h:n % 2 with _|m
 ·rfl
 ·rfl
theorem del_nd(a b:Tr α)(n:Nat):(Tr.nd a b).del n=if n % 2=0 then .nd (a.del (n / 2)) b else .nd a (b.del (n / 2)):=by
 show(Nat.rec (.nd (a.del (n / 2)) b) (fun _ _=>.nd a (b.del (n / 2))) (n % 2):Tr α)=_
 rcases h:n % 2 with _|m
 ·rfl
 ·rfl
theorem uF{n m:Nat}(h:n % 2=m % 2):(m / 2=n / 2)↔m=n:=by omega
theorem Tr.get_set(t:Tr α):∀(n:Nat) (v:α) (m:Nat),(t.set n v).get m=if m=n then some v else t.get m:=by
 induction t with
 | ls l=>intro n v m;exact lget_lset l n v m
 | nd a b iha ihb=>
  intro n v m;rw[set_nd,rF];by_cases h:n % 2=0
  ·rw[aH h,rF];by_cases h1:m % 2=0
   ·rw[aH h1,aH h1,iha];simp only[uF (show n % 2=m % 2 by omega)]
   ·rw[aD h1,aD h1,aD (fun e=>h1 (by rw[e];exact h))]
  ·rw[aD h,rF];by_cases h1:m % 2=0
   ·rw[aH h1,aH h1,aD (fun e=>h (by rw[←e];exact h1))]
   ·rw[aD h1,aD h1,ihb];simp only[uF (show n % 2=m % 2 by omega)]
theorem Tr.get_add(t:Tr α):∀(n:Nat) (v:α) (m:Nat),(t.add n v).get m=if m=n then some v else t.get m:=by
 induction t with
 | ls l=>intro n v m;exact oF n v l m
 | nd a b iha ihb=>
  intro n v m;rw[add_nd,rF];by_cases h:n % 2=0
  ·rw[aH h,rF];by_cases h1:m % 2=0
   ·rw[aH h1,aH h1,iha];simp only[uF (show n % 2=m % 2 by omega)]
   ·rw[aD h1,aD h1,aD (fun e=>h1 (by rw[e];exact h))]
  ·rw[aD h,rF];by_cases h1:m % 2=0
   ·rw[aH h1,aH h1,aD (fun e=>h (by rw[←e];exact h1))]
   ·rw[aD h1,aD h1,ihb];simp only[uF (show n % 2=m % 2 by omega)]
theorem Tr.get_del(t:Tr α):∀(n m:Nat),(t.del n).get m=if m=n then none else t.get m:=by
 induction t with
 | ls l=>intro n m;exact lget_ldel l n m
 | nd a b iha ihb=>
  intro n m;rw[del_nd,rF];by_cases h:n % 2=0
  ·rw[aH h,rF];by_cases h1:m % 2=0
   ·rw[aH h1,aH h1,iha];simp only[uF (show n % 2=m % 2 by omega)]
   ·rw[aD h1,aD h1,aD (fun e=>h1 (by rw[e];exact h))]
  ·rw[aD h,rF];by_cases h1:m % 2=0
   ·rw[aH h1,aH h1,aD (fun e=>h (by rw[←e];exact h1))]
   ·rw[aD h1,aD h1,ihb];simp only[uF (show n % 2=m % 2 by omega)]
end
theorem kI(t:Tm)(k:Nat)(v:D)(n:Nat):tget (tput t k v) n=if n=k then v else tget t n:=by
 simp only[tget,tput,Tr.get_set];split<;>rfl
theorem aW(s:St)(n m:Nat)(b:Blk):sget (sadd s n b) m=if m=n then some b else sget s m:=Tr.get_add s n b m
theorem aN(s:St)(n m:Nat)(b:Blk):sget (sset s n b) m=if m=n then some b else sget s m:=Tr.get_set s n b m
theorem iH(s:St)(n m:Nat):sget (sdel s n) m=if m=n then none else sget s m:=Tr.get_del s n m
end places
def Thaw(n:Nat)(fz:Nat×Nat):Prop:=∀o,o<n→¬(fz.1≤o∧o<fz.2)
def Nm(μ:Mu)(b:Nat):Prop:=∃nm l,μ nm=some l∧l.blk=some b
def Mm(M0:Nat→Prop)(μ:Mu):Nat→Prop:=fun b=>M0 b∨Nm μ b
def MEs(M:Nat→Prop)(w:World)(μ:Mu):List (D×D×Nat)→List MapEntry→Prop
 | [],es=>es=[]
 | (k,v,n)::r,es=>∃e r',es=e::r'∧aP M w μ k e.key∧aP M w μ v e.val∧e.born=n∧MEs M w μ r r'
def tA(n:Nat):Code:=bif Nat.beq (n % 2) 0 then .exit (n / 2) else .goto (n / 2)
def iA(n:Nat)(k:List Item):Option (List Item):=bif Nat.beq (n % 2) 0 then exitTo (n / 2) k else gotoIn (n / 2) k
theorem jumpC_even(n:Nat):tA (2*n) = .exit n:=by
 have h1:2*n % 2=0:=by omega
 have h2:2*n / 2=n:=by omega
 simp[tA,h1,h2]
theorem jumpC_odd(n:Nat):tA (2*n+1) = .goto n:=by
 have h1:(2*n+1) % 2=1:=by omega
 have h2:(2*n+1) / 2=n:=by omega
 simp only[tA,h1,h2];rfl
theorem jumpTo_even(n:Nat)(k:List Item):iA (2*n) k=exitTo n k:=by
 have h1:2*n % 2=0:=by omega
 have h2:2*n / 2=n:=by omega
 simp[iA,h1,h2]
theorem jumpTo_odd(n:Nat)(k:List Item):iA (2*n+1) k=gotoIn n k:=by
 have h1:(2*n+1) % 2=1:=by omega
 have h2:(2*n+1) / 2=n:=by omega
 simp only[iA,h1,h2];rfl
theorem jumpTo_nil(n:Nat):iA n []=none:=by
 unfold iA;cases Nat.beq (n % 2) 0<;>rfl
theorem xH(id:Nat)(k:List Item):iA (2*id) (.inBlock id::k)=some k:=by
 rw[jumpTo_even];simp[exitTo]
theorem rV{i id:Nat}(h:i≠2*id)(k:List Item):iA i (.inBlock id::k)=iA i k:=by
 unfold iA;cases hp:Nat.beq (i % 2) 0
 ·rfl
 ·have hp':=aR hp;have:(id==i / 2)=false:=by simp;omega
  simp[exitTo,this]
theorem rE{i:Nat}{p:Code}(h:∀l,i=2*l+1→findLabel p l=none)(k:List Item):iA i (.inScope p::k)=iA i k:=by
 unfold iA;cases hp:Nat.beq (i % 2) 0
 ·have:findLabel p (i / 2)=none:=h (i / 2) (by
   have:i % 2≠0:=fun e=>by rw[e]at hp;cases hp
   omega)
  simp[gotoIn,this]
 ·rfl
def sZ:Option Nat→Code
 | none=>.ret
 | some i=>tA i
def rR(P:Program)(M:Nat→Prop)(w:World)(μ:Mu)(nm:Nat):Blk→Prop
 | .fix ty cs=>∃loc b vs e fz,μ nm=some loc∧loc.blk=some b∧loc.cap=cs.length∧M b∧w.heap[b]?=some (.cells vs e fz)∧Thaw vs.size fz∧aX M w μ cs vs.toList∧∀k,ty=k+1→e=k
 | .grow ty cs=>∃loc,μ nm=some loc∧((loc.blk=none∧cs=[]∧loc.cap=0) ∨
   ∃b vs e fz,loc.blk=some b∧M b∧w.heap[b]?=some (.cells vs e fz)∧Thaw vs.size fz∧vs.size=loc.cap∧cs.length≤loc.cap∧aX M w μ cs (vs.toList.take cs.length)∧∀k,ty=k+1→e=k)
 | .iter s pos=>∃loc b,μ nm=some loc∧loc.blk=some b∧M b∧w.heap[b]?=some (.stringIter ⟨s.toArray⟩ pos)
 | .mp es c=>∃loc b ents,μ nm=some loc∧loc.blk=some b∧M b∧w.heap[b]?=some (.map ents c)∧MEs M w μ es ents.toList
 | .mit m since seen last=>∃loc b mo,μ nm=some loc∧loc.blk=some b∧M b∧w.heap[b]?=some (.mapIter mo since seen.toArray last) ∧
   (match m with|none=>mo=none|some mn=>∃l bm,μ mn=some l∧l.blk=some bm∧mo=some bm)
 | .lp st pend t ps a b=>∃loc bk lo N,μ nm=some loc∧loc.blk=some bk∧M bk∧w.heap[bk]?=some (.loop lo)∧lo.state=st∧lo.pending=pend.map sZ∧lo.params.toList=ps ∧
   (ps.all fun p=>Nat.blt p N)=true∧comp P N lo.assign=some a∧comp P N lo.body=some b∧N≤lo.tmps.size∧∀n,aP M w μ (tget t n) (lo.tmps.getD n undef)
 | .dfd=>∃loc b,μ nm=some loc∧loc.blk=some b∧M b∧w.heap[b]?=some (.deferred (some []))
def iL(M:Nat→Prop)(w:World)(μ:Mu):List (D×List D)→List Deferred→Prop
 | [],ds=>ds=[]
 | (.it nm,_)::r,ds=>∃l b r',μ nm=some l∧l.blk=some b∧ds={ target:=.collected b,args:=#[] }::r'∧iL M w μ r r'
 | (f,l)::r,ds=>∃fn first cap args r',aP M w μ f (.func fn first cap)∧aX M w μ l args.toList∧ds={ target:=.fn fn cap,args:=first++args }::r'∧iL M w μ r r'
def dR(μ:Mu)(nm:Nat)(l:Option Loc):Mu:=fun n=>if n=nm then l else μ n
structure Rel (E:Env) (M0:Nat→Prop) (w0:World) (N:Nat) (μ:Mu) (a:Act) (w:World) (x:AS):Prop where
 size:w0.heap.size≤w.heap.size
 old:∀b,b<w0.heap.size→w.heap[b]?=w0.heap[b]?
 m0lt:∀b,M0 b→b<w0.heap.size
 defers:iL (Mm M0 μ) w μ x.d a.defers
 n:N≤a.tmps.size
 tm:∀n,aP (Mm M0 μ) w μ (tget x.t n) (a.tmps.getD n undef)
 st:∀nm blk l,μ nm=some l→sget x.s nm=some blk→rR E.P (Mm M0 μ) w μ nm blk
 lt:∀nm l,μ nm=some l→nm<x.c
 own:∀nm l b,μ nm=some l→l.blk=some b→w0.heap.size≤b∧b<w.heap.size
 inj:∀n m l l' b,(sget x.s n).isSome=true→(sget x.s m).isSome=true→μ n=some l→μ m=some l'→l.blk=some b→l'.blk=some b→n=m
 glob:GRel E M0 w0
 env:uP w0 w
def Live(s:St)(μ:Mu)(b:Nat):Prop:=∃nm l,(sget s nm).isSome=true∧μ nm=some l∧l.blk=some b
structure Fr (c:Nat) (s:St) (μ:Mu) (w:World) (c':Nat) (s':St) (μ':Mu) (w':World):Prop where
 size:w.heap.size≤w'.heap.size
 same:∀b,b<w.heap.size→¬Live s μ b→w'.heap[b]?=w.heap[b]?
 live:∀b,b<w.heap.size→Live s' μ' b→Live s μ b
 mu:fV μ μ'
 cle:c≤c'
 kept:∀nm,nm<c→μ nm=none→μ' nm=none
 new:∀b,b<w.heap.size→Nm μ' b→Nm μ b
theorem nonew{μ:Mu}{n:Nat}:∀b,b<n→Nm μ b→Nm μ b:=fun _ _ h=>h
theorem Fr.refl(c:Nat)(s:St)(μ:Mu)(w:World):Fr c s μ w c s μ w:=⟨aJ _,fun _ _ _=>rfl,fun _ _ h=>h,fV.refl μ,aJ _,fun _ _ h=>h,nonew⟩
theorem Fr.trans{c c1 c2:Nat}{s s1 s2:St}{μ μ1 μ2:Mu}{w w1 w2:World}(h:Fr c s μ w c1 s1 μ1 w1)(h':Fr c1 s1 μ1 w1 c2 s2 μ2 w2):Fr c s μ w c2 s2 μ2 w2:=
 ⟨fW h.size h'.size,fun b hb hl=>by
  rw[h'.same b (bY hb h.size) (fun e=>hl (h.live b hb e)),h.same b hb hl],
  fun b hb e=>h.live b hb (h'.live b (bY hb h.size) e),fun n l e=>h'.mu n l (h.mu n l e),fW h.cle h'.cle,fun nm hn e=>h'.kept nm (bY hn h.cle) (h.kept nm hn e),
  fun b hb hn=>h.new b hb (h'.new b (bY hb h.size) hn)⟩
section
variable {P:Program} {M M':Nat→Prop} {w w':World} {μ μ':Mu}
theorem MEs.mono(hx:Ext M w M' w')(hm:fV μ μ'):∀{es:List (D×D×Nat)} {vs:List MapEntry},MEs M w μ es vs→MEs M' w' μ' es vs
 | [],_,h=>by simpa only[MEs]using h
 | (k,v,n)::r,_,h=>by
  simp only[MEs]at h ⊢;obtain⟨e,r',rfl,h1,h2,h3,h4⟩:=h;exact⟨e,r',rfl,aP.mono hx _ _ hm h1,aP.mono hx _ _ hm h2,h3,MEs.mono hx hm h4⟩
theorem iL.mono(hx:Ext M w M' w')(hm:fV μ μ'):∀{l:List (D×List D)} {ds:List Deferred},iL M w μ l ds→iL M' w' μ' l ds
 | [],_,h=>by simpa only[iL]using h
 | (f,az)::r,ds,h=>by
  cases f
  case it nm=>
   simp only[iL]at h ⊢;obtain⟨l,b,r',h1,h2,rfl,h3⟩:=h;exact⟨l,b,r',hm _ _ h1,h2,rfl,iL.mono hx hm h3⟩
  all_goals
   unfold iL at h ⊢;obtain⟨fn,first,cap,args,r',h1,h2,rfl,h3⟩:=h;exact⟨fn,first,cap,args,r',aP.mono hx _ _ hm h1,aX.mono hx _ _ hm h2,rfl,iL.mono hx hm h3⟩
theorem rR.mono{nm:Nat}{blk:Blk}(hx:Ext M w M' w')(hm:fV μ μ')
  (hb:∀l b,μ nm=some l→l.blk=some b→w'.heap[b]?=w.heap[b]?∧(M b→M' b)) (h:rR P M w μ nm blk):rR P M' w' μ' nm blk:=by
 cases blk with
 | fix ty cs=>
  obtain⟨l,b,vs,e,fz,h1,h2,h3,h4,h5,h6,h7,h8⟩:=h;exact⟨l,b,vs,e,fz,hm _ _ h1,h2,h3,(hb l b h1 h2).2 h4,by rw[(hb l b h1 h2).1];exact h5,h6,aX.mono hx _ _ hm h7,h8⟩
 | grow ty cs=>
  obtain⟨l,h1,h⟩:=h;refine⟨l,hm _ _ h1,h.imp id ?_⟩;rintro⟨b,vs,e,fz,h2,h4,h5,h6,h7,h8,h9,h10⟩;exact⟨b,vs,e,fz,h2,(hb l b h1 h2).2 h4,by rw[(hb l b h1 h2).1];exact h5,h6,h7,h8,aX.mono hx _ _ hm h9,h10⟩
 | iter s pos=>
  obtain⟨l,b,h1,h2,h4,h5⟩:=h;exact⟨l,b,hm _ _ h1,h2,(hb l b h1 h2).2 h4,by rw[(hb l b h1 h2).1];exact h5⟩
 | mp es c=>
  obtain⟨l,b,ents,h1,h2,h4,h5,h6⟩:=h;exact⟨l,b,ents,hm _ _ h1,h2,(hb l b h1 h2).2 h4,by rw[(hb l b h1 h2).1];exact h5,MEs.mono hx hm h6⟩
 | mit m since sn last=>
  obtain⟨l,b,mo,h1,h2,h4,h5,h6⟩:=h;refine⟨l,b,mo,hm _ _ h1,h2,(hb l b h1 h2).2 h4,by rw[(hb l b h1 h2).1];exact h5,?_⟩
  cases m with
  | none=>exact h6
  | some mn=>
   obtain⟨l',bm,h7,h8,h9⟩:=h6;exact⟨l',bm,hm _ _ h7,h8,h9⟩
 | lp st pend t ps a b=>
  obtain⟨l,bk,lo,N,h1,h2,h4,h5,h6,h7,h8,h9,h10,h11,h12,h13⟩:=h;exact⟨l,bk,lo,N,hm _ _ h1,h2,(hb l bk h1 h2).2 h4,by rw[(hb l bk h1 h2).1];exact h5,h6,h7,h8,h9,h10,h11,h12,fun n=>aP.mono hx _ _ hm (h13 n)⟩
 | dfd=>
  obtain⟨l,b,h1,h2,h4,h5⟩:=h;exact⟨l,b,hm _ _ h1,h2,(hb l b h1 h2).2 h4,by rw[(hb l b h1 h2).1];exact h5⟩
end
section
variable {E:Env} {M0:Nat→Prop} {w0:World} {N:Nat} {μ:Mu} {M:Nat→Prop} {a:Act} {w:World} {x:AS}
theorem ext_mu{μ':Mu}{w':World}(hs:w.heap.size≤w'.heap.size)(hsame:∀b,b<w.heap.size→¬Mm M0 μ b→w'.heap[b]?=w.heap[b]?)(hm:fV μ μ')
  (hn:∀b,b<w.heap.size→Nm μ' b→Nm μ b):Ext (Mm M0 μ) w (Mm M0 μ') w':=
 ⟨hs,hsame,fun b hb h=>h.imp id (hn b hb)⟩
theorem Mm.named{nm:Nat}{l:Loc}{b:Nat}(h:μ nm=some l)(hb:l.blk=some b):Mm M0 μ b:=.inr ⟨nm,l,h,hb⟩
theorem Mm.mono{μ':Mu}(hm:fV μ μ'){b:Nat}(h:Mm M0 μ b):Mm M0 μ' b:=h.imp id fun⟨nm,l,h1,h2⟩=>⟨nm,l,hm nm l h1,h2⟩
theorem Mm.set{nm:Nat}{l:Loc}{b:Nat}(hb:l.blk=some b):Mm M0 (dR μ nm (some l)) b:=.inr ⟨nm,l,by simp[dR],hb⟩
theorem Fr.ext{c c':Nat}{s s':St}{μ':Mu}{w':World}(h:Fr c s μ w c' s' μ' w'):Ext (Mm M0 μ) w (Mm M0 μ') w':=
 ext_mu h.size (fun b hb hn=>h.same b hb fun⟨nm,l,_,h1,h2⟩=>hn (.inr ⟨nm,l,h1,h2⟩)) h.mu h.new
theorem Rel.isM(h:Rel E M0 w0 N μ a w x){nm:Nat}{l:Loc}{b:Nat}(hl:μ nm=some l)(hb:l.blk=some b):Mm M0 μ b:=.inr ⟨nm,l,hl,hb⟩
theorem Rel.congr(h:Rel E M0 w0 N μ a w x){x':AS}(ht:∀n,tget x'.t n=tget x.t n∨tget x'.t n = .un)(hs:∀n,sget x'.s n=sget x.s n)(hc:x.c≤x'.c)(hd:x'.d=x.d):Rel E M0 w0 N μ a w x':=
 {h with
  defers:=by rw[hd];exact h.defers
  tm:=fun n=>by
   rcases ht n with e|e
   ·rw[e];exact h.tm n
   ·rw[e];simp only[aP]
  st:=fun nm blk l hl hb=>h.st nm blk l hl (by rw[←hs];exact hb)
  lt:=fun nm l hl=>bY (h.lt nm l hl) hc
  inj:=fun n m l l' b h1 h2=>h.inj n m l l' b (by rw[←hs];exact h1) (by rw[←hs];exact h2) }
theorem Rel.world(h:Rel E M0 w0 N μ a w x){w':World}(hw:w'.heap=w.heap)(he:uP w w':=by exact⟨rfl,rfl⟩):Rel E M0 w0 N μ a w' x:=by
 have hx:Ext (Mm M0 μ) w (Mm M0 μ) w':=⟨by rw[hw];exact aJ _,fun b _ _=>by rw[hw],fun b _ hm=>hm⟩
 exact {h with
  size:=by rw[hw];exact h.size
  old:=fun b hb=>by rw[hw];exact h.old b hb
  env:=⟨he.1.trans h.env.1,he.2.trans h.env.2⟩
  defers:=iL.mono hx (fV.refl _) h.defers
  own:=fun nm l b h1 h2=>by rw[hw];exact h.own nm l b h1 h2
  tm:=fun n=>aP.mono hx _ _ (fV.refl _) (h.tm n)
  st:=fun nm blk l hl hb=>rR.mono hx (fV.refl _) (fun l b _ _=>⟨by rw[hw],id⟩) (h.st nm blk l hl hb) }
theorem getD_put{a:Act}{d:Nat}{v:Value}(hd:d<a.tmps.size)(n:Nat):
  (a.put (some d) v).tmps.getD n undef=if n=d then v else a.tmps.getD n undef:=by
 simp only[Act.put];by_cases h:n=d
 ·subst h;simp[eJ,hd]
 ·simp only[eJ,aD h];rw[dA (fun e=>h e.symm)]
theorem Rel.put(h:Rel E M0 w0 N μ a w x){dst:Option Nat}{d:D}{v:Value}(hd:(match dst with|some k=>Nat.blt k N|none=>true)=true)
  (hv:aP (Mm M0 μ) w μ d v):Rel E M0 w0 N μ (a.put dst v) w (x.put dst d):=by
 cases dst with
 | none=>exact h
 | some k=>
  have hk:k<a.tmps.size:=bY (by simpa[Nat.blt_eq]using hd) h.n
  exact {h with
   n:=by simpa[Act.put]using h.n
   defers:=h.defers
   tm:=fun n=>by
    rw[getD_put hk];simp only[AS.put,kI];by_cases hn:n=k
    ·rw[aH hn,aH hn];exact hv
    ·rw[aD hn,aD hn];exact h.tm n }
theorem Rel.less(h:Rel E M0 w0 N μ a w x){s':St}(hs:∀n b,sget s' n=some b→sget x.s n=some b):Rel E M0 w0 N μ a w ⟨x.t,s',x.c,x.d,x.r⟩∧Fr x.c x.s μ w x.c s' μ w:=by
 have hi:∀n,(sget s' n).isSome=true→(sget x.s n).isSome=true:=fun n hn=>by
  obtain⟨b,hb⟩:=eA.1 hn;rw[hs n b hb];rfl
 exact⟨{h with
  st:=fun nm blk l hl hb=>h.st nm blk l hl (hs nm blk hb)
  lt:=h.lt
  inj:=fun n m l l' b h1 h2=>h.inj n m l l' b (hi n h1) (hi m h2) },
  ⟨aJ _,fun _ _ _=>rfl,fun b _ ⟨nm,l,h1,h2,h3⟩=>⟨nm,l,hi nm h1,h2,h3⟩,fV.refl μ,aJ _,fun _ _ h=>h,nonew⟩⟩
theorem Rel.free(h:Rel E M0 w0 N μ a w x){nm:Nat}(hn:x.c≤nm):μ nm=none:=by
 cases hl:μ nm with
 | none=>rfl
 | some l=>have:=h.lt nm l hl;omega
theorem Rel.free_le(h:Rel E M0 w0 N μ a w x){nm:Nat}(hn:x.c≤nm)(loc:Option Loc):fV μ (dR μ nm loc):=fun n l hl=>by
 have:n≠nm:=fun e=>by have:=h.lt n l hl;omega
 simpa[dR,this]using hl
theorem Rel.install(h:Rel E M0 w0 N μ a w x)(nm:Nat)(hn:x.c≤nm)(blk:Blk)(loc:Loc){w':World}{x':AS}
  (hsz:w.heap.size≤w'.heap.size) (hsame:∀b,b<w.heap.size→w'.heap[b]?=w.heap[b]?)
  (hb:∀b,loc.blk=some b→w.heap.size≤b∧b<w'.heap.size) (ht:∀n,tget x'.t n=tget x.t n) (hs:∀n,sget x'.s n=if n=nm then some blk else sget x.s n)
  (hc:x'.c=nm+1) (hd:x'.d=x.d)
  (hB:Ext (Mm M0 μ) w (Mm M0 (dR μ nm (some loc))) w'→rR E.P (Mm M0 (dR μ nm (some loc))) w' (dR μ nm (some loc)) nm blk) (he:uP w w':=by exact⟨rfl,rfl⟩) :
  Ext (Mm M0 μ) w (Mm M0 (dR μ nm (some loc))) w'∧Rel E M0 w0 N (dR μ nm (some loc)) a w' x'∧Fr x.c x.s μ w x'.c x'.s (dR μ nm (some loc)) w':=by
 have hle:=h.free_le hn (some loc);have hnew:∀b,b<w.heap.size→Nm (dR μ nm (some loc)) b→Nm μ b:=fun b hlt ⟨k,l,hl,hlb⟩=>by
  by_cases hk:k=nm
  ·simp only[dR,aH hk]at hl;cases hl;have:=(hb b hlb).1;omega
  ·simp only[dR,aD hk]at hl;exact⟨k,l,hl,hlb⟩
 have hx:Ext (Mm M0 μ) w (Mm M0 (dR μ nm (some loc))) w':=ext_mu hsz (fun b hb _=>hsame b hb) hle hnew
 refine⟨hx,{
  size:=fW h.size hsz
  old:=fun b hb=>by rw[hsame b (bY hb h.size)];exact h.old b hb
  env:=⟨he.1.trans h.env.1,he.2.trans h.env.2⟩
  m0lt:=h.m0lt
  defers:=by rw[hd];exact iL.mono hx hle h.defers
  n:=h.n
  tm:=fun n=>by rw[ht];exact aP.mono hx _ _ hle (h.tm n)
  st:=fun k b l hl hk=>by
   rw[hs]at hk;by_cases hkn:k=nm
   ·rw[aH hkn]at hk;cases hk;rw[hkn];exact hB hx
   ·rw[aD hkn]at hk;have hl':μ k=some l:=by simpa[dR,hkn]using hl
    exact rR.mono hx hle (fun l b hl hlb=>⟨hsame b (h.own k l b hl hlb).2,Mm.mono hle⟩) (h.st k b l hl' hk)
  lt:=fun k l hl=>by
   rw[hc];by_cases hkn:k=nm
   ·omega
   ·have:=h.lt k l (by simpa[dR,hkn]using hl);omega
  own:=fun k l b hl hlb=>by
   by_cases hkn:k=nm
   ·simp only[dR,aH hkn]at hl;cases hl;exact⟨fW h.size (hb b hlb).1,(hb b hlb).2⟩
   ·simp only[dR,aD hkn]at hl;exact⟨(h.own k l b hl hlb).1,bY (h.own k l b hl hlb).2 hsz⟩
  inj:=fun n m l l' b s1 s2 h1 h2 h3 h4=>by
   by_cases hn1:n=nm
   ·by_cases hm1:m=nm
    ·rw[hn1,hm1]
    ·simp only[dR,aH hn1]at h1;simp only[dR,aD hm1]at h2;cases h1;have:=(hb b h3).1;have:=(h.own m l' b h2 h4).2;omega
   ·by_cases hm1:m=nm
    ·simp only[dR,aD hn1]at h1;simp only[dR,aH hm1]at h2;cases h2;have:=(hb b h4).1;have:=(h.own n l b h1 h3).2;omega
    ·simp only[dR,aD hn1]at h1;simp only[dR,aD hm1]at h2;rw[hs,aD hn1]at s1;rw[hs,aD hm1]at s2;exact h.inj n m l l' b s1 s2 h1 h2 h3 h4
  glob:=h.glob },⟨hsz,fun b hb _=>hsame b hb,fun b hlt hl=>?_,hle,by rw[hc];omega,fun m hm e=>by rw[dR,aD (by omega)];exact e,hnew⟩⟩
 obtain⟨k,l,h1,h2,h3⟩:=hl;by_cases hk:k=nm
 ·simp only[dR,aH hk]at h2;cases h2;have:=(hb b h3).1;omega
 ·rw[hs,aD hk]at h1;exact⟨k,l,h1,by simpa[dR,hk]using h2,h3⟩
theorem Rel.fresh(h:Rel E M0 w0 N μ a w x)(nm:Nat)(hn:x.c≤nm)(blk:Blk)(o:Obj)(cap:Nat){w':World}{x':AS}
  (hw:w'.heap=w.heap.push o) (ht:∀n,tget x'.t n=tget x.t n) (hs:∀n,sget x'.s n=if n=nm then some blk else sget x.s n) (hc:x'.c=nm+1) (hd:x'.d=x.d)
  (hB:Ext (Mm M0 μ) w (Mm M0 (dR μ nm (some ⟨some w.heap.size,cap⟩))) w'→Mm M0 (dR μ nm (some ⟨some w.heap.size,cap⟩)) w.heap.size→rR E.P (Mm M0 (dR μ nm (some ⟨some w.heap.size,cap⟩))) w' (dR μ nm (some ⟨some w.heap.size,cap⟩)) nm blk) (he:uP w w':=by exact⟨rfl,rfl⟩) :
  Ext (Mm M0 μ) w (Mm M0 (dR μ nm (some ⟨some w.heap.size,cap⟩))) w'∧Rel E M0 w0 N (dR μ nm (some ⟨some w.heap.size,cap⟩)) a w' x'∧Fr x.c x.s μ w x'.c x'.s (dR μ nm (some ⟨some w.heap.size,cap⟩)) w':=by
 have hget:∀b,b<w.heap.size→w'.heap[b]?=w.heap[b]?:=fun b hb=>by
  rw[hw,Array.getElem?_push_lt hb,gY hb]
 have hsz:w'.heap.size=w.heap.size+1:=by rw[hw];simp
 exact h.install nm hn blk ⟨some w.heap.size,cap⟩ (by omega) hget (fun b hb=>by cases hb;omega) ht hs hc hd (fun hx=>hB hx (Mm.set rfl)) he
theorem Rel.write(h:Rel E M0 w0 N μ a w x)(nm:Nat)(blk:Blk)(l:Loc)(b:Nat){w':World}{x':AS}(hl:μ nm=some l)(hlb:l.blk=some b)(hlive:(sget x.s nm).isSome=true)
  (hsz:w'.heap.size=w.heap.size) (hheap:∀k,k≠b→w'.heap[k]?=w.heap[k]?)
  (ht:∀n,tget x'.t n=tget x.t n) (hs:∀n,sget x'.s n=if n=nm then some blk else sget x.s n) (hc:x'.c=x.c) (hd:x'.d=x.d)
  (hB:Ext (Mm M0 μ) w (Mm M0 μ) w'→rR E.P (Mm M0 μ) w' μ nm blk) (he:uP w w':=by exact⟨rfl,rfl⟩):Ext (Mm M0 μ) w (Mm M0 μ) w'∧Rel E M0 w0 N μ a w' x'∧Fr x.c x.s μ w x'.c x'.s μ w':=by
 have hM:=h.isM hl hlb;have hx:Ext (Mm M0 μ) w (Mm M0 μ) w':=⟨by omega,fun k _ hk=>hheap k fun e=>hk (e▸hM),fun _ _ hm=>hm⟩
 have hi:∀n,(sget x'.s n).isSome=true→(sget x.s n).isSome=true:=fun n hn=>by
  rw[hs]at hn;by_cases e:n=nm
  ·rw[e];exact hlive
  ·rwa [aD e]at hn
 refine⟨hx,{h with
  size:=by have:=h.size;omega
  old:=fun k hk=>by rw[hheap k fun e=>by have:=h.own nm l b hl hlb;omega];exact h.old k hk
  env:=⟨he.1.trans h.env.1,he.2.trans h.env.2⟩
  defers:=by rw[hd];exact iL.mono hx (fV.refl _) h.defers
  tm:=fun n=>by rw[ht];exact aP.mono hx _ _ (fV.refl _) (h.tm n)
  own:=fun nm l b h1 h2=>by rw[hsz];exact h.own nm l b h1 h2
  lt:=fun nm l hl=>by rw[hc];exact h.lt nm l hl
  inj:=fun n m l l' b s1 s2=>h.inj n m l l' b (hi n s1) (hi m s2)
  st:=fun k bk lk hlk hk=>by
   rw[hs]at hk;by_cases hkn:k=nm
   ·rw[aH hkn]at hk;cases hk;rw[hkn];exact hB hx
   ·rw[aD hkn]at hk;refine rR.mono hx (fV.refl _) (fun l' b' hl' hlb'=>⟨hheap b' fun e=>?_,id⟩) (h.st k bk lk hlk hk)
    subst e;exact hkn (h.inj k nm l' l b' (by rw[hk];rfl) hlive hl' hl hlb' hlb) },
  ⟨by omega,fun k hk hn=>hheap k fun e=>hn (e▸⟨nm,l,hlive,hl,hlb⟩),fun k _ ⟨n,l,h1,h2,h3⟩=>⟨n,l,hi n h1,h2,h3⟩,fV.refl μ,by rw[hc];exact aJ _,fun _ _ h=>h,nonew⟩⟩
theorem Rel.globals(h:Rel E M0 w0 N μ a w x):GRel E (Mm M0 μ) w:=fun p hp=>by
 obtain⟨h1,h2,h3⟩:=h.glob p hp;have hx:Ext M0 w0 (Mm M0 μ) w:=⟨h.size,fun b hb _=>h.old b hb,fun b hb hm=>by
  rcases hm with hm|⟨nm,l,e1,e2⟩
  ·exact hm
  ·have:=(h.own nm l b e1 e2).1;omega⟩
 refine⟨fun hm=>h1 (hx.less p.1 h2 hm),bY h2 h.size,iD.mono hx p.1 h1 h2 p.2 0 h3⟩
end
def hU(E:Env)(M0:Nat→Prop)(w0:World)(N:Nat)(μ:Mu)(w:World)(x:AS)(a:Act)(d:D)(x':AS)(r:Result Next):Prop:=
 ∃v w' μ',(r = .ok (.value v) w'∨(r = .ok .skip w'∧v=undef))∧aP (Mm M0 μ') w' μ' d v∧Rel E M0 w0 N μ' a w' x'∧Fr x.c x.s μ w x'.c x'.s μ' w'
theorem lZ{α β:Type}{f:α→Option β}:∀{l:List α} {r:List β},l.mapM f=some r→r.length=l.length∧∀(i:Nat) (x:α) (y:β),l[i]?=some x→r[i]?=some y→f x=some y
 | [],r,h=>by
  simp at h;subst h;exact⟨rfl,fun i x y h1 _=>by simp at h1⟩
 | x::l,r,h=>by
  simp only[List.mapM_cons]at h;cases hx:f x with
  | none=>rw[hx]at h;cases h
  | some y=>
   rw[hx]at h;cases hl:l.mapM f with
   | none=>rw[hl]at h;cases h
   | some ys=>
    rw[hl]at h;cases h;obtain⟨h1,h2⟩:=lZ hl;refine⟨by simp[h1],fun i a b ha hb=>?_⟩
    cases i with
    | zero=>simp at ha hb;subst ha;subst hb;exact hx
    | succ i=>simp at ha hb;exact h2 i a b ha hb
section
variable {E:Env} {M0:Nat→Prop} {w0:World} {N:Nat} {μ:Mu} {M:Nat→Prop} {a:Act} {w:World} {x:AS}
theorem hU.of(h:Rel E M0 w0 N μ a w x){r:Result Next}{d:D}{v:Value}(hr:r = .ok (.value v) w)(hv:aP (Mm M0 μ) w μ d v):hU E M0 w0 N μ w x a d x r:=
 ⟨v,w,μ,.inl hr,hv,h,Fr.refl _ _ _ _⟩
theorem kC:∀(n:Nat) (v:Value) (d:D),ofV n v=some d→aP (Mm M0 μ) w μ d v
 | 0,v,d,h=>by simp[ofV]at h
 | n+1,.bool b,d,h=>by simp[ofV]at h;subst h;simp only[aP]
 | n+1,.int k m,d,h=>by simp[ofV]at h;subst h;simp only[aP]
 | n+1,.string s,d,h=>by
  simp[ofV]at h;subst h;simp only[aP]
 | n+1,.agg cs,d,h=>by
  simp only[ofV,aG]at h;obtain⟨ds,h,rfl⟩:=h;obtain⟨h1,h2⟩:=lZ h;simp only[aP];exact⟨cs,rfl,aX.mk (by simpa using h1.symm) fun i dd v hd hv=>kC n v dd (h2 i v dd hv hd)⟩
 | n+1,.tuple cs,d,h=>by
  simp only[ofV,aG]at h;obtain⟨ds,h,rfl⟩:=h;obtain⟨h1,h2⟩:=lZ h;simp only[aP];exact⟨cs,rfl,aX.mk (by simpa using h1.symm) fun i dd v hd hv=>kC n v dd (h2 i v dd hv hd)⟩
 | n+1,.slice none 0 0,d,h=>by simp[ofV]at h;subst h;simp only[aP]
 | n+1,.slice none 0 (_+1),d,h=>by simp[ofV]at h
 | n+1,.slice none (_+1) _,d,h=>by simp[ofV]at h
 | n+1,.slice (some _) _ _,d,h=>by simp[ofV]at h
 | n+1,.pointer none,d,h=>by simp[ofV]at h;subst h;simp only[aP]
 | n+1,.pointer (some _),d,h=>by simp[ofV]at h
 | n+1,.map none,d,h=>by simp[ofV]at h;subst h;simp only[aP]
 | n+1,.map (some _),d,h=>by simp[ofV]at h
 | n+1,.nilIface,d,h=>by simp[ofV]at h;subst h;simp only[aP]
 | n+1,.nilFunc,d,h=>by simp[ofV]at h;subst h;simp only[aP]
 | n+1,.iface t v,d,h=>by
  simp only[ofV,aG]at h;obtain⟨d',h,rfl⟩:=h;simp only[aP];exact⟨v,rfl,kC n v d' h⟩
 | n+1,.float ..,d,h=>by simp[ofV]at h
 | n+1,.complex ..,d,h=>by simp[ofV]at h
 | n+1,.chan _,d,h=>by simp[ofV]at h
 | n+1,.func ..,d,h=>by simp[ofV]at h
theorem lget_mem{α:Type}:∀{l:List (Nat×α)} {n:Nat} {v:α},lget l n=some v→(n,v)∈l
 | [],n,v,h=>by simp[lget,lget_nil]at h
 | (k,u)::r,n,v,h=>by
  rw[oF]at h;by_cases e:n=k
  ·rw[aH e]at h;cases h;subst e;simp
  ·rw[aD e]at h;exact bG _ (lget_mem h)
theorem cP(h:Rel E M0 w0 N μ a w x){o:Operand}{ar:Arg}(hc:cS o=some ar):aP (Mm M0 μ) w μ (ar.ev E.G x.t) (a.eval o):=by
 cases o with
 | tmp t=>simp[cS]at hc;subst hc;exact h.tm t
 | const v=>
  simp only[cS,aG]at hc;obtain⟨d,hd,rfl⟩:=hc;exact kC 10 v d hd
 | global g=>
  simp[cS]at hc;subst hc;show aP (Mm M0 μ) w μ (Option.rec D.un (fun l=>.iptr l 0) (lget E.G g):D) (.pointer (some ⟨g,0,none⟩))
  cases hf:lget E.G g with
  | none=>simp only[aP]
  | some l=>
   obtain⟨h1,h2,h3⟩:=h.globals _ (lget_mem hf);simp only[aP];exact⟨g,0,rfl,h1,h2,h3⟩
 | func f=>
  simp[cS]at hc;subst hc;show aP (Mm M0 μ) w μ (.fn (.func f) [] []) (.func (.func f) #[] #[]);simp only[aP];exact⟨#[],#[],rfl,aX.nil,aX.nil⟩
theorem xV(h:Rel E M0 w0 N μ a w x){l:List Operand}{az:List Arg}(hc:l.mapM cS=some az):
  aX (Mm M0 μ) w μ (az.map (·.ev E.G x.t)) (l.map a.eval):=by
 obtain⟨h1,h2⟩:=lZ hc;refine aX.mk (by simp[h1]) fun i d v hd hv=>?_
 simp only[gX,aG]at hd hv;obtain⟨ar,har,rfl⟩:=hd;obtain⟨o,ho,rfl⟩:=hv;exact cP h (h2 i o ar ho har)
theorem lP{d:D}{cs:List D}{v:Value}(hc:d.cells?=some cs)(hv:aP (Mm M0 μ) w μ d v):aX (Mm M0 μ) w μ cs v.cells.toList:=by
 cases d<;>simp only[D.cells?,aC,reduceCtorEq]at hc
 case agg l=>subst hc;simp only[aP]at hv;obtain⟨vs,rfl,h⟩:=hv;exact h
 all_goals
  subst hc;refine aX.mk ?_ ?_
 all_goals have hv':=hv
 all_goals simp only[aP]at hv'
 all_goals first
  | subst hv'
  | (obtain⟨_,rfl,_⟩:=hv')
  | (obtain⟨_,_,rfl,_⟩:=hv')
  | (obtain⟨_,_,_,rfl,_⟩:=hv')
  | (obtain⟨_,_,_,_,rfl⟩:=hv')
  | (obtain⟨_,_,_,_,rfl,_⟩:=hv')
 all_goals first
  | rfl
  |(intro i d' v' hd hv'
    cases i with
    | zero=>simp[Value.cells]at hd hv';subst hd;subst hv';exact hv
    | succ i=>simp at hd)
/-! Control of pointers: what a pointer sees. -/
theorem mQ(h:Rel E M0 w0 N μ a w x){nm:Nat}{l0:Loc}(h0:μ nm=some l0){blk:Blk}{cs:List D}(hs:sget x.s nm=some blk)(hb:dX blk=some cs):
  ∃l,μ nm=some l∧(l.blk=none→cs=[])∧∀b,l.blk=some b→Mm M0 μ b∧b<w.heap.size∧∃vs e fz,w.heap[b]?=some (.cells vs e fz)∧Thaw vs.size fz∧cs.length≤vs.size∧vs.size=l.cap ∧
   aX (Mm M0 μ) w μ cs (vs.toList.take cs.length):=by
 have hB:=h.st nm blk l0 h0 hs;cases blk with
 | fix ty c=>
  simp[dX]at hb;subst hb;obtain⟨l,b,vs,e,fz,h1,h2,h3,h4,h5,h6,h7,_⟩:=hB;refine⟨l,h1,fun hn=>(by rw[hn]at h2;cases h2),fun b' hb'=>?_⟩
  rw[h2]at hb';cases hb';have hl:=h7.length;simp at hl;refine⟨h4,(h.own nm l b h1 h2).2,vs,e,fz,h5,h6,by omega,by omega,?_⟩
  rw[cW (by simp;omega)]
  exact h7
 | grow ty c=>
  simp[dX]at hb;subst hb;obtain⟨l,h1,hh⟩:=hB;rcases hh with⟨h2,h3,h4⟩|⟨b,vs,e,fz,h2,h4,h5,h6,h7,h8,h9,_⟩
  ·exact⟨l,h1,fun _=>h3,fun b hb=>(by rw[h2]at hb;cases hb)⟩
  ·refine⟨l,h1,fun hn=>(by rw[hn]at h2;cases h2),fun b' hb'=>?_⟩
   rw[h2]at hb';cases hb';exact⟨h4,(h.own nm l b h1 h2).2,vs,e,fz,h5,h6,by omega,h7,h9⟩
 | _=>simp[dX]at hb
theorem cell_in{b o:Nat}{vs:Array Value}{e:TypeId}{fz:Nat×Nat}{v:Value}(hb:w.heap[b]?=some (.cells vs e fz))(hv:vs.toList[o]?=some v):
  w.cell? ⟨b,o,none⟩=some v:=by
 simp only[World.cell?,hb];simpa using hv
theorem seen_rel(h:Rel E M0 w0 N μ a w x){d:D}{cs:List D}{off:Nat}{v:Value}(hs:seen x.s d=some (cs,off))(hv:aP (Mm M0 μ) w μ d v):
  ∃b o,v = .pointer (some ⟨b,o+off,none⟩)∧∀(i:Nat) (e:D),cs[i]?=some e→∃v',w.cell? ⟨b,o+i,none⟩=some v'∧aP (Mm M0 μ) w μ e v':=by
 cases d<;>simp only[seen,reduceCtorEq]at hs
 case ptr nm o=>
  cases hg:sget x.s nm with
  | none=>rw[hg]at hs;cases hs
  | some blk=>
   rw[hg]at hs;cases hb:dX blk with
   | none=>simp[hb]at hs
   | some c=>
    simp[hb]at hs;obtain⟨rfl,rfl⟩:=hs;simp only[aP]at hv;obtain⟨l',b,h4,h5,rfl⟩:=hv;obtain⟨l,h1,h2,h3⟩:=mQ h h4 hg hb;rw[h1]at h4;cases h4;obtain⟨hM,hlt,vs,e,fz,h6,h7,h8,h9,h10⟩:=h3 b h5;refine⟨b,0,by simp,fun i e' hi=>?_⟩
    obtain⟨v',hv',hr⟩:=aX.get i e' h10 hi;rw[eL]at hv';split at hv'
    ·exact⟨v',by simpa using cell_in h6 hv',hr⟩
    ·cases hv'
 case iptr c o=>
  simp at hs;obtain⟨rfl,rfl⟩:=hs;simp only[aP]at hv;obtain⟨b,o,rfl,hb,hlt,hc⟩:=hv;refine⟨b,o,rfl,fun i e hi=>?_⟩
  obtain⟨v',hv',hr⟩:=iD.get i e hc hi;exact⟨v',hv',aP.mono (Ext.refl (Mm M0 μ) w) e v' (mu0_le μ) hr⟩
theorem run_isAgg{P:Program}{t:TypeId}{b:Bool}(h:vG P t=some b)(w:World):(isAgg t).run P w = .ok b w:=by
 unfold vG at h;cases hu:P.underlying t with
 | none=>rw[hu]at h;cases h
 | some d=>
  rw[hu]at h;simp only[isAgg,aY,aZ hu,aM];cases d<;>simp at h<;>subst h<;>rfl
theorem eE{P:Program}{t:TypeId}{i:TypeInfo}(h:P.info? t=some i)(w:World):(typeInfo t).run P w = .ok i w:=by
 simp[typeInfo,h]
theorem dO{P:Program}{t:TypeId}{n:Nat}(h:iE P t=some n)(w:World):(Go.sizeOf t).run P w = .ok n w:=by
 simp only[iE,aG]at h;obtain⟨i,hi,rfl⟩:=h;simp[Go.sizeOf,eE hi]
theorem xR{P:Program}{t:TypeId}{r:Option Nat}(h:cSz P t=some r):∃i b,P.info? t=some i∧vG P t=some b∧r=bif b then some i.size else none:=by
 simp only[cSz,aB,aA,aC]at h;obtain⟨i,h1,b,h2,rfl⟩:=h;exact⟨i,b,h1,h2,rfl⟩
theorem rS{P:Program}{b o off:Nat}{cs:List D}{t:TypeId}{sz:Option Nat}{d:D}(hs:cSz P t=some sz)(ht:dE cs off sz=some d)
  (hc:∀(i:Nat) (e:D),cs[i]?=some e→∃v',w.cell? ⟨b,o+i,none⟩=some v'∧aP (Mm M0 μ) w μ e v') :
  ∃v,(loadVar t ⟨b,o+off,none⟩).run P w = .ok v w∧aP (Mm M0 μ) w μ d v:=by
 obtain⟨i,bb,h1,h2,rfl⟩:=xR hs;simp only[loadVar,aY,run_isAgg h2,aM];cases bb with
 | false=>
  simp only[cF,dE]at ht;obtain⟨v,hv,hr⟩:=hc off d ht;refine⟨v,?_,hr⟩;simp[run_load,hv]
 | true=>
  simp only[aS,dE]at ht;cases hle:Nat.ble (off+i.size) cs.length with
  | false=>rw[hle]at ht;cases ht
  | true=>
   rw[hle]at ht;simp at ht;subst ht;have hle':=cO hle;have hall:∀j,j<i.size→∃v',w.cell? ⟨b,o+off+j,none⟩=some v'∧∀e,cs[off+j]?=some e→aP (Mm M0 μ) w μ e v':=by
    intro j hj;obtain⟨v',hv',hr⟩:=hc (off+j) cs[off+j] (aI (by omega))
    refine⟨v',by rw[←hv'];congr 2;omega,fun e he=>?_⟩
    rw[aI (by omega)]at he;cases he;exact hr
   let f:Nat→Value:=fun j=>(w.cell? ⟨b,o+off+j,none⟩).getD undef
   have hrun:=run_loadCells (P:=P) w ⟨b,o+off,none⟩ i.size f (fun j hj=>by
    obtain⟨v',hv',_⟩:=hall j hj;rw[Addr.add_lit,hv'];simp[f,hv'])
   refine⟨.agg ((List.range i.size).map f).toArray,?_,?_⟩
   ·simp only[if_true,aY,dO (show iE P t=some i.size by simp[iE,h1]),aM,hrun,bO]
   ·simp only[aP];refine⟨_,rfl,aX.mk (by simp;omega) fun j e v he hv=>?_⟩
    simp only[gX,aG]at hv;obtain⟨k,hk,rfl⟩:=hv;have hk':k=j∧j<i.size:=by
     rw[cH]at hk;obtain⟨h3,h4⟩:=hk;simp at h3 h4;exact⟨h4.symm,h3⟩
    obtain⟨rfl,hj⟩:=hk';obtain⟨v',hv',hr⟩:=hall k hj;have:f k=v':=by simp[f,hv']
    rw[this];refine hr e ?_;rw[eL,aH hj]at he;simpa using he
end
end Zv
