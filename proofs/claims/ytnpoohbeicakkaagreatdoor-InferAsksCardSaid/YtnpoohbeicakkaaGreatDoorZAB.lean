/- Running abstract code: calls with effects, panics, deferred calls, ranges over functions. Conditions: none. -/
import Derived.Test.YtnpoohbeicakkaaGreatDoorZAA
import Derived.Laws.Entries
import Derived.Laws.Cells
import Derived.Laws.Strings
set_option linter.unusedVariables false
set_option linter.unusedSimpArgs false
namespace Zv
open Go
abbrev Ch:=List (D×Bool)
inductive Out where
 | normal
 | exit (id:Nat)
 | ret
 | pan (c:Ch)
 deriving Inhabited
inductive FO where
 | ret (d:D)
 | pan (c:Ch)
 deriving Inhabited
inductive CE where
 | fn (f:Nat)
 | yl (nm:Nat)
inductive FR where
 | no
 | ok (o:FO) (s:St) (c:Nat)
structure Cx where
 T:Nat→Option AF
 G:List (Nat×List D)
 M:Nat→String→Option Nat
 K:Nat→List (List D×D)
 X:Nat→Option (List D→St→Nat→FR)
inductive R where
 | no
 | ok (o:Out) (x:AS)
abbrev CL:=CE→List D→St→Nat→FR
noncomputable section
def evs_nil(_:List (Nat×List D))(_:Tm):List D:=[]
def evs_cons(a:Arg)(_:List Arg)(ih:List (Nat×List D)→Tm→List D)(G:List (Nat×List D))(t:Tm):List D:=a.ev G t::ih G t
def evs(l:List Arg)(G:List (Nat×List D))(t:Tm):List D:=List.rec (motive:=fun _=>List (Nat×List D)→Tm→List D) evs_nil evs_cons l G t
def iO(dst:Option Nat)(t:Tm)(d:D):Tm:=Option.rec t (fun n=>tput t n d) dst
def back_fo_ret(d:D)(dst:Option Nat)(x:AS)(s:St)(c:Nat):R:=.ok .normal ⟨iO dst x.t d,s,c,x.d,x.r⟩
def back_fo_pan(ch:Ch)(_:Option Nat)(x:AS)(s:St)(c:Nat):R:=.ok (.pan ch) ⟨x.t,s,c,x.d,x.r⟩
def back_no(_:Option Nat)(_:AS):R:=.no
def back_ok(o:FO)(s:St)(c:Nat)(dst:Option Nat)(x:AS):R:=FO.rec (motive:=fun _=>Option Nat→AS→St→Nat→R) back_fo_ret back_fo_pan o dst x s c
def back(dst:Option Nat)(x:AS)(r:FR):R:=FR.rec (motive:=fun _=>Option Nat→AS→R) back_no back_ok r dst x
def callM(cl:CL)(dst:Option Nat)(x:AS)(args:List D)(r:Option Nat):R:=Option.rec .no (fun f=>back dst x (cl (.fn f) args x.s x.c)) r
def lY(cx:Cx)(cl:CL)(dst:Option Nat)(x:AS)(d:D)(args:List D):R:=
 match d with
 | .fn (.func f) fs cs=>back dst x (cl (.fn f) (fs++args++cs) x.s x.c)
 | .fn (.method name) fs cs=>match fs++args,cs with
  | .iface t v::r,[]=>callM cl dst x (v::r) (cx.M t name)
  | _,_=>.no
 | .yl nm=>back dst x (cl (.yl nm) args x.s x.c)
 | _=>.no
def zval_some(p:D×AS)(dst:Option Nat):R:=.ok .normal ⟨iO dst p.2.t p.1,p.2.s,p.2.c,p.2.d,p.2.r⟩
def zval_none(_:Option Nat):R:=.no
def zval(dst:Option Nat)(r:Option (D×AS)):R:=Option.rec (motive:=fun _=>Option Nat→R) zval_none zval_some r dst
def zo_call(f:Nat)(l:List Arg)(cx:Cx)(cl:CL)(dst:Option Nat)(x:AS):R:=back dst x (cl (.fn f) (evs l cx.G x.t) x.s x.c)
def zo_callv(c:Arg)(l:List Arg)(cx:Cx)(cl:CL)(dst:Option Nat)(x:AS):R:=lY cx cl dst x (c.ev cx.G x.t) (evs l cx.G x.t)
def zo_inv(name:String)(r:Arg)(l:List Arg)(cx:Cx)(cl:CL)(dst:Option Nat)(x:AS):R:=match r.ev cx.G x.t with
 | .iface t v=>callM cl dst x (v::evs l cx.G x.t) (cx.M t name)
 | _=>.no
def zo_pan(a:Arg)(cx:Cx)(_:CL)(_:Option Nat)(x:AS):R:=match a.ev cx.G x.t with
 | .iface t v=>.ok (.pan [(.iface t v,false)]) x
 | _=>.no
def zo_dfr(f:Arg)(l:List Arg)(cx:Cx)(_:CL)(dst:Option Nat)(x:AS):R:=match f.ev cx.G x.t with
 | .fn g p q=>Option.rec (.ok .normal ⟨iO dst x.t .un,x.s,x.c,(.fn g p q,evs l cx.G x.t)::x.d,x.r⟩) (fun _=>.no) x.r
 | _=>.no
def zo_rcv(_:Cx)(_:CL)(_:Option Nat)(_:AS):R:=.no
def zOp(cx:Cx)(cl:CL)(o:cR)(x:AS):R:=
 AOp.rec (motive:=fun _=>Cx→CL→Option Nat→AS→R)
  (fun a0 cx _ dst x=>zval dst (st_mv a0 cx.G x))
  (fun a0 a1 a2 cx _ dst x=>zval dst (pD a0 a1 a2 cx.G x))
  (fun a0 a1 cx _ dst x=>zval dst (sS a0 a1 cx.G x))
  (fun a0 a1 cx _ dst x=>zval dst (st_ld a0 a1 cx.G x))
  (fun a0 a1 a2 cx _ dst x=>zval dst (st_st a0 a1 a2 cx.G x))
  (fun a0 a1 cx _ dst x=>zval dst (st_fa a0 a1 cx.G x))
  (fun a0 a1 a2 a3 cx _ dst x=>zval dst (tB a0 a1 a2 a3 cx.G x))
  (fun a0 a1 a2 cx _ dst x=>zval dst (tA a0 a1 a2 cx.G x))
  (fun a0 a1 a2 a3 a4 cx _ dst x=>zval dst (sZ a0 a1 a2 a3 a4 cx.G x))
  (fun a0 a1 cx _ dst x=>zval dst (sY a0 a1 cx.G x))
  (fun a0 a1 a2 cx _ dst x=>zval dst (qX a0 a1 a2 cx.G x))
  (fun a0 a1 cx _ dst x=>zval dst (tC a0 a1 cx.G x))
  (fun a0 a1 a2 cx _ dst x=>zval dst (tH a0 a1 a2 cx.G x))
  (fun a0 a1 a2 a3 cx _ dst x=>zval dst (tE a0 a1 a2 a3 cx.G x))
  (fun a0 a1 cx _ dst x=>zval dst (st_un a0 a1 cx.G x))
  (fun a0 a1 cx _ dst x=>zval dst (tG a0 a1 cx.G x))
  (fun a0 a1 a2 a3 cx _ dst x=>zval dst (tF a0 a1 a2 a3 cx.G x))
  (fun a0 a1 a2 a3 a4 cx _ dst x=>zval dst (sU a0 a1 a2 a3 a4 cx.G x))
  (fun a0 a1 a2 cx _ dst x=>zval dst (sQ a0 a1 a2 cx.G x))
  (fun a0 a1 a2 a3 a4 cx _ dst x=>zval dst (sP a0 a1 a2 a3 a4 cx.G x))
  (fun a0 a1 a2 a3 a4 a5 cx _ dst x=>zval dst (kR a0 a1 a2 a3 a4 a5 cx.G x))
  (fun a0 a1 cx _ dst x=>zval dst (sX a0 a1 cx.G x))
  (fun a0 cx _ dst x=>zval dst (rA a0 cx.G x))
  (fun a0 a1 a2 a3 a4 cx _ dst x=>zval dst (tI a0 a1 a2 a3 a4 cx.G x))
  (fun a0 a1 a2 cx _ dst x=>zval dst (jJ a0 a1 a2 cx.G x))
  (fun a0 a1 cx _ dst x=>zval dst (pW a0 a1 cx.G x))
  (fun a0 cx _ dst x=>zval dst (tD a0 cx.G x))
  (fun a0 cx _ dst x=>zval dst (qZ a0 cx.G x))
  (fun a0 cx _ dst x=>zval dst (pV a0 cx.G x))
  (fun a0 a1 cx _ dst x=>zval dst (pG a0 a1 cx.G x))
  (fun a0 a1 a2 cx _ dst x=>zval dst (pH a0 a1 a2 cx.G x))
  (fun a0 cx _ dst x=>zval dst (pE a0 cx.G x))
  (fun a0 cx _ dst x=>zval dst (sR a0 cx.G x))
  (fun a0 cx _ dst x=>zval dst (pF a0 cx.G x))
  (fun a0 a1 a2 cx _ dst x=>zval dst (st_mm a0 a1 a2 cx.G x))
  (fun  cx _ dst x=>zval dst (qW  cx.G x))
  (fun a0 a1 a2 a3 a4 cx _ dst x=>zval dst (qV a0 a1 a2 a3 a4 cx.G x))
  (fun a0 a1 a2 a3 cx _ dst x=>zval dst (qT a0 a1 a2 a3 cx.G x))
  (fun a0 a1 a2 a3 cx _ dst x=>zval dst (sV a0 a1 a2 a3 cx.G x))
  (fun a0 a1 a2 cx _ dst x=>zval dst (sT a0 a1 a2 cx.G x))
  (fun a0 cx _ dst x=>zval dst (qU a0 cx.G x))
  (fun a0 cx _ dst x=>zval dst (qR a0 cx.G x))
  (fun a0 cx _ dst x=>zval dst (qS a0 cx.G x))
  (fun a0 cx _ dst x=>zval dst (qY a0 cx.G x))
  (fun a0 a1 a2 a3 cx _ dst x=>zval dst (qQ a0 a1 a2 a3 cx.G x))
  (fun a0 a1 a2 cx _ dst x=>zval dst (sO a0 a1 a2 cx.G x))
  zo_call
  zo_callv
  zo_inv
  zo_pan
  zo_dfr
  zo_rcv
  (fun a0 a1 cx _ dst x=>zval dst (xN a0 a1 cx.G x))
  (fun a0 a1 cx _ dst x=>zval dst (st_xa a0 a1 cx.G x))
  o.op cx cl o.dst x
def wanted(o:cR)(x:AS):Option Bool:=
 match o.guard with
 | none=>some true
 | some (g,want)=>match tget x.t g with
  | .bool b=>some (b==want)
  | .tup []=>some false
  | _=>none
def zops_nil(_:Cx)(_:CL)(x:AS):R:=.ok .normal x
def zthen(k:AS→R)(o:Out)(x:AS):R:=Out.rec (motive:=fun _=>(AS→R)→AS→R) (fun k x=>k x) (fun i _ x=>.ok (.exit i) x) (fun _ x=>.ok .ret x) (fun c _ x=>.ok (.pan c) x) o k x
def zbind(r:R)(k:AS→R):R:=R.rec .no (fun o x=>zthen k o x) r
def uR(o:cR)(ih:Cx→CL→AS→R)(cx:Cx)(cl:CL)(x:AS)(b:Bool):R:=
 Bool.rec (ih cx cl ⟨iO o.dst x.t (.tup []),x.s,x.c,x.d,x.r⟩) (zbind (zOp cx cl o x) (ih cx cl)) b
def zops_cons(o:cR)(_:List cR)(ih:Cx→CL→AS→R)(cx:Cx)(cl:CL)(x:AS):R:=
 Option.rec .no (uR o ih cx cl x) (wanted o x)
def lM(cx:Cx)(cl:CL)(l:List cR)(x:AS):R:=List.rec (motive:=fun _=>Cx→CL→AS→R) zops_nil zops_cons l cx cl x
def dC(G:List (Nat×List D))(op:AOp)(t:Tm):Option ((Nat→D)×Blk):=
 match op with
 | .new ty a=>match(a.ev G t).cells? with
  | some cs=>some (fun nm=>.ptr nm 0,.fix ty cs)
  | none=>none
 | .bsl len sz cells ps=>(place cells (parts G t ps)).map fun cs=>(fun nm=>.ms nm 0 sz len len,.fix 0 cs)
 | .mks sz bytes zero l c=>match l.ev G t,c.ev G t with
  | .int _ l,.int _ c=>
   if 0≤l∧l≤c∧bytes*c≤1099511627776∧c≤4294967296 then some (fun nm=>.ms nm 0 sz l.toNat c.toNat,.fix 0 (rep c.toNat zero)) else none
  | _,_=>none
 | .mkm=>some (fun nm=>.mp nm,.mp [] 0)
 | _=>none
mutual
def xP:Nat→D→D→Bool
 | 0,_,_=>false
 | n+1,a,b=>
  match a,b with
  | .un,.un=>true
  | .bool x,.bool y=>x==y
  | .int j x,.int k y=>decide (j=k)&&x==y
  | .str x,.str y=>x==y
  | .agg x,.agg y=>oB n x y
  | .tup x,.tup y=>oB n x y
  | .nils,.nils=>true
  | .nilp,.nilp=>true
  | .nilm,.nilm=>true
  | .nilif,.nilif=>true
  | .nilfn,.nilfn=>true
  | .iface j x,.iface k y=>Nat.beq j k&&xP n x y
  | .sl e j x,.sl e' k y=>(e==e')&&Nat.beq j k&&oB n x y
  | .iptr x j,.iptr y k=>Nat.beq j k&&oB n x y
  | .ms a b c d e,.ms a' b' c' d' e'=>Nat.beq a a'&&Nat.beq b b'&&Nat.beq c c'&&Nat.beq d d'&&Nat.beq e e'
  | .gs a b c d,.gs a' b' c' d'=>Nat.beq a a'&&Nat.beq b b'&&Nat.beq c c'&&Nat.beq d d'
  | .ptr a b,.ptr a' b'=>Nat.beq a a'&&Nat.beq b b'
  | .mp a,.mp b=>Nat.beq a b
  | .yl a,.yl b=>Nat.beq a b
  | .it a,.it b=>Nat.beq a b
  | .adr a b,.adr a' b'=>Nat.beq a a'&&Nat.beq b b'
  | .fn (.func f) x x',.fn (.func g) y y'=>Nat.beq f g&&oB n x y&&oB n x' y'
  | _,_=>false
def oB:Nat→List D→List D→Bool
 | _,[],[]=>true
 | 0,_,_=>false
 | n+1,a::x,b::y=>xP n a b&&oB n x y
 | _,_,_=>false
end
def bP(G:List (Nat×List D))(op:AOp)(x:AS)(d:D)(s:St):Bool:=
 match step G op ⟨x.t,s,x.c,x.d,x.r⟩ with
 | some p=>xP 1000 d p.1||@decide (d=p.1) (Classical.propDecidable _)
 | none=>false
def zany_nil(_:List St)(x:AS):R:=.ok .normal x
def mD(cx:Cx)(cl:CL)(c0:Nat)(e:Nat×Nat×cR)(r:List (Nat×Nat×cR))(ih:List St→AS→R)(hist:List St)(x:AS):R:=
 match wanted e.2.2 x with
 | none=>.no
 | some false=>ih (bif Nat.beq e.2.2.op.kd 2 then x.s::hist else hist) ⟨iO e.2.2.dst x.t (.tup []),x.s,x.c,x.d,x.r⟩
 | some true=>match e.2.2.op.kd with
  | 0=>match step cx.G e.2.2.op x with
   | some p=>bif (hist.take e.2.1).all (bP cx.G e.2.2.op x p.1) then ih hist ⟨iO e.2.2.dst x.t p.1,x.s,x.c,x.d,x.r⟩else .no
   | none=>.no
  | 1=>match dC cx.G e.2.2.op x.t with
   | some p=>bif (x.s::hist.take e.2.1).all (fun s=>(sget s (c0+e.1)).isNone) then ih hist ⟨iO e.2.2.dst x.t (p.1 (c0+e.1)),sadd x.s (c0+e.1) p.2,x.c,x.d,x.r⟩else .no
   | none=>.no
  | 2=>match zOp cx cl e.2.2 x with
   | .ok .normal y=>ih (x.s::hist) y
   | .ok (.pan ch) y=>bif r.all (fun f=>Nat.beq f.2.1 0) then .ok (.pan ch) y else .no
   | _=>.no
  | _=>.no
def sL(cx:Cx)(cl:CL)(c0:Nat)(l:List (Nat×Nat×cR)):List St→AS→R:=List.rec zany_nil (mD cx cl c0) l
def cN:List (Nat×Nat×cR)→Tm→Tm
 | [],t=>t
 | e::r,t=>cN r (bif Nat.beq e.2.1 0 then t else iO e.2.2.dst t .un)
def dR:List (Nat×Nat)→List cR→List (Nat×Nat×cR)
 | p::r,o::l=>(p.1,p.2,o)::dR r l
 | _,_=>[]
abbrev ZK:=Cx→CL→Nat→AS→R
def zc_skip(_:Cx)(_:CL)(_:Nat)(x:AS):R:=.ok .normal x
def zc_reg(dr:Option (List (Nat×Nat)))(ops:List cR)(cx:Cx)(cl:CL)(_:Nat)(x:AS):R:=
 Option.rec (lM cx cl ops x) (fun ord=>sL cx cl x.c (dR ord ops) [] ⟨cN (dR ord ops) x.t,x.s,x.c+ops.length,x.d,x.r⟩) dr
def zc_seq(_ _:AC)(Dr Ix:ZK)(cx:Cx)(cl:CL)(k:Nat)(x:AS):R:=zbind (Dr cx cl k x) (Ix cx cl k)
def wZ(c:Arg)(_ _:AC)(Dr Ix:ZK)(cx:Cx)(cl:CL)(k:Nat)(x:AS):R:=match c.ev cx.G x.t with
 | .bool r=>Bool.rec (Ix cx cl k x) (Dr cx cl k x) r
 | _=>.no
def zblk(id:Nat)(o:Out)(x:AS):R:=Out.rec (.ok .normal x) (fun i=>Bool.rec (.ok (.exit i) x) (.ok .normal x) (Nat.beq i id)) (.ok .ret x) (fun c=>.ok (.pan c) x) o
def zc_block(id:Nat)(_:AC)(Dr:ZK)(cx:Cx)(cl:CL)(k:Nat)(x:AS):R:=R.rec .no (zblk id) (Dr cx cl k x)
def zloop_0(_:AS→R)(_:AS):R:=.no
def zloop_s(_:Nat)(ih:(AS→R)→AS→R)(f:AS→R)(x:AS):R:=zbind (f x) (ih f)
def zloop(n:Nat)(f:AS→R)(x:AS):R:=Nat.rec (motive:=fun _=>(AS→R)→AS→R) zloop_0 zloop_s n f x
def zc_loop(_:AC)(Dr:ZK)(cx:Cx)(cl:CL)(k:Nat)(x:AS):R:=zloop k (Dr cx cl k) x
def zc_exit(id:Nat)(_:Cx)(_:CL)(_:Nat)(x:AS):R:=.ok (.exit id) x
def zc_scope(_:AC)(Dr:ZK)(cx:Cx)(cl:CL)(k:Nat)(x:AS):R:=Dr cx cl k x
def zc_ret(_:Cx)(_:CL)(_:Nat)(x:AS):R:=.ok .ret x
def mK(nm:Nat)(y:AS):R:=
 match sget y.s nm with
 | some (.lp st Ck t ps a b)=>match st with
  | .busy=>.no
  | _=>
   let z:AS:=⟨y.t,sset y.s nm (.lp .exhausted Ck t ps a b),y.c,y.d,y.r⟩
   match Ck with
   | none=>.ok .normal z
   | some none=>.ok .ret z
   | some (some i)=>.ok (.exit i) z
 | _=>.no
def zc_rfn(f:Arg)(ps:List Nat)(a b:AC)(_ _:ZK)(cx:Cx)(cl:CL)(_:Nat)(x:AS):R:=
 match x.r with
 | some l0=>match sget x.s l0 with
  | some (.lp ..)=>zbind (lY cx cl none ⟨x.t,sadd x.s x.c (.lp .ready none x.t ps a b),x.c+1,x.d,some l0⟩ (f.ev cx.G x.t) [.yl x.c]) (mK x.c)
  | _=>.no
 | none=>zbind (lY cx cl none ⟨x.t,sadd (sadd x.s x.c .dfd) (x.c+1) (.lp .ready none x.t ps a b),x.c+2,(.it x.c,[])::x.d,none⟩ (f.ev cx.G x.t) [.yl (x.c+1)]) (mK (x.c+1))
def zlab_0(n:Nat)(_:AS→R)(r:R):R:=match r with
 | .ok (.exit i) y=>bif Nat.beq i n then .no else .ok (.exit i) y
 | r=>r
def zlab_s(_:Nat)(ih:Nat→(AS→R)→R→R)(n:Nat)(f:AS→R)(r:R):R:=match r with
 | .ok (.exit i) y=>bif Nat.beq i n then ih n f (f y) else .ok (.exit i) y
 | r=>r
def zlab(k:Nat)(n:Nat)(f:AS→R)(r:R):R:=Nat.rec (motive:=fun _=>Nat→(AS→R)→R→R) zlab_0 zlab_s k n f r
def zc_lab(n:Nat)(_ _:AC)(ihr Dr:ZK)(cx:Cx)(cl:CL)(k:Nat)(x:AS):R:=zlab k n (ihr cx cl k) (Dr cx cl k x)
def zC(c:AC)(cx:Cx)(cl:CL)(k:Nat)(x:AS):R:=
 AC.rec (motive:=fun _=>ZK) zc_skip zc_reg zc_seq wZ zc_block zc_loop zc_exit zc_scope zc_ret zc_rfn zc_lab c cx cl k x
abbrev eU:=Option Ch
inductive RS where
 | no
 | ok (o:Out) (x:AS) (m:eU)
def jR(cx:Cx)(cl:CL):List cR→AS→eU→RS
 | [],x,m=>.ok .normal x m
 | o::r,x,m=>match wanted o x with
  | some true=>match o.op with
   | .rcv=>match m with
    | some ((v,false)::older)=>jR cx cl r (x.put o.dst v) (some ((v,true)::older))
    | _=>jR cx cl r (x.put o.dst .nilif) m
   | _=>match zOp cx cl o x with
    | .ok .normal y=>jR cx cl r y m
    | .ok e y=>.ok e y m
    | .no=>.no
  | some false=>jR cx cl r (x.put o.dst (.tup [])) m
  | none=>.no
def AC.noRcv:AC→Bool
 | .skip=>true
 | .reg _ ops=>ops.all fun o=>match o.op with | .rcv=>false|_=>true
 | .seq a b=>a.noRcv&&b.noRcv
 | .cond _ a b=>a.noRcv&&b.noRcv
 | .block _ a=>a.noRcv
 | .loop a=>a.noRcv
 | .exit _=>true
 | .scope a=>a.noRcv
 | .ret=>true
 | .rfn _ _ a b=>a.noRcv&&b.noRcv
 | .lab _ a b=>a.noRcv&&b.noRcv
def zS(cx:Cx)(cl:CL)(k:Nat):AC→AS→eU→RS
 | .reg none ops,x,m=>jR cx cl ops x m
 | .seq a b,x,m=>match zS cx cl k a x m with
  | .ok .normal y m=>zS cx cl k b y m
  | r=>r
 | .cond c a b,x,m=>match c.ev cx.G x.t with
  | .bool r=>bif r then zS cx cl k a x m else zS cx cl k b x m
  | _=>.no
 | .block id a,x,m=>match zS cx cl k a x m with
  | .ok (.exit i) y m=>bif Nat.beq i id then .ok .normal y m else .ok (.exit i) y m
  | r=>r
 | .scope a,x,m=>zS cx cl k a x m
 | c,x,m=>bif c.noRcv then match zC c cx cl k x with
   | .ok o y=>.ok o y m
   | .no=>.no
  else .no
def results(A:AF)(x:AS):Option D:=(A.res.mapM (RV.get x)).map retD
def settle:eU→eU
 | some ((_,true)::_)=>none
 | m=>m
def raised(m:eU)(ch:Ch):eU:=
 match m with
 | some old=>some (ch++old)
 | none=>some ch
def tm0:Tm:=.nd (.nd (.nd (.nd (.ls []) (.ls [])) (.nd (.ls []) (.ls []))) (.nd (.nd (.ls []) (.ls [])) (.nd (.ls []) (.ls [])))) (.nd (.nd (.nd (.ls []) (.ls [])) (.nd (.ls []) (.ls []))) (.nd (.nd (.ls []) (.ls [])) (.nd (.ls []) (.ls []))))
def start(args:List D)(s:St)(c:Nat):AS:=⟨iW 0 args tm0,s,c,[],none⟩
inductive DR where
 | no
 | ok (o:FO) (m:eU) (s:St) (c:Nat)
inductive DS where
 | no
 | ok (m:eU) (s:St) (c:Nat)
def zDs(Ob:Nat→List D→eU→St→Nat→DR):List (D×List D)→eU→St→Nat→DS
 | [],m,s,c=>.ok m s c
 | (.fn (.func f) fs cs,args)::r,m,s,c=>match Ob f (fs++args++cs) m s c with
  | .ok (.ret _) m s c=>zDs Ob r (settle m) s c
  | .ok (.pan ch) m s c=>zDs Ob r (raised m ch) s c
  | .no=>.no
 | (.it nm,[])::r,m,s,c=>match sget s nm with
  | some .dfd=>zDs Ob r m (sdel s nm) c
  | _=>.no
 | _::_,_,_,_=>.no
def pU(Ob:Nat→List D→eU→St→Nat→DR)(A:AF)(m:eU)(x:AS):FR:=
 match zDs Ob x.d m x.s x.c with
 | .ok none s c=>match results A ⟨x.t,s,c,x.d,x.r⟩ with
  | some d=>.ok (.ret d) s c
  | none=>.no
 | .ok (some ch) s c=>.ok (.pan ch) s c
 | .no=>.no
def oQ:List Nat→List D→Tm→Tm
 | p::ps,d::ds,t=>oQ ps ds (tput t p d)
 | _,_,t=>t
def zRound(cx:Cx)(cl:CL)(k:Nat)(nm:Nat)(args:List D)(s:St)(c:Nat):FR:=
 match sget s nm with
 | some (.lp _ _ t ps a b)=>
  bif Nat.beq args.length ps.length then
   match zC a cx cl k ⟨oQ ps args t,s,c,[],some nm⟩ with
   | .ok .normal y=>match sget y.s nm with
    | some (.lp .ready Ck t' Ln a' b')=>
     match zC b cx cl k ⟨y.t,sset y.s nm (.lp .busy Ck t' Ln a' b'),y.c,y.d,y.r⟩ with
     | .ok (.pan ch) z=>match z.d with
      | []=>.ok (.pan ch) z.s z.c
      | _=>.no
     | .ok o z=>
      let Kk:Option (Option Nat):=match o with | .exit i=>some (some i) | .ret=>some none|_=>none
      match sget z.s nm with
      | some (.lp _ _ t' Ln a' b')=>.ok (.ret (.bool Kk.isNone)) (sset z.s nm (.lp (bif Kk.isNone then .ready else .done) Kk t' Ln a' b')) z.c
      | _=>.no
     | .no=>.no
    | _=>.no
   | .ok (.pan ch) z=>match z.d with
    | []=>.ok (.pan ch) z.s z.c
    | _=>.no
   | _=>.no
  else .no
 | _=>.no
def zbody(Ob:Nat→List D→eU→St→Nat→DR)(A:AF)(r:R):FR:=
 match r with
 | .ok .normal x=>pU Ob A none x
 | .ok .ret x=>pU Ob A none x
 | .ok (.pan ch) x=>pU Ob A (some ch) x
 | _=>.no
def zdone(A:AF)(o:FO)(x:AS)(m:eU):DR:=
 match x.d,o with
 | [],.pan ch=>.ok (.pan ch) m x.s x.c
 | [],.ret _=>match results A x with
  | some d=>.ok (.ret d) m x.s x.c
  | none=>.no
 | _,_=>.no
def zdbody(A:AF)(r:RS):DR:=
 match r with
 | .ok .normal x m=>zdone A (.ret .un) x m
 | .ok .ret x m=>zdone A (.ret .un) x m
 | .ok (.pan ch) x m=>zdone A (.pan ch) x m
 | _=>.no
structure FD where
 fn:CL
 df:Nat→List D→eU→St→Nat→DR
def zcall(cx:Cx)(k:Nat)(p:FD)(f:Nat)(args:List D)(s:St)(c:Nat):FR:=
 match cx.T f with
 | some A=>bif Nat.beq args.length A.np then zbody p.df A (zC A.body cx p.fn k (start args s c)) else .no
 | none=>.no
def zdef(cx:Cx)(k:Nat)(p:FD)(f:Nat)(args:List D)(m:eU)(s:St)(c:Nat):DR:=
 match cx.T f with
 | some A=>bif Nat.beq args.length A.np then zdbody A (zS cx p.fn k A.body (start args s c) m) else .no
 | none=>.no
def zlook(fa:List D):List (List D×D)→Option D
 | []=>none
 | p::r=>bif oB 1000 p.1 fa then some p.2 else zlook fa r
def zmemo(cx:Cx)(f:Nat)(Ib:List D→St→Nat→FR)(args:List D)(s:St)(c:Nat):FR:=
 match cx.K f with
 | []=>Ib args s c
 | p::l=>match args.mapM (fr 20 s) with
  | none=>Ib args s c
  | some fa=>match zlook fa (p::l) with
   | some d=>.ok (.ret d) s c
   | none=>Ib args s c
def zspec(cx:Cx)(f:Nat)(Ib:List D→St→Nat→FR):List D→St→Nat→FR:=Option.rec Ib (fun g=>g) (cx.X f)
def zn0:FD:=⟨fun _ _ _ _=>.no,fun _ _ _ _ _=>.no⟩
def znS(cx:Cx)(k:Nat)(_:Nat)(p:FD):FD:=
 ⟨fun ce=>CE.rec (fun f=>zspec cx f (zmemo cx f (zcall cx k p f))) (fun nm=>zRound cx p.fn k nm) ce,zdef cx k p⟩
def zN(cx:Cx)(k n:Nat):FD:=Nat.rec zn0 (znS cx k) n
end
structure Ext (M:Nat→Prop) (w:World) (M':Nat→Prop) (w':World):Prop where
 size:w.heap.size≤w'.heap.size
 same:∀b,b<w.heap.size→¬M b→w'.heap[b]?=w.heap[b]?
 less:∀b,b<w.heap.size→M' b→M b
theorem Ext.refl(M:Nat→Prop)(w:World):Ext M w M w:=⟨aK _,fun _ _ _=>rfl,fun _ _ h=>h⟩
theorem cell_of_heap{w w':World}{b:Nat}(h:w'.heap[b]?=w.heap[b]?)(o:Nat):w'.cell? ⟨b,o,none⟩=w.cell? ⟨b,o,none⟩:=by
 grind [World.cell?]
def gJ(μ μ':Mu):Prop:=∀nm l,μ nm=some l→μ' nm=some l
theorem gJ.refl(μ:Mu):gJ μ μ:=fun _ _ h=>h
theorem mu0_le(μ:Mu):gJ mu0 μ:=fun _ _ h=>by simp[mu0]at h
section
variable {M M':Nat→Prop} {w w':World}
mutual
theorem aY.mono(hx:Ext M w M' w'):∀{μ μ':Mu} (d:D) (v:Value),gJ μ μ'→aY M w μ d v→aY M' w' μ' d v
 | _,_,.un,_,_,_=>by simp only[aY]
 | _,_,.bool _,_,_,h=>by grind [aY]
 | _,_,.int _ _,_,_,h=>by grind [aY]
 | _,_,.str _,_,_,h=>by grind [aY]
 | _,_,.agg cs,_,hm,h=>by
  simp only[aY]at h ⊢;obtain⟨vs,rfl,h⟩:=h;exact⟨vs,rfl,bI.mono hx cs _ hm h⟩
 | _,_,.tup cs,_,hm,h=>by
  simp only[aY]at h ⊢;obtain⟨vs,rfl,h⟩:=h;exact⟨vs,rfl,bI.mono hx cs _ hm h⟩
 | _,_,.nils,_,_,h=>by grind [aY]
 | _,_,.sl ex len cs,_,_,h=>by
  simp only[aY]at h ⊢;obtain⟨a,cap,rfl,hl,he,h⟩:=h;refine⟨a,cap,rfl,hl,he,h.imp id ?_⟩;rintro⟨b,o,rfl,hb,zQ,hc⟩;exact⟨b,o,rfl,fun hn=>hb (hx.less b zQ hn),bY zQ hx.size,iK.mono hx b hb zQ cs o hc⟩
 | _,_,.ms nm off sz len cap,_,hm,h=>by
  simp only[aY]at h ⊢;obtain⟨l,b,h1,h⟩:=h;exact⟨l,b,hm _ _ h1,h⟩
 | _,_,.gs nm off sz len,_,hm,h=>by
  simp only[aY]at h ⊢;obtain⟨l,b,h1,h⟩:=h;exact⟨l,b,hm _ _ h1,h⟩
 | _,_,.ptr nm off,_,hm,h=>by
  simp only[aY]at h ⊢;obtain⟨l,b,h1,h⟩:=h;exact⟨l,b,hm _ _ h1,h⟩
 | _,_,.iptr cs off,_,_,h=>by
  simp only[aY]at h ⊢;obtain⟨b,o,rfl,hb,zQ,hc⟩:=h;exact⟨b,o,rfl,fun hn=>hb (hx.less b zQ hn),bY zQ hx.size,iK.mono hx b hb zQ cs o hc⟩
 | _,_,.nilp,_,_,h=>by grind [aY]
 | _,_,.iface t d,_,hm,h=>by
  simp only[aY]at h ⊢;obtain⟨x,rfl,h⟩:=h;exact⟨x,rfl,aY.mono hx d x hm h⟩
 | _,_,.nilif,_,_,h=>by grind [aY]
 | _,_,.fn f a b,_,hm,h=>by
  simp only[aY]at h ⊢;obtain⟨va,vb,rfl,h1,h2⟩:=h;exact⟨va,vb,rfl,bI.mono hx a _ hm h1,bI.mono hx b _ hm h2⟩
 | _,_,.nilfn,_,_,h=>by grind [aY]
 | _,_,.nilm,_,_,h=>by grind [aY]
 | _,_,.adr _ _,_,_,h=>by grind [aY]
 | _,_,.mp nm,_,hm,h=>by
  simp only[aY]at h ⊢;obtain⟨l,b,h1,h⟩:=h;exact⟨l,b,hm _ _ h1,h⟩
 | _,_,.yl nm,_,hm,h=>by
  simp only[aY]at h ⊢;obtain⟨l,b,h1,h⟩:=h;exact⟨l,b,hm _ _ h1,h⟩
 | _,_,.it nm,_,hm,h=>by
  simp only[aY]at h ⊢;obtain⟨l,b,h1,h⟩:=h;exact⟨l,b,hm _ _ h1,h⟩
theorem bI.mono(hx:Ext M w M' w'):∀{μ μ':Mu} (ds:List D) (vs:List Value),gJ μ μ'→bI M w μ ds vs→bI M' w' μ' ds vs
 | _,_,[],_,_,h=>by grind [bI]
 | _,_,d::ds,_,hm,h=>by
  simp only[bI]at h ⊢;obtain⟨v,r,rfl,h1,h2⟩:=h;exact⟨v,r,rfl,aY.mono hx d v hm h1,bI.mono hx ds r hm h2⟩
theorem iK.mono(hx:Ext M w M' w')(b:Nat)(hb:¬M b)(zQ:b<w.heap.size):∀(ds:List D) (o:Nat),iK M w b o ds→iK M' w' b o ds
 | [],_,_=>by simp only[iK]
 | d::ds,o,h=>by
  simp only[iK]at h ⊢;obtain⟨⟨v,hv,h1⟩,h2⟩:=h;exact⟨⟨v,by rw[cell_of_heap (hx.same b zQ hb)];exact hv,aY.mono hx d v (gJ.refl _) h1⟩,iK.mono hx b hb zQ ds (o+1) h2⟩
end
end
section
variable {M:Nat→Prop} {w:World}
mutual
theorem aY.pure:∀{μ μ':Mu} (d:D) (v:Value),d.pure=true→aY M w μ d v→aY M w μ' d v
 | _,_,.un,_,_,_=>by simp only[aY]
 | _,_,.bool _,_,_,h=>by grind [aY]
 | _,_,.int _ _,_,_,h=>by grind [aY]
 | _,_,.str _,_,_,h=>by grind [aY]
 | _,_,.agg cs,_,hp,h=>by
  simp only[D.pure]at hp;simp only[aY]at h ⊢;obtain⟨vs,rfl,h⟩:=h;exact⟨vs,rfl,bI.pure cs _ hp h⟩
 | _,_,.tup cs,_,hp,h=>by
  simp only[D.pure]at hp;simp only[aY]at h ⊢;obtain⟨vs,rfl,h⟩:=h;exact⟨vs,rfl,bI.pure cs _ hp h⟩
 | _,_,.nils,_,_,h=>by grind [aY]
 | _,_,.sl ex len cs,_,_,h=>by grind [aY]
 | _,_,.ms ..,_,hp,_=>by simp[D.pure]at hp
 | _,_,.gs ..,_,hp,_=>by simp[D.pure]at hp
 | _,_,.ptr ..,_,hp,_=>by simp[D.pure]at hp
 | _,_,.iptr cs off,_,_,h=>by grind [aY]
 | _,_,.nilp,_,_,h=>by grind [aY]
 | _,_,.iface t d,_,hp,h=>by
  simp only[D.pure]at hp;simp only[aY]at h ⊢;obtain⟨x,rfl,h⟩:=h;exact⟨x,rfl,aY.pure d x hp h⟩
 | _,_,.nilif,_,_,h=>by grind [aY]
 | _,_,.fn f a b,_,hp,h=>by
  simp only[D.pure,bW]at hp;simp only[aY]at h ⊢;obtain⟨va,vb,rfl,h1,h2⟩:=h;exact⟨va,vb,rfl,bI.pure a _ hp.1 h1,bI.pure b _ hp.2 h2⟩
 | _,_,.nilfn,_,_,h=>by grind [aY]
 | _,_,.nilm,_,_,h=>by grind [aY]
 | _,_,.adr _ _,_,_,h=>by grind [aY]
 | _,_,.it ..,_,hp,_=>by simp[D.pure]at hp
 | _,_,.mp ..,_,hp,_=>by simp[D.pure]at hp
 | _,_,.yl ..,_,hp,_=>by simp[D.pure]at hp
theorem bI.pure:∀{μ μ':Mu} (ds:List D) (vs:List Value),D.pures ds=true→bI M w μ ds vs→bI M w μ' ds vs
 | _,_,[],_,_,h=>by grind [bI]
 | _,_,d::ds,_,hp,h=>by
  simp only[D.pures,bW]at hp;simp only[bI]at h ⊢;obtain⟨v,r,rfl,h1,h2⟩:=h;exact⟨v,r,rfl,aY.pure d v hp.1 h1,bI.pure ds r hp.2 h2⟩
end
end
mutual
theorem aY.flat{M M':Nat→Prop}{w w':World}:∀{μ μ':Mu} (d:D) (v:Value),d.flat=true→aY M w μ d v→aY M' w' μ' d v
 | _,_,.un,_,_,_=>by simp only[aY]
 | _,_,.bool _,_,_,h=>by grind [aY]
 | _,_,.int _ _,_,_,h=>by grind [aY]
 | _,_,.str _,_,_,h=>by grind [aY]
 | _,_,.agg cs,_,hp,h=>by
  simp only[D.flat]at hp;simp only[aY]at h ⊢;obtain⟨vs,rfl,h⟩:=h;exact⟨vs,rfl,bI.flat cs _ hp h⟩
 | _,_,.tup cs,_,hp,h=>by
  simp only[D.flat]at hp;simp only[aY]at h ⊢;obtain⟨vs,rfl,h⟩:=h;exact⟨vs,rfl,bI.flat cs _ hp h⟩
 | _,_,.nils,_,_,h=>by grind [aY]
 | _,_,.sl ..,_,hp,_=>by simp[D.flat]at hp
 | _,_,.ms ..,_,hp,_=>by simp[D.flat]at hp
 | _,_,.gs ..,_,hp,_=>by simp[D.flat]at hp
 | _,_,.ptr ..,_,hp,_=>by simp[D.flat]at hp
 | _,_,.iptr ..,_,hp,_=>by simp[D.flat]at hp
 | _,_,.nilp,_,_,h=>by grind [aY]
 | _,_,.iface t d,_,hp,h=>by
  simp only[D.flat]at hp;simp only[aY]at h ⊢;obtain⟨x,rfl,h⟩:=h;exact⟨x,rfl,aY.flat d x hp h⟩
 | _,_,.nilif,_,_,h=>by grind [aY]
 | _,_,.fn ..,_,hp,_=>by simp[D.flat]at hp
 | _,_,.nilfn,_,_,h=>by grind [aY]
 | _,_,.nilm,_,_,h=>by grind [aY]
 | _,_,.adr _ _,_,_,h=>by grind [aY]
 | _,_,.it ..,_,hp,_=>by simp[D.flat]at hp
 | _,_,.mp ..,_,hp,_=>by simp[D.flat]at hp
 | _,_,.yl ..,_,hp,_=>by simp[D.flat]at hp
theorem bI.flat{M M':Nat→Prop}{w w':World}:∀{μ μ':Mu} (ds:List D) (vs:List Value),D.flats ds=true→bI M w μ ds vs→bI M' w' μ' ds vs
 | _,_,[],_,_,h=>by grind [bI]
 | _,_,d::ds,_,hp,h=>by
  simp only[D.flats,bW]at hp;simp only[bI]at h ⊢;obtain⟨v,r,rfl,h1,h2⟩:=h;exact⟨v,r,rfl,aY.flat d v hp.1 h1,bI.flat ds r hp.2 h2⟩
end
section lists
variable {M:Nat→Prop} {w:World} {μ:Mu}
variable {ds:List D} {vs:List Value}
theorem bI.length:∀{ds:List D} {vs:List Value},bI M w μ ds vs→vs.length=ds.length
 | [],_,h=>by grind [bI]
 | d::ds,_,h=>by
  simp only[bI]at h;obtain⟨v,r,rfl,_,h2⟩:=h;simp[bI.length h2]
theorem bI.get:∀{ds:List D} {vs:List Value} (i:Nat) (d:D),bI M w μ ds vs→ds[i]?=some d→∃v,vs[i]?=some v∧aY M w μ d v
 | [],_,i,d,h,hi=>by simp at hi
 | d::ds,_,0,e,h,hi=>by
  grind [bI]
 | d::ds,_,i+1,e,h,hi=>by
  simp only[bI]at h;obtain⟨v,r,rfl,h1,h2⟩:=h;simp at hi;obtain⟨v',hv,hr⟩:=bI.get i e h2 hi
  grind
theorem bI.cons{d:D}{v:Value}(h:aY M w μ d v)(h':bI M w μ ds vs):bI M w μ (d::ds) (v::vs):=by
 grind [bI]
theorem bI.nil:bI M w μ [] []:=by simp only[bI]
theorem bI.mk:∀{ds:List D} {vs:List Value},vs.length=ds.length→(∀(i:Nat) (d:D) (v:Value),ds[i]?=some d→vs[i]?=some v→aY M w μ d v)→bI M w μ ds vs
 | [],vs,hl,_=>by
  grind [eM,bI.nil]
 | d::ds,[],hl,_=>by simp at hl
 | d::ds,v::vs,hl,h=>by
  refine bI.cons (h 0 d v (by simp) (by simp)) (bI.mk (by simpa using hl) ?_)
  intro i d' v' h1 h2;exact h (i+1) d' v' (by simpa using h1) (by simpa using h2)
theorem bI.at{i:Nat}{d:D}{v:Value}(h:bI M w μ ds vs)(h1:ds[i]?=some d)(h2:vs[i]?=some v):aY M w μ d v:=by
 grind [bI.get]
theorem bI.append{es:List D}{us:List Value}(h:bI M w μ ds vs)(h':bI M w μ es us):bI M w μ (ds++es) (vs++us):=by
 induction ds generalizing vs with
 | nil=>grind [bI]
 | cons d ds ih=>
  grind [bI,bI.cons]
theorem bI.drop(n:Nat)(h:bI M w μ ds vs):bI M w μ (ds.drop n) (vs.drop n):=by
 refine bI.mk (by simp[h.length]) fun i d v h1 h2=>?_
 simp at h1 h2;exact h.at h1 h2
theorem bI.take(n:Nat)(h:bI M w μ ds vs):bI M w μ (ds.take n) (vs.take n):=by
 refine bI.mk (by simp[h.length]) fun i d v h1 h2=>?_
 rw[List.getElem?_take]at h1 h2;split at h1
 ·rename_i hi;rw[aS hi]at h2;exact h.at h1 h2
 ·simp at h1
theorem iK.get:∀{b o:Nat} {ds:List D} (i:Nat) (d:D),iK M w b o ds→ds[i]?=some d→∃v,w.cell? ⟨b,o+i,none⟩=some v∧aY M w mu0 d v
 | _,_,[],i,d,_,hi=>by simp at hi
 | b,o,d::ds,0,e,h,hi=>by
  grind [iK]
 | b,o,d::ds,i+1,e,h,hi=>by
  simp only[iK]at h;simp at hi;obtain⟨v,hv,hr⟩:=iK.get i e h.2 hi
  grind
theorem iK.mk:∀{b o:Nat} {ds:List D},(∀(i:Nat) (d:D),ds[i]?=some d→∃v,w.cell? ⟨b,o+i,none⟩=some v∧aY M w mu0 d v)→iK M w b o ds
 | _,_,[],_=>by simp only[iK]
 | b,o,d::ds,h=>by
  simp only[iK];refine⟨by simpa using h 0 d (by simp),iK.mk fun i e hi=>?_⟩
  obtain⟨v,hv,hr⟩:=h (i+1) e (by simpa using hi)
  grind
theorem iK.drop{b o:Nat}(n:Nat)(h:iK M w b o ds):iK M w b (o+n) (ds.drop n):=
 iK.mk fun i d hi=>by
  grind [iK.get]
theorem iK.take{b o:Nat}(n:Nat)(h:iK M w b o ds):iK M w b o (ds.take n):=
 iK.mk fun i d hi=>by
  grind [iK.get]
end lists
section places
theorem jH{n k:Nat}(h:n≠k):Nat.beq n k=false:=by
 grind [Nat.beq,absurd,bH]
section
variable {α:Type}
theorem tO(k:Nat)(v:α)(r:List (Nat×α))(n:Nat):lget ((k,v)::r) n=if n=k then some v else lget r n:=by
 show(Bool.rec (lget r n) (some v) (Nat.beq n k):Option α)=_;by_cases h:n=k
 ·subst h;simp
 ·rw[aG h,jH h]
theorem lset_c(k:Nat)(w:α)(r:List (Nat×α))(n:Nat)(v:α):lset ((k,w)::r) n v=if n=k then(n,v)::r else(k,w)::lset r n v:=by
 show(Bool.rec ((k,w)::lset r n v) ((n,v)::r) (Nat.beq n k):List (Nat×α))=_;by_cases h:n=k
 ·subst h;simp
 ·rw[aG h,jH h]
theorem lget_lset(l:List (Nat×α))(n:Nat)(v:α)(m:Nat):lget (lset l n v) m=if m=n then some v else lget l m:=by
 induction l with
 | nil=>show lget [(n,v)] m=_;rw[tO]
 | cons p r ih=>
  grind [lset_c,tO]
theorem lget_ldel(l:List (Nat×α))(n m:Nat):lget (ldel l n) m=if m=n then none else lget l m:=by
 induction l with
 | nil=>simp only[ldel];show none=_;split<;>rfl
 | cons p r ih=>
  obtain⟨k,w⟩:=p;simp only[ldel];by_cases h:n=k
  ·subst h;simp only[show Nat.beq n n=true by simp,bG,ih,tO]
   by_cases h:m=n<;>simp[h]
  ·rw[jH h,cO,tO,tO,ih];by_cases h1:m=k
   ·subst h1;rw[aS rfl,aS rfl,aG (fun e=>h e.symm)]
   ·rw[aG h1,aG h1]
theorem get_nd(a b:Tr α)(n:Nat):(Tr.nd a b).get n=if n % 2=0 then a.get (n / 2) else b.get (n / 2):=by
 show(Nat.rec (a.get (n / 2)) (fun _ _=>b.get (n / 2)) (n % 2):Option α)=_
 rcases h:n % 2 with _|m
 ·rfl
 ·rfl
theorem set_nd(a b:Tr α)(n:Nat)(v:α):(Tr.nd a b).set n v=if n % 2=0 then .nd (a.set (n / 2) v) b else .nd a (b.set (n / 2) v):=by
 show(Nat.rec (.nd (a.set (n / 2) v) b) (fun _ _=>.nd a (b.set (n / 2) v)) (n % 2):Tr α)=_
 rcases h:n % 2 with _|m
 ·rfl
 ·rfl
theorem add_nd(a b:Tr α)(n:Nat)(v:α):(Tr.nd a b).add n v=if n % 2=0 then .nd (a.add (n / 2) v) b else .nd a (b.add (n / 2) v):=by
 show(Nat.rec (.nd (a.add (n / 2) v) b) (fun _ _=>.nd a (b.add (n / 2) v)) (n % 2):Tr α)=_
 rcases h:n % 2 with _|m
 ·rfl
 ·rfl
theorem del_nd(a b:Tr α)(n:Nat):(Tr.nd a b).del n=if n % 2=0 then .nd (a.del (n / 2)) b else .nd a (b.del (n / 2)):=by
 show(Nat.rec (.nd (a.del (n / 2)) b) (fun _ _=>.nd a (b.del (n / 2))) (n % 2):Tr α)=_
 rcases h:n % 2 with _|m
 ·rfl
 ·rfl
theorem half_eq{n m:Nat}(h:n % 2=m % 2):(m / 2=n / 2)↔m=n:=by omega
theorem Tr.get_set(t:Tr α):∀(n:Nat) (v:α) (m:Nat),(t.set n v).get m=if m=n then some v else t.get m:=by
 induction t with
 | ls l=>intro n v m;exact lget_lset l n v m
 | nd a b Dr Ix=>
  grind [set_nd,get_nd,half_eq]
theorem Tr.get_add(t:Tr α):∀(n:Nat) (v:α) (m:Nat),(t.add n v).get m=if m=n then some v else t.get m:=by
 induction t with
 | ls l=>intro n v m;exact tO n v l m
 | nd a b Dr Ix=>
  grind [add_nd,get_nd,half_eq]
theorem Tr.get_del(t:Tr α):∀(n m:Nat),(t.del n).get m=if m=n then none else t.get m:=by
 induction t with
 | ls l=>intro n m;exact lget_ldel l n m
 | nd a b Dr Ix=>
  grind [del_nd,get_nd,half_eq]
end
theorem nB(t:Tm)(k:Nat)(v:D)(n:Nat):tget (tput t k v) n=if n=k then v else tget t n:=by
 simp only[tget,tput,Tr.get_set];split<;>rfl
theorem aZ(s:St)(n m:Nat)(b:Blk):sget (sadd s n b) m=if m=n then some b else sget s m:=Tr.get_add s n b m
theorem aU(s:St)(n m:Nat)(b:Blk):sget (sset s n b) m=if m=n then some b else sget s m:=Tr.get_set s n b m
theorem hU(s:St)(n m:Nat):sget (sdel s n) m=if m=n then none else sget s m:=Tr.get_del s n m
end places
def Thaw(n:Nat)(fz:Nat×Nat):Prop:=∀o,o<n→¬(fz.1≤o∧o<fz.2)
def Nm(μ:Mu)(b:Nat):Prop:=∃nm l,μ nm=some l∧l.blk=some b
def Mm(M0:Nat→Prop)(μ:Mu):Nat→Prop:=fun b=>M0 b∨Nm μ b
def MEs(M:Nat→Prop)(w:World)(μ:Mu):List (D×D×Nat)→List MapEntry→Prop
 | [],es=>es=[]
 | (k,v,n)::r,es=>∃e r',es=e::r'∧aY M w μ k e.key∧aY M w μ v e.val∧e.born=n∧MEs M w μ r r'
def tT(n:Nat):Code:=bif Nat.beq (n % 2) 0 then .exit (n / 2) else .goto (n / 2)
def iE(n:Nat)(k:List Item):Option (List Item):=bif Nat.beq (n % 2) 0 then exitTo (n / 2) k else gotoIn (n / 2) k
theorem jumpC_even(n:Nat):tT (2*n) = .exit n:=by
 simp_all [tT]
theorem jumpC_odd(n:Nat):tT (2*n+1) = .goto n:=by
 have h1:(2*n+1) % 2=1:=by omega
 have h2:(2*n+1) / 2=n:=by omega
 simp only[tT,h1,h2];rfl
theorem jumpTo_even(n:Nat)(k:List Item):iE (2*n) k=exitTo n k:=by
 simp_all [iE]
theorem jumpTo_odd(n:Nat)(k:List Item):iE (2*n+1) k=gotoIn n k:=by
 have h1:(2*n+1) % 2=1:=by omega
 have h2:(2*n+1) / 2=n:=by omega
 simp only[iE,h1,h2];rfl
theorem jumpTo_nil(n:Nat):iE n []=none:=by
 unfold iE;cases Nat.beq (n % 2) 0<;>rfl
theorem yF(id:Nat)(k:List Item):iE (2*id) (.inBlock id::k)=some k:=by
 rw[jumpTo_even];simp[exitTo]
theorem sA{i id:Nat}(h:i≠2*id)(k:List Item):iE i (.inBlock id::k)=iE i k:=by
 unfold iE;cases hp:Nat.beq (i % 2) 0
 ·rfl
 grind [bH,exitTo]
theorem rL{i:Nat}{p:Code}(h:∀l,i=2*l+1→findLabel p l=none)(k:List Item):iE i (.inScope p::k)=iE i k:=by
 unfold iE;cases hp:Nat.beq (i % 2) 0
 ·have:findLabel p (i / 2)=none:=h (i / 2) (by
   have:i % 2≠0:=fun e=>by simp_all
   omega)
  simp[gotoIn,this]
 ·rfl
def tR:Option Nat→Code
 | none=>.ret
 | some i=>tT i
def rV(P:Program)(M:Nat→Prop)(w:World)(μ:Mu)(nm:Nat):Blk→Prop
 | .fix ty cs=>∃loc b vs e fz,μ nm=some loc∧loc.blk=some b∧loc.cap=cs.length∧M b∧w.heap[b]?=some (.cells vs e fz)∧Thaw vs.size fz∧bI M w μ cs vs.toList∧∀k,ty=k+1→e=k
 | .grow ty cs=>∃loc,μ nm=some loc∧((loc.blk=none∧cs=[]∧loc.cap=0) ∨
   ∃b vs e fz,loc.blk=some b∧M b∧w.heap[b]?=some (.cells vs e fz)∧Thaw vs.size fz∧vs.size=loc.cap∧cs.length≤loc.cap∧bI M w μ cs (vs.toList.take cs.length)∧∀k,ty=k+1→e=k)
 | .iter s pos=>∃loc b,μ nm=some loc∧loc.blk=some b∧M b∧w.heap[b]?=some (.stringIter ⟨s.toArray⟩ pos)
 | .mp es c=>∃loc b ents,μ nm=some loc∧loc.blk=some b∧M b∧w.heap[b]?=some (.map ents c)∧MEs M w μ es ents.toList
 | .mit m Ak seen Ap=>∃loc b mo,μ nm=some loc∧loc.blk=some b∧M b∧w.heap[b]?=some (.mapIter mo Ak seen.toArray Ap) ∧
   (match m with|none=>mo=none|some mn=>∃l bm,μ mn=some l∧l.blk=some bm∧mo=some bm)
 | .lp st Ck t ps a b=>∃loc bk lo N,μ nm=some loc∧loc.blk=some bk∧M bk∧w.heap[bk]?=some (.loop lo)∧lo.state=st∧lo.pending=Ck.map tR∧lo.params.toList=ps ∧
   (ps.all fun p=>Nat.blt p N)=true∧comp P N lo.assign=some a∧comp P N lo.body=some b∧N≤lo.tmps.size∧∀n,aY M w μ (tget t n) (lo.tmps.getD n undef)
 | .dfd=>∃loc b,μ nm=some loc∧loc.blk=some b∧M b∧w.heap[b]?=some (.deferred (some []))
def iR(M:Nat→Prop)(w:World)(μ:Mu):List (D×List D)→List Deferred→Prop
 | [],ds=>ds=[]
 | (.it nm,_)::r,ds=>∃l b r',μ nm=some l∧l.blk=some b∧ds={ target:=.collected b,args:=#[] }::r'∧iR M w μ r r'
 | (f,l)::r,ds=>∃fn first cap args r',aY M w μ f (.func fn first cap)∧bI M w μ l args.toList∧ds={ target:=.fn fn cap,args:=first++args }::r'∧iR M w μ r r'
def eD(μ:Mu)(nm:Nat)(l:Option Loc):Mu:=fun n=>if n=nm then l else μ n
structure Rel (E:Env) (M0:Nat→Prop) (w0:World) (N:Nat) (μ:Mu) (a:Act) (w:World) (x:AS):Prop where
 size:w0.heap.size≤w.heap.size
 old:∀b,b<w0.heap.size→w.heap[b]?=w0.heap[b]?
 m0lt:∀b,M0 b→b<w0.heap.size
 defers:iR (Mm M0 μ) w μ x.d a.defers
 n:N≤a.tmps.size
 tm:∀n,aY (Mm M0 μ) w μ (tget x.t n) (a.tmps.getD n undef)
 st:∀nm blk l,μ nm=some l→sget x.s nm=some blk→rV E.P (Mm M0 μ) w μ nm blk
 lt:∀nm l,μ nm=some l→nm<x.c
 own:∀nm l b,μ nm=some l→l.blk=some b→w0.heap.size≤b∧b<w.heap.size
 inj:∀n m l l' b,(sget x.s n).isSome=true→(sget x.s m).isSome=true→μ n=some l→μ m=some l'→l.blk=some b→l'.blk=some b→n=m
 glob:GRel E M0 w0
 env:vJ w0 w
def Live(s:St)(μ:Mu)(b:Nat):Prop:=∃nm l,(sget s nm).isSome=true∧μ nm=some l∧l.blk=some b
structure Fr (c:Nat) (s:St) (μ:Mu) (w:World) (c':Nat) (s':St) (μ':Mu) (w':World):Prop where
 size:w.heap.size≤w'.heap.size
 same:∀b,b<w.heap.size→¬Live s μ b→w'.heap[b]?=w.heap[b]?
 live:∀b,b<w.heap.size→Live s' μ' b→Live s μ b
 mu:gJ μ μ'
 cle:c≤c'
 kept:∀nm,nm<c→μ nm=none→μ' nm=none
 new:∀b,b<w.heap.size→Nm μ' b→Nm μ b
theorem nonew{μ:Mu}{n:Nat}:∀b,b<n→Nm μ b→Nm μ b:=fun _ _ h=>h
theorem Fr.refl(c:Nat)(s:St)(μ:Mu)(w:World):Fr c s μ w c s μ w:=⟨aK _,fun _ _ _=>rfl,fun _ _ h=>h,gJ.refl μ,aK _,fun _ _ h=>h,nonew⟩
theorem Fr.trans{c c1 c2:Nat}{s s1 s2:St}{μ μ1 μ2:Mu}{w w1 w2:World}(h:Fr c s μ w c1 s1 μ1 w1)(h':Fr c1 s1 μ1 w1 c2 s2 μ2 w2):Fr c s μ w c2 s2 μ2 w2:=
 ⟨fZ h.size h'.size,fun b hb hl=>by
  rw[h'.same b (bY hb h.size) (fun e=>hl (h.live b hb e)),h.same b hb hl],
  fun b hb e=>h.live b hb (h'.live b (bY hb h.size) e),fun n l e=>h'.mu n l (h.mu n l e),fZ h.cle h'.cle,fun nm hn e=>h'.kept nm (bY hn h.cle) (h.kept nm hn e),
  fun b hb hn=>h.new b hb (h'.new b (bY hb h.size) hn)⟩
section
variable {P:Program} {M M':Nat→Prop} {w w':World} {μ μ':Mu}
theorem MEs.mono(hx:Ext M w M' w')(hm:gJ μ μ'):∀{es:List (D×D×Nat)} {vs:List MapEntry},MEs M w μ es vs→MEs M' w' μ' es vs
 | [],_,h=>by grind [MEs]
 | (k,v,n)::r,_,h=>by
  simp only[MEs]at h ⊢;obtain⟨e,r',rfl,h1,h2,h3,h4⟩:=h;exact⟨e,r',rfl,aY.mono hx _ _ hm h1,aY.mono hx _ _ hm h2,h3,MEs.mono hx hm h4⟩
theorem iR.mono(hx:Ext M w M' w')(hm:gJ μ μ'):∀{l:List (D×List D)} {ds:List Deferred},iR M w μ l ds→iR M' w' μ' l ds
 | [],_,h=>by grind [iR]
 | (f,az)::r,ds,h=>by
  cases f
  case it nm=>
   simp only[iR]at h ⊢;obtain⟨l,b,r',h1,h2,rfl,h3⟩:=h;exact⟨l,b,r',hm _ _ h1,h2,rfl,iR.mono hx hm h3⟩
  all_goals
   unfold iR at h ⊢;obtain⟨fn,first,cap,args,r',h1,h2,rfl,h3⟩:=h;exact⟨fn,first,cap,args,r',aY.mono hx _ _ hm h1,bI.mono hx _ _ hm h2,rfl,iR.mono hx hm h3⟩
theorem rV.mono{nm:Nat}{blk:Blk}(hx:Ext M w M' w')(hm:gJ μ μ')
  (hb:∀l b,μ nm=some l→l.blk=some b→w'.heap[b]?=w.heap[b]?∧(M b→M' b)) (h:rV P M w μ nm blk):rV P M' w' μ' nm blk:=by
 cases blk with
 | fix ty cs=>
  obtain⟨l,b,vs,e,fz,h1,h2,h3,h4,h5,h6,h7,h8⟩:=h;exact⟨l,b,vs,e,fz,hm _ _ h1,h2,h3,(hb l b h1 h2).2 h4,by grind,h6,bI.mono hx _ _ hm h7,h8⟩
 | grow ty cs=>
  obtain⟨l,h1,h⟩:=h;refine⟨l,hm _ _ h1,h.imp id ?_⟩
  grind [bI.mono]
 | iter s pos=>
  obtain⟨l,b,h1,h2,h4,h5⟩:=h;exact⟨l,b,hm _ _ h1,h2,(hb l b h1 h2).2 h4,by grind⟩
 | mp es c=>
  obtain⟨l,b,ents,h1,h2,h4,h5,h6⟩:=h;exact⟨l,b,ents,hm _ _ h1,h2,(hb l b h1 h2).2 h4,by grind,MEs.mono hx hm h6⟩
 | mit m Ak sn Ap=>
  obtain⟨l,b,mo,h1,h2,h4,h5,h6⟩:=h;refine⟨l,b,mo,hm _ _ h1,h2,(hb l b h1 h2).2 h4,by grind,?_⟩
  cases m with
  | none=>exact h6
  | some mn=>
   obtain⟨l',bm,h7,h8,h9⟩:=h6;exact⟨l',bm,hm _ _ h7,h8,h9⟩
 | lp st Ck t ps a b=>
  obtain⟨l,bk,lo,N,h1,h2,h4,h5,h6,h7,h8,h9,Kz,Cr,h12,Nh⟩:=h;exact⟨l,bk,lo,N,hm _ _ h1,h2,(hb l bk h1 h2).2 h4,by grind,h6,h7,h8,h9,Kz,Cr,h12,fun n=>aY.mono hx _ _ hm (Nh n)⟩
 | dfd=>
  obtain⟨l,b,h1,h2,h4,h5⟩:=h;exact⟨l,b,hm _ _ h1,h2,(hb l b h1 h2).2 h4,by grind⟩
end
section
variable {E:Env} {M0:Nat→Prop} {w0:World} {N:Nat} {μ:Mu} {M:Nat→Prop} {a:Act} {w:World} {x:AS}
variable {w':World} {nm b:Nat}
theorem ext_mu{μ':Mu}(hs:w.heap.size≤w'.heap.size)(Ar:∀b,b<w.heap.size→¬Mm M0 μ b→w'.heap[b]?=w.heap[b]?)(hm:gJ μ μ') 
  (hn:∀b,b<w.heap.size→Nm μ' b→Nm μ b):Ext (Mm M0 μ) w (Mm M0 μ') w':=
 ⟨hs,Ar,fun b hb h=>h.imp id (hn b hb)⟩
theorem Mm.named{l:Loc}(h:μ nm=some l)(hb:l.blk=some b):Mm M0 μ b:=.inr ⟨nm,l,h,hb⟩
theorem Mm.mono{μ':Mu}(hm:gJ μ μ')(h:Mm M0 μ b):Mm M0 μ' b:=h.imp id fun⟨nm,l,h1,h2⟩=>⟨nm,l,hm nm l h1,h2⟩
theorem Mm.set{l:Loc}(hb:l.blk=some b):Mm M0 (eD μ nm (some l)) b:=.inr ⟨nm,l,by simp[eD],hb⟩
theorem Fr.ext{c c':Nat}{s s':St}{μ':Mu}(h:Fr c s μ w c' s' μ' w'):Ext (Mm M0 μ) w (Mm M0 μ') w':=
 ext_mu h.size (fun b hb hn=>h.same b hb fun⟨nm,l,_,h1,h2⟩=>hn (.inr ⟨nm,l,h1,h2⟩)) h.mu h.new
theorem Rel.isM(h:Rel E M0 w0 N μ a w x){l:Loc}(hl:μ nm=some l)(hb:l.blk=some b):Mm M0 μ b:=.inr ⟨nm,l,hl,hb⟩
theorem Rel.congr(h:Rel E M0 w0 N μ a w x){x':AS}(ht:∀n,tget x'.t n=tget x.t n∨tget x'.t n = .un)(hs:∀n,sget x'.s n=sget x.s n)(hc:x.c≤x'.c)(hd:x'.d=x.d):Rel E M0 w0 N μ a w x':=
 {h with
  defers:=by rw[hd];exact h.defers
  tm:=fun n=>by
   rcases ht n with e|e
   ·rw[e];exact h.tm n
   grind [aY]
  st:=fun nm blk l hl hb=>h.st nm blk l hl (by grind)
  lt:=fun nm l hl=>bY (h.lt nm l hl) hc
  inj:=fun n m l l' b h1 h2=>h.inj n m l l' b (by grind) (by grind) }
theorem Rel.world(h:Rel E M0 w0 N μ a w x)(hw:w'.heap=w.heap)(he:vJ w w':=by exact⟨rfl,rfl⟩):Rel E M0 w0 N μ a w' x:=by
 have hx:Ext (Mm M0 μ) w (Mm M0 μ) w':=⟨by rw[hw];exact aK _,fun b _ _=>by rw[hw],fun b _ hm=>hm⟩
 exact {h with
  size:=by rw[hw];exact h.size
  old:=fun b hb=>by rw[hw];exact h.old b hb
  env:=⟨he.1.trans h.env.1,he.2.trans h.env.2⟩
  defers:=iR.mono hx (gJ.refl _) h.defers
  own:=fun nm l b h1 h2=>by rw[hw];exact h.own nm l b h1 h2
  tm:=fun n=>aY.mono hx _ _ (gJ.refl _) (h.tm n)
  st:=fun nm blk l hl hb=>rV.mono hx (gJ.refl _) (fun l b _ _=>⟨by rw[hw],id⟩) (h.st nm blk l hl hb) }
theorem getD_put{a:Act}{d:Nat}{v:Value}(hd:d<a.tmps.size)(n:Nat):
  (a.put (some d) v).tmps.getD n undef=if n=d then v else a.tmps.getD n undef:=by
 simp only[Act.put];by_cases h:n=d
 ·simp_all
 ·simp only[gV,aG h]
  grind
theorem Rel.put(h:Rel E M0 w0 N μ a w x){dst:Option Nat}{d:D}{v:Value}(hd:(match dst with|some k=>Nat.blt k N|none=>true)=true) 
  (hv:aY (Mm M0 μ) w μ d v):Rel E M0 w0 N μ (a.put dst v) w (x.put dst d):=by
 cases dst with
 | none=>exact h
 | some k=>
  have hk:k<a.tmps.size:=bY (by simp_all) h.n
  exact {h with
   n:=by simpa[Act.put]using h.n
   defers:=h.defers
   tm:=fun n=>by
    rw[getD_put hk];simp only[AS.put,nB];by_cases hn:n=k
    ·grind
    ·rw[aG hn,aG hn];exact h.tm n }
theorem Rel.less(h:Rel E M0 w0 N μ a w x){s':St}(hs:∀n b,sget s' n=some b→sget x.s n=some b):Rel E M0 w0 N μ a w ⟨x.t,s',x.c,x.d,x.r⟩∧Fr x.c x.s μ w x.c s' μ w:=by
 have hi:∀n,(sget s' n).isSome=true→(sget x.s n).isSome=true:=fun n hn=>by
  grind [eP]
 exact⟨{h with
  st:=fun nm blk l hl hb=>h.st nm blk l hl (hs nm blk hb)
  lt:=h.lt
  inj:=fun n m l l' b h1 h2=>h.inj n m l l' b (hi n h1) (hi m h2) },
  ⟨aK _,fun _ _ _=>rfl,fun b _ ⟨nm,l,h1,h2,h3⟩=>⟨nm,l,hi nm h1,h2,h3⟩,gJ.refl μ,aK _,fun _ _ h=>h,nonew⟩⟩
theorem Rel.free(h:Rel E M0 w0 N μ a w x)(hn:x.c≤nm):μ nm=none:=by
 cases hl:μ nm with
 | none=>rfl
 | some l=>have:=h.lt nm l hl;omega
theorem Rel.free_le(h:Rel E M0 w0 N μ a w x)(hn:x.c≤nm)(loc:Option Loc):gJ μ (eD μ nm loc):=fun n l hl=>by
 have:n≠nm:=fun e=>by have:=h.lt n l hl;omega
 grind [eD]
theorem Rel.install(h:Rel E M0 w0 N μ a w x)(nm:Nat)(hn:x.c≤nm)(blk:Blk)(loc:Loc){x':AS} 
  (Ae:w.heap.size≤w'.heap.size) (Ar:∀b,b<w.heap.size→w'.heap[b]?=w.heap[b]?)
  (hb:∀b,loc.blk=some b→w.heap.size≤b∧b<w'.heap.size) (ht:∀n,tget x'.t n=tget x.t n) (hs:∀n,sget x'.s n=if n=nm then some blk else sget x.s n)
  (hc:x'.c=nm+1) (hd:x'.d=x.d)
  (hB:Ext (Mm M0 μ) w (Mm M0 (eD μ nm (some loc))) w'→rV E.P (Mm M0 (eD μ nm (some loc))) w' (eD μ nm (some loc)) nm blk) (he:vJ w w':=by exact⟨rfl,rfl⟩) :
  Ext (Mm M0 μ) w (Mm M0 (eD μ nm (some loc))) w'∧Rel E M0 w0 N (eD μ nm (some loc)) a w' x'∧Fr x.c x.s μ w x'.c x'.s (eD μ nm (some loc)) w':=by
 have Ac:=h.free_le hn (some loc);have Fv:∀b,b<w.heap.size→Nm (eD μ nm (some loc)) b→Nm μ b:=fun b zQ ⟨k,l,hl,Be⟩=>by
  by_cases hk:k=nm
  ·grind [eD]
  ·simp only[eD,aG hk]at hl;exact⟨k,l,hl,Be⟩
 have hx:Ext (Mm M0 μ) w (Mm M0 (eD μ nm (some loc))) w':=ext_mu Ae (fun b hb _=>Ar b hb) Ac Fv
 refine⟨hx,{
  size:=fZ h.size Ae
  old:=fun b hb=>by rw[Ar b (bY hb h.size)];exact h.old b hb
  env:=⟨he.1.trans h.env.1,he.2.trans h.env.2⟩
  m0lt:=h.m0lt
  defers:=by rw[hd];exact iR.mono hx Ac h.defers
  n:=h.n
  tm:=fun n=>by rw[ht];exact aY.mono hx _ _ Ac (h.tm n)
  st:=fun k b l hl hk=>by
   rw[hs]at hk;by_cases Ht:k=nm
   ·grind
   ·rw[aG Ht]at hk;have Dx:μ k=some l:=by simpa[eD,Ht]using hl
    exact rV.mono hx Ac (fun l b hl Be=>⟨Ar b (h.own k l b hl Be).2,Mm.mono Ac⟩) (h.st k b l Dx hk)
  lt:=fun k l hl=>by
   rw[hc];by_cases Ht:k=nm
   ·omega
   ·have:=h.lt k l (by grind [eD]);omega
  own:=fun k l b hl Be=>by
   by_cases Ht:k=nm
   ·simp only[eD,aS Ht]at hl;cases hl;exact⟨fZ h.size (hb b Be).1,(hb b Be).2⟩
   ·simp only[eD,aG Ht]at hl;exact⟨(h.own k l b hl Be).1,bY (h.own k l b hl Be).2 Ae⟩
  inj:=fun n m l l' b s1 s2 h1 h2 h3 h4=>by
   by_cases Ey:n=nm
   ·by_cases Mj:m=nm
    ·rw[Ey,Mj]
    ·simp only[eD,aS Ey]at h1;simp only[eD,aG Mj]at h2;cases h1;have:=(hb b h3).1;have:=(h.own m l' b h2 h4).2;omega
   ·by_cases Mj:m=nm
    ·simp only[eD,aG Ey]at h1;simp only[eD,aS Mj]at h2;cases h2;have:=(hb b h4).1;have:=(h.own n l b h1 h3).2;omega
    ·simp only[eD,aG Ey]at h1;simp only[eD,aG Mj]at h2;rw[hs,aG Ey]at s1;rw[hs,aG Mj]at s2;exact h.inj n m l l' b s1 s2 h1 h2 h3 h4
  glob:=h.glob },⟨Ae,fun b hb _=>Ar b hb,fun b zQ hl=>?_,Ac,by rw[hc];omega,fun m hm e=>by grind [eD],Fv⟩⟩
 obtain⟨k,l,h1,h2,h3⟩:=hl;by_cases hk:k=nm
 ·grind [eD]
 ·rw[hs,aG hk]at h1;exact⟨k,l,h1,by grind [eD],h3⟩
theorem Rel.fresh(h:Rel E M0 w0 N μ a w x)(nm:Nat)(hn:x.c≤nm)(blk:Blk)(o:Obj)(cap:Nat){x':AS} 
  (hw:w'.heap=w.heap.push o) (ht:∀n,tget x'.t n=tget x.t n) (hs:∀n,sget x'.s n=if n=nm then some blk else sget x.s n) (hc:x'.c=nm+1) (hd:x'.d=x.d)
  (hB:Ext (Mm M0 μ) w (Mm M0 (eD μ nm (some ⟨some w.heap.size,cap⟩))) w'→Mm M0 (eD μ nm (some ⟨some w.heap.size,cap⟩)) w.heap.size→rV E.P (Mm M0 (eD μ nm (some ⟨some w.heap.size,cap⟩))) w' (eD μ nm (some ⟨some w.heap.size,cap⟩)) nm blk) (he:vJ w w':=by exact⟨rfl,rfl⟩) :
  Ext (Mm M0 μ) w (Mm M0 (eD μ nm (some ⟨some w.heap.size,cap⟩))) w'∧Rel E M0 w0 N (eD μ nm (some ⟨some w.heap.size,cap⟩)) a w' x'∧Fr x.c x.s μ w x'.c x'.s (eD μ nm (some ⟨some w.heap.size,cap⟩)) w':=by
 have Dy:∀b,b<w.heap.size→w'.heap[b]?=w.heap[b]?:=fun b hb=>by
  grind
 have Ae:w'.heap.size=w.heap.size+1:=by rw[hw];simp
 exact h.install nm hn blk ⟨some w.heap.size,cap⟩ (by omega) Dy (fun b hb=>by grind) ht hs hc hd (fun hx=>hB hx (Mm.set rfl)) he
theorem Rel.write(h:Rel E M0 w0 N μ a w x)(nm:Nat)(blk:Blk)(l:Loc)(b:Nat){x':AS}(hl:μ nm=some l)(Be:l.blk=some b)(Bd:(sget x.s nm).isSome=true) 
  (Ae:w'.heap.size=w.heap.size) (Bc:∀k,k≠b→w'.heap[k]?=w.heap[k]?)
  (ht:∀n,tget x'.t n=tget x.t n) (hs:∀n,sget x'.s n=if n=nm then some blk else sget x.s n) (hc:x'.c=x.c) (hd:x'.d=x.d)
  (hB:Ext (Mm M0 μ) w (Mm M0 μ) w'→rV E.P (Mm M0 μ) w' μ nm blk) (he:vJ w w':=by exact⟨rfl,rfl⟩):Ext (Mm M0 μ) w (Mm M0 μ) w'∧Rel E M0 w0 N μ a w' x'∧Fr x.c x.s μ w x'.c x'.s μ w':=by
 have hM:=h.isM hl Be;have hx:Ext (Mm M0 μ) w (Mm M0 μ) w':=⟨by omega,fun k _ hk=>Bc k fun e=>hk (e▸hM),fun _ _ hm=>hm⟩
 have hi:∀n,(sget x'.s n).isSome=true→(sget x.s n).isSome=true:=fun n hn=>by
  grind
 refine⟨hx,{h with
  size:=by have:=h.size;omega
  old:=fun k hk=>by rw[Bc k fun e=>by have:=h.own nm l b hl Be;omega];exact h.old k hk
  env:=⟨he.1.trans h.env.1,he.2.trans h.env.2⟩
  defers:=by rw[hd];exact iR.mono hx (gJ.refl _) h.defers
  tm:=fun n=>by rw[ht];exact aY.mono hx _ _ (gJ.refl _) (h.tm n)
  own:=fun nm l b h1 h2=>by rw[Ae];exact h.own nm l b h1 h2
  lt:=fun nm l hl=>by rw[hc];exact h.lt nm l hl
  inj:=fun n m l l' b s1 s2=>h.inj n m l l' b (hi n s1) (hi m s2)
  st:=fun k bk lk Kr hk=>by
   rw[hs]at hk;by_cases Ht:k=nm
   ·grind
   ·rw[aG Ht]at hk;refine rV.mono hx (gJ.refl _) (fun l' b' Dx Im=>⟨Bc b' fun e=>?_,id⟩) (h.st k bk lk Kr hk)
    subst e;exact Ht (h.inj k nm l' l b' (by rw[hk];rfl) Bd Dx hl Im Be) },
  ⟨by omega,fun k hk hn=>Bc k fun e=>hn (e▸⟨nm,l,Bd,hl,Be⟩),fun k _ ⟨n,l,h1,h2,h3⟩=>⟨n,l,hi n h1,h2,h3⟩,gJ.refl μ,by omega,fun _ _ h=>h,nonew⟩⟩
theorem Rel.globals(h:Rel E M0 w0 N μ a w x):GRel E (Mm M0 μ) w:=fun p hp=>by
 obtain⟨h1,h2,h3⟩:=h.glob p hp;have hx:Ext M0 w0 (Mm M0 μ) w:=⟨h.size,fun b hb _=>h.old b hb,fun b hb hm=>by
  rcases hm with hm|⟨nm,l,e1,e2⟩
  ·exact hm
  ·have:=(h.own nm l b e1 e2).1;omega⟩
 refine⟨fun hm=>h1 (hx.less p.1 h2 hm),bY h2 h.size,iK.mono hx p.1 h1 h2 p.2 0 h3⟩
end
def iD(E:Env)(M0:Nat→Prop)(w0:World)(N:Nat)(μ:Mu)(w:World)(x:AS)(a:Act)(d:D)(x':AS)(r:Result Next):Prop:=
 ∃v w' μ',(r = .ok (.value v) w'∨(r = .ok .skip w'∧v=undef))∧aY (Mm M0 μ') w' μ' d v∧Rel E M0 w0 N μ' a w' x'∧Fr x.c x.s μ w x'.c x'.s μ' w'
theorem mP{α β:Type}{f:α→Option β}:∀{l:List α} {r:List β},l.mapM f=some r→r.length=l.length∧∀(i:Nat) (x:α) (y:β),l[i]?=some x→r[i]?=some y→f x=some y
 | [],r,h=>by
  grind
 | x::l,r,h=>by
  simp only[List.mapM_cons]at h;cases hx:f x with
  | none=>grind
  | some y=>
   rw[hx]at h;cases hl:l.mapM f with
   | none=>grind
   | some ys=>
    rw[hl]at h;cases h;obtain⟨h1,h2⟩:=mP hl
    grind
section
variable {E:Env} {M0:Nat→Prop} {w0:World} {N:Nat} {μ:Mu} {M:Nat→Prop} {a:Act} {w:World} {x:AS}
variable {v:Value} {cs:List D} {P:Program} {t:TypeId}
theorem iD.of(h:Rel E M0 w0 N μ a w x){r:Result Next}{d:D}(hr:r = .ok (.value v) w)(hv:aY (Mm M0 μ) w μ d v):iD E M0 w0 N μ w x a d x r:=
 ⟨v,w,μ,.inl hr,hv,h,Fr.refl _ _ _ _⟩
theorem kS:∀(n:Nat) (v:Value) (d:D),ofV n v=some d→aY (Mm M0 μ) w μ d v
 | 0,v,d,h=>by simp[ofV]at h
 | n+1,.bool b,d,h=>by grind [ofV,aY]
 | n+1,.int k m,d,h=>by grind [ofV,aY]
 | n+1,.string s,d,h=>by
  grind [ofV,aY]
 | n+1,.agg cs,d,h=>by
  simp only[ofV,aT]at h;obtain⟨ds,h,rfl⟩:=h;obtain⟨h1,h2⟩:=mP h;simp only[aY];exact⟨cs,rfl,bI.mk (by omega) fun i dd v hd hv=>kS n v dd (h2 i v dd hv hd)⟩
 | n+1,.tuple cs,d,h=>by
  simp only[ofV,aT]at h;obtain⟨ds,h,rfl⟩:=h;obtain⟨h1,h2⟩:=mP h;simp only[aY];exact⟨cs,rfl,bI.mk (by omega) fun i dd v hd hv=>kS n v dd (h2 i v dd hv hd)⟩
 | n+1,.slice none 0 0,d,h=>by grind [ofV,aY]
 | n+1,.slice none 0 (_+1),d,h=>by simp[ofV]at h
 | n+1,.slice none (_+1) _,d,h=>by simp[ofV]at h
 | n+1,.slice (some _) _ _,d,h=>by simp[ofV]at h
 | n+1,.pointer none,d,h=>by grind [ofV,aY]
 | n+1,.pointer (some _),d,h=>by simp[ofV]at h
 | n+1,.map none,d,h=>by grind [ofV,aY]
 | n+1,.map (some _),d,h=>by simp[ofV]at h
 | n+1,.nilIface,d,h=>by grind [ofV,aY]
 | n+1,.nilFunc,d,h=>by grind [ofV,aY]
 | n+1,.iface t v,d,h=>by
  simp only[ofV,aT]at h;obtain⟨d',h,rfl⟩:=h;simp only[aY];exact⟨v,rfl,kS n v d' h⟩
 | n+1,.float ..,d,h=>by simp[ofV]at h
 | n+1,.complex ..,d,h=>by simp[ofV]at h
 | n+1,.chan _,d,h=>by simp[ofV]at h
 | n+1,.func ..,d,h=>by simp[ofV]at h
theorem lget_mem{α:Type}:∀{l:List (Nat×α)} {n:Nat} {v:α},lget l n=some v→(n,v)∈l
 | [],n,v,h=>by simp[lget,lget_nil]at h
 | (k,u)::r,n,v,h=>by
  rw[tO]at h;by_cases e:n=k
  ·grind
  ·rw[aG e]at h;exact dA _ (lget_mem h)
theorem cW(h:Rel E M0 w0 N μ a w x){o:Operand}{ar:Arg}(hc:dI o=some ar):aY (Mm M0 μ) w μ (ar.ev E.G x.t) (a.eval o):=by
 cases o with
 | tmp t=>simp[dI]at hc;subst hc;exact h.tm t
 | const v=>
  simp only[dI,aT]at hc;obtain⟨d,hd,rfl⟩:=hc;exact kS 10 v d hd
 | global g=>
  simp[dI]at hc;subst hc;show aY (Mm M0 μ) w μ (Option.rec D.un (fun l=>.iptr l 0) (lget E.G g):D) (.pointer (some ⟨g,0,none⟩))
  cases hf:lget E.G g with
  | none=>simp only[aY]
  | some l=>
   obtain⟨h1,h2,h3⟩:=h.globals _ (lget_mem hf)
   grind [aY]
 | func f=>
  simp[dI]at hc;subst hc;show aY (Mm M0 μ) w μ (.fn (.func f) [] []) (.func (.func f) #[] #[])
  grind [aY,bI.nil]
theorem yY(h:Rel E M0 w0 N μ a w x){l:List Operand}{az:List Arg}(hc:l.mapM dI=some az):
  bI (Mm M0 μ) w μ (az.map (·.ev E.G x.t)) (l.map a.eval):=by
 grind [mP,bI.mk,aT,cW]
theorem mF{d:D}(hc:d.cells?=some cs)(hv:aY (Mm M0 μ) w μ d v):bI (Mm M0 μ) w μ cs v.cells.toList:=by
 cases d<;>simp only[D.cells?,aD,reduceCtorEq]at hc
 case agg l=>subst hc;simp only[aY]at hv;obtain⟨vs,rfl,h⟩:=hv;exact h
 all_goals
  subst hc;refine bI.mk ?_ ?_
 all_goals have Cu:=hv
 all_goals simp only[aY]at Cu
 all_goals first
  | subst Cu
  | (obtain⟨_,rfl,_⟩:=Cu)
  | (obtain⟨_,_,rfl,_⟩:=Cu)
  | (obtain⟨_,_,_,rfl,_⟩:=Cu)
  | (obtain⟨_,_,_,_,rfl⟩:=Cu)
  | (obtain⟨_,_,_,_,rfl,_⟩:=Cu)
 all_goals first
  | rfl
  |(intro i d' v' hd Cu
    cases i with
    | zero=>grind [Value.cells]
    | succ i=>simp at hd)
/-! Control of pointers: what a pointer sees. -/
theorem nL(h:Rel E M0 w0 N μ a w x){nm:Nat}{l0:Loc}(h0:μ nm=some l0){blk:Blk}(hs:sget x.s nm=some blk)(hb:eR blk=some cs):
  ∃l,μ nm=some l∧(l.blk=none→cs=[])∧∀b,l.blk=some b→Mm M0 μ b∧b<w.heap.size∧∃vs e fz,w.heap[b]?=some (.cells vs e fz)∧Thaw vs.size fz∧cs.length≤vs.size∧vs.size=l.cap ∧
   bI (Mm M0 μ) w μ cs (vs.toList.take cs.length):=by
 have hB:=h.st nm blk l0 h0 hs;cases blk with
 | fix ty c=>
  simp[eR]at hb;subst hb;obtain⟨l,b,vs,e,fz,h1,h2,h3,h4,h5,h6,h7,_⟩:=hB;refine⟨l,h1,fun hn=>(by grind),fun b' Ad=>?_⟩
  rw[h2]at Ad;cases Ad;have hl:=h7.length
  grind
 | grow ty c=>
  simp[eR]at hb;subst hb;obtain⟨l,h1,hh⟩:=hB
  grind
 | _=>simp[eR]at hb
theorem cell_in{b o:Nat}{vs:Array Value}{e:TypeId}{fz:Nat×Nat}(hb:w.heap[b]?=some (.cells vs e fz))(hv:vs.toList[o]?=some v):
  w.cell? ⟨b,o,none⟩=some v:=by
 grind [World.cell?]
theorem seen_rel(h:Rel E M0 w0 N μ a w x){d:D}{off:Nat}(hs:seen x.s d=some (cs,off))(hv:aY (Mm M0 μ) w μ d v):
  ∃b o,v = .pointer (some ⟨b,o+off,none⟩)∧∀(i:Nat) (e:D),cs[i]?=some e→∃v',w.cell? ⟨b,o+i,none⟩=some v'∧aY (Mm M0 μ) w μ e v':=by
 cases d<;>simp only[seen,reduceCtorEq]at hs
 case ptr nm o=>
  cases hg:sget x.s nm with
  | none=>grind
  | some blk=>
   rw[hg]at hs;cases hb:eR blk with
   | none=>grind
   | some c=>
    simp[hb]at hs;obtain⟨rfl,rfl⟩:=hs;simp only[aY]at hv;obtain⟨l',b,h4,h5,rfl⟩:=hv;obtain⟨l,h1,h2,h3⟩:=nL h h4 hg hb;rw[h1]at h4;cases h4;obtain⟨hM,zQ,vs,e,fz,h6,h7,h8,h9,Kz⟩:=h3 b h5;refine⟨b,0,by simp,fun i e' hi=>?_⟩
    grind [bI.get,cell_in]
 case iptr c o=>
  simp at hs;obtain⟨rfl,rfl⟩:=hs;simp only[aY]at hv;obtain⟨b,o,rfl,hb,zQ,hc⟩:=hv;refine⟨b,o,rfl,fun i e hi=>?_⟩
  obtain⟨v',Cu,hr⟩:=iK.get i e hc hi;exact⟨v',Cu,aY.mono (Ext.refl (Mm M0 μ) w) e v' (mu0_le μ) hr⟩
theorem run_isAgg{b:Bool}(h:wD P t=some b)(w:World):(isAgg t).run P w = .ok b w:=by
 unfold wD at h;cases hu:P.underlying t with
 | none=>grind
 | some d=>
  rw[hu]at h;simp only[isAgg,bJ,bL hu,aR];cases d<;>simp at h<;>subst h<;>rfl
theorem eZ{i:TypeInfo}(h:P.info? t=some i)(w:World):(typeInfo t).run P w = .ok i w:=by
 simp[typeInfo,h]
theorem eB{n:Nat}(h:iN P t=some n)(w:World):(Go.sizeOf t).run P w = .ok n w:=by
 simp only[iN,aT]at h;obtain⟨i,hi,rfl⟩:=h;simp[Go.sizeOf,eZ hi]
theorem yU{r:Option Nat}(h:cSz P t=some r):∃i b,P.info? t=some i∧wD P t=some b∧r=bif b then some i.size else none:=by
 grind [cSz,aC,aB,aD]
theorem rX{b o off:Nat}{sz:Option Nat}{d:D}(hs:cSz P t=some sz)(ht:cX cs off sz=some d) 
  (hc:∀(i:Nat) (e:D),cs[i]?=some e→∃v',w.cell? ⟨b,o+i,none⟩=some v'∧aY (Mm M0 μ) w μ e v') :
  ∃v,(loadVar t ⟨b,o+off,none⟩).run P w = .ok v w∧aY (Mm M0 μ) w μ d v:=by
 obtain⟨i,bb,h1,h2,rfl⟩:=yU hs;simp only[loadVar,bJ,run_isAgg h2,aR];cases bb with
 | false=>
  grind [cX,run_load]
 | true=>
  simp only[bG,cX]at ht;cases Ac:Nat.ble (off+i.size) cs.length with
  | false=>grind
  | true=>
   rw[Ac]at ht;simp at ht;subst ht;have Dm:=cU Ac;have Aa:∀j,j<i.size→∃v',w.cell? ⟨b,o+off+j,none⟩=some v'∧∀e,cs[off+j]?=some e→aY (Mm M0 μ) w μ e v':=by
    intro j hj;obtain⟨v',Cu,hr⟩:=hc (off+j) cs[off+j] (aI (by omega))
    refine⟨v',by grind,fun e he=>?_⟩
    rw[aI (by omega)]at he;cases he;exact hr
   let f:Nat→Value:=fun j=>(w.cell? ⟨b,o+off+j,none⟩).getD undef
   have zV:=run_loadCells (P:=P) w ⟨b,o+off,none⟩ i.size f (fun j hj=>by
    grind [Addr.add_lit])
   refine⟨.agg ((List.range i.size).map f).toArray,?_,?_⟩
   ·simp_all [bJ,eB,iN,aR,bV]
   grind [aY,bI.mk,aT,dE]
end
end Zv
