/- Running abstract code: calls with effects, panics, deferred calls, ranges over functions. Conditions: none. -/
import Derived.Test.YtoefcncofakjkaaGreatDoorCA
import Derived.Test.YtoefcncofakjkaaGreatDoorCD
import Derived.Defers
import Derived.Recover
import Derived.Orders
set_option linter.unusedVariables false
namespace Zv
open Go
abbrev Ch:=List (D × Bool)
inductive Out where
 | normal
 | exit (id:Nat)
 | ret
 | pan (c:Ch)
 deriving Inhabited
inductive FO where
 | ret (d:D)
 | pan (c:Ch)
 deriving Inhabited
inductive CE where
 | fn (f:Nat)
 | yl (nm:Nat)
inductive FR where
 | no
 | ok (o:FO) (s:St) (c:Nat)
structure Cx where
 T:Nat→Option AF
 G:List (Nat × List D)
 M:Nat→String→Option Nat
 K:Nat→List (List D × D)
 X:Nat→Option (List D→St→Nat→FR)
inductive R where
 | no
 | ok (o:Out) (x:AS)
abbrev CL:=CE→List D→St→Nat→FR
noncomputable section
def evs_nil (_:List (Nat × List D)) (_:Tm):List D:=[]
def evs_cons (a:Arg) (_:List Arg) (ih:List (Nat × List D)→Tm→List D) (G:List (Nat × List D)) (t:Tm):List D:=a.ev G t::ih G t
def evs (l:List Arg) (G:List (Nat × List D)) (t:Tm):List D:=List.rec (motive:=fun _=>List (Nat × List D)→Tm→List D) evs_nil evs_cons l G t
def putT (dst:Option Nat) (t:Tm) (d:D):Tm:=Option.rec t (fun n=>tput t n d) dst
def back_fo_ret (d:D) (dst:Option Nat) (x:AS) (s:St) (c:Nat):R := .ok .normal ⟨putT dst x.t d,s,c,x.d,x.r⟩
def back_fo_pan (ch:Ch) (_:Option Nat) (x:AS) (s:St) (c:Nat):R := .ok (.pan ch) ⟨x.t,s,c,x.d,x.r⟩
def back_no (_:Option Nat) (_:AS):R := .no
def back_ok (o:FO) (s:St) (c:Nat) (dst:Option Nat) (x:AS):R:=FO.rec (motive:=fun _=>Option Nat→AS→St→Nat→R) back_fo_ret back_fo_pan o dst x s c
def back (dst:Option Nat) (x:AS) (r:FR):R:=FR.rec (motive:=fun _=>Option Nat→AS→R) back_no back_ok r dst x
def callM (cl:CL) (dst:Option Nat) (x:AS) (args:List D) (r:Option Nat):R:=Option.rec .no (fun f=>back dst x (cl (.fn f) args x.s x.c)) r
def callFn (cx:Cx) (cl:CL) (dst:Option Nat) (x:AS) (d:D) (args:List D):R:=
 match d with
 | .fn (.func f) fs cs=>back dst x (cl (.fn f) (fs++args++cs) x.s x.c)
 | .fn (.method name) fs cs=>match fs++args,cs with
  | .iface t v::r,[]=>callM cl dst x (v::r) (cx.M t name)
  | _,_ => .no
 | .yl nm=>back dst x (cl (.yl nm) args x.s x.c)
 | _ => .no
def zval_some (p:D × AS) (dst:Option Nat):R := .ok .normal ⟨putT dst p.2.t p.1,p.2.s,p.2.c,p.2.d,p.2.r⟩
def zval_none (_:Option Nat):R := .no
def zval (dst:Option Nat) (r:Option (D × AS)):R:=Option.rec (motive:=fun _=>Option Nat→R) zval_none zval_some r dst
def zo_call (f:Nat) (l:List Arg) (cx:Cx) (cl:CL) (dst:Option Nat) (x:AS):R:=back dst x (cl (.fn f) (evs l cx.G x.t) x.s x.c)
def zo_callv (c:Arg) (l:List Arg) (cx:Cx) (cl:CL) (dst:Option Nat) (x:AS):R:=callFn cx cl dst x (c.ev cx.G x.t) (evs l cx.G x.t)
def zo_inv (name:String) (r:Arg) (l:List Arg) (cx:Cx) (cl:CL) (dst:Option Nat) (x:AS):R:=match r.ev cx.G x.t with
 | .iface t v=>callM cl dst x (v::evs l cx.G x.t) (cx.M t name)
 | _ => .no
def zo_pan (a:Arg) (cx:Cx) (_:CL) (_:Option Nat) (x:AS):R:=match a.ev cx.G x.t with
 | .iface t v => .ok (.pan [(.iface t v,false)]) x
 | _ => .no
def zo_dfr (f:Arg) (l:List Arg) (cx:Cx) (_:CL) (dst:Option Nat) (x:AS):R:=match f.ev cx.G x.t with
 | .fn g p q=>Option.rec (.ok .normal ⟨putT dst x.t .un,x.s,x.c,(.fn g p q,evs l cx.G x.t)::x.d,x.r⟩) (fun _ => .no) x.r
 | _ => .no
def zo_rcv (_:Cx) (_:CL) (_:Option Nat) (_:AS):R := .no
def zOp (cx:Cx) (cl:CL) (o:AOper) (x:AS):R:=
 AOp.rec (motive:=fun _=>Cx→CL→Option Nat→AS→R)
  (fun a0 cx _ dst x=>zval dst (st_mv a0 cx.G x))
  (fun a0 a1 a2 cx _ dst x=>zval dst (st_pick a0 a1 a2 cx.G x))
  (fun a0 a1 cx _ dst x=>zval dst (st_new a0 a1 cx.G x))
  (fun a0 a1 cx _ dst x=>zval dst (st_ld a0 a1 cx.G x))
  (fun a0 a1 a2 cx _ dst x=>zval dst (st_st a0 a1 a2 cx.G x))
  (fun a0 a1 cx _ dst x=>zval dst (st_fa a0 a1 cx.G x))
  (fun a0 a1 a2 a3 cx _ dst x=>zval dst (st_iaA a0 a1 a2 a3 cx.G x))
  (fun a0 a1 a2 cx _ dst x=>zval dst (st_iaS a0 a1 a2 cx.G x))
  (fun a0 a1 a2 a3 a4 cx _ dst x=>zval dst (st_ixA a0 a1 a2 a3 a4 cx.G x))
  (fun a0 a1 cx _ dst x=>zval dst (st_ixS a0 a1 cx.G x))
  (fun a0 a1 a2 cx _ dst x=>zval dst (st_fld a0 a1 a2 cx.G x))
  (fun a0 a1 cx _ dst x=>zval dst (st_ext a0 a1 cx.G x))
  (fun a0 a1 a2 cx _ dst x=>zval dst (st_bin a0 a1 a2 cx.G x))
  (fun a0 a1 a2 a3 cx _ dst x=>zval dst (st_cmp a0 a1 a2 a3 cx.G x))
  (fun a0 a1 cx _ dst x=>zval dst (st_un a0 a1 cx.G x))
  (fun a0 a1 cx _ dst x=>zval dst (st_bld a0 a1 cx.G x))
  (fun a0 a1 a2 a3 cx _ dst x=>zval dst (st_bsl a0 a1 a2 a3 cx.G x))
  (fun a0 a1 a2 a3 a4 cx _ dst x=>zval dst (st_mks a0 a1 a2 a3 a4 cx.G x))
  (fun a0 a1 a2 cx _ dst x=>zval dst (st_slS a0 a1 a2 cx.G x))
  (fun a0 a1 a2 a3 a4 cx _ dst x=>zval dst (st_slV a0 a1 a2 a3 a4 cx.G x))
  (fun a0 a1 a2 a3 a4 a5 cx _ dst x=>zval dst (st_slA a0 a1 a2 a3 a4 a5 cx.G x))
  (fun a0 a1 cx _ dst x=>zval dst (st_len a0 a1 cx.G x))
  (fun a0 cx _ dst x=>zval dst (st_cap a0 cx.G x))
  (fun a0 a1 a2 a3 a4 cx _ dst x=>zval dst (st_app a0 a1 a2 a3 a4 cx.G x))
  (fun a0 a1 a2 cx _ dst x=>zval dst (st_copy a0 a1 a2 cx.G x))
  (fun a0 a1 cx _ dst x=>zval dst (st_cvI a0 a1 cx.G x))
  (fun a0 cx _ dst x=>zval dst (st_cvN a0 cx.G x))
  (fun a0 cx _ dst x=>zval dst (st_cvB a0 cx.G x))
  (fun a0 cx _ dst x=>zval dst (st_cvS a0 cx.G x))
  (fun a0 a1 cx _ dst x=>zval dst (st_mkif a0 a1 cx.G x))
  (fun a0 a1 a2 cx _ dst x=>zval dst (st_mkfn a0 a1 a2 cx.G x))
  (fun a0 cx _ dst x=>zval dst (st_nilc a0 cx.G x))
  (fun a0 cx _ dst x=>zval dst (st_rng a0 cx.G x))
  (fun a0 cx _ dst x=>zval dst (st_next a0 cx.G x))
  (fun a0 a1 a2 cx _ dst x=>zval dst (st_mm a0 a1 a2 cx.G x))
  (fun  cx _ dst x=>zval dst (st_mkm  cx.G x))
  (fun a0 a1 a2 a3 a4 cx _ dst x=>zval dst (st_mlk a0 a1 a2 a3 a4 cx.G x))
  (fun a0 a1 a2 a3 cx _ dst x=>zval dst (st_mup a0 a1 a2 a3 cx.G x))
  (fun a0 a1 a2 a3 cx _ dst x=>zval dst (st_men a0 a1 a2 a3 cx.G x))
  (fun a0 a1 a2 cx _ dst x=>zval dst (st_mst a0 a1 a2 cx.G x))
  (fun a0 cx _ dst x=>zval dst (st_mln a0 cx.G x))
  (fun a0 cx _ dst x=>zval dst (st_rgm a0 cx.G x))
  (fun a0 cx _ dst x=>zval dst (st_nxm a0 cx.G x))
  (fun a0 cx _ dst x=>zval dst (st_ent a0 cx.G x))
  (fun a0 a1 a2 a3 cx _ dst x=>zval dst (st_tas a0 a1 a2 a3 cx.G x))
  (fun a0 a1 a2 cx _ dst x=>zval dst (st_tai a0 a1 a2 cx.G x))
  zo_call
  zo_callv
  zo_inv
  zo_pan
  zo_dfr
  zo_rcv
  (fun a0 a1 cx _ dst x=>zval dst (st_xl a0 a1 cx.G x))
  (fun a0 a1 cx _ dst x=>zval dst (st_xa a0 a1 cx.G x))
  o.op cx cl o.dst x
def wanted (o:AOper) (x:AS):Option Bool:=
 match o.guard with
 | none=>some true
 | some (g,want)=>match tget x.t g with
  | .bool b=>some (b==want)
  | .tup []=>some false
  | _=>none
def zops_nil (_:Cx) (_:CL) (x:AS):R := .ok .normal x
def zthen (k:AS→R) (o:Out) (x:AS):R:=Out.rec (motive:=fun _=>(AS→R)→AS→R) (fun k x=>k x) (fun i _ x => .ok (.exit i) x) (fun _ x => .ok .ret x) (fun c _ x => .ok (.pan c) x) o k x
def zbind (r:R) (k:AS→R):R:=R.rec .no (fun o x=>zthen k o x) r
def zops_want (o:AOper) (ih:Cx→CL→AS→R) (cx:Cx) (cl:CL) (x:AS) (b:Bool):R:=
 Bool.rec (ih cx cl ⟨putT o.dst x.t (.tup []),x.s,x.c,x.d,x.r⟩) (zbind (zOp cx cl o x) (ih cx cl)) b
def zops_cons (o:AOper) (_:List AOper) (ih:Cx→CL→AS→R) (cx:Cx) (cl:CL) (x:AS):R:=
 Option.rec .no (zops_want o ih cx cl x) (wanted o x)
def zOps (cx:Cx) (cl:CL) (l:List AOper) (x:AS):R:=List.rec (motive:=fun _=>Cx→CL→AS→R) zops_nil zops_cons l cx cl x
def allocOf (G:List (Nat × List D)) (op:AOp) (t:Tm):Option ((Nat→D) × Blk):=
 match op with
 | .new ty a=>match (a.ev G t).cells? with
  | some cs=>some (fun nm => .ptr nm 0,.fix ty cs)
  | none=>none
 | .bsl len sz cells ps=>(place cells (parts G t ps)).map fun cs=>(fun nm => .ms nm 0 sz len len,.fix 0 cs)
 | .mks sz bytes zero l c=>match l.ev G t,c.ev G t with
  | .int _ l,.int _ c=>
   if 0≤l∧l≤c∧bytes*c≤1099511627776∧c≤4294967296 then some (fun nm => .ms nm 0 sz l.toNat c.toNat,.fix 0 (rep c.toNat zero)) else none
  | _,_=>none
 | .mkm=>some (fun nm => .mp nm,.mp [] 0)
 | _=>none
mutual
def sameD:Nat→D→D→Bool
 | 0,_,_=>false
 | n+1,a,b=>
  match a,b with
  | .un,.un=>true
  | .bool x,.bool y=>x==y
  | .int j x,.int k y=>decide (j=k)&&x==y
  | .str x,.str y=>x==y
  | .agg x,.agg y=>sameDs n x y
  | .tup x,.tup y=>sameDs n x y
  | .nils,.nils=>true
  | .nilp,.nilp=>true
  | .nilm,.nilm=>true
  | .nilif,.nilif=>true
  | .nilfn,.nilfn=>true
  | .iface j x,.iface k y=>Nat.beq j k&&sameD n x y
  | .sl e j x,.sl e' k y=>(e==e')&&Nat.beq j k&&sameDs n x y
  | .iptr x j,.iptr y k=>Nat.beq j k&&sameDs n x y
  | .ms a b c d e,.ms a' b' c' d' e'=>Nat.beq a a'&&Nat.beq b b'&&Nat.beq c c'&&Nat.beq d d'&&Nat.beq e e'
  | .gs a b c d,.gs a' b' c' d'=>Nat.beq a a'&&Nat.beq b b'&&Nat.beq c c'&&Nat.beq d d'
  | .ptr a b,.ptr a' b'=>Nat.beq a a'&&Nat.beq b b'
  | .mp a,.mp b=>Nat.beq a b
  | .yl a,.yl b=>Nat.beq a b
  | .it a,.it b=>Nat.beq a b
  | .adr a b,.adr a' b'=>Nat.beq a a'&&Nat.beq b b'
  | .fn (.func f) x x',.fn (.func g) y y'=>Nat.beq f g&&sameDs n x y&&sameDs n x' y'
  | _,_=>false
def sameDs:Nat→List D→List D→Bool
 | _,[],[]=>true
 | 0,_,_=>false
 | n+1,a::x,b::y=>sameD n a b&&sameDs n x y
 | _,_,_=>false
end
def sameStep (G:List (Nat × List D)) (op:AOp) (x:AS) (d:D) (s:St):Bool:=
 match step G op ⟨x.t,s,x.c,x.d,x.r⟩ with
 | some p=>sameD 1000 d p.1||@decide (d=p.1) (Classical.propDecidable _)
 | none=>false
def zany_nil (_:List St) (x:AS):R := .ok .normal x
def zany_cons (cx:Cx) (cl:CL) (c0:Nat) (e:Nat × Nat × AOper) (r:List (Nat × Nat × AOper)) (ih:List St→AS→R) (hist:List St) (x:AS):R:=
 match wanted e.2.2 x with
 | none => .no
 | some false=>ih (bif Nat.beq e.2.2.op.kd 2 then x.s::hist else hist) ⟨putT e.2.2.dst x.t (.tup []),x.s,x.c,x.d,x.r⟩
 | some true=>match e.2.2.op.kd with
  | 0=>match step cx.G e.2.2.op x with
   | some p=>bif (hist.take e.2.1).all (sameStep cx.G e.2.2.op x p.1) then ih hist ⟨putT e.2.2.dst x.t p.1,x.s,x.c,x.d,x.r⟩ else .no
   | none => .no
  | 1=>match allocOf cx.G e.2.2.op x.t with
   | some p=>bif (x.s::hist.take e.2.1).all (fun s=>(sget s (c0+e.1)).isNone) then ih hist ⟨putT e.2.2.dst x.t (p.1 (c0+e.1)),sadd x.s (c0+e.1) p.2,x.c,x.d,x.r⟩ else .no
   | none => .no
  | 2=>match zOp cx cl e.2.2 x with
   | .ok .normal y=>ih (x.s::hist) y
   | .ok (.pan ch) y=>bif r.all (fun f=>Nat.beq f.2.1 0) then .ok (.pan ch) y else .no
   | _ => .no
  | _ => .no
def zAny (cx:Cx) (cl:CL) (c0:Nat) (l:List (Nat × Nat × AOper)):List St→AS→R:=List.rec zany_nil (zany_cons cx cl c0) l
def killT:List (Nat × Nat × AOper)→Tm→Tm
 | [],t=>t
 | e::r,t=>killT r (bif Nat.beq e.2.1 0 then t else putT e.2.2.dst t .un)
def zipO:List (Nat × Nat)→List AOper→List (Nat × Nat × AOper)
 | p::r,o::l=>(p.1,p.2,o)::zipO r l
 | _,_=>[]
abbrev ZK:=Cx→CL→Nat→AS→R
def zc_skip (_:Cx) (_:CL) (_:Nat) (x:AS):R := .ok .normal x
def zc_reg (dr:Option (List (Nat × Nat))) (ops:List AOper) (cx:Cx) (cl:CL) (_:Nat) (x:AS):R:=
 Option.rec (zOps cx cl ops x) (fun ord=>zAny cx cl x.c (zipO ord ops) [] ⟨killT (zipO ord ops) x.t,x.s,x.c+ops.length,x.d,x.r⟩) dr
def zc_seq (_ _:AC) (iha ihb:ZK) (cx:Cx) (cl:CL) (k:Nat) (x:AS):R:=zbind (iha cx cl k x) (ihb cx cl k)
def zc_cond (c:Arg) (_ _:AC) (iha ihb:ZK) (cx:Cx) (cl:CL) (k:Nat) (x:AS):R:=match c.ev cx.G x.t with
 | .bool r=>Bool.rec (ihb cx cl k x) (iha cx cl k x) r
 | _ => .no
def zblk (id:Nat) (o:Out) (x:AS):R:=Out.rec (.ok .normal x) (fun i=>Bool.rec (.ok (.exit i) x) (.ok .normal x) (Nat.beq i id)) (.ok .ret x) (fun c => .ok (.pan c) x) o
def zc_block (id:Nat) (_:AC) (iha:ZK) (cx:Cx) (cl:CL) (k:Nat) (x:AS):R:=R.rec .no (zblk id) (iha cx cl k x)
def zloop_0 (_:AS→R) (_:AS):R := .no
def zloop_s (_:Nat) (ih:(AS→R)→AS→R) (f:AS→R) (x:AS):R:=zbind (f x) (ih f)
def zloop (n:Nat) (f:AS→R) (x:AS):R:=Nat.rec (motive:=fun _=>(AS→R)→AS→R) zloop_0 zloop_s n f x
def zc_loop (_:AC) (iha:ZK) (cx:Cx) (cl:CL) (k:Nat) (x:AS):R:=zloop k (iha cx cl k) x
def zc_exit (id:Nat) (_:Cx) (_:CL) (_:Nat) (x:AS):R := .ok (.exit id) x
def zc_scope (_:AC) (iha:ZK) (cx:Cx) (cl:CL) (k:Nat) (x:AS):R:=iha cx cl k x
def zc_ret (_:Cx) (_:CL) (_:Nat) (x:AS):R := .ok .ret x
def zrfn_end (nm:Nat) (y:AS):R:=
 match sget y.s nm with
 | some (.lp st pend t ps a b)=>match st with
  | .busy => .no
  | _=>
   let z:AS:=⟨y.t,sset y.s nm (.lp .exhausted pend t ps a b),y.c,y.d,y.r⟩
   match pend with
   | none => .ok .normal z
   | some none => .ok .ret z
   | some (some i) => .ok (.exit i) z
 | _ => .no
def zc_rfn (f:Arg) (ps:List Nat) (a b:AC) (_ _:ZK) (cx:Cx) (cl:CL) (_:Nat) (x:AS):R:=
 match x.r with
 | some l0=>match sget x.s l0 with
  | some (.lp ..)=>zbind (callFn cx cl none ⟨x.t,sadd x.s x.c (.lp .ready none x.t ps a b),x.c+1,x.d,some l0⟩ (f.ev cx.G x.t) [.yl x.c]) (zrfn_end x.c)
  | _ => .no
 | none=>zbind (callFn cx cl none ⟨x.t,sadd (sadd x.s x.c .dfd) (x.c+1) (.lp .ready none x.t ps a b),x.c+2,(.it x.c,[])::x.d,none⟩ (f.ev cx.G x.t) [.yl (x.c+1)]) (zrfn_end (x.c+1))
def zlab_0 (n:Nat) (_:AS→R) (r:R):R:=match r with
 | .ok (.exit i) y=>bif Nat.beq i n then .no else .ok (.exit i) y
 | r=>r
def zlab_s (_:Nat) (ih:Nat→(AS→R)→R→R) (n:Nat) (f:AS→R) (r:R):R:=match r with
 | .ok (.exit i) y=>bif Nat.beq i n then ih n f (f y) else .ok (.exit i) y
 | r=>r
def zlab (k:Nat) (n:Nat) (f:AS→R) (r:R):R:=Nat.rec (motive:=fun _=>Nat→(AS→R)→R→R) zlab_0 zlab_s k n f r
def zc_lab (n:Nat) (_ _:AC) (ihr iha:ZK) (cx:Cx) (cl:CL) (k:Nat) (x:AS):R:=zlab k n (ihr cx cl k) (iha cx cl k x)
def zC (c:AC) (cx:Cx) (cl:CL) (k:Nat) (x:AS):R:=
 AC.rec (motive:=fun _=>ZK) zc_skip zc_reg zc_seq zc_cond zc_block zc_loop zc_exit zc_scope zc_ret zc_rfn zc_lab c cx cl k x
abbrev ZMode:=Option Ch
inductive RS where
 | no
 | ok (o:Out) (x:AS) (m:ZMode)
def zOpsS (cx:Cx) (cl:CL):List AOper→AS→ZMode→RS
 | [],x,m => .ok .normal x m
 | o::r,x,m=>match wanted o x with
  | some true=>match o.op with
   | .rcv=>match m with
    | some ((v,false)::older)=>zOpsS cx cl r (x.put o.dst v) (some ((v,true)::older))
    | _=>zOpsS cx cl r (x.put o.dst .nilif) m
   | _=>match zOp cx cl o x with
    | .ok .normal y=>zOpsS cx cl r y m
    | .ok e y => .ok e y m
    | .no => .no
  | some false=>zOpsS cx cl r (x.put o.dst (.tup [])) m
  | none => .no
def AC.noRcv:AC→Bool
 | .skip=>true
 | .reg _ ops=>ops.all fun o=>match o.op with | .rcv=>false|_=>true
 | .seq a b=>a.noRcv&&b.noRcv
 | .cond _ a b=>a.noRcv&&b.noRcv
 | .block _ a=>a.noRcv
 | .loop a=>a.noRcv
 | .exit _=>true
 | .scope a=>a.noRcv
 | .ret=>true
 | .rfn _ _ a b=>a.noRcv&&b.noRcv
 | .lab _ a b=>a.noRcv&&b.noRcv
def zS (cx:Cx) (cl:CL) (k:Nat):AC→AS→ZMode→RS
 | .reg none ops,x,m=>zOpsS cx cl ops x m
 | .seq a b,x,m=>match zS cx cl k a x m with
  | .ok .normal y m=>zS cx cl k b y m
  | r=>r
 | .cond c a b,x,m=>match c.ev cx.G x.t with
  | .bool r=>bif r then zS cx cl k a x m else zS cx cl k b x m
  | _ => .no
 | .block id a,x,m=>match zS cx cl k a x m with
  | .ok (.exit i) y m=>bif Nat.beq i id then .ok .normal y m else .ok (.exit i) y m
  | r=>r
 | .scope a,x,m=>zS cx cl k a x m
 | c,x,m=>bif c.noRcv then match zC c cx cl k x with
   | .ok o y => .ok o y m
   | .no => .no
  else .no
def results (A:AF) (x:AS):Option D:=(A.res.mapM (RV.get x)).map retD
def settle:ZMode→ZMode
 | some ((_,true)::_)=>none
 | m=>m
def raised (m:ZMode) (ch:Ch):ZMode:=
 match m with
 | some old=>some (ch++old)
 | none=>some ch
def tm0:Tm := .nd (.nd (.nd (.nd (.ls []) (.ls [])) (.nd (.ls []) (.ls []))) (.nd (.nd (.ls []) (.ls [])) (.nd (.ls []) (.ls [])))) (.nd (.nd (.nd (.ls []) (.ls [])) (.nd (.ls []) (.ls []))) (.nd (.nd (.ls []) (.ls [])) (.nd (.ls []) (.ls []))))
def start (args:List D) (s:St) (c:Nat):AS:=⟨argTm 0 args tm0,s,c,[],none⟩
inductive DR where
 | no
 | ok (o:FO) (m:ZMode) (s:St) (c:Nat)
inductive DS where
 | no
 | ok (m:ZMode) (s:St) (c:Nat)
def zDs (dcl:Nat→List D→ZMode→St→Nat→DR):List (D × List D)→ZMode→St→Nat→DS
 | [],m,s,c => .ok m s c
 | (.fn (.func f) fs cs,args)::r,m,s,c=>match dcl f (fs++args++cs) m s c with
  | .ok (.ret _) m s c=>zDs dcl r (settle m) s c
  | .ok (.pan ch) m s c=>zDs dcl r (raised m ch) s c
  | .no => .no
 | (.it nm,[])::r,m,s,c=>match sget s nm with
  | some .dfd=>zDs dcl r m (sdel s nm) c
  | _ => .no
 | _::_,_,_,_ => .no
def zEnd (dcl:Nat→List D→ZMode→St→Nat→DR) (A:AF) (m:ZMode) (x:AS):FR:=
 match zDs dcl x.d m x.s x.c with
 | .ok none s c=>match results A ⟨x.t,s,c,x.d,x.r⟩ with
  | some d => .ok (.ret d) s c
  | none => .no
 | .ok (some ch) s c => .ok (.pan ch) s c
 | .no => .no
def putAll:List Nat→List D→Tm→Tm
 | p::ps,d::ds,t=>putAll ps ds (tput t p d)
 | _,_,t=>t
def zRound (cx:Cx) (cl:CL) (k:Nat) (nm:Nat) (args:List D) (s:St) (c:Nat):FR:=
 match sget s nm with
 | some (.lp _ _ t ps a b)=>
  bif Nat.beq args.length ps.length then
   match zC a cx cl k ⟨putAll ps args t,s,c,[],some nm⟩ with
   | .ok .normal y=>match sget y.s nm with
    | some (.lp .ready pend t' ps' a' b')=>
     match zC b cx cl k ⟨y.t,sset y.s nm (.lp .busy pend t' ps' a' b'),y.c,y.d,y.r⟩ with
     | .ok (.pan ch) z=>match z.d with
      | [] => .ok (.pan ch) z.s z.c
      | _ => .no
     | .ok o z=>
      let jump:Option (Option Nat):=match o with | .exit i=>some (some i) | .ret=>some none|_=>none
      match sget z.s nm with
      | some (.lp _ _ t' ps' a' b') => .ok (.ret (.bool jump.isNone)) (sset z.s nm (.lp (bif jump.isNone then .ready else .done) jump t' ps' a' b')) z.c
      | _ => .no
     | .no => .no
    | _ => .no
   | .ok (.pan ch) z=>match z.d with
    | [] => .ok (.pan ch) z.s z.c
    | _ => .no
   | _ => .no
  else .no
 | _ => .no
def zbody (dcl:Nat→List D→ZMode→St→Nat→DR) (A:AF) (r:R):FR:=
 match r with
 | .ok .normal x=>zEnd dcl A none x
 | .ok .ret x=>zEnd dcl A none x
 | .ok (.pan ch) x=>zEnd dcl A (some ch) x
 | _ => .no
def zdone (A:AF) (o:FO) (x:AS) (m:ZMode):DR:=
 match x.d,o with
 | [],.pan ch => .ok (.pan ch) m x.s x.c
 | [],.ret _=>match results A x with
  | some d => .ok (.ret d) m x.s x.c
  | none => .no
 | _,_ => .no
def zdbody (A:AF) (r:RS):DR:=
 match r with
 | .ok .normal x m=>zdone A (.ret .un) x m
 | .ok .ret x m=>zdone A (.ret .un) x m
 | .ok (.pan ch) x m=>zdone A (.pan ch) x m
 | _ => .no
structure FD where
 fn:CL
 df:Nat→List D→ZMode→St→Nat→DR
def zcall (cx:Cx) (k:Nat) (p:FD) (f:Nat) (args:List D) (s:St) (c:Nat):FR:=
 match cx.T f with
 | some A=>bif Nat.beq args.length A.np then zbody p.df A (zC A.body cx p.fn k (start args s c)) else .no
 | none => .no
def zdef (cx:Cx) (k:Nat) (p:FD) (f:Nat) (args:List D) (m:ZMode) (s:St) (c:Nat):DR:=
 match cx.T f with
 | some A=>bif Nat.beq args.length A.np then zdbody A (zS cx p.fn k A.body (start args s c) m) else .no
 | none => .no
def zlook (fa:List D):List (List D × D)→Option D
 | []=>none
 | p::r=>bif sameDs 1000 p.1 fa then some p.2 else zlook fa r
def zmemo (cx:Cx) (f:Nat) (inner:List D→St→Nat→FR) (args:List D) (s:St) (c:Nat):FR:=
 match cx.K f with
 | []=>inner args s c
 | p::l=>match args.mapM (fr 20 s) with
  | none=>inner args s c
  | some fa=>match zlook fa (p::l) with
   | some d => .ok (.ret d) s c
   | none=>inner args s c
def zspec (cx:Cx) (f:Nat) (inner:List D→St→Nat→FR):List D→St→Nat→FR:=Option.rec inner (fun g=>g) (cx.X f)
def zn0:FD:=⟨fun _ _ _ _ => .no,fun _ _ _ _ _ => .no⟩
def znS (cx:Cx) (k:Nat) (_:Nat) (p:FD):FD:=
 ⟨fun ce=>CE.rec (fun f=>zspec cx f (zmemo cx f (zcall cx k p f))) (fun nm=>zRound cx p.fn k nm) ce,zdef cx k p⟩
def zN (cx:Cx) (k n:Nat):FD:=Nat.rec zn0 (znS cx k) n
end
end Zv
set_option linter.unusedSimpArgs false
namespace Zv
open Go
def fat (b:Frame) (a:Act) (todo:List Item):Frame:={ b with tmps:=a.tmps,defers:=a.defers,todo:=todo,mode := .run }
theorem fat_eval (b:Frame) (a:Act) (todo:List Item):(fat b a todo).eval=a.eval:=by
 funext x; cases x <;> rfl
theorem fat_finish (b:Frame) (a:Act) (ops:Array Oper) (i:Nat) (rest:List Nat) (k:List Item) (v:Value) :
  (fat b a (.inRegion ops (i::rest)::k)).finish v=fat b (a.put ((ops[i]?).bind (·.dst)) v) (.inRegion ops rest::k):=by
 cases h:(ops[i]?).bind (·.dst) <;> simp [Frame.finish,fat,Act.put,h]
theorem fat_raise (b:Frame) (a:Act) (todo:List Item) (chain:List PanicEntry):(fat b a todo).raise chain={ fat b a todo with mode := .panicking chain }:=rfl
section
variable {P:Program} {b:Frame} {a:Act} {k:List Item} {cs:List Frame} {w:World}
theorem fstep_skip:Go.step P (lone (fat b a (.code .skip::k)) cs w) = .next (lone (fat b a k) cs w):=step_lone_go (by simp [stepG,stepG.exec,fat])
theorem fstep_label {l:Nat}:Go.step P (lone (fat b a (.code (.label l)::k)) cs w) = .next (lone (fat b a k) cs w):=step_lone_go (by simp [stepG,stepG.exec,fat])
theorem fstep_inBlock {id:Nat}:Go.step P (lone (fat b a (.inBlock id::k)) cs w) = .next (lone (fat b a k) cs w):=step_lone_go (by simp [stepG,stepG.exec,fat])
theorem fstep_inScope {c:Code}:Go.step P (lone (fat b a (.inScope c::k)) cs w) = .next (lone (fat b a k) cs w):=step_lone_go (by simp [stepG,stepG.exec,fat])
theorem fstep_seq {x y:Code}:Go.step P (lone (fat b a (.code (.seq x y)::k)) cs w) = .next (lone (fat b a (.code x :: .code y::k)) cs w):=step_lone_go (by simp [stepG,stepG.exec,fat])
theorem fstep_cond {c:Operand} {x y:Code} {t:Bool} (h:a.eval c = .bool t) :
  Go.step P (lone (fat b a (.code (.cond c x y)::k)) cs w) = .next (lone (fat b a (.code (if t then x else y)::k)) cs w):=
 step_lone_go (by
  have:=congrFun (fat_eval b a (.code (.cond c x y)::k)) c
  simp only [fat] at this
  simp [stepG,stepG.exec,fat,this,h])
theorem fstep_block {id:Nat} {c:Code}:Go.step P (lone (fat b a (.code (.block id c)::k)) cs w) = .next (lone (fat b a (.code c :: .inBlock id::k)) cs w):=step_lone_go (by simp [stepG,stepG.exec,fat])
theorem fstep_loop {c:Code}:Go.step P (lone (fat b a (.code (.loop c)::k)) cs w) = .next (lone (fat b a (.code c :: .inLoop c::k)) cs w):=step_lone_go (by simp [stepG,stepG.exec,fat])
theorem fstep_inLoop {c:Code}:Go.step P (lone (fat b a (.inLoop c::k)) cs w) = .next (lone (fat b a (.code c :: .inLoop c::k)) cs w):=step_lone_go (by simp [stepG,stepG.exec,fat])
theorem fstep_scope {c:Code}:Go.step P (lone (fat b a (.code (.scope c)::k)) cs w) = .next (lone (fat b a (.code c :: .inScope c::k)) cs w):=step_lone_go (by simp [stepG,stepG.exec,fat])
theorem fstep_exit {id:Nat} {k':List Item} (h:jumpTo id k=some k'):Go.step P (lone (fat b a (.code (jumpC id)::k)) cs w) = .next (lone (fat b a k') cs w):=by
 unfold jumpTo at h
 unfold jumpC
 cases hp:Nat.beq (id % 2) 0 <;> rw [hp] at h
 ·simp only [cond_false] at h ⊢
  exact step_lone_go (by simp [stepG,stepG.exec,fat,h])
 ·simp only [cond_true] at h ⊢
  exact step_lone_go (by simp [stepG,stepG.exec,fat,h])
theorem fstep_ret (hr:b.roundOf=none):Go.step P (lone (fat b a (.code .ret::k)) cs w) = .next (lone { fat b a (.code .ret::k) with mode := .returning } cs w):=
 step_lone_go (by simp [stepG,stepG.exec,fat,hr])
theorem fstep_end (hr:b.roundOf=none):Go.step P (lone (fat b a []) cs w) = .next (lone { fat b a [] with mode := .returning } cs w):=
 step_lone_go (by simp [stepG,stepG.exec,fat,hr])
variable {ops:Array Oper}
theorem fstep_region {id:Nat}:Go.step P (lone (fat b a (.code (.region id ops false)::k)) cs w) = .next (lone (fat b a (.inRegion ops (List.range ops.size)::k)) cs w):=
 step_lone_go (by simp [stepG,stepG.exec,fat])
theorem fstep_region_draw {id:Nat}:Go.step P (lone (fat b a (.code (.region id ops true)::k)) cs w) =
   .next (lone (fat b a (.inRegion ops (Region.schedule (P.follows .mixedOrders) ops (w.tape w.drawn (.order b.fn id)))::k)) cs { w with drawn:=w.drawn+1 }):=
 step_lone_go (by simp [stepG,stepG.exec,fat,choose,Sem.run,Question.forced,Question.cut])
theorem fstep_region_end:Go.step P (lone (fat b a (.inRegion ops []::k)) cs w) = .next (lone (fat b a k) cs w):=step_lone_go (by simp [stepG,stepG.exec,fat])
theorem fstep_op_skip {i:Nat} {rest:List Nat} (h:((ops[i]?).map (Region.wanted · (yielded ops a.tmps))).getD false=false) :
  Go.step P (lone (fat b a (.inRegion ops (i::rest)::k)) cs w) = .next (lone (fat b (a.put ((ops[i]?).bind (·.dst)) undef) (.inRegion ops rest::k)) cs w):=by
 rw [←fat_finish]
 exact step_lone_go (by
  have h':=h
  simp only [fat] at *
  simp [stepG,stepG.exec,h'])
theorem fstepG_op {i:Nat} {rest:List Nat} {o:Oper} (ho:ops[i]?=some o) (hw:Region.wanted o (yielded ops a.tmps)=true) (hd:b.roundOf=none∨∀ c,o.op ≠ .defer c) :
  stepG P true { frame:=fat b a (.inRegion ops (i::rest)::k),callers:=cs,status := .running,dying:=none } w =
   stepG.apply P true (fat b a (.inRegion ops (i::rest)::k)) cs none (execOp a.eval o) w:=by
 have he:=fat_eval b a (.inRegion ops (i::rest)::k)
 simp only [fat] at he
 rcases hd with hd|hd
 ·simp only [hd] at he
  simp [stepG,stepG.exec,stepG.oper,Frame.oper?,fat,ho,hw,hd]
  rw [he]
 ·have hm:stepG.oper P true (fat b a (.inRegion ops (i::rest)::k)) cs none w=stepG.apply P true (fat b a (.inRegion ops (i::rest)::k)) cs none (execOp a.eval o) w:=by
   simp only [stepG.oper,Frame.oper?,fat,ho]
   split
   ·rename_i c hc hop
    exact absurd hop (hd _)
   ·rw [he]
  rw [←hm]
  simp [stepG,stepG.exec,Frame.oper?,fat,ho,hw]
end
inductive Callee (P:Program):Next→Frame→Prop
 | enter (f:FuncId) (args:Array Value):Callee P (.enter f args) (Frame.enter P f args .normal)
 | round (l:Nat) (f:FuncId) (tmps:Array Value) (as bd:Code):Callee P (.round l f tmps as bd) (Frame.round l f tmps as bd .normal)
def Item.own:List Item→Bool
 | .call .. :: _=>false
 | .extern .. :: _=>false
 | _=>true
section
variable {P:Program} {fr:Frame} {cs:List Frame} {w w':World} {s:Sem Next}
theorem apply_callee {n:Next} {fr0:Frame} (hr:s.run P w = .ok n w') (hn:Callee P n fr0) (ht:Item.own fr.todo=true) :
  (stepG.apply P true fr cs none s w).bare = .go { frame:=fr0,callers:=fr::cs,status := .running,dying:=none } w':=by
 obtain ⟨fn,tmps,todo,defers,mode,kind,ro⟩:=fr
 cases hn with
 | enter f args=>
  cases todo with
  | nil=>simp [stepG.apply,hr]
  | cons x r=>cases x <;> first|(simp [stepG.apply,hr]; done)|cases ht
 | round l f tmps as bd=>simp [stepG.apply,hr]
theorem apply_value {v:Value} (hr:s.run P w = .ok (.value v) w') :
  (stepG.apply P true fr cs none s w).bare = .go { frame:=fr.finish v,callers:=cs,status := .running,dying:=none } w':=by
 simp [stepG.apply,hr]
theorem apply_skip (hr:s.run P w = .ok .skip w') :
  (stepG.apply P true fr cs none s w).bare = .go { frame:=fr.finish undef,callers:=cs,status := .running,dying:=none } w':=by
 simp [stepG.apply,hr]
theorem apply_defer {d:Deferred} (hr:s.run P w = .ok (.defer d) w') :
  (stepG.apply P true fr cs none s w).bare = .go { frame:={ fr with defers:=d::fr.defers }.finish undef,callers:=cs,status := .running,dying:=none } w':=by
 simp [stepG.apply,hr]
theorem apply_panic {v:Value} (hr:s.run P w = .halt (.panic v) w') :
  (stepG.apply P true fr cs none s w).bare = .go { frame:=fr.raise [{ v,recovered:=false }],callers:=cs,status := .running,dying:=none } w':=by
 simp [stepG.apply,hr]
theorem apply_recover (hr:s.run P w = .ok .recover w') (hro:fr.roundOf=none) :
  (stepG.apply P true fr cs none s w).bare=match tryRecover fr cs with
   | some (v,callers) => .go { frame:=fr.finish v,callers,status := .running,dying:=none } w'
   | none => .go { frame:=fr.finish .nilIface,callers:=cs,status := .running,dying:=none } w':=by
 simp only [stepG.apply,Sem.runT_eq,hr,GStep.bare_after,hro,if_true]
 cases tryRecover fr cs with
 | none=>rfl
 | some p=>rfl
end
def Delivers (P:Program) (m:Machine) (c0:Frame) (cs:List Frame) (R:Ending→World→Prop):Prop:=
 ∃ e w',R e w'∧match e with
  | .returned v=>Steps P m (lone (c0.finish v) cs w')
  | .panicked ch=>Steps P m (lone (c0.raise ch) cs w')
  | .outgrown=>False
theorem Delivers.of_calls {P:Program} {f:FuncId} {args:Array Value} {w:World} {R:Ending→World→Prop} (h:Calls P f args w R) (hno:∀ w',¬ R .outgrown w') (c0:Frame) (cs:List Frame) :
  Delivers P (lone (Frame.enter P f args .normal) (c0::cs) w) c0 cs R:=by
 obtain ⟨e,w',fr,hR,hc,_,hl⟩:=h (c0::cs)
 refine ⟨e,w',hR,?_⟩
 cases e with
 | returned v=>exact Steps.trans hc (.one (step_leave_returned hl))
 | panicked ch=>exact Steps.trans hc (.one (step_leave_panicked hl))
 | outgrown=>exact hno _ hR
def CallRes (P:Program) (s:Sem Next) (w:World) (R:Ending→World→Prop):Prop:=
 ∃ n w1 fr0,s.run P w = .ok n w1∧Callee P n fr0∧∀ c0 cs,Delivers P (lone fr0 (c0::cs) w1) c0 cs R
inductive Ou where
 | normal
 | exit (id:Nat)
 | ret
 | pan (chain:List PanicEntry)
def Ends (P:Program) (m:Machine) (b:Frame) (k:List Item) (cs:List Frame):Ou→Act→World→Prop
 | .normal,a,w=>Steps P m (lone (fat b a k) cs w)
 | .exit id,a,w=>∃ todo,jumpTo id todo=jumpTo id k∧Steps P m (lone (fat b a (.code (jumpC id)::todo)) cs w)
 | .ret,a,w=>∃ todo,Steps P m (lone (fat b a (.code .ret::todo)) cs w)
 | .pan ch,a,w=>∃ todo,Item.own todo=true∧Steps P m (lone { fat b a todo with mode := .panicking ch } cs w)
theorem Ends.of_steps {P:Program} {m m1:Machine} {b:Frame} {k:List Item} {cs:List Frame} {o:Ou} {a:Act} {w:World} (h:Steps P m m1) (h':Ends P m1 b k cs o a w):Ends P m b k cs o a w:=by
 cases o with
 | normal=>exact h.trans h'
 | exit id=>obtain ⟨t,h1,h2⟩:=h'; exact ⟨t,h1,h.trans h2⟩
 | ret=>obtain ⟨t,h2⟩:=h'; exact ⟨t,h.trans h2⟩
 | pan ch=>obtain ⟨t,h1,h2⟩:=h'; exact ⟨t,h1,h.trans h2⟩
theorem Ends.pass {P:Program} {m:Machine} {b:Frame} {k:List Item} {x:Item} {cs:List Frame} {o:Ou} {a:Act} {w:World} (hx:∀ id,jumpTo id (x::k)=jumpTo id k) (ho:o ≠ .normal)
  (h:Ends P m b (x::k) cs o a w):Ends P m b k cs o a w:=by
 cases o with
 | normal=>exact absurd rfl ho
 | exit id=>obtain ⟨t,h1,h2⟩:=h; exact ⟨t,h1.trans (hx id),h2⟩
 | ret=>exact h
 | pan ch=>exact h
end Zv
namespace Zv
open Go
section
variable {E:Env} {M0:Nat→Prop} {w0:World} {N:Nat} {μ:Mu} {M:Nat→Prop} {a:Act} {w:World} {x:AS}
theorem Rel.ext0 (h:Rel E M0 w0 N μ a w x):Ext (Mm M0 μ) w M0 w:=
 ⟨Nat.le_refl _,fun _ _ _=>rfl,fun b _ hm => .inl hm⟩
theorem not_m0_own (h:Rel E M0 w0 N μ a w x) {nm:Nat} {l:Loc} {b:Nat} (hl:μ nm=some l) (hb:l.blk=some b):¬ M0 b:=fun hm=>by
 have:=h.m0lt b hm; have:=h.own nm l b hl hb; omega
theorem mapM_rels {f:D→Option D} {R R':D→Value→Prop} {cs ds:List D} {vs:List Value} (hm:cs.mapM f=some ds) (hl:vs.length=cs.length)
  (hr:∀ (i:Nat) (c:D) (v:Value),cs[i]?=some c→vs[i]?=some v→R c v) (hf:∀ c d v,c∈cs→f c=some d→R c v→R' d v) :
  vs.length=ds.length∧∀ (i:Nat) (d:D) (v:Value),ds[i]?=some d→vs[i]?=some v→R' d v:=by
 obtain ⟨h1,h2⟩:=mapM_rel hm
 refine ⟨by omega,fun i d v hd hv => ?_⟩
 have hi:i<cs.length:=by
  rw [List.getElem?_eq_some_iff] at hd; obtain ⟨h,_⟩:=hd; omega
 have hc:cs[i]?=some cs[i]:=List.getElem?_eq_getElem hi
 exact hf cs[i] d v (List.getElem_mem hi) (h2 i _ d hc hd) (hr i _ v hc hv)
theorem fr_rel (h:Rel E M0 w0 N μ a w x):∀ (n:Nat) (d d':D) (v:Value),fr n x.s d=some d'→VRel (Mm M0 μ) w μ d v→VRel M0 w mu0 d' v:=by
 have hx:=h.ext0
 have hpure:∀ (d:D) (v:Value),d.pure=true→VRel (Mm M0 μ) w μ d v→VRel M0 w mu0 d v:=fun d v hp hv=>
  VRel.mono hx d v (muLe.refl _) (VRel.pure d v hp hv)
 intro n
 induction n with
 | zero=>
  intro d d' v hf hv
  simp only [fr] at hf
  cases hp:d.pure <;> rw [hp] at hf
  ·cases hf
  ·cases hf; exact hpure d v hp hv
 | succ n ih=>
  intro d d' v hf hv
  simp only [fr] at hf
  cases hp:d.pure <;> rw [hp] at hf
  rotate_left
  ·cases hf; exact hpure d v hp hv
  simp only [cond_false] at hf
  have lists:∀ (cs ds:List D) (vs:List Value),cs.mapM (fr n x.s)=some ds→VRels (Mm M0 μ) w μ cs vs→VRels M0 w mu0 ds vs:=fun cs ds vs hm hr=>by
   obtain ⟨h1,h2⟩:=mapM_rels (R:=VRel (Mm M0 μ) w μ) (R':=VRel M0 w mu0) hm hr.length (fun i c v hc hv=>hr.at hc hv) (fun c d v hc hf hr=>ih c d v hf hr)
   exact VRels.mk h1 h2
  have cells:∀ (b off:Nat) (cs ds:List D),cs.mapM (fr n x.s)=some ds→(∀ (i:Nat) (e:D),cs[i]?=some e→∃ v',w.cell? ⟨b,off+i,none⟩=some v'∧VRel (Mm M0 μ) w μ e v')→CRel M0 w b off ds:=by
   intro b off cs ds hm hc
   obtain ⟨h1,h2⟩:=mapM_rel hm
   refine CRel.mk fun i d hd => ?_
   have hi:i<cs.length:=by
    rw [List.getElem?_eq_some_iff] at hd; obtain ⟨h,_⟩:=hd; omega
   have hci:cs[i]?=some cs[i]:=List.getElem?_eq_getElem hi
   obtain ⟨v',hv',hr⟩:=hc i _ hci
   exact ⟨v',hv',ih _ _ _ (h2 i _ d hci hd) hr⟩
  cases d <;> simp only [reduceCtorEq] at hf
  case agg cs=>
   simp only [Option.map_eq_some_iff] at hf
   obtain ⟨ds,hm,rfl⟩:=hf
   simp only [VRel] at hv ⊢
   obtain ⟨vs,rfl,hr⟩:=hv
   exact ⟨vs,rfl,lists _ _ _ hm hr⟩
  case tup cs=>
   simp only [Option.map_eq_some_iff] at hf
   obtain ⟨ds,hm,rfl⟩:=hf
   simp only [VRel] at hv ⊢
   obtain ⟨vs,rfl,hr⟩:=hv
   exact ⟨vs,rfl,lists _ _ _ hm hr⟩
  case iface t d=>
   simp only [Option.map_eq_some_iff] at hf
   obtain ⟨d',hd,rfl⟩:=hf
   simp only [VRel] at hv ⊢
   obtain ⟨y,rfl,hr⟩:=hv
   exact ⟨y,rfl,ih _ _ _ hd hr⟩
  case fn f p q=>
   simp only [Option.bind_eq_bind,Option.bind_eq_some_iff,Option.some.injEq] at hf
   obtain ⟨p',hp',q',hq',rfl⟩:=hf
   simp only [VRel] at hv ⊢
   obtain ⟨va,vb,rfl,h1,h2⟩:=hv
   exact ⟨va,vb,rfl,lists _ _ _ hp' h1,lists _ _ _ hq' h2⟩
  case ms nm off sz len cap=>
   simp only [VRel] at hv
   obtain ⟨l,b,h1,h2,rfl,h3,h4⟩:=hv
   have key:∀ (blk:Blk) (cs:List D),sget x.s nm=some blk→blkCells blk=some cs →
     (bif Nat.ble (off+len*sz) cs.length then (((cs.drop off).take (len*sz)).mapM (fr n x.s)).map (D.sl (Nat.beq cap len) len) else none)=some d'→VRel M0 w mu0 d' (.slice (some ⟨b,off,none⟩) len cap):=by
    intro blk cs hg hb hf
    cases hle:Nat.ble (off+len*sz) cs.length <;> rw [hle] at hf
    ·cases hf
    simp only [cond_true,Option.map_eq_some_iff] at hf
    obtain ⟨ds,hm,rfl⟩:=hf
    simp only [VRel]
    obtain ⟨_,_,_,hlt⟩:True∧True∧True∧b<w.heap.size:=by
     obtain ⟨l',k1,_,k3⟩:=blk_cells h h1 hg hb
     rw [h1] at k1; cases k1
     exact ⟨trivial,trivial,trivial,(k3 b h2).2.1⟩
    refine ⟨_,_,rfl,h3,fun he=>Nat.eq_of_beq_eq_true he,.inr ⟨b,off,rfl,not_m0_own h h1 h2,hlt,?_⟩⟩
    refine cells b off _ _ hm (fun i e hi => ?_)
    rw [List.getElem?_take] at hi
    split at hi
    ·exact blk_at h hg hb h1 h2 off i e hi
    ·cases hi
   split at hf
   ·rename_i cs hg; exact key _ cs hg rfl hf
   ·rename_i cs hg; exact key _ cs hg rfl hf
   ·cases hf
  case gs nm off sz len=>
   simp only [VRel] at hv
   obtain ⟨⟨lb,lc⟩,cap,h1,rfl,h3,h4,h5⟩:=hv
   split at hf
   ·rename_i cs hg
    cases hle:Nat.ble (off+len*sz) cs.length <;> rw [hle] at hf
    ·cases hf
    simp only [cond_true,Option.map_eq_some_iff] at hf
    obtain ⟨ds,hm,rfl⟩:=hf
    simp only [VRel]
    refine ⟨_,_,rfl,h3,(fun he=>by simp at he),?_⟩
    cases lb with
    | none=>have:=h5 rfl; left; omega
    | some b=>
     have hlt:b<w.heap.size:=by
      obtain ⟨l',k1,_,k3⟩:=blk_cells h h1 hg rfl
      rw [h1] at k1; cases k1
      exact (k3 b rfl).2.1
     refine .inr ⟨b,off,rfl,not_m0_own h h1 rfl,hlt,cells b off _ _ hm (fun i e hi => ?_)⟩
     rw [List.getElem?_take] at hi
     split at hi
     ·exact blk_at h hg rfl h1 rfl off i e hi
     ·cases hi
   ·cases hf
  case ptr nm off=>
   simp only [VRel] at hv
   obtain ⟨l,b,h1,h2,rfl⟩:=hv
   split at hf
   ·rename_i cs hg
    simp only [Option.map_eq_some_iff] at hf
    obtain ⟨ds,hm,rfl⟩:=hf
    have hlt:b<w.heap.size:=by
     obtain ⟨l',k1,_,k3⟩:=blk_cells h h1 hg rfl
     rw [h1] at k1; cases k1
     exact (k3 b h2).2.1
    simp only [VRel]
    refine ⟨b,0,by simp,not_m0_own h h1 h2,hlt,cells b 0 _ _ hm (fun i e hi => ?_)⟩
    have:=blk_at h hg rfl h1 h2 0 i e (by simpa using hi)
    exact this
   ·cases hf
theorem frs_rel (h:Rel E M0 w0 N μ a w x) {n:Nat} {ds as:List D} {vs:List Value} (hf:ds.mapM (fr n x.s)=some as) (hv:VRels (Mm M0 μ) w μ ds vs):VRels M0 w mu0 as vs:=by
 obtain ⟨h1,h2⟩:=mapM_rels (R:=VRel (Mm M0 μ) w μ) (R':=VRel M0 w mu0) hf hv.length (fun i c v hc hv'=>hv.at hc hv') (fun c d v _ hf hr=>fr_rel h n c d v hf hr)
 exact VRels.mk h1 h2
theorem Rel.globals0 (h:Rel E M0 w0 N μ a w x):GRel E M0 w:=fun p hp=>by
 obtain ⟨h1,h2,h3⟩:=h.glob p hp
 have hx:Ext M0 w0 M0 w:=⟨h.size,fun b hb _=>h.old b hb,fun _ _ hm=>hm⟩
 exact ⟨h1,Nat.lt_of_lt_of_le h2 h.size,CRel.mono hx p.1 h1 h2 p.2 0 h3⟩
theorem Rel.more (h:Rel E M0 w0 N μ a w x) {w':World} (hs:w.heap.size≤w'.heap.size) (he:Env0 w w') (hb:∀ b,b<w.heap.size→w'.heap[b]?=w.heap[b]?) :
  Rel E M0 w0 N μ a w' x∧Fr x.c x.s μ w x.c x.s μ w':=by
 have hx:Ext (Mm M0 μ) w (Mm M0 μ) w':=⟨hs,fun b hlt _=>hb b hlt,fun _ _ hm=>hm⟩
 exact ⟨{h with
  size:=Nat.le_trans h.size hs
  old:=fun b hlt'=>by rw [hb b (Nat.lt_of_lt_of_le hlt' h.size)]; exact h.old b hlt'
  env:=⟨he.1.trans h.env.1,he.2.trans h.env.2⟩
  defers:=DfRel.mono hx (muLe.refl _) h.defers
  tm:=fun n=>VRel.mono hx _ _ (muLe.refl _) (h.tm n)
  own:=fun nm l b h1 h2=>⟨(h.own nm l b h1 h2).1,Nat.lt_of_lt_of_le (h.own nm l b h1 h2).2 hs⟩
  st:=fun nm blk l hl hg=>BRel.mono hx (muLe.refl _) (fun l b hl hlb=>⟨hb b (h.own nm l b hl hlb).2,id⟩) (h.st nm blk l hl hg) },
  ⟨hs,fun b hlt _=>hb b hlt,fun _ _ hl=>hl,muLe.refl _,Nat.le_refl _,fun _ _ h=>h,nonew⟩⟩
def SRel (E:Env) (M0:Nat→Prop) (w0:World) (μ:Mu) (w:World) (s:St) (c:Nat):Prop:=
 Rel E M0 w0 0 μ ⟨#[],[]⟩ w ⟨.ls [],s,c,[],none⟩
theorem tget_nil (n:Nat):tget (.ls []:Tm) n = .un:=rfl
theorem Rel.toS (h:Rel E M0 w0 N μ a w x):SRel E M0 w0 μ w x.s x.c:=
 {h with
  defers:=by simp only [DfRel]
  n:=Nat.zero_le _
  tm:=fun n=>by rw [tget_nil]; simp only [VRel]
  st:=h.st
  lt:=h.lt
  inj:=h.inj }
theorem SRel.frame {s:St} {c:Nat} (h:SRel E M0 w0 μ w s c) {t:Tm} {d:List (D × List D)} {r:Option Nat} (hn:N≤a.tmps.size) (ht:∀ n,VRel (Mm M0 μ) w μ (tget t n) (a.tmps.getD n undef))
  (hd:DfRel (Mm M0 μ) w μ d a.defers):Rel E M0 w0 N μ a w ⟨t,s,c,d,r⟩:=
 {h with
  defers:=hd
  n:=hn
  tm:=ht
  st:=h.st
  lt:=h.lt
  inj:=h.inj }
theorem SRel.ext {s s':St} {c c':Nat} {μ':Mu} {w':World} (h:SRel E M0 w0 μ w s c) (h':SRel E M0 w0 μ' w' s' c') (hf:Fr c s μ w c' s' μ' w'):Ext (Mm M0 μ) w (Mm M0 μ') w':=hf.ext
theorem Rel.carry (h:Rel E M0 w0 N μ a w x) {s':St} {c':Nat} {μ':Mu} {w':World} (h':SRel E M0 w0 μ' w' s' c') (hf:Fr x.c x.s μ w c' s' μ' w') :
  Rel E M0 w0 N μ' a w' ⟨x.t,s',c',x.d,x.r⟩:=by
 have hx:=SRel.ext h.toS h' hf
 exact h'.frame h.n (fun n=>VRel.mono hx _ _ hf.mu (h.tm n)) (DfRel.mono hx hf.mu h.defers)
end
def ChRel (M:Nat→Prop) (w:World) (μ:Mu):Ch→List PanicEntry→Prop
 | [],l=>l=[]
 | (d,r)::c,l=>∃ v l',l={ v:=v,recovered:=r }::l'∧VRel M w μ d v∧ChRel M w μ c l'
def FORel (M:Nat→Prop) (w:World) (μ:Mu):FO→Ending→Prop
 | .ret d,e=>∃ v,e = .returned v∧VRel M w μ d v
 | .pan c,e=>∃ ch,e = .panicked ch∧ChRel M w μ c ch
def OuRel (M:Nat→Prop) (w:World) (μ:Mu):Out→Ou→Prop
 | .normal,o=>o = .normal
 | .exit i,o=>o = .exit i
 | .ret,o=>o = .ret
 | .pan c,o=>∃ ch,o = .pan ch∧ChRel M w μ c ch
theorem ChRel.mono {M M':Nat→Prop} {w w':World} {μ μ':Mu} (hx:Ext M w M' w') (hm:muLe μ μ'):∀ {c:Ch} {l:List PanicEntry},ChRel M w μ c l→ChRel M' w' μ' c l
 | [],_,h=>by simpa only [ChRel] using h
 | (d,r)::c,_,h=>by
  simp only [ChRel] at h ⊢
  obtain ⟨v,l',rfl,h1,h2⟩:=h
  exact ⟨v,l',rfl,VRel.mono hx _ _ hm h1,ChRel.mono hx hm h2⟩
def Back (E:Env) (M0:Nat→Prop) (w0:World) (μ:Mu) (w:World) (c:Nat) (s:St) (o:FO) (s':St) (c':Nat) (e:Ending) (w':World):Prop:=
 ∃ μ',SRel E M0 w0 μ' w' s' c'∧Fr c s μ w c' s' μ' w'∧FORel (Mm M0 μ') w' μ' o e
theorem Back.no {E:Env} {M0:Nat→Prop} {w0:World} {μ:Mu} {w:World} {c:Nat} {s:St} {o:FO} {s':St} {c':Nat} {w':World}:¬ Back E M0 w0 μ w c s o s' c' .outgrown w':=by
 rintro ⟨_,_,_,h⟩
 cases o with
 | ret d=>obtain ⟨v,h,_⟩:=h; cases h
 | pan c=>obtain ⟨v,h,_⟩:=h; cases h
structure CallOK (E:Env) (cl:CL):Prop where
 fn:∀ {M0:Nat→Prop} {w0:World} {μ:Mu} {w:World} {s:St} {c f:Nat} {args:List D} {vals:List Value} {o:FO} {s':St} {c':Nat},
  SRel E M0 w0 μ w s c→VRels (Mm M0 μ) w μ args vals→cl (.fn f) args s c = .ok o s' c'→callable E.P f=true∧Calls E.P f vals.toArray w (Back E M0 w0 μ w c s o s' c')
 yl:∀ {M0:Nat→Prop} {w0:World} {μ:Mu} {w:World} {s:St} {c nm:Nat} {args:List D} {vals:List Value} {o:FO} {s':St} {c':Nat},
  SRel E M0 w0 μ w s c→VRels (Mm M0 μ) w μ args vals→cl (.yl nm) args s c = .ok o s' c'→∀ loc l,μ nm=some loc→loc.blk=some l→CallRes E.P (Instr.yield l vals.toArray) w (Back E M0 w0 μ w c s o s' c')
def methF (P:Program) (t:Nat) (name:String):Option Nat:=do
 let i ←P.info? t
 let m ←i.methods.find? (·.name==name)
 bif m.path.isEmpty then match m.func,P.underlying t with
  | some (f,true),some (.pointer _)=>some f
  | some (_,false),some (.pointer _)=>none
  | some (f,false),some _=>some f
  | _,_=>none
 else none
theorem run_method {P:Program} {t:Nat} {name:String} {f:Nat} (h:methF P t name=some f) (n:Nat) (v:Value) (w:World):(method (n+1) t v name).run P w = .ok (f,v) w:=by
 simp only [methF,Option.bind_eq_bind,Option.bind_eq_some_iff] at h
 obtain ⟨i,hi,m,hm,h⟩:=h
 cases hp:m.path.isEmpty <;> rw [hp] at h
 ·cases h
 have hpath:m.path = #[]:=by simpa using hp
 simp only [cond_true] at h
 simp only [method,Sem.run_bind,run_typeInfo' hi,Result.andThen_ok,hm,hpath,follow,Sem.run_pure]
 split at h
 ·rename_i g e hfn hu
  cases h
  simp only [hfn,receiverAt,Sem.run_bind,run_underlying hu,Result.andThen_ok,Place.get,Sem.run_pure]
 ·cases h
 ·rename_i g td hnp hfn hu
  cases h
  simp only [hfn,receiverAt,Sem.run_bind,run_underlying hu,Result.andThen_ok,Place.get,Sem.run_pure]
 ·cases h
def callRaw (cx:Cx) (cl:CL) (d:D) (args:List D) (s:St) (c:Nat):FR:=
 match d with
 | .fn (.func f) fs cs=>cl (.fn f) (fs++args++cs) s c
 | .fn (.method name) fs cs=>match fs++args,cs with
  | .iface t v::r,[]=>match cx.M t name with
   | some g=>cl (.fn g) (v::r) s c
   | none => .no
  | _,_ => .no
 | .yl nm=>cl (.yl nm) args s c
 | _ => .no
theorem callFn_raw (cx:Cx) (cl:CL) (dst:Option Nat) (x:AS) (d:D) (args:List D):callFn cx cl dst x d args=back dst x (callRaw cx cl d args x.s x.c):=by
 cases d with
 | fn f fs cap=>
  cases f with
  | method name=>
   simp only [callFn,callRaw]
   generalize fs++args=l
   cases l with
   | nil=>rfl
   | cons y r=>
    cases cap with
    | nil=>
     cases y with
     | iface t v=>
      simp only [callM]
      cases cx.M t name <;> rfl
     | _=>rfl
    | cons _ _=>cases y <;> rfl
  | _=>rfl
 | _=>rfl
theorem back_inv {dst:Option Nat} {x:AS} {r:FR} {out:Out} {y:AS} (h:back dst x r = .ok out y) :
  ∃ fo s c,r = .ok fo s c∧((∃ d,fo = .ret d∧out = .normal∧y=⟨putT dst x.t d,s,c,x.d,x.r⟩)∨(∃ ch,fo = .pan ch∧out = .pan ch∧y=⟨x.t,s,c,x.d,x.r⟩)):=by
 cases r with
 | no=>cases h
 | ok fo s c=>
  refine ⟨fo,s,c,rfl,?_⟩
  cases fo with
  | ret d=>
   have h':R.ok Out.normal ⟨putT dst x.t d,s,c,x.d,x.r⟩ = .ok out y:=h
   cases h'
   exact .inl ⟨d,rfl,rfl,rfl⟩
  | pan ch=>
   have h':R.ok (Out.pan ch) ⟨x.t,s,c,x.d,x.r⟩ = .ok out y:=h
   cases h'
   exact .inr ⟨ch,rfl,rfl,rfl⟩
section
variable {E:Env} {M0:Nat→Prop} {w0:World} {μ:Mu} {M:Nat→Prop} {w:World} {s:St} {c:Nat}
theorem run_callFunc {P:Program} {f:Nat} (h:callable P f=true) (args:Array Value) (w:World):(callFunc f args).run P w = .ok (.enter f args) w:=by
 unfold callable at h
 split at h
 ·rename_i fn hfn
  simp only [Bool.not_eq_true',Bool.or_eq_false_iff] at h
  have hne:¬ (fn.name == "runtime.NumGoroutine")=true:=by rw [h.1]; simp
  simp only [callFunc,Sem.run_bind,run_program,Result.andThen_ok,hfn,if_neg hne,h.2,Bool.false_eq_true,if_false,Sem.run_pure]
 ·cases h
theorem callRes_fn {cl:CL} (hcl:CallOK E cl) (h:SRel E M0 w0 μ w s c) {f:Nat} {args:List D} {vals:Array Value} (ha:VRels (Mm M0 μ) w μ args vals.toList) {o:FO} {s':St} {c':Nat}
  (hr:cl (.fn f) args s c = .ok o s' c'):CallRes E.P (callFunc f vals) w (Back E M0 w0 μ w c s o s' c'):=by
 obtain ⟨h1,h2⟩:=hcl.fn h ha hr
 refine ⟨_,_,_,run_callFunc h1 _ _,.enter _ _,fun c0 cs => ?_⟩
 have:=Delivers.of_calls h2 (fun _=>Back.no) c0 cs
 simpa using this
theorem CallRes.congr {P:Program} {s s':Sem Next} {w:World} {R:Ending→World→Prop} (h:CallRes P s w R) (he:s'.run P w=s.run P w):CallRes P s' w R:=by
 obtain ⟨n,w1,fr0,h1,h2⟩:=h
 exact ⟨n,w1,fr0,he.trans h1,h2⟩
theorem callRes_method {cl:CL} {cx:Cx} (hcl:CallOK E cl) (hM:∀ t n f,cx.M t n=some f→methF E.P t n=some f) (h:SRel E M0 w0 μ w s c) {name:String} {t g:Nat} {d:D} {r:List D}
  {vals:Array Value} (ha:VRels (Mm M0 μ) w μ (.iface t d::r) vals.toList) (hg:cx.M t name=some g) {o:FO} {s':St} {c':Nat} (hr:cl (.fn g) (d::r) s c = .ok o s' c') (cap:Array Value) :
  CallRes E.P (invoke (.fn (.method name) cap) vals) w (Back E M0 w0 μ w c s o s' c'):=by
 simp only [VRels] at ha
 obtain ⟨v,vs,hvals,h1,h2⟩:=ha
 simp only [VRel] at h1
 obtain ⟨u,rfl,h1⟩:=h1
 have hv:vals=(Value.iface t u::vs).toArray:=by
  apply Array.ext'; simp [hvals]
 subst hv
 have hm:=run_method (hM _ _ _ hg) (E.P.types.size+99) u w
 refine (callRes_fn hcl h (vals:=(u::vs).toArray) (by simp only [VRels]; exact ⟨u,vs,rfl,h1,h2⟩) hr).congr ?_
 simp only [invoke,List.getElem?_toArray,List.getElem?_cons_zero,callMethod,Sem.run_bind,run_program,Result.andThen_ok,Made.depth]
 rw [show E.P.types.size+100=(E.P.types.size+99)+1 from rfl,hm]
 simp only [Result.andThen_ok]
 congr 2
 apply Array.ext'
 simp
theorem raw_sound {cl:CL} {cx:Cx} (hcl:CallOK E cl) (hM:∀ t n f,cx.M t n=some f→methF E.P t n=some f) (h:SRel E M0 w0 μ w s c) {d:D} {v:Value} (hd:VRel (Mm M0 μ) w μ d v)
  {args:List D} {vals:Array Value} (ha:VRels (Mm M0 μ) w μ args vals.toList) {o:FO} {s':St} {c':Nat} (hr:callRaw cx cl d args s c = .ok o s' c') :
  CallRes E.P (do let d ←Deferred.ofValue v vals; invoke d.target d.args) w (Back E M0 w0 μ w c s o s' c'):=by
 unfold callRaw at hr
 split at hr
 ·rename_i f fs cap
  simp only [VRel] at hd
  obtain ⟨va,vb,rfl,h1,h2⟩:=hd
  refine (callRes_fn hcl h (vals:=(va++vals)++vb) ?_ hr).congr ?_
  ·simp only [Array.toList_append]
   exact (h1.append ha).append h2
  ·simp only [Deferred.ofValue,Sem.run_bind,Sem.run_pure,Result.andThen_ok,invoke]
 ·rename_i name fs cap
  simp only [VRel] at hd
  obtain ⟨va,vb,rfl,h1,h2⟩:=hd
  split at hr
  ·rename_i t u r hfs
   split at hr
   ·rename_i g hg
    have hall:VRels (Mm M0 μ) w μ (.iface t u::r) (va++vals).toList:=by
     rw [←hfs,Array.toList_append]; exact h1.append ha
    exact (callRes_method hcl hM h hall hg hr vb).congr (by simp only [Deferred.ofValue,Sem.run_bind,Sem.run_pure,Result.andThen_ok])
   ·cases hr
  ·cases hr
 ·rename_i nm
  simp only [VRel] at hd
  obtain ⟨loc,b,h1,h2,rfl⟩:=hd
  have:=hcl.yl h ha hr loc b h1 h2
  refine this.congr ?_
  simp only [Deferred.ofValue,Sem.run_bind,Sem.run_pure,Result.andThen_ok,invoke,Array.empty_append]
 ·cases hr
end
end Zv
namespace Zv
open Go
theorem appD_r {x x':AS} {sz bytes ty:Nat} {a b d:D} (h:appD x sz bytes ty a b=some (d,x')):x'.r=x.r∧x'.d=x.d:=by
 unfold appD at h
 simp only [Option.bind_eq_bind,Option.bind_eq_some_iff] at h
 obtain ⟨⟨ys,n⟩,_,h⟩:=h
 repeat' (first|contradiction|(cases h; exact ⟨rfl,rfl⟩)|(split at h)|(simp only [Option.map_eq_some_iff,cond_eq_ite] at h)|(obtain ⟨_,_,h⟩:=h))
theorem step_r {G:List (Nat × List D)} {op:AOp} {x x':AS} {d:D} (h:step G op x=some (d,x')):x'.r=x.r∧x'.d=x.d:=by
 cases op
 case app=>exact appD_r h
 all_goals
  simp only [stq,Option.bind_eq_bind] at h
  repeat' (first|contradiction|(cases h; exact ⟨rfl,rfl⟩)|(split at h)|(simp only [Option.bind_eq_some_iff,Option.map_eq_some_iff,cond_eq_ite] at h)|(obtain ⟨_,_,h⟩:=h))
theorem appD_tm {x x':AS} {sz bytes ty:Nat} {a b d:D} (h:appD x sz bytes ty a b=some (d,x')):x'.t=x.t:=by
 unfold appD at h
 simp only [Option.bind_eq_bind,Option.bind_eq_some_iff] at h
 obtain ⟨⟨ys,n⟩,_,h⟩:=h
 repeat' (first|contradiction|(cases h; rfl)|(split at h)|(simp only [Option.map_eq_some_iff,cond_eq_ite] at h)|(obtain ⟨_,_,h⟩:=h))
theorem step_tm {G:List (Nat × List D)} {op:AOp} {x x':AS} {d:D} (h:step G op x=some (d,x')):x'.t=x.t:=by
 cases op
 case app=>exact appD_tm h
 all_goals
  simp only [stq,Option.bind_eq_bind] at h
  repeat' (first|contradiction|(cases h; rfl)|(split at h)|(simp only [Option.bind_eq_some_iff,Option.map_eq_some_iff,cond_eq_ite] at h)|(obtain ⟨_,_,h⟩:=h))
def AOp.data:AOp→Prop
 | .call .. => False
 | .callv .. => False
 | .inv .. => False
 | .pan .. => False
 | .dfr .. => False
 | .rcv=>False
 | _=>True
theorem zOp_data {cx:Cx} {cl:CL} {ao:AOper} {x:AS} (h:ao.op.data):zOp cx cl ao x=zval ao.dst (step cx.G ao.op x):=by
 obtain ⟨dst,op,g⟩:=ao
 cases op <;> first|rfl|exact h.elim
theorem zval_inv {dst:Option Nat} {r:Option (D × AS)} {out:Out} {y:AS} (h:zval dst r = .ok out y):∃ d x',r=some (d,x')∧out = .normal∧y=x'.put dst d:=by
 cases r with
 | none=>cases h
 | some p=>
  obtain ⟨d,x'⟩:=p
  refine ⟨d,x',rfl,?_⟩
  have h':R.ok Out.normal ⟨putT dst x'.t d,x'.s,x'.c,x'.d,x'.r⟩ = .ok out y:=h
  cases h'
  exact ⟨rfl,by cases dst <;> rfl⟩
theorem cOp_kind0 {P:Program} {o:Oper} {op:AOp} (h:cOp0 P o=some op) :
  (op.data∧∀ c,o.op ≠ .defer c)∨(∃ c f l,o.op = .call c∧c.callee = .value (.func f)∧cArgs c.args=some l∧op = .call f l) ∨
  (∃ c y g l,o.op = .call c∧c.callee = .value y∧cArg y=some g∧cArgs c.args=some l∧op = .callv g l) ∨
  (∃ c r m g l,o.op = .call c∧c.callee = .invoke r m∧cArg r=some g∧cArgs c.args=some l∧op = .inv m g l) ∨
  (∃ y g,o.op = .panic y∧cArg y=some g∧op = .pan g) ∨
  (∃ c y g l,o.op = .defer c∧c.callee = .value y∧cArg y=some g∧cArgs c.args=some l∧op = .dfr g l) ∨
  (∃ c,o.op = .call c∧c.callee = .builtin .recover∧op = .rcv):=by
 cases ho:o.op
 case call c=>
  simp only [cOp0,ho] at h
  cases hcal:c.callee with
  | value g=>
   rw [hcal] at h
   cases g with
   | func g=>
    simp only [Option.bind_eq_bind,Option.bind_eq_some_iff] at h
    obtain ⟨fn,hfn,h⟩:=h
    cases hcond:(fn.name == "runtime.NumGoroutine" || fn.body.isNone) <;> rw [hcond] at h
    ·simp only [cond_false,Option.bind_eq_some_iff,Option.some.injEq] at h
     obtain ⟨l,hl,rfl⟩:=h
     exact .inr (.inl ⟨c,g,l,rfl,hcal,hl,rfl⟩)
    ·obtain ⟨_,_,h⟩:=h; cases h
   | _=>
    simp only [Option.bind_eq_bind,Option.bind_eq_some_iff,Option.some.injEq] at h
    obtain ⟨ar,h1,as,h2,rfl⟩:=h
    exact .inr (.inr (.inl ⟨c,_,_,_,rfl,hcal,h1,h2,rfl⟩))
  | invoke r m=>
   rw [hcal] at h
   simp only [Option.bind_eq_bind,Option.bind_eq_some_iff,Option.some.injEq] at h
   obtain ⟨ar,h1,as,h2,rfl⟩:=h
   exact .inr (.inr (.inr (.inl ⟨c,_,_,_,_,rfl,hcal,h1,h2,rfl⟩)))
  | builtin b=>
   rw [hcal] at h
   dsimp only at h
   cases b
   case recover=>
    split at h
    all_goals first
     | contradiction
     | (cases h; exact .inr (.inr (.inr (.inr (.inr (.inr ⟨c,rfl,hcal,rfl⟩)))))) 
     | (rename_i e _ _; cases e; done)
     | cases h
   all_goals
    refine .inl ⟨?_,fun _ e=>by cases e⟩
    repeat' (first|contradiction|(cases h; trivial)|(split at h)|(simp only [Option.bind_eq_bind,Option.bind_eq_some_iff,Option.some.injEq,cond_eq_ite] at h)|(obtain ⟨_,_,h⟩:=h))
 case panic y=>
  simp only [cOp0,ho,Option.bind_eq_bind,Option.bind_eq_some_iff,Option.some.injEq] at h
  obtain ⟨ar,h1,rfl⟩:=h
  exact .inr (.inr (.inr (.inr (.inl ⟨_,_,rfl,h1,rfl⟩))))
 case defer c=>
  simp only [cOp0,ho] at h
  split at h
  ·rename_i y hcal
   simp only [Option.bind_eq_bind,Option.bind_eq_some_iff,Option.some.injEq] at h
   obtain ⟨ar,h1,as,h2,rfl⟩:=h
   exact .inr (.inr (.inr (.inr (.inr (.inl ⟨c,_,_,_,rfl,hcal,h1,h2,rfl⟩)))))
  ·cases h
 all_goals
  refine .inl ⟨?_,fun _ e=>by cases e⟩
  simp only [cOp0,ho] at h
  repeat' (first|contradiction|(cases h; trivial)|(split at h)|(simp only [Option.bind_eq_bind,Option.bind_eq_some_iff,Option.some.injEq,cond_eq_ite] at h)|(obtain ⟨_,_,h⟩:=h))
theorem cOp_kind {P:Program} {o:Oper} {op:AOp} (h:cOp P o=some op) :
  (op.data∧∀ c,o.op ≠ .defer c)∨(∃ c f l,o.op = .call c∧c.callee = .value (.func f)∧cArgs c.args=some l∧op = .call f l) ∨
  (∃ c y g l,o.op = .call c∧c.callee = .value y∧cArg y=some g∧cArgs c.args=some l∧op = .callv g l) ∨
  (∃ c r m g l,o.op = .call c∧c.callee = .invoke r m∧cArg r=some g∧cArgs c.args=some l∧op = .inv m g l) ∨
  (∃ y g,o.op = .panic y∧cArg y=some g∧op = .pan g) ∨
  (∃ c y g l,o.op = .defer c∧c.callee = .value y∧cArg y=some g∧cArgs c.args=some l∧op = .dfr g l) ∨
  (∃ c,o.op = .call c∧c.callee = .builtin .recover∧op = .rcv):=by
 unfold cOp at h
 split at h
 ·rename_i op' he
  cases h
  obtain ⟨hk,hd⟩:=cExt_kind he
  refine .inl ⟨?_,hd⟩
  rcases hk with ⟨k,l,rfl⟩|⟨k,l,rfl⟩ <;> trivial
 ·exact cOp_kind0 h
theorem cOper_spec {P:Program} {N:Nat} {ops:Array Oper} {o:Oper} {ao:AOper} (h:cOper P N ops o=some ao) :
  cOp P o=some ao.op∧ao.dst=o.dst∧cGuard ops o.guard=some ao.guard∧(match o.dst with|some d=>Nat.blt d N|none=>true)=true:=by
 simp only [cOper,Option.bind_eq_bind,Option.bind_eq_some_iff] at h
 obtain ⟨op,hop,g,hg,h⟩:=h
 cases hd:o.dst with
 | none=>
  rw [hd] at h
  simp only [cond_true,Option.some.injEq] at h
  subst h
  exact ⟨hop,hd ▸ rfl,hg,rfl⟩
 | some d=>
  rw [hd] at h
  cases hc:Nat.blt d N <;> simp only [hc] at h
  ·cases h
  ·simp only [cond_true,Option.some.injEq] at h
   subst h
   exact ⟨hop,hd ▸ rfl,hg,hc⟩
def RoundOK (b:Frame) (r:Option Nat) (μ:Mu):Prop:=
 match r with
 | none=>b.roundOf=none
 | some nm=>∃ loc l,μ nm=some loc∧loc.blk=some l∧b.roundOf=some l
theorem RoundOK.mono {b:Frame} {r:Option Nat} {μ μ':Mu} (hm:muLe μ μ') (h:RoundOK b r μ):RoundOK b r μ':=by
 cases r with
 | none=>exact h
 | some nm=>obtain ⟨loc,l,h1,h2,h3⟩:=h; exact ⟨loc,l,hm _ _ h1,h2,h3⟩
def Did (E:Env) (M0:Nat→Prop) (w0:World) (N:Nat) (μ:Mu) (w:World) (x:AS) (m:Machine) (b:Frame) (k:List Item) (cs:List Frame) (out:Out) (y:AS):Prop:=
 ∃ a' w' μ' ou,Rel E M0 w0 N μ' a' w' y∧Fr x.c x.s μ w y.c y.s μ' w'∧y.r=x.r∧OuRel (Mm M0 μ') w' μ' out ou∧Ends E.P m b k cs ou a' w'
def DidA (a:Act) (dst:Option Nat) (E:Env) (M0:Nat→Prop) (w0:World) (N:Nat) (μ:Mu) (w:World) (x:AS) (m:Machine) (b:Frame) (k:List Item) (cs:List Frame) (out:Out) (y:AS):Prop:=
 ∃ a' w' μ' ou,Rel E M0 w0 N μ' a' w' y∧(∀ n,dst≠some n→a'.tmps.getD n undef=a.tmps.getD n undef)∧Fr x.c x.s μ w y.c y.s μ' w'∧y.r=x.r∧OuRel (Mm M0 μ') w' μ' out ou∧Ends E.P m b k cs ou a' w'
theorem DidA.did {a:Act} {dst:Option Nat} {E:Env} {M0:Nat→Prop} {w0:World} {N:Nat} {μ:Mu} {w:World} {x:AS} {m:Machine} {b:Frame} {k:List Item} {cs:List Frame} {out:Out} {y:AS}
  (h:DidA a dst E M0 w0 N μ w x m b k cs out y):Did E M0 w0 N μ w x m b k cs out y:=by
 obtain ⟨a',w',μ',ou,h1,_,h2,h3,h4,h5⟩:=h
 exact ⟨a',w',μ',ou,h1,h2,h3,h4,h5⟩
theorem put_other (a:Act) (dst:Option Nat) (v:Value) (n:Nat) (h:dst≠some n):(a.put dst v).tmps.getD n undef=a.tmps.getD n undef:=by
 cases dst with
 | none=>rfl
 | some d=>
  have:d≠n:=fun e=>h (by rw [e])
  simp [Act.put,Array.getD_eq_getD_getElem?,Array.getElem?_setIfInBounds_ne this]
section
variable {E:Env} {M0:Nat→Prop} {w0:World} {N:Nat} {μ:Mu} {M:Nat→Prop} {a:Act} {w:World} {x:AS} {b:Frame} {k:List Item} {cs:List Frame}
theorem Did.of_steps {m m1:Machine} {out:Out} {y:AS} (h:Steps E.P m m1) (h':Did E M0 w0 N μ w x m1 b k cs out y):Did E M0 w0 N μ w x m b k cs out y:=by
 obtain ⟨a',w',μ',ou,h1,h2,h3,h4,h5⟩:=h'
 exact ⟨a',w',μ',ou,h1,h2,h3,h4,h5.of_steps h⟩
theorem evs_map (l:List Arg) (G:List (Nat × List D)) (t:Tm):evs l G t=l.map (·.ev G t):=by
 induction l with
 | nil=>rfl
 | cons y r ih=>rw [List.map_cons,←ih]; rfl
theorem args_ev (h:Rel E M0 w0 N μ a w x) {l:Array Operand} {as:List Arg} (hc:cArgs l=some as):VRels (Mm M0 μ) w μ (evs as E.G x.t) (l.map a.eval).toList:=by
 rw [evs_map,Array.toList_map]
 exact args_rel h hc
theorem call_did (h:Rel E M0 w0 N μ a w x) {ops:Array Oper} {i:Nat} {rest:List Nat} {o:Oper} (ho:ops[i]?=some o) (hw:Region.wanted o (yielded ops a.tmps)=true) (hnd:∀ c,o.op ≠ .defer c)
  (hd:(match o.dst with|some d=>Nat.blt d N|none=>true)=true) {r:FR} {out:Out} {y:AS} (hs:back o.dst x r = .ok out y)
  (hcall:∀ fo s c,r = .ok fo s c→CallRes E.P (execOp a.eval o) w (Back E M0 w0 μ w x.c x.s fo s c)) :
  DidA a o.dst E M0 w0 N μ w x (lone (fat b a (.inRegion ops (i::rest)::k)) cs w) b (.inRegion ops rest::k) cs out y:=by
 obtain ⟨fo,s,c,rfl,hy⟩:=back_inv hs
 obtain ⟨n,w1,fr0,hrun,hn,hdel⟩:=hcall _ _ _ rfl
 have hg:=fstepG_op (P:=E.P) (b:=b) (k:=k) (cs:=cs) (w:=w) (rest:=rest) ho hw (.inr hnd)
 have henter:Go.step E.P (lone (fat b a (.inRegion ops (i::rest)::k)) cs w) = .next (lone fr0 (fat b a (.inRegion ops (i::rest)::k)::cs) w1):=
  step_lone_go (by rw [hg]; exact apply_callee hrun hn rfl)
 obtain ⟨e,w',⟨μ',hS,hf,hfo⟩,hst⟩:=hdel (fat b a (.inRegion ops (i::rest)::k)) cs
 have hR:=h.carry hS hf
 rcases hy with ⟨d,rfl,rfl,rfl⟩|⟨ch,rfl,rfl,rfl⟩
 ·obtain ⟨v,rfl,hv⟩:=hfo
  refine ⟨a.put o.dst v,w',μ',.normal,?_,put_other _ _ _,hf,rfl,rfl,?_⟩
  ·have:=hR.put (dst:=o.dst) hd hv
   revert this
   cases o.dst <;> exact id
  ·have:=fat_finish b a ops i rest k v
   rw [ho] at this
   exact .head henter (by rw [←show _=fat b (a.put o.dst v) (.inRegion ops rest::k) from this]; exact hst)
 ·obtain ⟨chain,rfl,hc⟩:=hfo
  exact ⟨a,w',μ',.pan chain,hR,fun _ _=>rfl,hf,rfl,⟨chain,rfl,hc⟩,_,rfl,.head henter hst⟩
theorem op_didA {cl:CL} {cx:Cx} (hcl:CallOK E cl) (hM:∀ t n f,cx.M t n=some f→methF E.P t n=some f) (hG:cx.G=E.G) (h:Rel E M0 w0 N μ a w x) (hro:RoundOK b x.r μ)
  {ops:Array Oper} {i:Nat} {rest:List Nat} {o:Oper} {ao:AOper} (hc:cOper E.P N ops o=some ao) (ho:ops[i]?=some o) (hw:Region.wanted o (yielded ops a.tmps)=true)
  {out:Out} {y:AS} (hs:zOp cx cl ao x = .ok out y):DidA a o.dst E M0 w0 N μ w x (lone (fat b a (.inRegion ops (i::rest)::k)) cs w) b (.inRegion ops rest::k) cs out y:=by
 obtain ⟨hop,hdst,_,hd⟩:=cOper_spec hc
 have hfin:∀ a v,(fat b a (.inRegion ops (i::rest)::k)).finish v=fat b (a.put o.dst v) (.inRegion ops rest::k):=fun a v=>by
  rw [fat_finish,ho]; rfl
 rcases cOp_kind hop with ⟨hdata,hnd⟩|⟨c,f,l,hoc,hcal,hl,hao⟩|⟨c,y',g,l,hoc,hcal,hg,hl,hao⟩|⟨c,r,m,g,l,hoc,hcal,hg,hl,hao⟩|⟨y',g,hoc,hg,hao⟩|⟨c,y',g,l,hoc,hcal,hg,hl,hao⟩|⟨c,hoc,hcal,hao⟩
 · -- data
  rw [zOp_data hdata,hG] at hs
  obtain ⟨d,x',hst,rfl,rfl⟩:=zval_inv hs
  obtain ⟨v,w',μ',hr,hv,hR,hf⟩:=op_sound h hop hst
  obtain ⟨hr1,hr2⟩:=step_r hst
  have hg:=fstepG_op (P:=E.P) (b:=b) (k:=k) (cs:=cs) (w:=w) (rest:=rest) ho hw (.inr hnd)
  have hput:=hR.put (dst:=o.dst) hd hv
  rw [hdst]
  refine ⟨a.put o.dst v,w',μ',.normal,hput,put_other _ _ _,?_,?_,rfl,?_⟩
  ·revert hf; cases o.dst <;> exact id
  ·revert hr1; cases o.dst <;> exact id
  ·refine .one (step_lone_go ?_)
   rw [hg,←hfin]
   rcases hr with hr|⟨hr,rfl⟩
   ·exact apply_value hr
   ·exact apply_skip hr
 · -- a function
  obtain ⟨dst,op,gd⟩:=ao
  simp only at hao hdst
  subst hao hdst
  refine call_did h ho hw (by rw [hoc]; exact fun _ e=>by cases e) hd hs fun fo s c' hr => ?_
  rw [hG] at hr
  refine (callRes_fn hcl h.toS (args_ev h hl) hr).congr ?_
  simp only [execOp,hoc,resolve,hcal,Act.eval,Deferred.ofValue,Sem.run_bind,Sem.run_pure,Result.andThen_ok,invoke,Array.empty_append,Array.append_empty]
 · -- a value
  obtain ⟨dst,op,gd⟩:=ao
  simp only at hao hdst
  subst hao hdst
  rw [show zOp cx cl ⟨o.dst,.callv g l,gd⟩ x=callFn cx cl o.dst x (g.ev cx.G x.t) (evs l cx.G x.t) from rfl,callFn_raw,hG] at hs
  refine call_did h ho hw (by rw [hoc]; exact fun _ e=>by cases e) hd hs fun fo s c' hr => ?_
  refine (raw_sound hcl hM h.toS (arg_rel h hg) (args_ev h hl) hr).congr ?_
  simp only [execOp,hoc,resolve,hcal]
 · -- a method
  obtain ⟨dst,op,gd⟩:=ao
  simp only at hao hdst
  subst hao hdst
  have hs':zo_inv m g l cx cl o.dst x = .ok out y:=hs
  unfold zo_inv at hs'
  rw [hG] at hs'
  split at hs'
  ·rename_i t v he
   unfold callM at hs'
   cases hm:cx.M t m with
   | none=>rw [hm] at hs'; cases hs'
   | some f=>
    rw [hm] at hs'
    refine call_did h ho hw (by rw [hoc]; exact fun _ e=>by cases e) hd hs' fun fo s c' hr => ?_
    have hrecv:=arg_rel h hg
    rw [he] at hrecv
    refine (callRes_method hcl hM h.toS (vals := #[a.eval r]++c.args.map a.eval) ?_ hm hr #[]).congr ?_
    ·simp only [Array.toList_append,List.cons_append,List.nil_append]
     exact VRels.cons hrecv (args_ev h hl)
    ·simp only [execOp,hoc,resolve,hcal,Sem.run_bind,Sem.run_pure,Result.andThen_ok]
  ·cases hs'
 · -- a panic
  obtain ⟨dst,op,gd⟩:=ao
  simp only at hao hdst
  subst hao hdst
  have hs':zo_pan g cx cl o.dst x = .ok out y:=hs
  unfold zo_pan at hs'
  rw [hG] at hs'
  have hv:=arg_rel h hg
  split at hs'
  ·rename_i t v he
   cases hs'
   rw [he] at hv
   have hv':=hv
   simp only [VRel] at hv
   obtain ⟨u,hu,_⟩:=hv
   have hg':=fstepG_op (P:=E.P) (b:=b) (k:=k) (cs:=cs) (w:=w) (rest:=rest) ho hw (.inr (by rw [hoc]; exact fun _ e=>by cases e))
   refine ⟨a,w,μ,.pan [{ v:=a.eval y',recovered:=false }],h,fun _ _=>rfl,Fr.refl _ _ _ _,rfl,⟨_,rfl,?_⟩,.inRegion ops (i::rest)::k,rfl,.one (step_lone_go ?_)⟩
   ·simp only [ChRel]
    exact ⟨_,_,rfl,hv',rfl⟩
   ·rw [hg',←fat_raise]
    refine apply_panic ?_
    simp only [execOp,hoc,Instr.panic,hu,Sem.run_bind]
    rfl
  ·cases hs'
 · -- a deferred call
  obtain ⟨dst,op,gd⟩:=ao
  simp only at hao hdst
  subst hao hdst
  have hs':zo_dfr g l cx cl o.dst x = .ok out y:=hs
  unfold zo_dfr at hs'
  rw [hG] at hs'
  have hv:=arg_rel h hg
  split at hs'
  ·rename_i fn p q he
   cases hr:x.r with
   | some nm=>rw [hr] at hs'; cases hs'
   | none=>
    rw [hr] at hs'
    have hs2:R.ok Out.normal ⟨putT o.dst x.t .un,x.s,x.c,(.fn fn p q,evs l E.G x.t)::x.d,none⟩ = .ok out y:=hs'
    cases hs2
    rw [he] at hv
    have hv':=hv
    simp only [VRel] at hv
    obtain ⟨va,vb,hu,_,_⟩:=hv
    have hro':b.roundOf=none:=by rw [hr] at hro; exact hro
    have hg':=fstepG_op (P:=E.P) (b:=b) (k:=k) (cs:=cs) (w:=w) (rest:=rest) ho hw (.inl hro')
    let df:Deferred:={ target := .fn fn vb,args:=va++c.args.map a.eval }
    have hR:Rel E M0 w0 N μ { a with defers:=df::a.defers } w ⟨x.t,x.s,x.c,(.fn fn p q,evs l E.G x.t)::x.d,none⟩:=
     h.toS.frame h.n h.tm (by
      simp only [DfRel]
      exact ⟨fn,va,vb,c.args.map a.eval,a.defers,by rw [←hu]; exact hv',args_ev h hl,rfl,h.defers⟩)
    refine ⟨({ a with defers:=df::a.defers }:Act).put o.dst undef,w,μ,.normal,?_,fun n hn=>(put_other _ _ _ n hn).trans rfl,Fr.refl _ _ _ _,hr.symm,rfl,?_⟩
    ·have:=hR.put (dst:=o.dst) (d := .un) (v:=undef) hd (by simp only [VRel])
     revert this
     cases o.dst <;> exact id
    ·refine .one (step_lone_go ?_)
     rw [hg',←hfin]
     refine (apply_defer (d:=df) (w':=w) ?_).trans rfl
     simp only [execOp,hoc,resolve,hcal,hu,Deferred.ofValue,Sem.run_bind,Sem.run_pure,Result.andThen_ok,df]
  ·cases hs'
 · -- recover
  obtain ⟨dst,op,gd⟩:=ao
  simp only at hao hdst
  subst hao hdst
  cases hs
theorem op_did {cl:CL} {cx:Cx} (hcl:CallOK E cl) (hM:∀ t n f,cx.M t n=some f→methF E.P t n=some f) (hG:cx.G=E.G) (h:Rel E M0 w0 N μ a w x) (hro:RoundOK b x.r μ)
  {ops:Array Oper} {i:Nat} {rest:List Nat} {o:Oper} {ao:AOper} (hc:cOper E.P N ops o=some ao) (ho:ops[i]?=some o) (hw:Region.wanted o (yielded ops a.tmps)=true)
  {out:Out} {y:AS} (hs:zOp cx cl ao x = .ok out y):Did E M0 w0 N μ w x (lone (fat b a (.inRegion ops (i::rest)::k)) cs w) b (.inRegion ops rest::k) cs out y:=
 (op_didA hcl hM hG h hro hc ho hw hs).did
end
end Zv
namespace Zv
open Go
section
variable {E:Env} {M0:Nat→Prop} {w0:World} {N:Nat} {μ:Mu} {M:Nat→Prop} {a:Act} {w:World} {x:AS} {b:Frame} {k:List Item} {cs:List Frame}
theorem Did.bind {m:Machine} {k1:List Item} {cs1:List Frame} {out:Out} {y z:AS} (h1:Did E M0 w0 N μ w x m b k1 cs1 .normal z)
  (h2:∀ a' w' μ',Rel E M0 w0 N μ' a' w' z→muLe μ μ'→z.r=x.r→Did E M0 w0 N μ' w' z (lone (fat b a' k1) cs1 w') b k cs out y):Did E M0 w0 N μ w x m b k cs out y:=by
 obtain ⟨a1,w1,μ1,ou1,r1,f1,e1,o1,n1⟩:=h1
 cases o1
 obtain ⟨a2,w2,μ2,ou2,r2,f2,e2,o2,n2⟩:=h2 a1 w1 μ1 r1 f1.mu e1
 exact ⟨a2,w2,μ2,ou2,r2,f1.trans f2,e2.trans e1,o2,n2.of_steps n1⟩
theorem OuRel.normal_iff {out:Out} {ou:Ou} (h:OuRel (Mm M0 μ) w μ out ou) (hn:out ≠ .normal):ou ≠ .normal:=by
 cases out with
 | normal=>exact absurd rfl hn
 | exit i=>rw [show ou = .exit i from h]; intro e; cases e
 | ret=>rw [show ou = .ret from h]; intro e; cases e
 | pan c=>obtain ⟨ch,rfl,_⟩:=h; intro e; cases e
theorem Did.pass {m:Machine} {it:Item} {out:Out} {y:AS} (hx:∀ id,jumpTo id (it::k)=jumpTo id k) (hn:out ≠ .normal) (h:Did E M0 w0 N μ w x m b (it::k) cs out y) :
  Did E M0 w0 N μ w x m b k cs out y:=by
 obtain ⟨a1,w1,μ1,ou1,r1,f1,e1,o1,n1⟩:=h
 exact ⟨a1,w1,μ1,ou1,r1,f1,e1,o1,n1.pass hx (o1.normal_iff hn)⟩
theorem zbind_inv {r:R} {f:AS→R} {out:Out} {y:AS} (h:zbind r f = .ok out y):∃ o z,r = .ok o z∧((o = .normal∧f z = .ok out y)∨(o ≠ .normal∧out=o∧y=z)):=by
 cases r with
 | no=>cases h
 | ok o z=>
  refine ⟨o,z,rfl,?_⟩
  cases o with
  | normal=>exact .inl ⟨rfl,h⟩
  | exit i=>have h':R.ok (.exit i) z = .ok out y:=h; cases h'; exact .inr ⟨nofun,rfl,rfl⟩
  | ret=>have h':R.ok .ret z = .ok out y:=h; cases h'; exact .inr ⟨nofun,rfl,rfl⟩
  | pan c=>have h':R.ok (.pan c) z = .ok out y:=h; cases h'; exact .inr ⟨nofun,rfl,rfl⟩
theorem Did.zbind {m:Machine} {it:Item} {r:R} {f:AS→R} {out:Out} {y:AS} (hx:∀ id,jumpTo id (it::k)=jumpTo id k) (hs:zbind r f = .ok out y)
  (h1:∀ o z,r = .ok o z→Did E M0 w0 N μ w x m b (it::k) cs o z)
  (h2:∀ z a' w' μ',Rel E M0 w0 N μ' a' w' z→muLe μ μ'→z.r=x.r→f z = .ok out y→Did E M0 w0 N μ' w' z (lone (fat b a' (it::k)) cs w') b k cs out y) :
  Did E M0 w0 N μ w x m b k cs out y:=by
 obtain ⟨o,z,hr,ho⟩:=zbind_inv hs
 rcases ho with ⟨rfl,hf⟩|⟨hn,rfl,rfl⟩
 ·exact (h1 _ _ hr).bind fun a' w' μ' g1 g2 g3=>h2 z a' w' μ' g1 g2 g3 hf
 ·exact (h1 _ _ hr).pass hx hn
theorem tmp_bool (h:Rel E M0 w0 N μ a w x) {g:Nat} {c:Bool} (hg:tget x.t g = .bool c):a.tmps[g]?=some (.bool c):=by
 have:=h.tm g
 rw [hg] at this
 simp only [VRel] at this
 rw [Array.getD_eq_getD_getElem?] at this
 cases he:a.tmps[g]? with
 | none=>rw [he] at this; simp [undef] at this
 | some v=>rw [he] at this; simp only [Option.getD_some] at this; rw [this]
theorem tmp_skip (h:Rel E M0 w0 N μ a w x) {g:Nat} (hg:tget x.t g = .tup []):a.tmps[g]?=none∨a.tmps[g]?=some (.tuple #[]):=by
 have:=h.tm g
 rw [hg] at this
 simp only [VRel] at this
 obtain ⟨vs,hv,hr⟩:=this
 simp only [VRels] at hr
 rw [Array.getD_eq_getD_getElem?] at hv
 cases he:a.tmps[g]? with
 | none=>exact .inl rfl
 | some v=>
  rw [he] at hv; simp only [Option.getD_some] at hv
  right; rw [hv,show vs = #[] from Array.toList_eq_nil_iff.1 hr]
theorem wanted_rel (h:Rel E M0 w0 N μ a w x) {ops:Array Oper} {o:Oper} {ao:AOper} (hg:cGuard ops o.guard=some ao.guard) {c:Bool} (hs:wanted ao x=some c) :
  Region.wanted o (yielded ops a.tmps)=c:=by
 unfold wanted at hs
 cases hgd:o.guard with
 | none=>
  rw [hgd] at hg
  simp only [cGuard,Option.some.injEq] at hg
  rw [←hg] at hs
  cases hs
  simp [Region.wanted,hgd]
 | some p=>
  obtain ⟨j,want⟩:=p
  rw [hgd] at hg
  simp only [cGuard,Option.bind_eq_bind,Option.bind_eq_some_iff,Option.some.injEq] at hg
  obtain ⟨oj,hoj,t,ht,hg⟩:=hg
  rw [←hg] at hs
  dsimp only at hs
  split at hs
  ·rename_i d hd
   cases hs
   have hy:yielded ops a.tmps j=some d:=by simp [yielded,hoj,ht,tmp_bool h hd]
   simp only [Region.wanted,hgd,hy]
   cases d <;> cases want <;> rfl
  ·rename_i hd
   cases hs
   have hy:yielded ops a.tmps j=none:=by
    rcases tmp_skip h hd with e|e <;> simp [yielded,hoj,ht,e]
   simp [Region.wanted,hgd,hy]
  ·cases hs
theorem zOps_cons (cx:Cx) (cl:CL) (o:AOper) (r:List AOper) (x:AS):zOps cx cl (o::r) x=match wanted o x with
  | none => .no
  | some true=>zbind (zOp cx cl o x) (zOps cx cl r)
  | some false=>zOps cx cl r (x.put o.dst (.tup [])):=by
 show Option.rec (motive:=fun _=>R) .no (zops_want o (fun cx cl x=>zOps cx cl r x) cx cl x) (wanted o x)=_
 cases wanted o x with
 | none=>rfl
 | some c=>
  cases c with
  | true=>rfl
  | false=>
   obtain ⟨dst,op,g⟩:=o
   cases dst <;> rfl
theorem put_r (x:AS) (dst:Option Nat) (d:D):(x.put dst d).r=x.r∧(x.put dst d).s=x.s:=by cases dst <;> exact ⟨rfl,rfl⟩
theorem ops_did {cl:CL} {cx:Cx} (hcl:CallOK E cl) (hM:∀ t n f,cx.M t n=some f→methF E.P t n=some f) (hG:cx.G=E.G) {ops:Array Oper} :
  ∀ {l:List Oper} {idx:List Nat} {as:List AOper} {μ:Mu} {a:Act} {w:World} {x:AS},Rel E M0 w0 N μ a w x→RoundOK b x.r μ→idx.map (ops[·]?)=l.map some→cOpers E.P N ops l=some as →
   ∀ {out:Out} {y:AS},zOps cx cl as x = .ok out y→Did E M0 w0 N μ w x (lone (fat b a (.inRegion ops idx::k)) cs w) b k cs out y:=by
 intro l
 induction l with
 | nil=>
  intro idx as μ a w x h hro hi hc out y hs
  simp only [List.map_nil,List.map_eq_nil_iff] at hi
  subst hi
  simp only [cOpers,Option.some.injEq] at hc
  subst hc
  have hs':R.ok .normal x = .ok out y:=hs
  cases hs'
  exact ⟨a,w,μ,.normal,h,Fr.refl _ _ _ _,rfl,rfl,.one fstep_region_end⟩
 | cons o l ih=>
  intro idx as μ a w x h hro hi hc out y hs
  cases idx with
  | nil=>cases hi
  | cons i rest=>
   simp only [List.map_cons,List.cons.injEq] at hi
   obtain ⟨hio,hi⟩:=hi
   simp only [cOpers,Option.bind_eq_bind,Option.bind_eq_some_iff,Option.some.injEq] at hc
   obtain ⟨ao,hao,r,hr,rfl⟩:=hc
   rw [zOps_cons] at hs
   obtain ⟨hop,hdst,hgd,hd⟩:=cOper_spec hao
   cases hwd:wanted ao x with
   | none=>rw [hwd] at hs; cases hs
   | some c=>
    have hw:=wanted_rel h hgd hwd
    rw [hwd] at hs
    cases c with
    | true=>
     exact Did.zbind (it := .inRegion ops rest) (fun _=>rfl) hs (fun o' z hz=>op_did hcl hM hG h hro hao hio hw hz)
      (fun z a' w' μ' g1 g2 g3 hf=>ih g1 (by rw [g3]; exact hro.mono g2) hi hr hf)
    | false=>
     have hput:Rel E M0 w0 N μ (a.put o.dst undef) w (x.put ao.dst (.tup [])):=by
      rw [hdst]; exact h.put hd (by simp only [VRel]; exact ⟨#[],rfl,rfl⟩)
     have hst:=fstep_op_skip (P:=E.P) (b:=b) (a:=a) (k:=k) (cs:=cs) (w:=w) (ops:=ops) (i:=i) (rest:=rest) (by simp [hio,hw])
     simp only [hio,Option.bind_some] at hst
     have hD:=ih hput (by rw [(put_r x _ _).1]; exact hro) hi hr hs
     refine Did.of_steps (.one hst) ?_
     obtain ⟨a',w',μ',ou,h1,h2,h3,h4,h5⟩:=hD
     exact ⟨a',w',μ',ou,h1,by revert h2; cases ao.dst <;> exact id,h3.trans (put_r x _ _).1,h4,h5⟩
theorem region_did {cl:CL} {cx:Cx} (hcl:CallOK E cl) (hM:∀ t n f,cx.M t n=some f→methF E.P t n=some f) (hG:cx.G=E.G) {ops:Array Oper} {as:List AOper} (h:Rel E M0 w0 N μ a w x) (hro:RoundOK b x.r μ)
  (hc:cOpers E.P N ops ops.toList=some as) {id:Nat} {out:Out} {y:AS} (hs:zOps cx cl as x = .ok out y) :
  Did E M0 w0 N μ w x (lone (fat b a (.code (.region id ops false)::k)) cs w) b k cs out y:=by
 refine Did.of_steps (.one fstep_region) (ops_did hcl hM hG h hro ?_ hc hs)
 apply List.ext_getElem?
 intro j
 simp only [List.getElem?_map,List.getElem?_range]
 by_cases hj:j<ops.size
 ·simp [hj]
 ·simp [hj]
end
end Zv
namespace Zv
open Go
def AllocRes (P:Program) (μ:Mu) (M:Nat→Prop) (w:World) (v:Nat→D) (blk:Blk) (r:Result Next):Prop:=
 ∃ u w' obj cap,r = .ok (.value u) w'∧w'.heap=w.heap.push obj∧Env0 w w' ∧
  ∀ (M':Nat→Prop) (w'':World) (μ':Mu) (nm:Nat),Ext M w M' w''→muLe μ μ'→μ' nm=some ⟨some w.heap.size,cap⟩ →
   VRel M' w'' μ' (v nm) u∧(M' w.heap.size→w''.heap[w.heap.size]?=some obj→BRel P M' w'' μ' nm blk)
section
variable {E:Env} {M0:Nat→Prop} {w0:World} {N:Nat} {μ:Mu} {M:Nat→Prop} {a:Act} {w:World} {x:AS}
theorem al_new (h:Rel E M0 w0 N μ a w x) {ar:Arg} {v:Value} (hv:VRel (Mm M0 μ) w μ (ar.ev E.G x.t) v) {e:TypeId} {vf:Nat→D} {blk:Blk}
  (hs:allocOf E.G (.new (e+1) ar) x.t=some (vf,blk)) {s:Sem Value} (hrun:s.run E.P w = .ok (.pointer (some ⟨w.heap.size,0,none⟩)) { w with heap:=w.heap.push (.cells v.cells e) }) :
  AllocRes E.P μ (Mm M0 μ) w vf blk ((do pure (.value (←s)):Sem Next).run E.P w):=by
 simp only [allocOf] at hs
 split at hs
 ·rename_i cs hcs
  cases hs
  have hr:=cells_rel hcs hv
  refine ⟨_,_,.cells v.cells e,cs.length,run_value hrun,rfl,⟨rfl,rfl⟩,fun M' w'' μ' nm hx hmle hm=>⟨?_,fun hM hb=>⟨_,_,_,_,_,hm,rfl,rfl,hM,hb,thaw0 _,VRels.mono hx _ _ hmle hr,fun k hk=>by first|exact Nat.add_right_cancel hk|exact absurd hk.symm (Nat.succ_ne_zero k)⟩⟩⟩
  simp only [VRel]
  exact ⟨_,_,hm,rfl,rfl⟩
 ·cases hs
theorem al_bsl (h:Rel E M0 w0 N μ a w x) {t e:TypeId} {len s:Nat} {ps:Array (Nat × Operand)} {zd:D} {zc:List D} (hu:E.P.underlying t=some (.slice e)) (hsz:szOf E.P e=some s)
  (hz:zeroOf E.P e=some zd) (hzc:zd.cells?=some zc) (hle:Nat.ble (len*s) 16777216=true) (hzl:Nat.beq zc.length s=true) {l:List (Nat × Nat × Arg)}
  (hl:ps.toList.mapM (fun (p:Nat × Operand)=>do
    let a ←cArg p.2
    some (p.1*s,s,a))=some l) {v:Nat→D} {blk:Blk}
  (hs:allocOf E.G (.bsl len s (repAt len s zc) l) x.t=some (v,blk)):AllocRes E.P μ (Mm M0 μ) w v blk ((do pure (.value (←Instr.buildSlice t len (ps.map fun (i,x)=>(i,a.eval x)))):Sem Next).run E.P w):=by
 simp only [allocOf,Option.map_eq_some_iff] at hs
 obtain ⟨out,ho,he⟩:=hs
 cases he
 have hzl':=Nat.eq_of_beq_eq_true hzl
 have hle':=Nat.le_of_ble_eq_true hle
 simp only [zeroOf,Option.bind_eq_bind,Option.bind_eq_some_iff] at hz
 obtain ⟨i,hi,v,hv,hz⟩:=hz
 have hzr:=cells_rel hzc (ofV_rel (M0:=M0) (w:=w) (μ:=μ) _ _ _ hz)
 let zs:Array Value:=if len*s=0 then #[] else v.cells
 have hrep:VRels (Mm M0 μ) w μ (repAt len s zc) ((Array.range (len*s)).map fun i=>zs[i % zs.size]!).toList:=by
  unfold repAt
  by_cases h0:len*s=0
  ·rw [h0]; simp; exact VRels.nil
  ·rw [beq_ne h0]
   have:zs=v.cells:=if_neg h0
   rw [this]
   exact zero_rep hzr len s hzl' _ rfl
 obtain ⟨arr,hfill,hr⟩:=fill_rel h (fun i=>some (i*s,s)) _ (fun p q hq=>by
  simp only [Option.bind_eq_bind,Option.bind_eq_some_iff,Option.some.injEq] at hq
  obtain ⟨ar,har,rfl⟩:=hq
  exact ⟨rfl,har⟩) ps.toList l hl _ out _ hrep ho
 have hol:out.length=len*s:=by
  have place_len:∀ (l:List (Nat × Nat × D)) (cs out:List D),place cs l=some out→out.length=cs.length:=by
   intro l
   induction l with
   | nil=>intro cs out h; simp [place] at h; subst h; rfl
   | cons p l ih=>
    intro cs out h
    obtain ⟨o1,n1,d1⟩:=p
    simp only [place] at h
    split at h
    ·rename_i c hc
     cases hcond:(Nat.beq c.length n1&&Nat.ble (o1+n1) cs.length) <;> rw [hcond] at h
     ·cases h
     ·rw [ih _ _ h,setAt_length]
    ·cases h
  rw [place_len _ _ _ ho]
  unfold repAt
  by_cases h0:len*s=0
  ·rw [h0]; simp
  ·rw [beq_ne h0]; simp [rep,hzl']
 refine ⟨.slice (some ⟨w.heap.size,0,none⟩) len len,{ w with heap:=w.heap.push (.cells arr e) },.cells arr e,out.length,run_value ?_,rfl,⟨rfl,rfl⟩,fun M' w'' μ' nm hx hmle hm=>⟨?_,fun hM hb=>⟨_,_,_,_,_,hm,rfl,rfl,hM,hb,thaw0 _,VRels.mono hx _ _ hmle hr,fun k hk=>by first|exact Nat.add_right_cancel hk|exact absurd hk.symm (Nat.succ_ne_zero k)⟩⟩⟩
 ·have hp:(ps.map fun (p:Nat × Operand)=>(p.1,a.eval p.2)).toList=ps.toList.map fun p=>(p.1,a.eval p.2):=by simp
  have hgt:¬ len*s>2 ^ 24:=by omega
  simp only [Instr.buildSlice,Sem.run_bind,run_underlying hu,Result.andThen_ok,run_sizeOf' hsz,hgt,if_false]
  rw [show (ps.map fun (x:Nat × Operand)=>match x with|(i,x)=>(i,a.eval x))=ps.map fun p=>(p.1,a.eval p.2) from rfl,hp]
  by_cases h0:len*s=0
  ·have hz0:zs = #[]:=if_pos h0
   rw [hz0] at hfill
   simp only [h0,if_true,Sem.run_bind,Sem.run_pure,Result.andThen_ok] at hfill ⊢
   rw [hfill]
   simp [newRow]
  ·have hz0:zs=v.cells:=if_neg h0
   rw [hz0] at hfill
   simp only [h0,if_false,Sem.run_bind,Sem.run_pure,Result.andThen_ok,zeroValue,run_typeInfo' hi,hv]
   rw [hfill]
   simp [newRow]
 ·simp only [VRel]
  exact ⟨_,_,hm,rfl,rfl,Nat.le_refl _,by simp [hol]⟩
theorem al_mks (h:Rel E M0 w0 N μ a w x) {t e:TypeId} {i:TypeInfo} {zd:D} {zc:List D} (hu:E.P.underlying t=some (.slice e)) (hi:E.P.info? e=some i)
  (hz:zeroOf E.P e=some zd) (hzc:zd.cells?=some zc) (hzl:Nat.beq zc.length i.size=true) {o p:Operand} {lr cr:Arg} (h2:cArg o=some lr) (h3:cArg p=some cr) {vf:Nat→D} {blk:Blk}
  (hs:allocOf E.G (.mks i.size i.bytes zc lr cr) x.t=some (vf,blk)):AllocRes E.P μ (Mm M0 μ) w vf blk ((do pure (.value (←Instr.makeSlice t (a.eval o) (a.eval p))):Sem Next).run E.P w):=by
 have hv:=arg_rel h h2
 have hp:=arg_rel h h3
 simp only [allocOf] at hs
 split at hs
 ·rename_i k l j c he1 he2
  rw [he1] at hv; rw [he2] at hp
  simp only [VRel] at hv hp
  split at hs
  ·rename_i hcond
   obtain ⟨c1,c2,c3,c4⟩:=hcond
   cases hs
   have hzl':=Nat.eq_of_beq_eq_true hzl
   simp only [zeroOf,Option.bind_eq_bind,Option.bind_eq_some_iff] at hz
   obtain ⟨i',hi',v,hv',hz⟩:=hz
   rw [hi] at hi'; cases hi'
   have hzr:=cells_rel hzc (ofV_rel (M0:=M0) (w:=w) (μ:=μ) _ _ _ hz)
   have wl:IntKind.i64.wrap l=l:=by rw [←wrapD_eq]; exact wrapD_fits (by simp only [loK]; omega) (by simp only [hiK]; omega)
   have wc:IntKind.i64.wrap c=c:=by rw [←wrapD_eq]; exact wrapD_fits (by simp only [loK]; omega) (by simp only [hiK]; omega)
   let n:=c.toNat*i.size
   let zs:Array Value:=if n=0 then #[] else v.cells
   have hrep:VRels (Mm M0 μ) w μ (rep c.toNat zc) ((Array.range n).map fun k=>zs[k % zs.size]!).toList:=by
    by_cases h0:n=0
    ·have e0:(rep c.toNat zc)=[]:=by
      apply List.eq_nil_of_length_eq_zero
      simp [rep,hzl']
      simpa [n] using h0
     rw [h0,e0]; simp; exact VRels.nil
    ·have:zs=v.cells:=if_neg h0
     rw [this]
     exact zero_rep hzr c.toNat i.size hzl' n rfl
   refine ⟨.slice (some ⟨w.heap.size,0,none⟩) l.toNat c.toNat,{ w with heap:=w.heap.push (.cells ((Array.range n).map fun k=>zs[k % zs.size]!) e) },.cells ((Array.range n).map fun k=>zs[k % zs.size]!) e,(rep c.toNat zc).length,run_value ?_,rfl,⟨rfl,rfl⟩,fun M' w'' μ' nm hx hmle hm=>⟨?_,fun hM hb=>⟨_,_,_,_,_,hm,rfl,rfl,hM,hb,thaw0 _,VRels.mono hx _ _ hmle hrep,fun k hk=>by first|exact Nat.add_right_cancel hk|exact absurd hk.symm (Nat.succ_ne_zero k)⟩⟩⟩
   ·have hno:((decide (c<0)||decide ((i.bytes:Int)*c>2 ^ 48))||decide (l<0)||decide (l>c))=false:=by
     simp only [Bool.or_eq_false_iff,decide_eq_false_iff_not]
     refine ⟨⟨⟨by omega,by omega⟩,by omega⟩,by omega⟩
    simp only [Instr.makeSlice,hv,hp,asInt,asIntOf,Sem.run_bind,run_underlying hu,Result.andThen_ok,Sem.run_pure,run_typeInfo' hi,wl,wc]
    rw [if_neg (by rw [hno]; simp)]
    simp only [Sem.run_bind,Result.andThen_ok,run_askRoom,run_sizeOf' (show szOf E.P e=some i.size by simp [szOf,hi]),Sem.run_pure]
    rw [show c.toNat*i.size=n from rfl]
    by_cases h0:n=0
    ·have hz0:zs = #[]:=if_pos h0
     rw [hz0]
     simp [h0,newRow]
    ·have hz0:zs=v.cells:=if_neg h0
     rw [hz0]
     simp [h0,newRow,zeroValue,run_typeInfo' hi,hv']
   ·simp only [VRel]
    exact ⟨_,_,hm,rfl,rfl,by omega,by simp [rep,hzl']⟩
  ·cases hs
 ·cases hs
theorem alloc_res0 (h:Rel E M0 w0 N μ a w x) {o:Oper} {ao:AOp} (hc:cOp0 E.P o=some ao) {v:Nat→D} {blk:Blk} (hs:allocOf E.G ao x.t=some (v,blk)) :
  AllocRes E.P μ (Mm M0 μ) w v blk ((execOp a.eval o).run E.P w):=by
 have hcase:∀ op,o.op=op→AllocRes E.P μ (Mm M0 μ) w v blk ((execOp a.eval o).run E.P w):=by
  intro op ho
  have hc':=hc
  simp only [cOp0,ho] at hc
  cases op <;> (try simp only [reduceCtorEq] at hc)
  case alloc t=>
   simp only [Option.bind_eq_bind,Option.bind_eq_some_iff,Option.some.injEq] at hc
   obtain ⟨zd,hz,rfl⟩:=hc
   simp only [zeroOf,Option.bind_eq_bind,Option.bind_eq_some_iff] at hz
   obtain ⟨i,hi,v,hv,hz⟩:=hz
   simp only [execOp,ho]
   refine al_new (v:=v) (e:=t) h (by simp only [Arg.ev]; exact ofV_rel _ _ _ hz) hs ?_
   simp [Instr.alloc,zeroValue,run_typeInfo' hi,hv,newVar,newRow]
  case box t y=>
   simp only [Option.bind_eq_bind,Option.bind_eq_some_iff,Option.some.injEq] at hc
   obtain ⟨ar,h2,rfl⟩:=hc
   simp only [execOp,ho]
   refine al_new (v:=a.eval y) (e:=t) h (arg_rel h h2) hs ?_
   simp [Instr.box,newVar,newRow]
  case buildSlice t len ps=>
   simp only [execOp,ho]
   split at hc
   ·rename_i e hu
    simp only [Option.bind_eq_bind,Option.bind_eq_some_iff] at hc
    obtain ⟨s,hsz,zd,hz,l,hl,zc,hzc,hc⟩:=hc
    cases hcond:(Nat.ble (len*s) 16777216&&Nat.beq zc.length s) <;> rw [hcond] at hc
    ·cases hc
    simp only [Bool.and_eq_true] at hcond
    simp only [cond_true,Option.some.injEq] at hc
    subst hc
    exact al_bsl h hu hsz hz hzc hcond.1 hcond.2 hl hs
   ·cases hc
  case makeSlice t l c=>
   simp only [execOp,ho]
   split at hc
   ·rename_i e hu
    simp only [Option.bind_eq_bind,Option.bind_eq_some_iff] at hc
    obtain ⟨i,hi,zd,hz,zc,hzc,lr,h2,cr,h3,hc⟩:=hc
    cases hcond:(Nat.beq zc.length i.size) <;> rw [hcond] at hc
    ·cases hc
    simp only [cond_true,Option.some.injEq] at hc
    subst hc
    exact al_mks h hu hi hz hzc hcond h2 h3 hs
   ·cases hc
  case makeMap t r=>
   cases r with
   | some r=>simp only [reduceCtorEq] at hc
   | none=>
    simp only [Option.some.injEq] at hc
    subst hc
    simp only [allocOf,Option.some.injEq,Prod.mk.injEq] at hs
    obtain ⟨rfl,rfl⟩:=hs
    simp only [execOp,ho]
    refine ⟨.map (some w.heap.size),{ w with heap:=w.heap.push (.map #[] 0) },.map #[] 0,0,run_value ?_,rfl,⟨rfl,rfl⟩,fun M' w'' μ' nm hx hmle hm=>⟨?_,fun hM hb=>⟨_,_,_,hm,rfl,hM,hb,by simp [MEs]⟩⟩⟩
    ·simp [Instr.makeMap,newObj,Sem.run]
    ·simp only [VRel]
     exact ⟨_,_,hm,rfl,rfl⟩
  all_goals
   exfalso
   have hk:ao.kd≠1:=by
    clear hs
    revert hc
    intro hc
    repeat' (first|contradiction|(cases hc; exact (by decide))|(split at hc)|(simp only [Option.bind_eq_bind,Option.bind_eq_some_iff,Option.some.injEq,cond_eq_ite] at hc)|(obtain ⟨_,_,hc⟩:=hc))
    all_goals (intro hh; cases hh)
   have:ao.kd=1:=by
    unfold allocOf at hs
    split at hs <;> first|rfl|cases hs
   exact hk this
 exact hcase o.op rfl
theorem alloc_res (h:Rel E M0 w0 N μ a w x) {o:Oper} {ao:AOp} (hc:cOp E.P o=some ao) {v:Nat→D} {blk:Blk} (hs:allocOf E.G ao x.t=some (v,blk)) :
  AllocRes E.P μ (Mm M0 μ) w v blk ((execOp a.eval o).run E.P w):=by
 unfold cOp at hc
 split at hc
 ·rename_i op he
  cases hc
  rcases (cExt_kind he).1 with ⟨k,l,rfl⟩|⟨k,l,rfl⟩ <;> cases hs
 ·exact alloc_res0 h hc hs
theorem Rel.restrict (h:Rel E M0 w0 N μ a w x) {x':AS} (ht:∀ n,tget x'.t n=tget x.t n∨tget x'.t n = .un) (hs:∀ nm blk,sget x'.s nm=some blk→μ nm≠none→sget x.s nm=some blk)
  (hc:x.c≤x'.c) (hd:x'.d=x.d):Rel E M0 w0 N μ a w x':=
 {h with
  defers:=by rw [hd]; exact h.defers
  tm:=fun n=>by
   rcases ht n with e|e
   ·rw [e]; exact h.tm n
   ·rw [e]; simp only [VRel]
  st:=fun nm blk l hl hb=>h.st nm blk l hl (hs nm blk hb (by rw [hl]; simp))
  lt:=fun nm l hl=>Nat.lt_of_lt_of_le (h.lt nm l hl) hc
  inj:=fun n m l l' b h1 h2 e1 e2=>by
   obtain ⟨b1,hb1⟩:=Option.isSome_iff_exists.1 h1
   obtain ⟨b2,hb2⟩:=Option.isSome_iff_exists.1 h2
   exact h.inj n m l l' b (by rw [hs n b1 hb1 (by rw [e1]; simp)]; rfl) (by rw [hs m b2 hb2 (by rw [e2]; simp)]; rfl) e1 e2 }
theorem Rel.lift (h:Rel E M0 w0 N μ a w x) {s1:St} (hs1:∀ nm blk,sget s1 nm=some blk→μ nm≠none→sget x.s nm=some blk) {a':Act} {w':World} {μ':Mu} {x':AS}
  (h':Rel E M0 w0 N μ' a' w' x') (hf:Fr x.c s1 μ w x'.c x'.s μ' w') {s2:St} {t2:Tm}
  (hs2:∀ nm blk,sget s2 nm=some blk→μ' nm≠none→sget x'.s nm=some blk∨(sget x.s nm=some blk∧μ nm≠none∧sget s1 nm=none))
  (ht:∀ n,VRel (Mm M0 μ') w' μ' (tget t2 n) (a'.tmps.getD n undef)):Rel E M0 w0 N μ' a' w' ⟨t2,s2,x'.c,x'.d,x'.r⟩∧Fr x.c x.s μ w x'.c s2 μ' w':=by
 have hx:Ext (Mm M0 μ) w (Mm M0 μ') w':=hf.ext
 have live1:∀ b,Live s1 μ b→Live x.s μ b:=fun b ⟨nm,l,g1,g2,g3⟩=>by
  obtain ⟨bk,hbk⟩:=Option.isSome_iff_exists.1 g1
  exact ⟨nm,l,by rw [hs1 nm bk hbk (by rw [g2]; simp)]; rfl,g2,g3⟩
 -- a block outside of the part
 have aside:∀ nm blk l b,sget x.s nm=some blk→μ nm=some l→l.blk=some b→sget s1 nm=none→¬ Live s1 μ b:=by
  intro nm blk l b g1 g2 g3 g4 ⟨nm',l',e1,e2,e3⟩
  obtain ⟨bk,hbk⟩:=Option.isSome_iff_exists.1 e1
  have:=h.inj nm nm' l l' b (by rw [g1]; rfl) (by rw [hs1 nm' bk hbk (by rw [e2]; simp)]; rfl) g2 e2 g3 e3
  subst this
  rw [g4] at e1; cases e1
 have old:∀ nm,μ nm≠none→∃ l,μ nm=some l∧μ' nm=some l:=fun nm hn=>by
  cases hl:μ nm with
  | none=>exact absurd hl hn
  | some l=>exact ⟨l,rfl,hf.mu _ _ hl⟩
 refine ⟨{h' with
  tm:=ht
  st:=fun nm blk l hl hb=>by
   rcases hs2 nm blk hb (by rw [hl]; simp) with e|⟨e1,e2,e3⟩
   ·exact h'.st nm blk l hl e
   ·obtain ⟨l0,g1,g2⟩:=old nm e2
    refine BRel.mono hx hf.mu (fun l1 b1 k1 k2=>⟨?_,Mm.mono hf.mu⟩) (h.st nm blk l0 g1 e1)
    exact hf.same b1 (h.own nm l1 b1 k1 k2).2 (aside nm blk l1 b1 e1 k1 k2 e3)
  lt:=h'.lt
  inj:=fun n m l l' b s1' s2' e1 e2 e3 e4=>by
   obtain ⟨bn,hbn⟩:=Option.isSome_iff_exists.1 s1'
   obtain ⟨bm,hbm⟩:=Option.isSome_iff_exists.1 s2'
   rcases hs2 n bn hbn (by rw [e1]; simp) with f1|⟨f1,f2,f3⟩ <;> rcases hs2 m bm hbm (by rw [e2]; simp) with k1|⟨k1,k2,k3⟩
   ·exact h'.inj n m l l' b (by rw [f1]; rfl) (by rw [k1]; rfl) e1 e2 e3 e4
   ·exfalso
    obtain ⟨l0,g1,g2⟩:=old m k2
    rw [e2] at g2; cases g2
    have hb:=(h.own m l' b g1 e4).2
    exact aside m bm l' b k1 g1 e4 k3 (hf.live b hb ⟨n,l,by rw [f1]; rfl,e1,e3⟩)
   ·exfalso
    obtain ⟨l0,g1,g2⟩:=old n f2
    rw [e1] at g2; cases g2
    have hb:=(h.own n l b g1 e3).2
    exact aside n bn l b f1 g1 e3 f3 (hf.live b hb ⟨m,l',by rw [k1]; rfl,e2,e4⟩)
   ·obtain ⟨l0,g1,g2⟩:=old n f2
    rw [e1] at g2; cases g2
    obtain ⟨l1,g3,g4⟩:=old m k2
    rw [e2] at g4; cases g4
    exact h.inj n m l l' b (by rw [f1]; rfl) (by rw [k1]; rfl) g1 g3 e3 e4 },⟨hf.size,fun b hb hn=>hf.same b hb fun hl=>hn (live1 b hl),fun b hb hl => ?_,hf.mu,hf.cle,hf.kept,hf.new⟩⟩
 obtain ⟨nm,l,g1,g2,g3⟩:=hl
 obtain ⟨bk,hbk⟩:=Option.isSome_iff_exists.1 g1
 rcases hs2 nm bk hbk (by rw [g2]; simp) with e|⟨e1,e2,e3⟩
 ·exact live1 b (hf.live b hb ⟨nm,l,by rw [e]; rfl,g2,g3⟩)
 ·obtain ⟨l0,k1,k2⟩:=old nm e2
  rw [g2] at k2; cases k2
  exact ⟨nm,l,by rw [e1]; rfl,k1,g3⟩
theorem Rel.reserve (h:Rel E M0 w0 N μ a w x) {nm:Nat} (hn:μ nm=none) (hlt:nm<x.c) {blk:Blk} {obj:Obj} {cap:Nat} {w':World} (hw:w'.heap=w.heap.push obj) (he:Env0 w w')
  (hB:∀ M' w'' μ',Ext (Mm M0 μ) w M' w''→muLe μ μ'→μ' nm=some ⟨some w.heap.size,cap⟩→M' w.heap.size→w''.heap[w.heap.size]?=some obj→BRel E.P M' w'' μ' nm blk) :
  ∃ μ',Rel E M0 w0 N μ' a w' { x with s:=sadd x.s nm blk }∧muLe μ μ'∧Ext (Mm M0 μ) w (Mm M0 μ') w'∧μ' nm=some ⟨some w.heap.size,cap⟩∧(∀ n,n≠nm→μ' n=μ n) ∧
   (w.heap.size≤w'.heap.size∧(∀ b,b<w.heap.size→w'.heap[b]?=w.heap[b]?)∧∀ b,b<w.heap.size→Live (sadd x.s nm blk) μ' b→Live x.s μ b):=by
 let μ':=muSet μ nm (some ⟨some w.heap.size,cap⟩)
 have hμ:∀ n,n≠nm→μ' n=μ n:=fun n e=>by simp [μ',muSet,e]
 have hμn:μ' nm=some ⟨some w.heap.size,cap⟩:=by simp [μ',muSet]
 have hle:muLe μ μ':=fun n l hl=>by
  rw [hμ n fun e=>by rw [e,hn] at hl; cases hl]; exact hl
 have hget:∀ b,b<w.heap.size→w'.heap[b]?=w.heap[b]?:=fun b hb=>by
  rw [hw,Array.getElem?_push_lt hb,Array.getElem?_eq_getElem hb]
 have hsz:w'.heap.size=w.heap.size+1:=by rw [hw]; simp
 have hnew:∀ b,b<w.heap.size→Nm μ' b→Nm μ b:=fun b hlt' ⟨k,l,hl,hlb⟩=>by
  by_cases hk:k=nm
  ·rw [hk,hμn] at hl; cases hl; cases hlb; omega
  ·rw [hμ k hk] at hl; exact ⟨k,l,hl,hlb⟩
 have hx:Ext (Mm M0 μ) w (Mm M0 μ') w':=ext_mu (by omega) (fun b hb _=>hget b hb) hle hnew
 have hM:Mm M0 μ' w.heap.size := .inr ⟨nm,_,hμn,rfl⟩
 have hpush:w'.heap[w.heap.size]?=some obj:=by rw [hw]; simp
 refine ⟨μ',{h with
  size:=by have:=h.size; omega
  old:=fun b hb=>by rw [hget b (Nat.lt_of_lt_of_le hb h.size)]; exact h.old b hb
  env:=⟨he.1.trans h.env.1,he.2.trans h.env.2⟩
  defers:=DfRel.mono hx hle h.defers
  tm:=fun n=>VRel.mono hx _ _ hle (h.tm n)
  st:=fun k bk l hl hk=>by
   rw [sget_sadd] at hk
   by_cases e:k=nm
   ·rw [if_pos e] at hk; cases hk; rw [e]; exact hB (Mm M0 μ') w' μ' hx hle hμn hM hpush
   ·rw [if_neg e] at hk
    exact BRel.mono hx hle (fun l b hl hlb=>⟨hget b (h.own k l b hl hlb).2,Mm.mono hle⟩) (h.st k bk l (by rw [←hμ k e]; exact hl) hk)
  lt:=fun k l hl=>by
   by_cases e:k=nm
   ·rw [e]; exact hlt
   ·exact h.lt k l (by rw [←hμ k e]; exact hl)
  own:=fun k l b hl hlb=>by
   by_cases e:k=nm
   ·rw [e,hμn] at hl; cases hl; cases hlb
    exact ⟨h.size,by omega⟩
   ·have:=h.own k l b (by rw [←hμ k e]; exact hl) hlb
    exact ⟨this.1,by omega⟩
  inj:=fun n m l l' b s1 s2 e1 e2 e3 e4=>by
   rw [sget_sadd] at s1 s2
   by_cases en:n=nm <;> by_cases em:m=nm
   ·rw [en,em]
   ·rw [en,hμn] at e1; cases e1; cases e3
    rw [hμ m em] at e2
    have:=(h.own m l' _ e2 e4).2; omega
   ·rw [em,hμn] at e2; cases e2; cases e4
    rw [hμ n en] at e1
    have:=(h.own n l _ e1 e3).2; omega
   ·rw [if_neg en] at s1; rw [if_neg em] at s2
    rw [hμ n en] at e1; rw [hμ m em] at e2
    exact h.inj n m l l' b s1 s2 e1 e2 e3 e4 },hle,hx,hμn,hμ,by omega,hget,fun b hb hl => ?_⟩
 obtain ⟨k,l,g1,g2,g3⟩:=hl
 by_cases e:k=nm
 ·rw [e,hμn] at g2; cases g2; cases g3; omega
 ·rw [sget_sadd,if_neg e] at g1
  exact ⟨k,l,g1,by rw [←hμ k e]; exact g2,g3⟩
end
end Zv
