/- What functions come to: types, first part. Conditions: none. -/
import Derived.Test.YtnpoohbeicakkaaGreatDoorZAO
import Derived.Lib.TrimUEq
import Derived.Lib.RuneCount
import Derived.Lib.MapLaws
set_option linter.unusedVariables false
set_option linter.unusedSimpArgs false
set_option maxRecDepth 100000
namespace Zv
open Go
noncomputable section
theorem c74(n:Nat){ss:List (List UInt8)}{d e:D}(hd:Sl 1 iC ss d)(hen:eU e=false)(b a:Int):cl n 74 [.agg [d,e,.int .i64 b],.int .i64 a]=some (.bool (decide (0≤a)&&decide (a<(ss.length:Int))),true):=by
 rw[cK (A:=A74) rfl n _ rfl,show A74.body=B74 from rfl]
 simp only[B74,Ab.abq];cases h1:decide (0≤a)
 ·simp only[z0,seval,hd.nag,hen,h1,A74];rfl
 ·simp only[z0,seval,hd.nag,hen,h1,hd.len,A74];rfl
theorem c72(n:Nat){ss:List (List UInt8)}{us:List Nat}{d e:D}(hd:Sl 1 iC ss d)(he:Sl 1 u8C us e)(hu:iM us)(hs:oS ss)(hC:CHK ss us=e2 0 0)(hul:us.length=ss.length)(h1:1≤ss.length)(h8:ss.length≤8):∃f,cl (n+8) 72 [.agg [d,e]]=some (.tup [.agg [d,e,.int .i64 (endI (uM us) ss.length)],.int .i64 0],f):=by
 rw[cK (A:=A72) rfl (n+8) _ rfl,show A72.body=B72 from rfl]
 simp only[B72,Ab.abq];have htk:dE [d,e] 0 (some 2)=some (.agg [d,e]):=rfl;have h59:=c59 (n+2) hd he hu hs;rw[hC]at h59;have h43:=c43 n hd he hu hs hC hul h1 h8;simp only[z0,seval,hd.nag,he.nag,htk,aF (f:=59) rfl,aF (f:=43) rfl,aQ,hd.fz,he.fz,h59,h43,fS,gW,bS,bM,eq_self,A72]
 rcases hd.2 with⟨rfl,_⟩|⟨ex,rfl⟩<;>rcases he.2 with⟨rfl,_⟩|⟨ex',rfl⟩<;>exact⟨_,rfl⟩
theorem c116(n:Nat){us:List Nat}{d e:D}(hdn:eU d=false)(he:Sl 1 u8C us e)(hu:iM us)(b0:Int){a:Nat}(ha:a<us.length)(b:Nat):cl n 116 [.agg [d,e,.int .i64 b0],.int .i64 (a:Nat),.int .i64 (b:Nat)]=some (.bool ((uM us a).testBit b),true):=by
 rw[cK (A:=A116) rfl n _ rfl,show A116.body=B116 from rfl]
 simp only[B116,Ab.abq];have hx:us[a]=uM us a:=(jX ha 0).symm;have hlt:uM us a >>> b<256:=Nat.lt_of_le_of_lt (Nat.shiftRight_le _ _) (lI hu a);have hand:jY .and (.int .u8 ((uM us a >>> b:Nat):Int)) (.int .u8 1)=some (.int .u8 ((uM us a >>> b&&&1:Nat):Int)):=iG (y:=1) hlt (by decide)
 have hbit:decide (((uM us a >>> b&&&1:Nat):Int)=1)=(uM us a).testBit b:=by
  rw[Nat.testBit_eq_decide_div_mod_eq,Nat.and_one_is_mod,Nat.shiftRight_eq_div_pow,dC,cI,cI];omega
 simp only[z0,seval,hdn,he.nag,he.ia1 ha,he.at1 ha,u8C,aT,hx,gH b (lI hu a),hand,hbit,A116];rfl
def K1:Nat:=1180591620717411303423
def K2:Nat:=1180591620717411303422
def K3:Nat:=1180591620717411303421
def K4:Nat:=1180591620717411303420
def K5:Nat:=1180591620717411303419
theorem zun:(∀f x,zloop KK f x=zbind (f x) (zloop K1 f))∧(∀f x,zloop K1 f x=zbind (f x) (zloop K2 f))∧(∀f x,zloop K2 f x=zbind (f x) (zloop K3 f))∧(∀f x,zloop K3 f x=zbind (f x) (zloop K4 f))∧(∀f x,zloop K4 f x=zbind (f x) (zloop K5 f)):=
 ⟨fun _ _=>rfl,fun _ _=>rfl,fun _ _=>rfl,fun _ _=>rfl,fun _ _=>rfl⟩
theorem remN{a c:Int}(h:0≤a)(hc:0<c):jY .rem (.int .i64 a) (.int .i64 c)=some (.int .i64 (a % c)):=by
 show(if IntKind.i64=IntKind.i64 then(if c=0 then none else some (D.int .i64 (a.tmod c))) else none)=_
 rw[aH rfl];show(if c=0 then none else some (D.int .i64 (a.tmod c)))=_
 rw[aD (by omega),Int.tmod_eq_emod_of_nonneg h]
theorem zop:type_of% @iS∧type_of% @qB∧type_of% @gI∧type_of% @jE∧type_of% @iK∧type_of% @mU∧type_of% @iF∧type_of% @gJ∧type_of% @fC∧type_of% @lW∧type_of% @sH∧type_of% @sE∧type_of% @sD∧type_of% @sG∧type_of% @jQ∧type_of% @fL:=
 ⟨@iS,@qB,@gI,@jE,@iK,@mU,@iF,@gJ,@fC,@lW,@sH,@sE,@sD,@sG,@jQ,@fL⟩
theorem tks{α:Type}:(∀l:List α,l.take 0=[])∧(∀(n:Nat) (a:α) l,(a::l).take (n+1)=a::l.take n)∧(∀p:α→Bool,[].all p=true)∧(∀(p:α→Bool) a l,(a::l).all p=(p a&&l.all p)):=
 ⟨fun _=>rfl,fun _ _ _=>rfl,fun _=>rfl,fun _ _ _=>rfl⟩
theorem nb:((True:Prop)=True)∧(∀p:Prop,[Decidable p]→decide (¬p) = !decide p)∧(∀a b:Int,(a≠b)=¬(a=b))∧(decide True=true)∧(decide False=false)∧((¬True)=False)∧((¬False)=True)∧((!true)=false)∧((!false)=true):=
 ⟨rfl,fun p=>by simp,fun _ _=>rfl,rfl,rfl,by simp,by simp,rfl,rfl⟩
structure Ty where
 kind:Int
 rank:Int
 a0:Int
 a1:Int
 data:Int
def tyC(t:Ty):List D:=[.int .i64 t.kind,.int .i64 t.rank,.int .i64 t.a0,.int .i64 t.a1,.int .i64 t.data]
def rB(n:Nat)(a:Int):Bool:=decide (0≤a)&&decide (a<(n:Int))
def xF(us:List Nat)(a b:Int):Bool:=(uM us a.toNat).testBit b.toNat
def tyE(us:List Nat)(low:Int)(t:Ty):Int:=
 if(t.kind≠1∧t.kind≠2)∨t.rank<0∨2<t.rank then 7 else
 if rB us.length t.a0=false∨rB us.length t.a1=false∨rB us.length t.data=false then 7 else
 if(t.rank=0∧t.a0≠low)∨(t.rank≤1∧t.a1≠low) then 6 else
 if(1≤t.rank∧xF us t.a0 t.data=false)∨(t.rank=2∧xF us t.a1 t.data=false) then 25 else 0
theorem cp2:(min 2 0=0)∧(min 2 1=1)∧(min 2 2=2)∧(∀a b:D,List.take 0 [a,b]=[])∧(∀a b:D,List.take 1 [a,b]=[a])∧(∀a b:D,List.take 2 [a,b]=[a,b])∧(∀a b:D,eS [a,b] 0 []=[a,b])∧(∀a b c:D,eS [a,b] 0 [c]=[c,b])∧(∀a b c d:D,eS [a,b] 0 [c,d]=[c,d])∧(∀a:Int,[D.int .i64 a].any eU=false)∧(∀a b:Int,[D.int .i64 a,.int .i64 b].any eU=false)∧(([]:List D).any eU=false):=
 ⟨rfl,rfl,rfl,fun _ _=>rfl,fun _ _=>rfl,fun _ _=>rfl,fun _ _=>rfl,fun _ _ _=>rfl,fun _ _ _ _=>rfl,fun _=>rfl,fun _ _=>rfl,rfl⟩
theorem tk2:(∀a b:Int,dE [.int .i64 a,.int .i64 b] 0 (some 2)=some (.agg [.int .i64 a,.int .i64 b]))∧(∀k r a b c:Int,dE [.int .i64 k,.int .i64 r,.int .i64 a,.int .i64 b,.int .i64 c] 2 (some 2)=some (.agg [.int .i64 a,.int .i64 b])):=
 ⟨fun _ _=>rfl,fun _ _ _ _ _=>rfl⟩
theorem f115(n j:Nat){S:St}{c:Nat}{d e:D}(hdn:eU d=false)(hen:eU e=false)(hdf:∀k s,frz false (k+1) s d=some d)(hef:∀k s,frz false (k+1) s e=some e){lw y y1 y2 y3 y4 yd:Int}(s0:sget S 0=some (.fix 119 [d,e,.int .i64 lw]))(s1:sget S 1=some (.fix 37 [.int .i64 y1,.int .i64 y2,.int .i64 y3,.int .i64 y4,.int .i64 yd])){b:Bool}
  (h:cl n 116 [.agg [d,e,.int .i64 lw],.int .i64 y,.int .i64 yd]=some (.bool b,true)):fn (n+1) (j+2) (.fn 115) [.int .i64 y,.ptr 0 0,.ptr 1 0] S c = .ok (.ret (.bool !b)) S c:=by
 rw[iN (f:=115) (A:=A115) rfl rfl rfl rfl (n+1) (j+1) _ _ _ rfl,show A115.body=B115 from rfl]
 simp only[B115,Ab.abq];have htk:dE [d,e,.int .i64 lw] 0 (some 3)=some (.agg [d,e,.int .i64 lw]):=rfl;simp only[z2,seval,s0,s1,hdn,hen,htk,aF (f:=116) rfl,aQ,hdf,hef,h,A115]
theorem uQ(cx:Cx)(k:CL)(dst:Option Nat)(a:Arg)(l:List Arg)(x:AS):zOp cx k ⟨dst,.callv a l,none⟩ x=kN cx k dst x (a.ev cx.G x.t) (evs l cx.G x.t):=rfl
theorem cf_fn(cx:Cx)(k:CL)(dst:Option Nat)(x:AS)(f:Nat)(a:D)(cs:List D):kN cx k dst x (.fn (.func f) [] cs) [a]=back dst x (k (.fn f) (a::cs) x.s x.c):=rfl
theorem f114(n j:Nat){S:St}{c:Nat}{d e:D}(hdn:eU d=false)(hen:eU e=false)(hdf:∀k s,frz false (k+1) s d=some d)(hef:∀k s,frz false (k+1) s e=some e){lw y1 k y3 y4 yd:Int}(s0:sget S 0=some (.fix 119 [d,e,.int .i64 lw]))(s1:sget S 1=some (.fix 37 [.int .i64 y1,.int .i64 k,.int .i64 y3,.int .i64 y4,.int .i64 yd])){b3 b4:Bool}
  (h3:cl n 116 [.agg [d,e,.int .i64 lw],.int .i64 y3,.int .i64 yd]=some (.bool b3,true)) (h4:cl n 116 [.agg [d,e,.int .i64 lw],.int .i64 y4,.int .i64 yd]=some (.bool b4,true)) {q:Nat} (hq:q≤2) :
  fn (n+1) (j+5) (.fn 114) [.ms 1 2 1 q 2,.fn (.func 115) [] [.ptr 0 0,.ptr 1 0]] S c = .ok (.ret (.bool (decide (1≤q) && !b3||decide (2≤q) && !b4))) S c:=by
 rw[iN (f:=114) (A:=A114) rfl rfl rfl rfl (n+1) (j+4) _ _ _ rfl,show A114.body=B114 from rfl]
 simp only[B114,Ab.abq];have e3:=f115 n (j+1) hdn hen hdf hef s0 s1 h3 (c:=c);have e4:=f115 n (j+1) hdn hen hdf hef s0 s1 h4 (c:=c);have hc:fn (n+1) (j+4) (.fn 162) [.ms 1 2 1 q 2,.fn (.func 115) [] [.ptr 0 0,.ptr 1 0]] S c = .ok (.ret (.int .i64 (if q=0 then -1 else bif !b3 then 0 else if q=1 then -1 else bif !b4 then 1 else -1))) S c:=by
  rw[iN (f:=162) (A:=A162) rfl rfl rfl rfl (n+1) (j+3) _ _ _ rfl,show A162.body=B162 from rfl]
  simp only[B162,Ab.abq];have hl:∀q,lenD false (.ms 1 2 1 q 2)=some q:=fun _=>rfl
  have i01:kQ 1 (.int .i64 0)=some 0:=rfl;have i02:kQ 2 (.int .i64 0)=some 0:=rfl;have i1:kQ 2 (.int .i64 1)=some 1:=rfl;have w1:dJ .i64 1=1:=rfl;have ia:kE 1 (.ms 1 2 1 1 2) (.int .i64 0)=some (.ptr 1 2)∧kE 1 (.ms 1 2 1 2 2) (.int .i64 0)=some (.ptr 1 2)∧kE 1 (.ms 1 2 1 2 2) (.int .i64 1)=some (.ptr 1 3):=⟨rfl,rfl,rfl⟩
  have k:((0:Nat):Int)=0∧((1:Nat):Int)=1∧((2:Nat):Int)=2:=⟨rfl,rfl,rfl⟩;have w2:dJ .i64 2=2:=rfl;obtain rfl|rfl|rfl:q=0∨q=1∨q=2:=by omega
  ·simp only[z2,seval,hl,k,zun,Int.reduceLT,nb,A162]
  all_goals (cases b3<;>cases b4)
  all_goals simp only[z2,seval,hl,k,ia,uQ,cf_fn,i01,i02,i1,w1,w2,zun,s1,e3,e4,Int.reduceLT,Int.reduceAdd,nb,A162]
 simp only[z2,seval,hc,A114];obtain rfl|rfl|rfl:q=0∨q=1∨q=2:=by omega
 all_goals (cases b3<;>cases b4<;>rfl)
theorem cmp2(a b c d:Int):pN (.ty (.parts [(0,none,.int),(1,none,.int)])) (.agg [.int .i64 a,.int .i64 b]) (.agg [.int .i64 c,.int .i64 d])=some (decide (a=c)&&decide (b=d)):=by
 have h:∀a b:Bool,(bif a then bif b then some true else some false else some false)=some (a&&b):=by decide
 exact h (a==c) (b==d)
set_option maxHeartbeats 2000000 in
theorem c73(n:Nat){ss:List (List UInt8)}{us:List Nat}{d e:D}(hd:Sl 1 iC ss d)(he:Sl 1 u8C us e)(hu:iM us)(hul:us.length=ss.length)(h8:us.length≤8)(lw:Int)(t:Ty):cl (n+1) 73 [.agg [d,e,.int .i64 lw],.agg (tyC t)]=some (.int .i64 (tyE us lw t),true):=by
 rw[cK (A:=A73) rfl (n+1) _ rfl,show A73.body=B73 from rfl]
 simp only[B73,Ab.abq];have htk:dE [d,e,.int .i64 lw] 0 (some 3)=some (.agg [d,e,.int .i64 lw]):=rfl;have h74:∀a:Int,cl n 74 [.agg [d,e,.int .i64 lw],.int .i64 a]=some (.bool (rB us.length a),true):=fun a=>by rw[c74 n hd he.nag lw a,rB,hul]
 by_cases hk:t.kind≠1∧t.kind≠2
 ·have hE:tyE us lw t=7:=aH (.inl hk);rw[hE];unfold tyC;simp only[z2,seval,hd.nag,he.nag,aK hk.1,aK hk.2,Int.reduceLT,Int.reduceLE,Int.reduceEq,nb,A73];rfl
 have hk':t.kind=1∨t.kind=2:=by omega
 by_cases hr0:t.rank<0
 ·have hE:tyE us lw t=7:=aH (.inr (.inl hr0));rw[hE];unfold tyC;rcases hk' with k|k<;>simp only[z2,seval,hd.nag,he.nag,k,bD hr0,Int.reduceLT,Int.reduceLE,Int.reduceEq,nb,A73]<;>rfl
 by_cases hr2:2<t.rank
 ·have hE:tyE us lw t=7:=aH (.inr (.inr hr2));rw[hE];unfold tyC;rcases hk' with k|k<;>simp only[z2,seval,hd.nag,he.nag,k,aK hr0,bD hr2,Int.reduceLT,Int.reduceLE,Int.reduceEq,nb,A73]<;>rfl
 have hE1:tyE us lw t=if rB us.length t.a0=false∨rB us.length t.a1=false∨rB us.length t.data=false then 7 else
   if(t.rank=0∧t.a0≠lw)∨(t.rank≤1∧t.a1≠lw) then 6 else
   if(1≤t.rank∧xF us t.a0 t.data=false)∨(t.rank=2∧xF us t.a1 t.data=false) then 25 else 0:=aD (by omega)
 rw[hE1];have i0:kQ 2 (.int .i64 0)=some 0:=rfl;have i1:kQ 2 (.int .i64 1)=some 1:=rfl;have j0:uO 2 (.int .i64 0)=some 0:=rfl;have j1:uO 2 (.int .i64 1)=some 1:=rfl;have j2:uO 2 (.int .i64 2)=some 2:=rfl;cases l0:rB us.length t.a0
 ·rw[aH (.inl rfl)];unfold tyC;rcases hk' with k|k<;>simp only[z2,seval,hd.nag,he.nag,k,aK hr0,aK hr2,htk,i0,i1,aF (f:=74) rfl,aQ,hd.fz,he.fz,h74,l0,Int.reduceLT,Int.reduceLE,Int.reduceEq,nb,A73]<;>rfl
 cases l1:rB us.length t.a1
 ·rw[aH (.inr (.inl rfl))];unfold tyC;rcases hk' with k|k<;>simp only[z2,seval,hd.nag,he.nag,k,aK hr0,aK hr2,htk,i0,i1,aF (f:=74) rfl,aQ,hd.fz,he.fz,h74,l0,l1,Int.reduceLT,Int.reduceLE,Int.reduceEq,nb,A73]<;>rfl
 cases ld:rB us.length t.data
 ·rw[aH (.inr (.inr rfl))];unfold tyC;rcases hk' with k|k<;>simp only[z2,seval,hd.nag,he.nag,k,aK hr0,aK hr2,htk,i0,i1,aF (f:=74) rfl,aQ,hd.fz,he.fz,h74,l0,l1,ld,Int.reduceLT,Int.reduceLE,Int.reduceEq,nb,A73]<;>rfl
 rw[aD (fun h=>by rcases h with h|h|h<;>cases h)]
 obtain⟨kd,rk,a0,a1,dt⟩:=t;dsimp only at *;have w:∀a:Int,rB us.length a=true→∃x:Nat,a=x∧x<us.length:=fun a h=>by
  rw[rB,bE,cI,cI]at h;exact⟨a.toNat,by omega,by omega⟩
 obtain⟨x0,rfl,g0⟩:=w _ l0;obtain⟨x1,rfl,g1⟩:=w _ l1;obtain⟨xd,rfl,gd⟩:=w _ ld;have q0:cl n 116 [.agg [d,e,.int .i64 lw],.int .i64 (x0:Nat),.int .i64 (xd:Nat)]=some (.bool (xF us (x0:Nat) (xd:Nat)),true):=c116 n hd.nag he hu lw g0 xd;have q1:cl n 116 [.agg [d,e,.int .i64 lw],.int .i64 (x1:Nat),.int .i64 (xd:Nat)]=some (.bool (xF us (x1:Nat) (xd:Nat)),true):=c116 n hd.nag he hu lw g1 xd
 clear w hE1;generalize xF us (x0:Nat) (xd:Nat)=b0 at *;generalize xF us (x1:Nat) (xd:Nat)=b1 at *;generalize (x0:Int)=y0 at *;generalize (x1:Int)=y1 at *;generalize (xd:Int)=yd at *;unfold tyC;have h114:∀(kd rk:Int) (S:St) (c q:Nat),sget S 0=some (.fix 119 [d,e,.int .i64 lw])→sget S 1=some (.fix 37 [.int .i64 kd,.int .i64 rk,.int .i64 y0,.int .i64 y1,.int .i64 yd])→q≤2 →
   fn (n+1) 4096 (.fn 114) [.ms 1 2 1 q 2,.fn (.func 115) [] [.ptr 0 0,.ptr 1 0]] S c = .ok (.ret (.bool (decide (1≤q) && !b0||decide (2≤q) && !b1))) S c:=fun kd rk S c q s0 s1 hq=>
  f114 n 4091 hd.nag he.nag hd.fz he.fz s0 s1 q0 q1 hq
 have hr:rk=0∨rk=1∨rk=2:=by omega
 rcases hr with rfl|rfl|rfl
 ·by_cases e1:lw=y1
  ·by_cases e0:lw=y0
   ·rw[aD (by simp[e0,e1];rw[←e0,e1]),aD (by simp)]
    rcases hk' with rfl|rfl<;>simp only[z2,seval,hd.nag,he.nag,eG,cX,AOp.kd,zop,tks,cC,dW,htk,i0,i1,aF (f:=74) rfl,aQ,hd.fz,he.fz,h74,l0,l1,ld,cmp2,Int.reduceLT,Int.reduceLE,Int.reduceEq,nb,eC,jG,jU,jA,tk2,bD e0,bD e1,h114 1 0,h114 2 0,eX,bW,fT,cp2,dV,dL,bJ,j0,j1,j2,aO,Nat.reduceMul,Nat.reduceSub,cZ,dX,A73]<;>rfl
   ·rw[aH (.inl ⟨rfl,fun h=>e0 h.symm⟩)]
    rcases hk' with rfl|rfl<;>simp only[z2,seval,hd.nag,he.nag,eG,cX,AOp.kd,zop,tks,cC,dW,htk,i0,i1,aF (f:=74) rfl,aQ,hd.fz,he.fz,h74,l0,l1,ld,cmp2,Int.reduceLT,Int.reduceLE,Int.reduceEq,nb,eC,jG,jU,jA,tk2,aK e0,bD e1,fT,cp2,dV,dL,bJ,j0,j1,j2,aO,Nat.reduceMul,Nat.reduceSub,cZ,dX,A73]<;>rfl
  ·rw[aH (.inr ⟨by decide,fun h=>e1 h.symm⟩)]
   by_cases e0:lw=y0
   ·rcases hk' with rfl|rfl<;>simp only[z2,seval,hd.nag,he.nag,eG,cX,AOp.kd,zop,tks,cC,dW,htk,i0,i1,aF (f:=74) rfl,aQ,hd.fz,he.fz,h74,l0,l1,ld,cmp2,Int.reduceLT,Int.reduceLE,Int.reduceEq,nb,eC,jG,jU,jA,tk2,bD e0,aK e1,fT,cp2,dV,dL,bJ,j0,j1,j2,aO,Nat.reduceMul,Nat.reduceSub,cZ,dX,A73]<;>rfl
   ·rcases hk' with rfl|rfl<;>simp only[z2,seval,hd.nag,he.nag,eG,cX,AOp.kd,zop,tks,cC,dW,htk,i0,i1,aF (f:=74) rfl,aQ,hd.fz,he.fz,h74,l0,l1,ld,cmp2,Int.reduceLT,Int.reduceLE,Int.reduceEq,nb,eC,jG,jU,jA,tk2,aK e0,aK e1,fT,cp2,dV,dL,bJ,j0,j1,j2,aO,Nat.reduceMul,Nat.reduceSub,cZ,dX,A73]<;>rfl
 ·by_cases e1:lw=y1
  ·rw[aD (by simp[e1])]
   cases b0
   ·rw[aH (by simp)]
    rcases hk' with rfl|rfl<;>simp only[z2,seval,hd.nag,he.nag,eG,cX,AOp.kd,zop,tks,cC,dW,htk,i0,i1,aF (f:=74) rfl,aQ,hd.fz,he.fz,h74,l0,l1,ld,cmp2,Int.reduceLT,Int.reduceLE,Int.reduceEq,nb,eC,jG,jU,jA,tk2,bD e1,h114 1 1,h114 2 1,eX,bW,fT,cp2,dV,dL,bJ,j0,j1,j2,aO,Nat.reduceMul,Nat.reduceSub,cZ,dX,A73]<;>rfl
   ·rw[aD (by simp)]
    rcases hk' with rfl|rfl<;>simp only[z2,seval,hd.nag,he.nag,eG,cX,AOp.kd,zop,tks,cC,dW,htk,i0,i1,aF (f:=74) rfl,aQ,hd.fz,he.fz,h74,l0,l1,ld,cmp2,Int.reduceLT,Int.reduceLE,Int.reduceEq,nb,eC,jG,jU,jA,tk2,bD e1,h114 1 1,h114 2 1,eX,bW,fT,cp2,dV,dL,bJ,j0,j1,j2,aO,Nat.reduceMul,Nat.reduceSub,cZ,dX,A73]<;>rfl
  ·rw[aH (.inr ⟨by decide,fun h=>e1 h.symm⟩)]
   rcases hk' with rfl|rfl<;>simp only[z2,seval,hd.nag,he.nag,eG,cX,AOp.kd,zop,tks,cC,dW,htk,i0,i1,aF (f:=74) rfl,aQ,hd.fz,he.fz,h74,l0,l1,ld,cmp2,Int.reduceLT,Int.reduceLE,Int.reduceEq,nb,eC,jG,jU,jA,tk2,aK e1,fT,cp2,dV,dL,bJ,j0,j1,j2,aO,Nat.reduceMul,Nat.reduceSub,cZ,dX,A73]<;>rfl
 ·rw[aD (by simp)]
  cases b0
  ·rw[aH (by simp)]
   rcases hk' with rfl|rfl<;>simp only[z2,seval,hd.nag,he.nag,eG,cX,AOp.kd,zop,tks,cC,dW,htk,i0,i1,aF (f:=74) rfl,aQ,hd.fz,he.fz,h74,l0,l1,ld,cmp2,Int.reduceLT,Int.reduceLE,Int.reduceEq,nb,eC,jG,jU,jA,tk2,h114 1 2,h114 2 2,eX,bW,fT,cp2,dV,dL,bJ,j0,j1,j2,aO,Nat.reduceMul,Nat.reduceSub,cZ,dX,A73]<;>rfl
  cases b1
  ·rw[aH (by simp)]
   rcases hk' with rfl|rfl<;>simp only[z2,seval,hd.nag,he.nag,eG,cX,AOp.kd,zop,tks,cC,dW,htk,i0,i1,aF (f:=74) rfl,aQ,hd.fz,he.fz,h74,l0,l1,ld,cmp2,Int.reduceLT,Int.reduceLE,Int.reduceEq,nb,eC,jG,jU,jA,tk2,h114 1 2,h114 2 2,eX,bW,fT,cp2,dV,dL,bJ,j0,j1,j2,aO,Nat.reduceMul,Nat.reduceSub,cZ,dX,A73]<;>rfl
  ·rw[aD (by simp)]
   rcases hk' with rfl|rfl<;>simp only[z2,seval,hd.nag,he.nag,eG,cX,AOp.kd,zop,tks,cC,dW,htk,i0,i1,aF (f:=74) rfl,aQ,hd.fz,he.fz,h74,l0,l1,ld,cmp2,Int.reduceLT,Int.reduceLE,Int.reduceEq,nb,eC,jG,jU,jA,tk2,h114 1 2,h114 2 2,eX,bW,fT,cp2,dV,dL,bJ,j0,j1,j2,aO,Nat.reduceMul,Nat.reduceSub,cZ,dX,A73]<;>rfl
theorem CHK_ord{ss:List (List UInt8)}{us:List Nat}(h:CHK ss us=e2 0 0):us.length=ss.length∧(1≤ss.length∧ss.length≤8)∧∀a,a<ss.length→kP ss.length (uM us) a=true:=by
 unfold CHK at h;rcases lY ss with⟨h1,h2⟩|⟨h1,a,er,h2,h3⟩
 ·rw[aH h1]at h;by_cases hl:us.length=ss.length
  ·rw[aH hl]at h;unfold ordD at h;refine⟨hl,(kY.1 h1).1,fun a ha=>?_⟩
   rcases eR (pH ss.length (uM us)) (rY ss.length (uM us)) ss.length 0 with⟨hb,h'⟩|⟨m,r,_,h2,h3,_,h5⟩
   ·have:=hb a (by omega) (by omega)
    unfold pH at this;cases hl:kP ss.length (uM us) a
    ·rw[hl]at this;cases this
    ·rfl
   ·rw[h5]at h;unfold pH at h3;cases hb:kP ss.length (uM us) m<;>rw[hb]at h3
    ·cases h3;exact absurd (lC h).2 (by decide)
    ·cases h3
  ·rw[aD hl]at h;exact absurd (lC h).2 (by decide)
 ·rw[aD (by rw[h1];decide),h2]at h;exact absurd (lC h).2 h3
theorem ord_trans{n:Nat}{u:Nat→Nat}(h:∀a,a<n→kP n u a=true){a b c:Nat}(ha:a<n)(hb:b<n)(hc:c<n)(h1:(u a).testBit b=true)(h2:(u b).testBit c=true):(u a).testBit c=true:=by
 have:=h a ha;simp only[kP,bE]at this;have h3:=iZ.1 this.2.2 b hb;simp only[okA,h1,cG,Bool.false_or,bE,Nat.beq_eq]at h3;have h4:((u b&&&(2 ^ n-1))&&&u a).testBit c=(u b&&&(2 ^ n-1)).testBit c:=by rw[h3.2]
 simpa[Nat.testBit_and,Nat.testBit_two_pow_sub_one,hc,h2]using h4
theorem sU{n:Nat}{u:Nat→Nat}(h:∀a,a<n→kP n u a=true){a:Nat}(ha:a<n):(u a).testBit a=true∧u a<2 ^ n:=by
 have:=h a ha;simp only[kP,bE,Nat.blt_eq]at this;exact⟨this.2.1,this.1⟩
theorem ord_anti{n:Nat}{u:Nat→Nat}(h:∀a,a<n→kP n u a=true){a b:Nat}(ha:a<n)(hb:b<n)(h1:(u a).testBit b=true)(h2:(u b).testBit a=true):a=b:=by
 have:=h a ha;simp only[kP,bE]at this;have h3:=iZ.1 this.2.2 b hb;simp only[okA,h1,h2,cG,Bool.false_or,Bool.or_false,bE,Nat.beq_eq]at h3;exact h3.1.symm
theorem has_low{ss:List (List UInt8)}{us:List Nat}(h:CHK ss us=e2 0 0):∃b,b<ss.length∧∀i,i<ss.length→(uM us b).testBit i=true:=by
 obtain⟨hl,⟨h1,h8⟩,ho⟩:=CHK_ord h;have hlat:=latD_good (CHK_lat h);have:∀k,k≤ss.length→∃b,b<ss.length∧∀i,i<k→(uM us b).testBit i=true:=by
  intro k
  induction k with
  | zero=>exact fun _=>⟨0,by omega,nofun⟩
  | succ k ih=>
   intro hk;obtain⟨b,hb,hall⟩:=ih (by omega)
   have h2:=hlat b hb k (by omega)
   unfold lat2 at h2;simp only[bE,Bool.not_eq_true',bX]at h2;have h3:=h2.2;unfold jH at h3;rcases eR (kL (dnM (uM us) ss.length ss.length) b k) (-1) ss.length 0 with⟨_,h'⟩|⟨m,r,_,hm,h5,_,_⟩
   ·rw[h']at h3;exact absurd (by decide) h3
   have hm':m<ss.length:=by omega
   unfold kL at h5;split at h5
   case isFalse=>cases h5
   case isTrue he=>
    have hmm:(dnM (uM us) ss.length ss.length m).testBit m=true:=by rw[oO];simp[hm',(sU ho hm').1]
    rw[aR he,Nat.testBit_and,oO,oO]at hmm;simp only[bE,cI]at hmm;refine⟨m,hm',fun i hi=>?_⟩
    rcases cY.1 hi with h'|rfl
    ·exact ord_trans ho hm' hb (by omega) hmm.1.2.1 (hall i h')
    ·exact hmm.2.2.1
 exact this _ (aJ _)
theorem pop_full:∀k,k≤8→∀v,v<2 ^ k→(k≤pop v↔v=2 ^ k-1):=by
 have:∀k,k<9→∀v,v<2 ^ k→(k≤pop v↔v=2 ^ k-1):=by decide +kernel
 exact fun k hk=>this k (by omega)
theorem oN{ss:List (List UInt8)}{us:List Nat}(h:CHK ss us=e2 0 0):∃b:Nat,b<ss.length∧gZ us=b∧endI (uM us) ss.length=b∧∀i,i<ss.length→(uM us b).testBit i=true:=by
 obtain⟨hl,⟨h1,h8⟩,ho⟩:=CHK_ord h;obtain⟨b,hb,hall⟩:=has_low h;have hub:uM us b=2 ^ ss.length-1:=by
  refine Nat.eq_of_testBit_eq fun i=>?_
  rw[Nat.testBit_two_pow_sub_one];by_cases hi:i<ss.length
  ·rw[hall i hi,bD hi]
  ·rw[aK hi,Nat.testBit_lt_two_pow];exact bY (sU ho hb).2 (Nat.pow_le_pow_right (by omega) (by omega))
 have huniq:∀j,j<ss.length→uM us j=2 ^ ss.length-1→j=b:=fun j hj he=>
  ord_anti ho hj hb (by rw[he,Nat.testBit_two_pow_sub_one];simpa using hb) (hall j hj)
 have hD:∀j,us.getD j 0=uM us j:=fun _=>rfl
 refine⟨b,hb,?_,?_,hall⟩
 ·unfold gZ;rw[hl];refine fZ hb (by rw[lowP,aH (by rw[hD,hub,hl])]) fun j hj=>?_
  rw[lowP,aD];intro he;rw[hD,hl]at he;have:=huniq j (by omega) he
  omega
 ·unfold endI;refine fZ hb (by rw[endP,aH (.inr ((pop_full _ h8 _ (sU ho hb).2).2 hub))]) fun j hj=>?_
  rw[endP,aD];rintro(he|he)
  ·omega
  ·have:=huniq j (by omega) ((pop_full _ h8 _ (sU ho (by omega)).2).1 he)
   omega
theorem c62(n:Nat){ss:List (List UInt8)}{us:List Nat}{d e:D}(hd:Sl 1 iC ss d)(he:Sl 1 u8C us e)(hu:iM us)(hs:oS ss)(hC:CHK ss us=e2 0 0)(t:Ty):cl (n+9) 62 [.agg [d,e],.agg (tyC t)]=some (.int .i64 (tyE us (gZ us) t),true):=by
 rw[cK (A:=A62) rfl (n+9) _ rfl,show A62.body=B62 from rfl]
 simp only[B62,Ab.abq];have htk:dE [d,e] 0 (some 2)=some (.agg [d,e]):=rfl;have htk3:∀x:Int,dE [d,e,.int .i64 x] 0 (some 3)=some (.agg [d,e,.int .i64 x]):=fun _=>rfl
 obtain⟨hl,⟨h1,h8⟩,_⟩:=CHK_ord hC;obtain⟨f,h72⟩:=c72 n hd he hu hs hC hl h1 h8;obtain⟨b,_,e1,e2,_⟩:=oN hC;have h73:=c73 (n+7) hd he hu hl (by omega) (gZ us) t
 have htt:∀t:Ty,dE (tyC t) 0 (some 5)=some (.agg (tyC t)):=fun _=>rfl
 have htn:∀t:Ty,(tyC t).any eU=false∧(tyC t).length=5:=fun _=>⟨rfl,rfl⟩
 have hft:∀s,frz false 20 s (.agg (tyC t))=some (.agg (tyC t)):=fun _=>rfl
 rw[e2,←e1]at h72;cases f
 all_goals simp only[z2,seval,hd.nag,he.nag,htk,htk3,htt,(htn t).1,(htn t).2,hft,aF (f:=72) rfl,aF (f:=73) rfl,aQ,hd.fz,he.fz,h72,h73,D.pures,D.pure,hd.pure,he.pure,Bool.and_self,Bool.or_true,fS,nb,A62]
 all_goals rfl
theorem k2:jY .shr (.int .i64 64) (.int .u64 2)=some (.int .i64 16):=rfl
theorem k3:jY .shr (.int .i64 64) (.int .u64 3)=some (.int .i64 8):=rfl
theorem k4:jY .shr (.int .i64 64) (.int .u64 4)=some (.int .i64 4):=rfl
theorem kc:((1:Nat):Int)=1∧((2:Nat):Int)=2∧((3:Nat):Int)=3∧((4:Nat):Int)=4:=⟨rfl,rfl,rfl,rfl⟩
def cL{α:Type}(e:α→List D)(l:List α):List D:=(l.map e).flatten
theorem rN{α:Type}(e:α→List D)(l l':List α):cL e (l++l')=cL e l++cL e l':=by
 unfold cL;rw[List.map_append,List.flatten_append]
structure EncG {α:Type} (w:Nat) (e:α→List D):Prop where
 len:∀a,(e a).length=w
 pos:0<w
 nag:∀a,(e a).any eU=false
 frz:∀a p k s,(e a).mapM (Zv.frz p (k+1) s)=some (e a)
theorem EncG.cells_len{α:Type}{w:Nat}{e:α→List D}(h:EncG w e):∀l:List α,(cL e l).length=l.length*w
 | []=>by simp[cL]
 | a::l=>by
  have:=h.cells_len l;unfold cL at this ⊢;rw[bW,eI,dD,h.len,this,aU,Nat.add_mul];omega
theorem EncG.cells_nag{α:Type}{w:Nat}{e:α→List D}(h:EncG w e):∀l:List α,(cL e l).any eU=false
 | []=>rfl
 | a::l=>by
  have:=h.cells_nag l;unfold cL at this ⊢;rw[bW,eI,List.any_append,h.nag,this];rfl
theorem EncG.cells_frz{α:Type}{w:Nat}{e:α→List D}(h:EncG w e)(p:Bool)(k:Nat)(s:St):∀l:List α,(cL e l).mapM (Zv.frz p (k+1) s)=some (cL e l)
 | []=>rfl
 | a::l=>by
  have:=h.cells_frz p k s l;unfold cL at this ⊢;rw[bW,eI,List.mapM_append,h.frz,this];rfl
def lG{α:Type}(w:Nat)(e:α→List D)(B:Nat)(s:St)(q:D)(l:List α):Prop:=
 (q = .nils∧l=[])∨(∃m,B≤m∧q = .ms m 0 w 0 0∧sget s m=some (.fix 0 [])∧l=[])∨(∃m ty,B≤m∧q = .gs m 0 w l.length∧sget s m=some (.grow ty (cL e l))∧l≠[])
theorem lG.len{α:Type}{w:Nat}{e:α→List D}{B:Nat}{s:St}{q:D}{l:List α}(h:lG w e B s q l):lenD false q=some l.length:=by
 rcases h with⟨rfl,rfl⟩|⟨m,_,rfl,_,rfl⟩|⟨m,ty,_,rfl,_,_⟩<;>rfl
theorem lG.nag{α:Type}{w:Nat}{e:α→List D}{B:Nat}{s:St}{q:D}{l:List α}(h:lG w e B s q l):eU q=false:=by
 rcases h with⟨rfl,rfl⟩|⟨m,_,rfl,_,rfl⟩|⟨m,ty,_,rfl,_,_⟩<;>rfl
theorem lG.keep{α:Type}{w:Nat}{e:α→List D}{B:Nat}{s s':St}{q:D}{l:List α}(h:lG w e B s q l)(hs:∀m b,B≤m→sget s m=some b→sget s' m=some b):lG w e B s' q l:=by
 rcases h with h|⟨m,h1,h2,h3,h4⟩|⟨m,ty,h1,h2,h3,h4⟩
 ·exact .inl h
 ·exact .inr (.inl ⟨m,h1,h2,hs _ _ h1 h3,h4⟩)
 ·exact .inr (.inr ⟨m,ty,h1,h2,hs _ _ h1 h3,h4⟩)
theorem lG.fz{α:Type}{w:Nat}{e:α→List D}(he:EncG w e)(p:Bool){B:Nat}{s:St}{q:D}{l:List α}(h:lG w e B s q l):∃r,(∀k,Zv.frz p (k+2) s q=some r)∧Sl w e l r:=by
 rcases h with⟨rfl,rfl⟩|⟨m,_,rfl,hs,rfl⟩|⟨m,ty,_,rfl,hs,hne⟩
 ·exact⟨.nils,fun k=>rfl,fun r hr=>by simp at hr,.inl ⟨rfl,rfl⟩⟩
 ·exact⟨.sl true 0 [],fun k=>by rw[iQ,hs];simp;rfl,fun r hr=>by simp at hr,.inr ⟨true,rfl⟩⟩
 ·refine⟨.sl false l.length (cL e l),?_,fun r hr=>?_,.inr ⟨false,by rw[fA];rfl⟩⟩
  ·intro k;rw[rI,hs];simp only[bK,fU];rw[bZ (by rw[he.cells_len];exact aJ _),aS,cW (by rw[he.cells_len];exact aJ _),he.cells_frz];rfl
  ·obtain⟨a,_,rfl⟩:=cQ.1 hr;exact he.len a
theorem Sl.scG{α:Type}{w:Nat}{e:α→List D}(he:EncG w e){l:List α}{d:D}(h:Sl w e l d)(s:St):cZ s w d=some (cL e l,l.length):=by
 obtain⟨_,⟨rfl,h⟩|⟨ex,rfl⟩⟩:=h
 ·rw[List.map_eq_nil_iff]at h;subst h;rfl
 ·simp only[cZ,fA];have:(l.map e).flatten.length=l.length*w:=he.cells_len l;rw[bZ (by rw[this];exact aJ _),aS,cW (by rw[this];exact aJ _)];rfl
theorem wZ{α:Type}{w:Nat}{e:α→List D}(he:EncG w e){sz ty B:Nat}(hsz:sz≤4096){x:AS}{q b:D}{l l':List α}{A:Option (D×AS)}(hA:nG x w sz ty q b=A)(h:lG w e B x.s q l)(hb:cZ x.s w b=some (cL e l',l'.length))(hlen:l.length+l'.length≤4294967296)(hc:B≤x.c)(hfr:∀m,x.c≤m→sget x.s m=none):
  ∃q' s' c',A=some (q',⟨x.t,s',c',x.d,x.r⟩)∧lG w e B s' q' (l++l')∧x.c≤c'∧(∀nm,nm<B→sget s' nm=sget x.s nm)∧∀m,c'≤m→sget s' m=none:=by
 subst hA;unfold nG;rw[hb];simp only[aB,aO];have hrm:∀k,k≤4294967296→room k sz=true:=fun k hk=>by unfold room;rw[bZ hk,bZ hsz];rfl
 rcases h with⟨rfl,rfl⟩|⟨m,hm,rfl,hs,rfl⟩|⟨m,ty',hm,rfl,hs,hne⟩
 ·cases l' with
  | nil=>exact⟨.nils,x.s,x.c,rfl,.inl ⟨rfl,rfl⟩,aJ _,fun _ _=>rfl,hfr⟩
  | cons p r=>
   simp only[bN,bK]at hlen;rw[show Nat.beq (p::r).length 0=false from rfl,cF,hrm _ hlen,aS]
   exact⟨.gs x.c 0 w (p::r).length,sadd x.s x.c (.grow ty (cL e (p::r))),x.c+1,rfl,.inr (.inr ⟨x.c,ty,hc,rfl,by rw[aW,aH rfl];rfl,by simp⟩),by omega,fun nm hn=>by rw[aW,aD (by omega)],fun k hk=>by rw[aW,aD (by omega)];exact hfr k (by omega)⟩
 ·have hmc:m<x.c:=gQ fun h=>by rw[hfr m h]at hs;cases hs
  simp only[hs,fG,aS,bK,dV,fU,dM,cA,bN];cases l' with
  | nil=>
   exact⟨.ms m 0 w 0 0,sset x.s m (.fix 0 []),x.c,rfl,.inr (.inl ⟨m,hm,rfl,by rw[aN,aH rfl],rfl⟩),aJ _,fun nm hn=>by rw[aN,aD (by omega)],fun k hk=>by
    rw[aN,aD (by omega)];exact hfr k hk⟩
  | cons p r=>
   simp only[bN,bK]at hlen;rw[show Nat.ble (p::r).length 0=false from rfl,cF,hrm _ hlen]
   exact⟨.gs x.c 0 w (p::r).length,sadd x.s x.c (.grow ty (cL e (p::r))),x.c+1,rfl,.inr (.inr ⟨x.c,ty,hc,rfl,by rw[aW,aH rfl],by simp⟩),by omega,fun nm hn=>by rw[aW,aD (by omega)],fun k hk=>by rw[aW,aD (by omega)];exact hfr k (by omega)⟩
 ·simp only[hs];cases l' with
  | nil=>exact⟨.gs m 0 w l.length,x.s,x.c,rfl,.inr (.inr ⟨m,ty',hm,by rw[dB],by rw[dB];exact hs,by rw[dB];exact hne⟩),aJ _,fun nm hn=>rfl,hfr⟩
  | cons p r=>
   have h1:Nat.ble (0+(l.length+(p::r).length)*w) (cL e l).length=false:=by
    rw[←eM,Nat.ble_eq,he.cells_len,bK];have:=Nat.mul_lt_mul_of_pos_right (show l.length<l.length+(p::r).length by simp) he.pos
    omega
   have h2:Nat.ble (l.length*w) (cL e l).length=true:=bZ (by rw[he.cells_len];exact aJ _)
   have htk:(cL e l).take (l.length*w)=cL e l:=cW (by rw[he.cells_len];exact aJ _)
   rw[show Nat.beq (p::r).length 0=false from rfl,cF,he.cells_nag,fG,bR,Bool.and_true,aS,h1,cF,h2,hrm _ hlen,fG,htk]
   simp only[Bool.and_true,aS];refine⟨_,_,_,rfl,.inr (.inr ⟨x.c,_,hc,by rw[dD],by rw[aW,aH rfl,rN],by simp⟩),Nat.le_succ _,fun nm hn=>?_,fun k hk=>?_⟩
   ·rw[aW,aD (by omega),iH,aD (by omega)]
   ·rw[aW,aD (by have:x.c+1≤k:=hk;omega),iH]
    split
    ·rfl
    ·exact hfr k (by have:x.c+1≤k:=hk;omega)
end
end Zv
namespace Zv
open Go Ab
noncomputable section
end
end Zv
namespace Zv
open Go
noncomputable section
open Go.Lib (decodeN decodeL)
open Go.Lib (decodeN decodeL)
def cntG:Nat→List UInt8→Option Nat
 | 0,_=>some 0
 | n+1,l=>if l=[]then some 0 else if decodeL l=(65533,1) then none else(cntG n (l.drop (decodeL l).2)).map (· + 1)
def cntL(l:List UInt8):Option Nat:=cntG l.length l
theorem cntG_fuel:∀(n m:Nat) (l:List UInt8),l.length≤n→l.length≤m→cntG n l=cntG m l
 | 0,m,l,h,h'=>by
  have:l=[]:=dY (by omega)
  subst this;cases m<;>rfl
 | n+1,0,l,h,h'=>by
  have:l=[]:=dY (by omega)
  subst this;rfl
 | n+1,m+1,l,h,h'=>by
  unfold cntG;by_cases hl:l=[]
  ·rw[aH hl,aH hl]
  ·rw[aD hl,aD hl];have hw:=Go.Lib.decodeL_width l;have:=List.length_pos_iff.2 hl;rw[cntG_fuel n m (l.drop (decodeL l).2) (by rw[fO];omega) (by rw[fO];omega)]
theorem cntL_nil:cntL []=some 0:=rfl
theorem cntL_step{l:List UInt8}(hl:l≠[]):cntL l=if decodeL l=(65533,1) then none else(cntL (l.drop (decodeL l).2)).map (· + 1):=by
 have hw:=Go.Lib.decodeL_width l;have:=List.length_pos_iff.2 hl;obtain⟨k,hk⟩:∃k,l.length=k+1:=⟨l.length-1,by omega⟩
 unfold cntL;rw[hk,cntG,aD hl,cntG_fuel k (l.drop (decodeL l).2).length _ (by rw[fO];omega) (aJ _)]
theorem validG_cnt:∀(n:Nat) (l:List UInt8),Go.Lib.validGoD n l=(cntG n l).isSome
 | 0,l=>rfl
 | n+1,l=>by
  unfold Go.Lib.validGoD cntG;by_cases hl:l=[]
  ·rw[aH hl,aH hl];rfl
  ·rw[aD hl,aD hl];by_cases hd:decodeL l=(65533,1)
   ·rw[aH hd,aH ⟨by rw[hd],by rw[hd]⟩];rfl
   ·rw[aD hd,aD fun h=>hd (Prod.ext h.1 h.2),validG_cnt n]
    cases cntG n (l.drop (decodeL l).2)<;>rfl
theorem valid_cnt(l:List UInt8):Go.Lib.validD l=(cntL l).isSome:=validG_cnt _ l
def cntI(l:List UInt8):Int:=match cntL l with|some k=>k|none=>-1
def alnum(b:UInt8):Bool:=kZ b||tK b
def wordB(s:List UInt8):Bool:=match s with|[]=>false|b::r=>kZ b&&(b::r).all alnum
/-! Names of primitives. -/
def strOf(d:D):List UInt8:=match d with | .str s=>s|_=>[]
def PN1:List (List UInt8):=match cl 1 210 [] with|some (.sl _ _ l,_)=>[]::l.map strOf|_=>[]
def fP(s:List UInt8)(i:Nat):Option D:=if 0<i∧PN1.getD i []=s then some (e2 i 0) else none
def findD(s:List UInt8):D:=scan (fP s) (e2 0 4) 41 0
/-! The table. -/
def tabC:List D:=match cl 1 155 [] with|some (.sl _ _ l,_)=>l|_=>[]
theorem c155(n:Nat):cl (n+1) 155 []=some (.sl true 41 tabC,false):=by kernel_rfl
def tabE(r:List UInt8×D×D×D×D):List D:=[.str r.1,r.2.1,r.2.2.1,r.2.2.2.1,r.2.2.2.2]
def un5:Nat→List D→List (List UInt8×D×D×D×D)
 | k+1,.str a::b::c::d::e::r=>(a,b,c,d,e)::un5 k r
 | _,_=>[]
def tabL:List (List UInt8×D×D×D×D):=un5 41 tabC
theorem tab_eq:tabC=(tabL.map tabE).flatten:=by kernel_rfl
theorem tab_len:tabL.length=41:=by kernel_rfl
theorem tab_names:tabL.map (fun r=>r.1)=PN1:=by kernel_rfl
theorem tab_sl:Sl 5 tabE tabL (.sl true 41 tabC):=
 ⟨fun r hr=>by simp only[cQ]at hr;obtain⟨p,_,rfl⟩:=hr;rfl,.inr ⟨true,by rw[fA,tab_len,tab_eq]⟩⟩
def RW:List (List UInt8):=[[118,97,114],[100,101,102],[111,117,116],[105,102],[101,108,115,101],[119,104,105,108,101],[101,110,100],[114,101,108,101,97,115,101],[105,110,116],[99,104,97,114]]
def resB(s:List UInt8):Bool:=RW.contains s
def wordE(s:List UInt8):Int:=bif wordB s then bif decide (16<s.length) then 3 else 0 else 6
theorem find_cases(s:List UInt8):(∃p:Nat,findD s=e2 p 0)∨findD s=e2 0 4:=by
 unfold findD;rcases eR (fP s) (e2 0 4) 41 0 with⟨_,h⟩|⟨m,r,_,_,h3,_,h5⟩
 ·exact .inr h
 ·rw[h5];unfold fP at h3;split at h3
  ·cases h3;exact .inl ⟨_,rfl⟩
  ·cases h3
def foundB(s:List UInt8):Bool:=match findD s with | .tup [_,.int _ e]=>decide (e=0)|_=>false
def iP(s:List UInt8):Bool:=decide (wordE s=0)&&(!foundB s && !resB s)
def uZ(i:Nat)(x:Option (D×Bool)):Bool:=match x with
 | some (.tup [.int .i64 a,.int .i64 _],true)=>(decide (a=8)==(Nat.ble 97 i&&Nat.ble i 122))&&(decide (a=6)==(Nat.ble 48 i&&Nat.ble i 57))
 | _=>false
theorem cls0(n:Nat):((List.range 32).all fun(i:Nat)=>uZ (0+i) (cl (n+6) 208 [.int .i64 ((0+i:Nat):Int)]))=true:=by kernel_rfl
theorem cls1(n:Nat):((List.range 32).all fun(i:Nat)=>uZ (32+i) (cl (n+6) 208 [.int .i64 ((32+i:Nat):Int)]))=true:=by kernel_rfl
theorem cls2(n:Nat):((List.range 32).all fun(i:Nat)=>uZ (64+i) (cl (n+6) 208 [.int .i64 ((64+i:Nat):Int)]))=true:=by kernel_rfl
theorem cls3(n:Nat):((List.range 32).all fun(i:Nat)=>uZ (96+i) (cl (n+6) 208 [.int .i64 ((96+i:Nat):Int)]))=true:=by kernel_rfl
theorem cls4(n:Nat):((List.range 32).all fun(i:Nat)=>uZ (128+i) (cl (n+6) 208 [.int .i64 ((128+i:Nat):Int)]))=true:=by kernel_rfl
theorem cls5(n:Nat):((List.range 32).all fun(i:Nat)=>uZ (160+i) (cl (n+6) 208 [.int .i64 ((160+i:Nat):Int)]))=true:=by kernel_rfl
theorem cls6(n:Nat):((List.range 32).all fun(i:Nat)=>uZ (192+i) (cl (n+6) 208 [.int .i64 ((192+i:Nat):Int)]))=true:=by kernel_rfl
theorem cls7(n:Nat):((List.range 32).all fun(i:Nat)=>uZ (224+i) (cl (n+6) 208 [.int .i64 ((224+i:Nat):Int)]))=true:=by kernel_rfl
theorem cls(n:Nat)(b:UInt8):∃a e:Int,cl (n+6) 208 [.int .i64 (b.toNat:Int)]=some (.tup [.int .i64 a,.int .i64 e],true)∧decide (a=8)=kZ b∧decide (a=6)=tK b:=by
 have h:uZ b.toNat (cl (n+6) 208 [.int .i64 (b.toNat:Int)])=true:=by
  have hb:=b.toNat_lt;obtain⟨k,i,hk,hi,he⟩:∃k i,k<8∧i<32∧b.toNat=k*32+i:=⟨b.toNat / 32,b.toNat % 32,by omega,by omega,by omega⟩
  rw[he];have hi':i∈List.range 32:=List.mem_range.2 hi
  match k,hk with
  | 0,_=>exact cE.1 (cls0 n) i hi'
  | 1,_=>exact cE.1 (cls1 n) i hi'
  | 2,_=>exact cE.1 (cls2 n) i hi'
  | 3,_=>exact cE.1 (cls3 n) i hi'
  | 4,_=>exact cE.1 (cls4 n) i hi'
  | 5,_=>exact cE.1 (cls5 n) i hi'
  | 6,_=>exact cE.1 (cls6 n) i hi'
  | 7,_=>exact cE.1 (cls7 n) i hi'
 unfold uZ at h;split at h
 ·rename_i a e hx;simp only[bE,beq_iff_eq]at h;exact⟨a,e,hx,h.1,h.2⟩
 ·cases h
def clsIs(s:List UInt8)(i:Nat)(v:Int):Prop:=decide (v=8)=(match s[i]? with|some b=>kZ b|none=>false)∧decide (v=6)=(match s[i]? with|some b=>tK b|none=>false)
theorem f156(n j:Nat){s:List UInt8}{m T:Nat}{k:D}{st:St}{c i:Nat}(hm:sget st m=some (.fix T [.str s,k]))(hi:i≤s.length):
  ∃v:Int,fn (n+7) (j+2) (.fn 156) [.ptr m 0,.int .i64 (i:Nat)] st c = .ok (.ret (.int .i64 v)) st c∧clsIs s i v:=by
 rw[iN (f:=156) (A:=A156) rfl rfl rfl rfl (n+7) (j+1) _ _ _ rfl,show A156.body=B156 from rfl]
 simp only[B156,Ab.abq];by_cases hlt:i<s.length
 ·have hge:decide (((s.length:Nat):Int)≤(i:Nat))=false:=dF (by omega)
  have hg:s[i]?=some s[i]:=aI hlt;obtain⟨a,e,h1,h2,h3⟩:=cls n s[i];have hb:=s[i].toNat_lt;have hw:dJ .i64 (s[i].toNat:Int)=(s[i].toNat:Int):=gT (by omega) (by omega)
  simp only[z2,seval,hm,hge,fM hlt,hg,hw,aF (f:=208) rfl,aQ,h1,A156];refine⟨a,?_,by rw[hg];exact h2,by rw[hg];exact h3⟩
  rfl
 ·have hge:decide (((s.length:Nat):Int)≤(i:Nat))=true:=dT (by omega)
  have hg:s[i]?=none:=gO (by omega)
  simp only[z2,seval,hm,hge,A156];refine⟨10,?_,by rw[hg];rfl,by rw[hg];rfl⟩
  rfl
theorem clsIs.alnum{s:List UInt8}{i:Nat}{v:Int}(h:clsIs s i v):(decide (v=8)||decide (v=6))=(match s[i]? with|some b=>alnum b|none=>false):=by
 rw[h.1,h.2];cases s[i]?<;>rfl
theorem f157(n j:Nat){s:List UInt8}{m T:Nat}{st:St}{c:Nat}(hm:sget st m=some (.fix T [.str s,.int .i64 0]))(hs:s.length<9223372036854775807):
  ∃(k:Nat) (st':St) (c':Nat),k≤s.length∧(k=s.length↔s.all alnum=true)∧fn (n+7) (j+3) (.fn 157) [.ptr m 0,.int .i64 8,.int .i64 6] st c = .ok (.ret (.str (s.take k))) st' c'∧c≤c'∧∀x,x≠m→sget st' x=sget st x:=by
 rw[iN (f:=157) (A:=A157) rfl rfl rfl rfl (n+7) (j+2) _ _ _ rfl,show A157.body=B157 from rfl]
 simp only[B157,Ab.abq];obtain⟨v0,h0,hv0⟩:=f156 n j (c:=c) (i:=0) hm (dK _);have h0':fn (n+7) (j+2) (.fn 156) [.ptr m 0,.int .i64 0] st c = .ok (.ret (.int .i64 v0)) st c:=h0;simp only[z2,seval,hm,h0'];generalize hz:zloop KK _ _=rl
 refine zwhile rl hz s.length (fQ hs) (fun i z=>∃t v st',z=⟨t,st',c,[],none⟩∧sget st' m=some (.fix T [.str s,.int .i64 (i:Nat)])∧(∀x,x≠m→sget st' x=sget st x)∧tget t 0 = .ptr m 0∧tget t 1 = .int .i64 8∧tget t 2 = .int .i64 6∧tget t 7 = .int .i64 0∧tget t 8 = .int .i64 v∧clsIs s i v∧∀q (h:q<s.length),q<i→alnum s[q]=true)
  ⟨_,v0,_,rfl,hm,fun _ _=>rfl,by simp[aE],by simp[aE],by simp[aE],by simp[aE],by simp[aE],hv0,nofun⟩ ?_
 rintro i z hi ⟨t,v,st',rfl,hm',hfr,q0,q1,q2,q7,q8,hv,hall⟩;have hal:=hv.alnum;have fin:(decide (v=8)||decide (v=6))=false→(i=s.length↔s.all alnum=true):=fun hc=>by
  rw[hc]at hal;constructor
  ·intro he;rw[cE];intro x hx;obtain⟨q,hq,rfl⟩:=List.mem_iff_getElem.1 hx;exact hall q hq (by omega)
  ·intro ha;refine Classical.byContradiction fun hne=>?_
   have hlt:i<s.length:=by omega
   have h1:=cE.1 ha _ (cB hlt);rw[aI hlt]at hal;exact absurd (hal.trans h1) (by decide)
 have step:(decide (v=8)||decide (v=6))=true→∃h:i<s.length,alnum s[i]=true:=fun hc=>by
  rw[hc]at hal;cases hg:s[i]? with
  | none=>rw[hg]at hal;cases hal
  | some b=>
   obtain⟨hlt,rfl⟩:=cH.1 hg;rw[hg]at hal;exact⟨hlt,hal.symm⟩
 have next:∀h:i<s.length,∃v1:Int,fn (n+7) (j+2) (.fn 156) [.ptr m 0,.int .i64 ((i+1:Nat):Int)] (sset st' m (.fix T [.str s,.int .i64 ((i+1:Nat):Int)])) c = .ok (.ret (.int .i64 v1)) (sset st' m (.fix T [.str s,.int .i64 ((i+1:Nat):Int)])) c∧clsIs s (i+1) v1:=fun h=>
  f156 n j (by rw[aN,aH rfl]) (by omega)
 have allN:∀h:i<s.length,alnum s[i]=true→∀q (h:q<s.length),q<i+1→alnum s[q]=true:=fun h ha q hq hq2=>by
  rcases cY.1 hq2 with h'|rfl
  ·exact hall q hq h'
  ·exact ha
 have hin:i<s.length→dJ .i64 ((i:Int)+1)=((i+1:Nat):Int):=fun h=>kV (by omega)
 cases h8:decide (v=8)
 ·cases h6:decide (v=6)
  ·have hf:=fin (by rw[h8,h6];rfl)
   have b1:fT s.length s.length (some (.int .i64 (i:Nat)))=some i:=by show uO s.length (.int .i64 ((i:Nat):Int))=some i;exact kT hi
   have b2:fT i 0 (some (.int .i64 0))=some 0:=by show uO i (.int .i64 ((0:Nat):Int))=some 0;exact kT (dK _)
   simp only[z2,seval,b1,b2,aO,fU,hm',q0,q1,q2,q7,q8,h8,h6,eG,cX,iS,qB,AOp.kd,gI,jE,iK,gJ,fC,lW,dP,wF,dM,fH,A157];exact⟨i,st',_,hi,hf,rfl,by simp only[aU];omega,hfr⟩
  ·obtain⟨hlt,ha⟩:=step (by rw[h8,h6];rfl)
   obtain⟨v1,hf1,hv1⟩:=next hlt;simp only[z2,seval,hm',q0,q1,q2,q7,q8,h8,h6,hin hlt,hf1];refine⟨hlt,_,v1,_,rfl,by rw[aN,aH rfl],fun x hx=>by rw[aN,aD hx];exact hfr x hx,by simp[aE,q0],by simp[aE,q1],by simp[aE,q2],by simp[aE,q7],by simp[aE],hv1,allN hlt ha⟩
 ·obtain⟨hlt,ha⟩:=step (by rw[h8];rfl)
  obtain⟨v1,hf1,hv1⟩:=next hlt;simp only[z2,seval,hm',q0,q1,q2,q7,q8,h8,hin hlt,hf1];refine⟨hlt,_,v1,_,rfl,by rw[aN,aH rfl],fun x hx=>by rw[aN,aD hx];exact hfr x hx,by simp[aE,q0],by simp[aE,q1],by simp[aE,q2],by simp[aE,q7],by simp[aE],hv1,allN hlt ha⟩
theorem c111(n:Nat)(s:List UInt8)(hs:s.length<9223372036854775807):cl (n+7) 111 [.agg [.int .i64 1,.int .i64 0,.int .i64 0,.int .i64 0,.str s]]=some (.int .i64 (wordE s),true):=by
 rw[cK (A:=A111) rfl (n+7) _ rfl,show A111.body=B111 from rfl]
 simp only[B111,Ab.abq];have h16:decide ((16:Int)<(s.length:Int))=decide (16<s.length):=by rw[dC,cI,cI];omega
 have htk:dE [.int .i64 1,.int .i64 0,.int .i64 0,.int .i64 0,.str s] 0 (some 5)=some (.agg [.int .i64 1,.int .i64 0,.int .i64 0,.int .i64 0,.str s]):=rfl
 have hcmp:pN (.ty (.parts [(0,none,.int),(1,none,.int),(2,none,.int),(3,none,.int),(4,none,.str)])) (.agg [.int .i64 1,.int .i64 0,.int .i64 0,.int .i64 0,.str s]) (.agg [.int .i64 1,.int .i64 0,.int .i64 0,.int .i64 0,.str s])=some true:=by
  simp[pN,eqT,uN,dE]
 simp only[z2,↓reduceIte,Nat.reduceEqDiff,Nat.reduceAdd,Nat.reduceLeDiff,reduceCtorEq,Int.reduceLT,Int.reduceLE,Int.reduceEq,gW,bS,bV,aV,bM,htk,hcmp,bJ,eG,cX,iS,qB,AOp.kd,gI,jE,iK,gJ,fC,lW,dM,fH];generalize hS:sadd _ 2 _=S
 have hm:sget S 2=some (.fix 222 [.str s,.int .i64 0]):=by rw[←hS];simp[aE]
 have s0:sget S 0=some (.fix 174 [.int .i64 1,.int .i64 0,.int .i64 0,.int .i64 0,.str s]):=by rw[←hS];simp[aE]
 clear hS;obtain⟨v,hv1,hv2⟩:=f156 n 4094 (c:=3+10) hm (dK _);have hv1':fn (n+7) 4096 (.fn 156) [.ptr 2 0,.int .i64 0] S (3+10) = .ok (.ret (.int .i64 v)) S (3+10):=hv1;have hw0:wordB s=(decide (v=8)&&s.all alnum):=by
  rw[hv2.1];cases s with
  | nil=>rfl
  | cons b r=>rfl
 cases h8:decide (v=8)
 ·have hw:wordB s=false:=by rw[hw0,h8];rfl
  simp only[z2,↓reduceIte,Nat.reduceEqDiff,Nat.reduceAdd,Nat.reduceLeDiff,reduceCtorEq,aU,bN,hv1',gW,dH,h8,eG,cX,iS,qB,AOp.kd,gI,jE,iK,gJ,fC,lW,dM,fH,A111];rw[wordE,hw];rfl
 ·obtain⟨k,S',c',hk,hka,h157,hc',hfr⟩:=f157 n 4093 (c:=3+10) hm hs;have h157':fn (n+7) 4096 (.fn 157) [.ptr 2 0,.int .i64 8,.int .i64 6] S (3+10) = .ok (.ret (.str (s.take k))) S' c':=h157;have s0':sget S' 0=some (.fix 174 [.int .i64 1,.int .i64 0,.int .i64 0,.int .i64 0,.str s]):=by rw[hfr 0 (by omega)];exact s0
  have hw:wordB s=s.all alnum:=by rw[hw0,h8,Bool.true_and]
  cases ha:s.all alnum
  ·have hne:(s.take k=s)=False:=aL fun h=>by
    have:=congrArg List.length h;rw[dG]at this;rw[hka.1 (by omega)]at ha;cases ha
   simp only[z2,↓reduceIte,Nat.reduceEqDiff,Nat.reduceAdd,Nat.reduceLeDiff,reduceCtorEq,aU,bN,hv1',h157',s0,s0',hne,gW,dH,h8,eG,cX,iS,qB,AOp.kd,gI,jE,iK,gJ,fC,lW,dM,List.take_succ_cons,fH,List.all_cons,cC,dW,A111];rw[wordE,hw,ha];rfl
  ·have hke:s.take k=s:=by rw[hka.2 ha,List.take_length]
   cases hl:decide (16<s.length)
   ·simp only[z2,↓reduceIte,Nat.reduceEqDiff,Nat.reduceAdd,Nat.reduceLeDiff,reduceCtorEq,aU,bN,hv1',h157',s0,s0',hke,gW,dH,h8,eG,cX,iS,qB,AOp.kd,gI,jE,iK,gJ,fC,lW,dM,List.take_succ_cons,fH,List.all_cons,cC,dW,h16,hl,A111];rw[wordE,hw,ha,hl];rfl
   ·simp only[z2,↓reduceIte,Nat.reduceEqDiff,Nat.reduceAdd,Nat.reduceLeDiff,reduceCtorEq,aU,bN,hv1',h157',s0,s0',hke,gW,dH,h8,eG,cX,iS,qB,AOp.kd,gI,jE,iK,gJ,fC,lW,dM,List.take_succ_cons,fH,List.all_cons,cC,dW,h16,hl,A111];rw[wordE,hw,ha,hl];rfl
theorem tab_ag:(tabL.all fun r=>(!eU r.2.1&&(!eU r.2.2.1&&(!eU r.2.2.2.1 && !eU r.2.2.2.2))))=true:=by kernel_rfl
theorem c110(n:Nat)(s:List UInt8):cl (n+2) 110 [.str s]=some (findD s,true):=by
 rw[cK (A:=A110) rfl (n+2) _ rfl,show A110.body=B110 from rfl]
 simp only[B110,Ab.abq];have hd:=tab_sl;have hlen:lenD false (.sl true 41 tabC)=some 41:=rfl;simp only[z2,↓reduceIte,Nat.reduceEqDiff,Nat.reduceAdd,Nat.reduceLeDiff,reduceCtorEq,aF (f:=155) rfl,aQ,c155,D.pures,Bool.or_true,hlen];generalize hz:zloop KK _ _=rl
 refine zrange rl hz 41 (fQ (by decide)) (by decide) (fun i t s' c=>tget t 0 = .str s∧tget t 6 = .sl true 41 tabC∧∀j,j<i→fP s j=none) (by decide) (by simp[aE]) (by simp[aE]) (by simp[aE]) ?_ ?_
 ·rintro i t s' c hi ⟨q0,q6,hn⟩ hti htn;have hl:i<tabL.length:=by rw[tab_len];exact hi
  have hrow:=hd.row hl;have hag:=cE.1 tab_ag _ (cB hl);simp only[bE,Bool.not_eq_true']at hag;obtain⟨g1,g2,g3,g4⟩:=hag;have hnm:PN1.getD i []=tabL[i].1:=by rw[←tab_names,gR,gX,aI hl];rfl
  by_cases h0:i=0
  ·subst h0;have hp:fP s 0=none:=by unfold fP;rw[aD fun h=>absurd h.1 (by omega)]
   simp only[z2,↓reduceIte,Nat.reduceEqDiff,Nat.reduceAdd,Nat.reduceLeDiff,reduceCtorEq,q0,q6,hti,htn,hd.ia hl,hrow,tabE,g1,g2,g3,g4,Bool.or_self,show decide ((0:Int)<((0:Nat):Int))=false from rfl]
   exact⟨trivial,trivial,trivial,.inr (.inr trivial),nofun,nofun,trivial,trivial,eH hn hp⟩
  ·have hpos:decide ((0:Int)<(i:Nat))=true:=dT (by omega)
   by_cases he:tabL[i].1=s
   ·have hp:fP s i=some (e2 i 0):=by unfold fP;rw[hnm,aH ⟨by omega,he⟩]
    simp only[z2,↓reduceIte,Nat.reduceEqDiff,Nat.reduceAdd,Nat.reduceLeDiff,reduceCtorEq,q0,q6,hti,htn,hd.ia hl,hrow,tabE,g1,g2,g3,g4,Bool.or_self,hpos,he,A110];unfold findD;rw[fZ hi hp hn];rfl
   ·have hp:fP s i=none:=by unfold fP;rw[hnm,aD fun h=>he h.2]
    simp only[z2,↓reduceIte,Nat.reduceEqDiff,Nat.reduceAdd,Nat.reduceLeDiff,reduceCtorEq,q0,q6,hti,htn,hd.ia hl,hrow,tabE,g1,g2,g3,g4,Bool.or_self,hpos,aL he];exact⟨trivial,trivial,trivial,.inr (.inr trivial),nofun,nofun,trivial,trivial,eH hn hp⟩
 ·rintro t s' c ⟨q0,q6,hn⟩ hti htn;simp only[z2,↓reduceIte,Nat.reduceEqDiff,Nat.reduceAdd,Nat.reduceLeDiff,reduceCtorEq,q0,q6,hti,htn,A110];unfold findD;rw[gU hn];rfl
theorem c61(n:Nat)(s:List UInt8)(hs:s.length<9223372036854775807):cl (n+8) 61 [.str s]=some (.bool (iP s),true):=by
 rw[cK (A:=A61) rfl (n+8) _ rfl,show A61.body=B61 from rfl]
 simp only[B61,Ab.abq];have hres:∀w∈RW,s=w→iP s=false:=fun w hw e=>by
  have:resB s=true:=by rw[resB,List.contains_iff_mem,e];exact hw
  rw[iP,this];simp
 by_cases h0:s=[118,97,114]
 ·have hi:=hres _ (by simp[RW]) h0
  simp only[z2,↓reduceIte,Nat.reduceEqDiff,Nat.reduceAdd,Nat.reduceLeDiff,reduceCtorEq,eq_true h0,aV,bM,A61];rw[hi];rfl
 by_cases h1:s=[100,101,102]
 ·have hi:=hres _ (by simp[RW]) h1
  simp only[z2,↓reduceIte,Nat.reduceEqDiff,Nat.reduceAdd,Nat.reduceLeDiff,reduceCtorEq,aL h0,eq_true h1,aV,bM,A61];rw[hi];rfl
 by_cases h2:s=[111,117,116]
 ·have hi:=hres _ (by simp[RW]) h2
  simp only[z2,↓reduceIte,Nat.reduceEqDiff,Nat.reduceAdd,Nat.reduceLeDiff,reduceCtorEq,aL h0,aL h1,eq_true h2,aV,bM,A61];rw[hi];rfl
 by_cases h3:s=[105,102]
 ·have hi:=hres _ (by simp[RW]) h3
  simp only[z2,↓reduceIte,Nat.reduceEqDiff,Nat.reduceAdd,Nat.reduceLeDiff,reduceCtorEq,aL h0,aL h1,aL h2,eq_true h3,aV,bM,A61];rw[hi];rfl
 by_cases h4:s=[101,108,115,101]
 ·have hi:=hres _ (by simp[RW]) h4
  simp only[z2,↓reduceIte,Nat.reduceEqDiff,Nat.reduceAdd,Nat.reduceLeDiff,reduceCtorEq,aL h0,aL h1,aL h2,aL h3,eq_true h4,aV,bM,A61];rw[hi];rfl
 by_cases h5:s=[119,104,105,108,101]
 ·have hi:=hres _ (by simp[RW]) h5
  simp only[z2,↓reduceIte,Nat.reduceEqDiff,Nat.reduceAdd,Nat.reduceLeDiff,reduceCtorEq,aL h0,aL h1,aL h2,aL h3,aL h4,eq_true h5,aV,bM,A61];rw[hi];rfl
 by_cases h6:s=[101,110,100]
 ·have hi:=hres _ (by simp[RW]) h6
  simp only[z2,↓reduceIte,Nat.reduceEqDiff,Nat.reduceAdd,Nat.reduceLeDiff,reduceCtorEq,aL h0,aL h1,aL h2,aL h3,aL h4,aL h5,eq_true h6,aV,bM,A61];rw[hi];rfl
 by_cases h7:s=[114,101,108,101,97,115,101]
 ·have hi:=hres _ (by simp[RW]) h7
  simp only[z2,↓reduceIte,Nat.reduceEqDiff,Nat.reduceAdd,Nat.reduceLeDiff,reduceCtorEq,aL h0,aL h1,aL h2,aL h3,aL h4,aL h5,aL h6,eq_true h7,aV,bM,A61];rw[hi];rfl
 by_cases h8:s=[105,110,116]
 ·have hi:=hres _ (by simp[RW]) h8
  simp only[z2,↓reduceIte,Nat.reduceEqDiff,Nat.reduceAdd,Nat.reduceLeDiff,reduceCtorEq,aL h0,aL h1,aL h2,aL h3,aL h4,aL h5,aL h6,aL h7,eq_true h8,aV,bM,A61];rw[hi];rfl
 by_cases h9:s=[99,104,97,114]
 ·have hi:=hres _ (by simp[RW]) h9
  simp only[z2,↓reduceIte,Nat.reduceEqDiff,Nat.reduceAdd,Nat.reduceLeDiff,reduceCtorEq,aL h0,aL h1,aL h2,aL h3,aL h4,aL h5,aL h6,aL h7,aL h8,eq_true h9,aV,bM,A61];rw[hi];rfl
 have hres:resB s=false:=by
  rw[←eM,resB,List.contains_iff_mem];simp only[RW,bL,List.not_mem_nil,or_false,not_or];exact⟨h0,h1,h2,h3,h4,h5,h6,h7,h8,h9⟩
 rcases find_cases s with⟨p,hf⟩|hf
 ·have hfb:foundB s=true:=by rw[foundB,hf];rfl
  have hi:iP s=false:=by rw[iP,hfb];simp
  simp only[z2,↓reduceIte,Nat.reduceEqDiff,Nat.reduceAdd,Nat.reduceLeDiff,reduceCtorEq,aL h0,aL h1,aL h2,aL h3,aL h4,aL h5,aL h6,aL h7,aL h8,aL h9,aV,bM,aF (f:=110) rfl,aQ,c110,hf,fS,Int.reduceEq,A61];rw[hi];rfl
 ·have hfb:foundB s=false:=by rw[foundB,hf];rfl
  have hi:iP s=decide (wordE s=0):=by rw[iP,hfb,hres];simp
  simp only[z2,↓reduceIte,Nat.reduceEqDiff,Nat.reduceAdd,Nat.reduceLeDiff,reduceCtorEq,aL h0,aL h1,aL h2,aL h3,aL h4,aL h5,aL h6,aL h7,aL h8,aL h9,aV,bM,aF (f:=110) rfl,aF (f:=111) rfl,aQ,c110,c111 n s hs,hf,fS,Int.reduceEq,A61];rw[hi];rfl
open Go.Lib (decodeN decodeL)
theorem decodeD_L(s:List UInt8)(pos:Nat):oP s pos=decodeL (s.drop pos):=(Go.Lib.decodeL_drop ⟨s.toArray⟩ pos).symm
theorem c164(n:Nat){s:List UInt8}{m:Nat}(hm:cntL s=some m)(hs:s.length<4294967296):cl n 164 [.str s]=some (.int .i64 (m:Nat),true):=by
 rw[cK (A:=A164) rfl n _ rfl,show A164.body=B164 from rfl]
 simp only[B164,Ab.abq];simp only[z2,seval];generalize hz:zloop KK _ _=rl;refine zwhile rl hz s.length (fQ (by omega)) (fun i z=>∃t st c pos,z=⟨t,st,c,[],none⟩∧pos≤s.length∧i≤pos∧tget t 2 = .int .i64 (i:Nat)∧tget t 4 = .it 0∧sget st 0=some (.iter s pos)∧∃r,cntL (s.drop pos)=some r∧r+i=m)
  ⟨_,_,_,0,rfl,by omega,by omega,by simp[aE],by simp[aE],by simp[aE],m,hm,by omega⟩ ?_
 rintro i z hi ⟨t,st,c,pos,rfl,hp,hip,q2,q4,s0,r,hr,hrm⟩;by_cases hlt:pos<s.length
 ·have hdr:s.drop pos≠[]:=fun h=>by have:=congrArg List.length h;rw[fO,bN]at this;omega
  have hle:=Go.Lib.decodeL_le (s.drop pos) hdr;rw[fO]at hle;have hw:=Go.Lib.decodeL_width (s.drop pos);simp only[z2,seval,q2,q4,s0,show Nat.blt pos s.length=true from by simp[Nat.blt_eq,hlt],decodeD_L,kV (show i<9223372036854775807 by omega)]
  rw[cntL_step hdr]at hr;split at hr
  ·cases hr
  ·simp only[aG,List.drop_drop]at hr;obtain⟨r',hr',rfl⟩:=hr;exact⟨by omega,_,_,_,pos+(decodeL (s.drop pos)).2,rfl,by omega,by omega,by simp[aE],by simp[aE,q4],by rw[aN,aH rfl],r',hr',by omega⟩
 ·simp only[z2,seval,q2,q4,s0,show Nat.blt pos s.length=false from by rw[←eM,Nat.blt_eq];exact hlt,A164]
  rw[List.drop_eq_nil_of_le (by omega),cntL_nil]at hr
  cases hr;rw[show i=m by omega];rfl
/-! How many operands. -/
def arD(p:Int):D:=if p<1∨40<p then e2 0 2 else if p≤14 then e2 1 0 else e2 2 0
def arOk(i:Nat)(x:Option (D×Bool)):Bool:=match x with
 | some (.tup [.int .i64 a,.int .i64 e],true)=>decide (e=0)&&decide (a=if i≤14 then 1 else 2)
 | _=>false
theorem ar163(n:Nat):((List.range 40).all fun(i:Nat)=>arOk (i+1) (cl (n+4) 163 [.int .i64 ((i+1:Nat):Int)]))=true:=by kernel_rfl
theorem c213e(n:Nat){p:Int}(h:p<1∨40<p):cl n 213 [.int .i64 p]=some (.tup [.agg [.str [],.nils,.nils,.nilfn,.nilfn],.int .i64 2],true):=by
 rw[cK (A:=A213) rfl n _ rfl,show A213.body=B213 from rfl]
 simp only[B213,Ab.abq];by_cases h1:p<1
 ·simp only[z0,seval,bD h1,A213];rfl
 ·simp only[z0,seval,aK h1,bD (show 40<p by omega),A213];rfl
theorem c163(n:Nat)(p:Int):cl (n+4) 163 [.int .i64 p]=some (arD p,true):=by
 by_cases h:p<1∨40<p
 ·rw[cK (A:=A163) rfl (n+4) _ rfl,show A163.body=B163 from rfl]
  simp only[B163,Ab.abq];simp only[z0,seval,aF (f:=213) rfl,aQ,c213e (n+3) h,D.pures,D.pure,Int.reduceEq,gW,bV,aV,A163];rw[arD,aH h];rfl
 ·obtain⟨k,hk,rfl⟩:∃k:Nat,k<40∧p=((k+1:Nat):Int):=⟨(p-1).toNat,by omega,by omega⟩
  have:=cE.1 (ar163 n) k (List.mem_range.2 hk);unfold arOk at this;split at this
  ·rename_i a e hx;simp only[bE,cI]at this;rw[hx,arD,aD h,this.1,this.2];by_cases h14:k+1≤14
   ·rw[aH (by omega),aH (by omega)];rfl
   ·rw[aD (by omega),aD (by omega)];rfl
  ·cases this
end
end Zv
namespace Zv
open Go Ab
noncomputable section
structure Nd where
 kind:Int
 prim:Int
 kids:Int
 name:List UInt8
 text:List UInt8
 n:Int
 site:Int
def bU(x:Nd):List D:=[.int .i64 x.kind,.int .i64 x.prim,.int .i64 x.kids,.str x.name,.str x.text,.int .i64 x.n,.int .i64 x.site]
def fJ(x:Nd):Int:=if x.kind=5∨x.kind=6 then x.kids else 0
theorem ar_cases(p:Int):(∃a:Int,arD p=e2 a 0∧¬(p<1∨40<p)∧a=if p≤14 then 1 else 2)∨(arD p=e2 0 2∧(p<1∨40<p)):=by
 unfold arD;by_cases h:p<1∨40<p
 ·exact .inr ⟨aH h,h⟩
 ·by_cases h2:p≤14
  ·exact .inl ⟨1,by rw[aD h,aH h2],h,by rw[aH h2]⟩
  ·exact .inl ⟨2,by rw[aD h,aD h2],h,by rw[aD h2]⟩
def surB(x:Nd):Bool:=(!decide (x.kind=1) && !decide (x.n=0))||((!decide (x.kind=2) && !decide (x.text=[]))||((!decide (x.kind=4)&&(!decide (x.kind=6) && !decide (x.name=[])))||((!decide (x.kind=5) && !decide (x.prim=0))||((decide (x.kind=5)&&decide (x.prim<1∨40<x.prim))||((decide (x.kind=1)||(decide (x.kind=2)||decide (x.kind=4))) && !decide (x.kids=0))))))
end
end Zv
namespace Zv
open Go
noncomputable section
def gG(x:Nd):Nd:=
 if x.kind=1 then⟨0,x.prim,x.kids,x.name,x.text,0,0⟩ else
 if x.kind=2 then⟨0,x.prim,x.kids,x.name,[],x.n,0⟩ else
 if x.kind=5 then⟨0,0,0,x.name,x.text,x.n,0⟩ else
 if x.kind=6 then⟨0,x.prim,0,[],x.text,x.n,0⟩ else
 if x.kind=4 then⟨0,x.prim,x.kids,[],x.text,x.n,0⟩ else
 if x.kind=3 then⟨0,x.prim,0,x.name,x.text,x.n,0⟩ else⟨0,x.prim,x.kids,x.name,x.text,x.n,0⟩
def isK(x:Nd):Bool:=decide (x.kind=5)||decide (x.kind=6)
theorem c123(n:Nat)(x:Nd):cl n 123 [.agg (bU x)]=some (.tup [.agg (bU (gG x)),.bool (isK x)],true):=by
 rw[cK (A:=A123) rfl n _ rfl,show A123.body=B123 from rfl]
 have htk:dE [.int .i64 x.kind,.int .i64 x.prim,.int .i64 x.kids,.str x.name,.str x.text,.int .i64 x.n,.int .i64 x.site] 0 (some 7)=some (.agg [.int .i64 x.kind,.int .i64 x.prim,.int .i64 x.kids,.str x.name,.str x.text,.int .i64 x.n,.int .i64 x.site]):=rfl;simp only[B123,Ab.abq];by_cases k1:x.kind=1
 ·have hr:gG x=⟨0,x.prim,x.kids,x.name,x.text,0,0⟩:=aH k1;have hi:isK x=false:=by rw[isK,k1];rfl
  rw[hr,hi];unfold bU;simp only[z0,seval,k1,aV,bM,Int.reduceEq,A123];rfl
 by_cases k2:x.kind=2
 ·have hr:gG x=⟨0,x.prim,x.kids,x.name,[],x.n,0⟩:=by rw[gG,aD k1,aH k2]
  have hi:isK x=false:=by rw[isK,k2];rfl
  rw[hr,hi];unfold bU;simp only[z0,seval,k2,aV,bM,Int.reduceEq,A123];rfl
 by_cases k5:x.kind=5
 ·have hr:gG x=⟨0,0,0,x.name,x.text,x.n,0⟩:=by rw[gG,aD k1,aD k2,aH k5]
  have hi:isK x=true:=by rw[isK,k5];rfl
  rw[hr,hi];unfold bU;simp only[z0,seval,k5,aV,bM,Int.reduceEq,A123];rfl
 by_cases k6:x.kind=6
 ·have hr:gG x=⟨0,x.prim,0,[],x.text,x.n,0⟩:=by rw[gG,aD k1,aD k2,aD k5,aH k6]
  have hi:isK x=true:=by rw[isK,k6];rfl
  rw[hr,hi];unfold bU;simp only[z0,seval,k6,aV,bM,Int.reduceEq,A123];rfl
 by_cases k4:x.kind=4
 ·have hr:gG x=⟨0,x.prim,x.kids,[],x.text,x.n,0⟩:=by rw[gG,aD k1,aD k2,aD k5,aD k6,aH k4]
  have hi:isK x=false:=by rw[isK,k4];rfl
  rw[hr,hi];unfold bU;simp only[z0,seval,k4,aV,bM,Int.reduceEq,A123];rfl
 by_cases k3:x.kind=3
 ·have hr:gG x=⟨0,x.prim,0,x.name,x.text,x.n,0⟩:=by rw[gG,aD k1,aD k2,aD k5,aD k6,aD k4,aH k3]
  have hi:isK x=false:=by rw[isK,k3];rfl
  rw[hr,hi];unfold bU;simp only[z0,seval,k3,aV,bM,Int.reduceEq,A123];rfl
 have hr:gG x=⟨0,x.prim,x.kids,x.name,x.text,x.n,0⟩:=by rw[gG,aD k1,aD k2,aD k5,aD k6,aD k4,aD k3]
 have hi:isK x=false:=by rw[isK,aK k5,aK k6];rfl
 rw[hr,hi];unfold bU;simp only[z0,seval,aK k1,aK k2,aK k3,aK k4,aK k5,aK k6,A123];rfl
end
end Zv
