/- What functions come to: runes by the document. Conditions: none. -/
import Derived.Test.YtnpoohbeicakkaaGreatDoorZAP
import Derived.Lib.TrimUEq
import Derived.Lib.RuneCount
set_option linter.unusedVariables false
set_option linter.unusedSimpArgs false
set_option maxRecDepth 100000
namespace Zv
open Go
noncomputable section
variable {a c b b3 n w B b0 b1:Nat} {α:Type} {ss:List (List UInt8)} {us:List Nat} {d e q:D} {u:Nat→Nat}
def K1:Nat:=1180591620717411303423
def K2:Nat:=1180591620717411303422
def K3:Nat:=1180591620717411303421
def K4:Nat:=1180591620717411303420
def K5:Nat:=1180591620717411303419
theorem zun:(∀f x,zloop KK f x=zbind (f x) (zloop K1 f))∧(∀f x,zloop K1 f x=zbind (f x) (zloop K2 f))∧(∀f x,zloop K2 f x=zbind (f x) (zloop K3 f))∧(∀f x,zloop K3 f x=zbind (f x) (zloop K4 f))∧(∀f x,zloop K4 f x=zbind (f x) (zloop K5 f)):=
 ⟨fun _ _=>rfl,fun _ _=>rfl,fun _ _=>rfl,fun _ _=>rfl,fun _ _=>rfl⟩
def isR(r:Int):Bool:=decide (0≤r)&&(decide (r≤1114111)&&(decide (r<55296)||decide (57343<r)))
theorem c282(n:Nat)(r:Int):cl n 282 [.int .i64 r]=some (.bool (isR r),true):=by
 rw[iP 282 A282 B282,B282];unfold isR;cases h1:decide (0≤r)
 ·simp only[z0,seval,h1,A282];rfl
 ·cases h2:decide (r≤1114111)
  ·simp only[z0,seval,h1,h2,A282];rfl
  ·cases h3:decide (r<55296)
   ·simp only[z0,seval,h1,h2,h3,A282];rfl
   ·simp only[z0,seval,h1,h2,h3,A282];rfl
theorem quoN{a c:Int}(h:0≤a)(h':a<9223372036854775808)(hc:0<c):kN .quo (.int .i64 a) (.int .i64 c)=some (.int .i64 (a / c)):=by
 show(if IntKind.i64=IntKind.i64 then(if c=0 then none else some (D.int .i64 (bX .i64 (a.tdiv c)))) else none)=_
 rw[aS rfl];show(if c=0 then none else some (D.int .i64 (bX .i64 (a.tdiv c))))=_
 have h1:0≤a / c:=Int.ediv_nonneg h (by omega)
 have h2:a / c≤a:=Int.ediv_le_self _ h
 grind [Int.tdiv_eq_ediv_of_nonneg,cL]
theorem remN{a c:Int}(h:0≤a)(hc:0<c):kN .rem (.int .i64 a) (.int .i64 c)=some (.int .i64 (a % c)):=by
 show(if IntKind.i64=IntKind.i64 then(if c=0 then none else some (D.int .i64 (a.tmod c))) else none)=_
 grind
theorem sM{x:Int}(h:0≤x)(h':x<256):bX .u8 x=x:=kW (by omega) (by grind [hiK])
def u8L(l:List Int):List D:=l.map (D.int .u8)
def yM(r:Int):List Int:=if r<128 then[r]else if r<2048 then[192+r / 64,128+r % 64]else if r<65536 then[224+r / 4096,128+r / 64 % 64,128+r % 64] else[240+r / 262144,128+r / 4096 % 64,128+r / 64 % 64,128+r % 64]
theorem c283(n:Nat){r:Int}(hr:isR r=true):cl (n+1) 283 [.int .i64 r]=some (.tup [.sl true (yM r).length (u8L (yM r)),.int .i64 0],true):=by
 rw[iP 283 A283 B283,B283];have Bk:=hr;unfold isR at Bk;simp only[bW,bZ]at Bk;obtain⟨r0,r1,_⟩:=Bk;by_cases h1:r<128
 ·have e1:=sM r0 (by omega)
  simp only[z0,seval,aF 282,aJ,c282,hr,aH h1,e1,A283];rw[yM,aS h1];rfl
 ·by_cases h2:r<2048
  ·simp only[z0,seval,aF 282,aJ,c282,hr,aE h1,aH h2,quoN r0 (show r<9223372036854775808 by omega) (show(0:Int)<64 by decide),remN r0 (show(0:Int)<64 by decide),cL (show -9223372036854775808≤192+r / 64 by omega) (by omega),cL (show -9223372036854775808≤128+r % 64 by omega) (by omega),sM (show 0≤192+r / 64 by omega) (by omega),sM (show 0≤128+r % 64 by omega) (by omega),A283]
   rw[yM,aG h1,aS h2];rfl
  ·by_cases h3:r<65536
   ·simp only[z0,seval,aF 282,aJ,c282,hr,aE h1,aE h2,aH h3,quoN r0 (show r<9223372036854775808 by omega) (show(0:Int)<64 by decide),quoN r0 (show r<9223372036854775808 by omega) (show(0:Int)<4096 by decide),remN r0 (show(0:Int)<64 by decide),remN (show 0≤r / 64 by omega) (show(0:Int)<64 by decide),cL (show -9223372036854775808≤224+r / 4096 by omega) (by omega),cL (show -9223372036854775808≤128+r / 64 % 64 by omega) (by omega),cL (show -9223372036854775808≤128+r % 64 by omega) (by omega),sM (show 0≤224+r / 4096 by omega) (by omega),sM (show 0≤128+r / 64 % 64 by omega) (by omega),sM (show 0≤128+r % 64 by omega) (by omega),A283]
    rw[yM,aG h1,aG h2,aS h3];rfl
   ·simp only[z0,seval,aF 282,aJ,c282,hr,aE h1,aE h2,aE h3,quoN r0 (show r<9223372036854775808 by omega) (show(0:Int)<64 by decide),quoN r0 (show r<9223372036854775808 by omega) (show(0:Int)<4096 by decide),quoN r0 (show r<9223372036854775808 by omega) (show(0:Int)<262144 by decide),remN r0 (show(0:Int)<64 by decide),remN (show 0≤r / 64 by omega) (show(0:Int)<64 by decide),remN (show 0≤r / 4096 by omega) (show(0:Int)<64 by decide),cL (show -9223372036854775808≤240+r / 262144 by omega) (by omega),cL (show -9223372036854775808≤128+r / 4096 % 64 by omega) (by omega),cL (show -9223372036854775808≤128+r / 64 % 64 by omega) (by omega),cL (show -9223372036854775808≤128+r % 64 by omega) (by omega),sM (show 0≤240+r / 262144 by omega) (by omega),sM (show 0≤128+r / 4096 % 64 by omega) (by omega),sM (show 0≤128+r / 64 % 64 by omega) (by omega),sM (show 0≤128+r % 64 by omega) (by omega),A283]
    rw[yM,aG h1,aG h2,aG h3];rfl
theorem zop:type_of% @fX∧type_of% @iY∧type_of% @eE∧type_of% @fQ∧type_of% @fG∧type_of% @oP∧type_of% @eY∧type_of% @eJ∧type_of% @dW∧type_of% @lH∧type_of% @nV∧type_of% @jO∧type_of% @qH∧type_of% @xJ∧type_of% @kZ∧type_of% @fH:=
 ⟨@fX,@iY,@eE,@fQ,@fG,@oP,@eY,@eJ,@dW,@lH,@nV,@jO,@qH,@xJ,@kZ,@fH⟩
theorem tks:(∀l:List α,l.take 0=[])∧(∀(n:Nat) (a:α) l,(a::l).take (n+1)=a::l.take n)∧(∀p:α→Bool,[].all p=true)∧(∀(p:α→Bool) a l,(a::l).all p=(p a&&l.all p)):=
 ⟨fun _=>rfl,fun _ _ _=>rfl,fun _=>rfl,fun _ _ _=>rfl⟩
theorem nb:((True:Prop)=True)∧(∀p:Prop,[Decidable p]→decide (¬p) = !decide p)∧(∀a b:Int,(a≠b)=¬(a=b))∧(decide True=true)∧(decide False=false)∧((¬True)=False)∧((¬False)=True)∧((!true)=false)∧((!false)=true):=
 ⟨rfl,fun p=>by simp,fun _ _=>rfl,rfl,rfl,by simp,by simp,rfl,rfl⟩
structure Ty where
 kind:Int
 rank:Int
 a0:Int
 a1:Int
 data:Int
def tyC(t:Ty):List D:=[.int .i64 t.kind,.int .i64 t.rank,.int .i64 t.a0,.int .i64 t.a1,.int .i64 t.data]
def mQ(n:Nat)(a:Int):Bool:=decide (0≤a)&&decide (a<(n:Int))
def rJ(us:List Nat)(a b:Int):Bool:=(uM us a.toNat).testBit b.toNat
def tyE(us:List Nat)(low:Int)(t:Ty):Int:=
 if(t.kind≠1∧t.kind≠2)∨t.rank<0∨2<t.rank then 7 else
 if mQ us.length t.a0=false∨mQ us.length t.a1=false∨mQ us.length t.data=false then 7 else
 if(t.rank=0∧t.a0≠low)∨(t.rank≤1∧t.a1≠low) then 6 else
 if(1≤t.rank∧rJ us t.a0 t.data=false)∨(t.rank=2∧rJ us t.a1 t.data=false) then 25 else 0
set_option maxHeartbeats 2000000 in
theorem c55(n:Nat)(hd:Sl 1 fM ss d)(he:Sl 1 u8C us e)(hu:fY us)(Cs:us.length=ss.length)(h1:1≤us.length)(h8:us.length≤8)(t:Ty):cl (n+2) 55 [.agg [d,e],.agg (tyC t)]=some (.int .i64 (tyE us (gY us) t),true):=by
 rw[kG 55 A55 B55,B55];have zY:cX [d,e] 0 (some 2)=some (.agg [d,e]):=rfl;have Ct:∀a:Int,cl (n+1) 47 [.agg [d,e],.int .i64 a]=some (.bool (mQ us.length a),true):=fun a=>by grind [c47,mQ]
 have Bf:=c100 (n+1) hd he hu h1 h8;by_cases hk:t.kind≠1∧t.kind≠2
 ·have hE:tyE us (gY us) t=7:=aS (.inl hk);rw[hE];unfold tyC;simp only[z2,seval,hd.nag,he.nag,aE hk.1,aE hk.2,dJ,aM,aN,aQ,aP,bN,bD,aW,A55];rfl
 have Br:t.kind=1∨t.kind=2:=by omega
 by_cases Kp:t.rank<0
 ·have hE:tyE us (gY us) t=7:=aS (.inr (.inl Kp));rw[hE];unfold tyC;rcases Br with k|k<;>simp only[z2,seval,hd.nag,he.nag,k,aH Kp,dJ,aM,aN,aQ,aP,bN,bD,aW,A55]<;>rfl
 by_cases Cb:2<t.rank
 ·have hE:tyE us (gY us) t=7:=aS (.inr (.inr Cb));rw[hE];unfold tyC;rcases Br with k|k<;>simp only[z2,seval,hd.nag,he.nag,k,aE Kp,aH Cb,dJ,aM,aN,aQ,aP,bN,bD,aW,A55]<;>rfl
 have Ww:tyE us (gY us) t=if mQ us.length t.a0=false∨mQ us.length t.a1=false∨mQ us.length t.data=false then 7 else
   if(t.rank=0∧t.a0≠gY us)∨(t.rank≤1∧t.a1≠gY us) then 6 else
   if(1≤t.rank∧rJ us t.a0 t.data=false)∨(t.rank=2∧rJ us t.a1 t.data=false) then 25 else 0:=aG (by omega)
 rw[Ww];have i0:iF 2 (.int .i64 0)=some 0:=rfl;have i1:iF 2 (.int .i64 1)=some 1:=rfl;cases l0:mQ us.length t.a0
 ·rw[aS (.inl rfl)];unfold tyC;rcases Br with k|k<;>simp only[z2,seval,hd.nag,he.nag,k,aE Kp,aE Cb,zY,i0,i1,aF 47,aJ,hd.fz,he.fz,Ct,l0,dJ,aM,aN,aQ,aP,bN,bD,aW,A55]<;>rfl
 cases l1:mQ us.length t.a1
 ·rw[aS (.inr (.inl rfl))];unfold tyC;rcases Br with k|k<;>simp only[z2,seval,hd.nag,he.nag,k,aE Kp,aE Cb,zY,i0,i1,aF 47,aJ,hd.fz,he.fz,Ct,l0,l1,dJ,aM,aN,aQ,aP,bN,bD,aW,A55]<;>rfl
 cases ld:mQ us.length t.data
 ·rw[aS (.inr (.inr rfl))];unfold tyC;rcases Br with k|k<;>simp only[z2,seval,hd.nag,he.nag,k,aE Kp,aE Cb,zY,i0,i1,aF 47,aJ,hd.fz,he.fz,Ct,l0,l1,ld,dJ,aM,aN,aQ,aP,bN,bD,aW,A55]<;>rfl
 rw[aG (fun h=>by grind)]
 obtain⟨kd,rk,a0,a1,dt⟩:=t;dsimp only at *;have w:∀a:Int,mQ us.length a=true→∃x:Nat,a=x∧x<us.length:=fun a h=>by
  rw[mQ,bW,bZ,bZ]at h;exact⟨a.toNat,by omega,by omega⟩
 obtain⟨x0,rfl,g0⟩:=w _ l0;obtain⟨x1,rfl,g1⟩:=w _ l1;obtain⟨xd,rfl,gd⟩:=w _ ld;have Qw:∀a b:Nat,a<us.length→b<us.length→cl (n+1) 68 [.agg [d,e],.int .i64 (a:Nat),.int .i64 (b:Nat)]=some (.bool (rJ us (a:Nat) (b:Nat)),true):=fun a b ha hb=>
  c68 n hd.nag hd.fz he hu ha b (by omega) (c56 n hd.nag he hu ha b)
 have q0:=Qw x0 xd g0 gd;have q1:=Qw x1 xd g1 gd;clear w Qw Ww;generalize gY us=lw at *;generalize rJ us (x0:Nat) (xd:Nat)=b0 at *;generalize rJ us (x1:Nat) (xd:Nat)=b1 at *;generalize (x0:Int)=y0 at *;generalize (x1:Int)=y1 at *;generalize (xd:Int)=yd at *;unfold tyC;have hr:rk=0∨rk=1∨rk=2:=by omega
 by_cases e1:y1=lw
 ·rcases hr with rfl|rfl|rfl
  ·by_cases e0:y0=lw
   ·rw[aG (by simp[e0,e1]),aG (by simp)]
    rcases Br with rfl|rfl<;>simp only[z2,seval,hd.nag,he.nag,zun,dR,cN,AOp.kd,zop,tks,bP,dL,show bX .i64 1=1 from rfl,show bX .i64 2=2 from rfl,zY,i0,i1,aF 47,aF 100,aF 68,aJ,hd.fz,he.fz,Ct,Bf,l0,l1,ld,dJ,aM,aN,aQ,aP,bN,bD,aW,A55,aH e0,aH e1]<;>rfl
   ·rw[aS (.inl ⟨rfl,e0⟩)]
    rcases Br with rfl|rfl<;>simp only[z2,seval,hd.nag,he.nag,zun,dR,cN,AOp.kd,zop,tks,bP,dL,show bX .i64 1=1 from rfl,show bX .i64 2=2 from rfl,zY,i0,i1,aF 47,aF 100,aF 68,aJ,hd.fz,he.fz,Ct,Bf,l0,l1,ld,dJ,aM,aN,aQ,aP,bN,bD,aW,A55,aE e0]<;>rfl
  ·rw[aG (by simp[e1])]
   cases b0
   ·rw[aS (by simp)]
    rcases Br with rfl|rfl<;>simp only[z2,seval,hd.nag,he.nag,zun,dR,cN,AOp.kd,zop,tks,bP,dL,show bX .i64 1=1 from rfl,show bX .i64 2=2 from rfl,zY,i0,i1,aF 47,aF 100,aF 68,aJ,hd.fz,he.fz,Ct,Bf,l0,l1,ld,dJ,aM,aN,aQ,aP,bN,bD,aW,A55,aH e1,q0]<;>rfl
   ·rw[aG (by simp)]
    rcases Br with rfl|rfl<;>simp only[z2,seval,hd.nag,he.nag,zun,dR,cN,AOp.kd,zop,tks,bP,dL,show bX .i64 1=1 from rfl,show bX .i64 2=2 from rfl,zY,i0,i1,aF 47,aF 100,aF 68,aJ,hd.fz,he.fz,Ct,Bf,l0,l1,ld,dJ,aM,aN,aQ,aP,bN,bD,aW,A55,aH e1,q0]<;>rfl
  ·rw[aG (by simp)]
   cases b0
   ·rw[aS (by simp)]
    rcases Br with rfl|rfl<;>simp only[z2,seval,hd.nag,he.nag,zun,dR,cN,AOp.kd,zop,tks,bP,dL,show bX .i64 1=1 from rfl,show bX .i64 2=2 from rfl,zY,i0,i1,aF 47,aF 100,aF 68,aJ,hd.fz,he.fz,Ct,Bf,l0,l1,ld,dJ,aM,aN,aQ,aP,bN,bD,aW,A55,q0,q1]<;>rfl
   cases b1
   ·rw[aS (by simp)]
    rcases Br with rfl|rfl<;>simp only[z2,seval,hd.nag,he.nag,zun,dR,cN,AOp.kd,zop,tks,bP,dL,show bX .i64 1=1 from rfl,show bX .i64 2=2 from rfl,zY,i0,i1,aF 47,aF 100,aF 68,aJ,hd.fz,he.fz,Ct,Bf,l0,l1,ld,dJ,aM,aN,aQ,aP,bN,bD,aW,A55,q0,q1]<;>rfl
   ·rw[aG (by simp)]
    rcases Br with rfl|rfl<;>simp only[z2,seval,hd.nag,he.nag,zun,dR,cN,AOp.kd,zop,tks,bP,dL,show bX .i64 1=1 from rfl,show bX .i64 2=2 from rfl,zY,i0,i1,aF 47,aF 100,aF 68,aJ,hd.fz,he.fz,Ct,Bf,l0,l1,ld,dJ,aM,aN,aQ,aP,bN,bD,aW,A55,q0,q1]<;>rfl
 ·rcases hr with rfl|rfl|rfl
  ·rw[aS (.inr ⟨by decide,e1⟩)]
   by_cases e0:y0=lw
   ·rcases Br with rfl|rfl<;>simp only[z2,seval,hd.nag,he.nag,zun,dR,cN,AOp.kd,zop,tks,bP,dL,show bX .i64 1=1 from rfl,show bX .i64 2=2 from rfl,zY,i0,i1,aF 47,aF 100,aF 68,aJ,hd.fz,he.fz,Ct,Bf,l0,l1,ld,dJ,aM,aN,aQ,aP,bN,bD,aW,A55,aH e0,aE e1]<;>rfl
   ·rcases Br with rfl|rfl<;>simp only[z2,seval,hd.nag,he.nag,zun,dR,cN,AOp.kd,zop,tks,bP,dL,show bX .i64 1=1 from rfl,show bX .i64 2=2 from rfl,zY,i0,i1,aF 47,aF 100,aF 68,aJ,hd.fz,he.fz,Ct,Bf,l0,l1,ld,dJ,aM,aN,aQ,aP,bN,bD,aW,A55,aE e0]<;>rfl
  ·rw[aS (.inr ⟨by decide,e1⟩)]
   rcases Br with rfl|rfl<;>simp only[z2,seval,hd.nag,he.nag,zun,dR,cN,AOp.kd,zop,tks,bP,dL,show bX .i64 1=1 from rfl,show bX .i64 2=2 from rfl,zY,i0,i1,aF 47,aF 100,aF 68,aJ,hd.fz,he.fz,Ct,Bf,l0,l1,ld,dJ,aM,aN,aQ,aP,bN,bD,aW,A55,aE e1]<;>rfl
  ·rw[aG (by simp)]
   cases b0
   ·rw[aS (by simp)]
    rcases Br with rfl|rfl<;>simp only[z2,seval,hd.nag,he.nag,zun,dR,cN,AOp.kd,zop,tks,bP,dL,show bX .i64 1=1 from rfl,show bX .i64 2=2 from rfl,zY,i0,i1,aF 47,aF 100,aF 68,aJ,hd.fz,he.fz,Ct,Bf,l0,l1,ld,dJ,aM,aN,aQ,aP,bN,bD,aW,A55,q0,q1]<;>rfl
   cases b1
   ·rw[aS (by simp)]
    rcases Br with rfl|rfl<;>simp only[z2,seval,hd.nag,he.nag,zun,dR,cN,AOp.kd,zop,tks,bP,dL,show bX .i64 1=1 from rfl,show bX .i64 2=2 from rfl,zY,i0,i1,aF 47,aF 100,aF 68,aJ,hd.fz,he.fz,Ct,Bf,l0,l1,ld,dJ,aM,aN,aQ,aP,bN,bD,aW,A55,q0,q1]<;>rfl
   ·rw[aG (by simp)]
    rcases Br with rfl|rfl<;>simp only[z2,seval,hd.nag,he.nag,zun,dR,cN,AOp.kd,zop,tks,bP,dL,show bX .i64 1=1 from rfl,show bX .i64 2=2 from rfl,zY,i0,i1,aF 47,aF 100,aF 68,aJ,hd.fz,he.fz,Ct,Bf,l0,l1,ld,dJ,aM,aN,aQ,aP,bN,bD,aW,A55,q0,q1]<;>rfl
theorem cp2:(min 2 0=0)∧(min 2 1=1)∧(min 2 2=2)∧(∀a b:D,List.take 0 [a,b]=[])∧(∀a b:D,List.take 1 [a,b]=[a])∧(∀a b:D,List.take 2 [a,b]=[a,b])∧(∀a b:D,fJ [a,b] 0 []=[a,b])∧(∀a b c:D,fJ [a,b] 0 [c]=[c,b])∧(∀a b c d:D,fJ [a,b] 0 [c,d]=[c,d])∧(∀a:Int,[D.int .i64 a].any eG=false)∧(∀a b:Int,[D.int .i64 a,.int .i64 b].any eG=false)∧(([]:List D).any eG=false):=
 ⟨rfl,rfl,rfl,fun _ _=>rfl,fun _ _=>rfl,fun _ _=>rfl,fun _ _=>rfl,fun _ _ _=>rfl,fun _ _ _ _=>rfl,fun _=>rfl,fun _ _=>rfl,rfl⟩
theorem tk2:(∀a b:Int,cX [.int .i64 a,.int .i64 b] 0 (some 2)=some (.agg [.int .i64 a,.int .i64 b]))∧(∀k r a b c:Int,cX [.int .i64 k,.int .i64 r,.int .i64 a,.int .i64 b,.int .i64 c] 2 (some 2)=some (.agg [.int .i64 a,.int .i64 b])):=
 ⟨fun _ _=>rfl,fun _ _ _ _ _=>rfl⟩
theorem f115(n j:Nat){S:St}(Ja:eG d=false)(Sk:eG e=false)(Hu:∀k s,frz false (k+1) s d=some d)(Ym:∀k s,frz false (k+1) s e=some e){lw y y1 y2 y3 y4 yd:Int}(s0:sget S 0=some (.fix 119 [d,e,.int .i64 lw]))(s1:sget S 1=some (.fix 37 [.int .i64 y1,.int .i64 y2,.int .i64 y3,.int .i64 y4,.int .i64 yd])){b:Bool} 
  (h:cl n 116 [.agg [d,e,.int .i64 lw],.int .i64 y,.int .i64 yd]=some (.bool b,true)):fn (n+1) (j+2) (.fn 115) [.int .i64 y,.ptr 0 0,.ptr 1 0] S c = .ok (.ret (.bool !b)) S c:=by
 rw[iG (f:=115) (A:=A115) rfl rfl rfl rfl (n+1) (j+1) _ _ _ rfl,show A115.body=B115.b from rfl]
 simp only[B115,cI];have zY:cX [d,e,.int .i64 lw] 0 (some 3)=some (.agg [d,e,.int .i64 lw]):=rfl;simp only[z2,seval,s0,s1,Ja,Sk,zY,aF 116,aJ,Hu,Ym,h,A115]
theorem wW(cx:Cx)(k:CL)(dst:Option Nat)(a:Arg)(l:List Arg)(x:AS):zOp cx k ⟨dst,.callv a l,none⟩ x=lY cx k dst x (a.ev cx.G x.t) (evs l cx.G x.t):=rfl
theorem cf_fn(cx:Cx)(k:CL)(dst:Option Nat)(x:AS)(f:Nat)(a:D)(cs:List D):lY cx k dst x (.fn (.func f) [] cs) [a]=back dst x (k (.fn f) (a::cs) x.s x.c):=rfl
theorem f114(n j:Nat){S:St}(Ja:eG d=false)(Sk:eG e=false)(Hu:∀k s,frz false (k+1) s d=some d)(Ym:∀k s,frz false (k+1) s e=some e){lw y1 k y3 y4 yd:Int}(s0:sget S 0=some (.fix 119 [d,e,.int .i64 lw]))(s1:sget S 1=some (.fix 37 [.int .i64 y1,.int .i64 k,.int .i64 y3,.int .i64 y4,.int .i64 yd])){b3 b4:Bool} 
  (h3:cl n 116 [.agg [d,e,.int .i64 lw],.int .i64 y3,.int .i64 yd]=some (.bool b3,true)) (h4:cl n 116 [.agg [d,e,.int .i64 lw],.int .i64 y4,.int .i64 yd]=some (.bool b4,true)) {q:Nat} (hq:q≤2) :
  fn (n+1) (j+5) (.fn 114) [.ms 1 2 1 q 2,.fn (.func 115) [] [.ptr 0 0,.ptr 1 0]] S c = .ok (.ret (.bool (decide (1≤q) && !b3||decide (2≤q) && !b4))) S c:=by
 rw[iG (f:=114) (A:=A114) rfl rfl rfl rfl (n+1) (j+4) _ _ _ rfl,show A114.body=B114.b from rfl]
 simp only[B114,cI];have e3:=f115 n (j+1) Ja Sk Hu Ym s0 s1 h3 (c:=c);have e4:=f115 n (j+1) Ja Sk Hu Ym s0 s1 h4 (c:=c);have hc:fn (n+1) (j+4) (.fn 162) [.ms 1 2 1 q 2,.fn (.func 115) [] [.ptr 0 0,.ptr 1 0]] S c = .ok (.ret (.int .i64 (if q=0 then -1 else bif !b3 then 0 else if q=1 then -1 else bif !b4 then 1 else -1))) S c:=by
  rw[iG (f:=162) (A:=A162) rfl rfl rfl rfl (n+1) (j+3) _ _ _ rfl,show A162.body=B162.b from rfl]
  simp only[B162,cI];have hl:∀q,lenD false (.ms 1 2 1 q 2)=some q:=fun _=>rfl
  have i01:iF 1 (.int .i64 0)=some 0:=rfl;have i02:iF 2 (.int .i64 0)=some 0:=rfl;have i1:iF 2 (.int .i64 1)=some 1:=rfl;have w1:bX .i64 1=1:=rfl;have ia:iJ 1 (.ms 1 2 1 1 2) (.int .i64 0)=some (.ptr 1 2)∧iJ 1 (.ms 1 2 1 2 2) (.int .i64 0)=some (.ptr 1 2)∧iJ 1 (.ms 1 2 1 2 2) (.int .i64 1)=some (.ptr 1 3):=⟨rfl,rfl,rfl⟩
  have k:((0:Nat):Int)=0∧((1:Nat):Int)=1∧((2:Nat):Int)=2:=⟨rfl,rfl,rfl⟩;have w2:bX .i64 2=2:=rfl;obtain rfl|rfl|rfl:q=0∨q=1∨q=2:=by omega
  ·simp only[z2,seval,hl,k,zun,nb,A162]
  all_goals (cases b3<;>cases b4)
  all_goals simp only[z2,seval,hl,k,ia,wW,cf_fn,i01,i02,i1,w1,w2,zun,s1,e3,e4,nb,A162]
 simp only[z2,seval,hc,A114];obtain rfl|rfl|rfl:q=0∨q=1∨q=2:=by omega
 all_goals (cases b3<;>cases b4<;>rfl)
theorem cmp2(a b c d:Int):oW (.ty (.parts [(0,none,.int),(1,none,.int)])) (.agg [.int .i64 a,.int .i64 b]) (.agg [.int .i64 c,.int .i64 d])=some (decide (a=c)&&decide (b=d)):=by
 have h:∀a b:Bool,(bif a then bif b then some true else some false else some false)=some (a&&b):=by decide
 exact h (a==c) (b==d)
set_option maxHeartbeats 2000000 in
theorem c73(n:Nat)(hd:Sl 1 fM ss d)(he:Sl 1 u8C us e)(hu:fY us)(Cs:us.length=ss.length)(h8:us.length≤8)(lw:Int)(t:Ty):cl (n+1) 73 [.agg [d,e,.int .i64 lw],.agg (tyC t)]=some (.int .i64 (tyE us lw t),true):=by
 rw[kG 73 A73 B73,B73];have zY:cX [d,e,.int .i64 lw] 0 (some 3)=some (.agg [d,e,.int .i64 lw]):=rfl;have Kw:∀a:Int,cl n 74 [.agg [d,e,.int .i64 lw],.int .i64 a]=some (.bool (mQ us.length a),true):=fun a=>by rw[c74 n hd he.nag lw a,mQ,Cs]
 by_cases hk:t.kind≠1∧t.kind≠2
 ·have hE:tyE us lw t=7:=aS (.inl hk);rw[hE];unfold tyC;simp only[z2,seval,hd.nag,he.nag,aE hk.1,aE hk.2,nb,A73];rfl
 have Br:t.kind=1∨t.kind=2:=by omega
 by_cases Kp:t.rank<0
 ·have hE:tyE us lw t=7:=aS (.inr (.inl Kp));rw[hE];unfold tyC;rcases Br with k|k<;>simp only[z2,seval,hd.nag,he.nag,k,aH Kp,nb,A73]<;>rfl
 by_cases Cb:2<t.rank
 ·have hE:tyE us lw t=7:=aS (.inr (.inr Cb));rw[hE];unfold tyC;rcases Br with k|k<;>simp only[z2,seval,hd.nag,he.nag,k,aE Kp,aH Cb,nb,A73]<;>rfl
 have Ww:tyE us lw t=if mQ us.length t.a0=false∨mQ us.length t.a1=false∨mQ us.length t.data=false then 7 else
   if(t.rank=0∧t.a0≠lw)∨(t.rank≤1∧t.a1≠lw) then 6 else
   if(1≤t.rank∧rJ us t.a0 t.data=false)∨(t.rank=2∧rJ us t.a1 t.data=false) then 25 else 0:=aG (by omega)
 rw[Ww];have i0:iF 2 (.int .i64 0)=some 0:=rfl;have i1:iF 2 (.int .i64 1)=some 1:=rfl;have j0:vH 2 (.int .i64 0)=some 0:=rfl;have j1:vH 2 (.int .i64 1)=some 1:=rfl;have j2:vH 2 (.int .i64 2)=some 2:=rfl;cases l0:mQ us.length t.a0
 ·rw[aS (.inl rfl)];unfold tyC;rcases Br with k|k<;>simp only[z2,seval,hd.nag,he.nag,k,aE Kp,aE Cb,zY,i0,i1,aF 74,aJ,hd.fz,he.fz,Kw,l0,nb,A73]<;>rfl
 cases l1:mQ us.length t.a1
 ·rw[aS (.inr (.inl rfl))];unfold tyC;rcases Br with k|k<;>simp only[z2,seval,hd.nag,he.nag,k,aE Kp,aE Cb,zY,i0,i1,aF 74,aJ,hd.fz,he.fz,Kw,l0,l1,nb,A73]<;>rfl
 cases ld:mQ us.length t.data
 ·rw[aS (.inr (.inr rfl))];unfold tyC;rcases Br with k|k<;>simp only[z2,seval,hd.nag,he.nag,k,aE Kp,aE Cb,zY,i0,i1,aF 74,aJ,hd.fz,he.fz,Kw,l0,l1,ld,nb,A73]<;>rfl
 rw[aG (fun h=>by grind)]
 obtain⟨kd,rk,a0,a1,dt⟩:=t;dsimp only at *;have w:∀a:Int,mQ us.length a=true→∃x:Nat,a=x∧x<us.length:=fun a h=>by
  rw[mQ,bW,bZ,bZ]at h;exact⟨a.toNat,by omega,by omega⟩
 obtain⟨x0,rfl,g0⟩:=w _ l0;obtain⟨x1,rfl,g1⟩:=w _ l1;obtain⟨xd,rfl,gd⟩:=w _ ld;have q0:cl n 116 [.agg [d,e,.int .i64 lw],.int .i64 (x0:Nat),.int .i64 (xd:Nat)]=some (.bool (rJ us (x0:Nat) (xd:Nat)),true):=c116 n hd.nag he hu lw g0 xd;have q1:cl n 116 [.agg [d,e,.int .i64 lw],.int .i64 (x1:Nat),.int .i64 (xd:Nat)]=some (.bool (rJ us (x1:Nat) (xd:Nat)),true):=c116 n hd.nag he hu lw g1 xd
 clear w Ww;generalize rJ us (x0:Nat) (xd:Nat)=b0 at *;generalize rJ us (x1:Nat) (xd:Nat)=b1 at *;generalize (x0:Int)=y0 at *;generalize (x1:Int)=y1 at *;generalize (xd:Int)=yd at *;unfold tyC;have Eo:∀(kd rk:Int) (S:St) (c q:Nat),sget S 0=some (.fix 119 [d,e,.int .i64 lw])→sget S 1=some (.fix 37 [.int .i64 kd,.int .i64 rk,.int .i64 y0,.int .i64 y1,.int .i64 yd])→q≤2 →
   fn (n+1) 4096 (.fn 114) [.ms 1 2 1 q 2,.fn (.func 115) [] [.ptr 0 0,.ptr 1 0]] S c = .ok (.ret (.bool (decide (1≤q) && !b0||decide (2≤q) && !b1))) S c:=fun kd rk S c q s0 s1 hq=>
  f114 n 4091 hd.nag he.nag hd.fz he.fz s0 s1 q0 q1 hq
 have hr:rk=0∨rk=1∨rk=2:=by omega
 rcases hr with rfl|rfl|rfl
 ·by_cases e1:lw=y1
  ·by_cases e0:lw=y0
   ·rw[aG (by omega),aG (by simp)]
    rcases Br with rfl|rfl<;>simp only[z2,seval,hd.nag,he.nag,dR,cN,AOp.kd,zop,tks,bP,dL,zY,i0,i1,aF 74,aJ,hd.fz,he.fz,Kw,l0,l1,ld,cmp2,nb,iA,jN,kR,jJ,tk2,aH e0,aH e1,Eo 1 0,Eo 2 0,dU,bS,gH,cp2,eA,dS,bR,j0,j1,j2,bE,cP,eR,A73]<;>rfl
   ·rw[aS (.inl ⟨rfl,fun h=>e0 h.symm⟩)]
    rcases Br with rfl|rfl<;>simp only[z2,seval,hd.nag,he.nag,dR,cN,AOp.kd,zop,tks,bP,dL,zY,i0,i1,aF 74,aJ,hd.fz,he.fz,Kw,l0,l1,ld,cmp2,nb,iA,jN,kR,jJ,tk2,aE e0,aH e1,gH,cp2,eA,dS,bR,j0,j1,j2,bE,cP,eR,A73]<;>rfl
  ·rw[aS (.inr ⟨by decide,fun h=>e1 h.symm⟩)]
   by_cases e0:lw=y0
   ·rcases Br with rfl|rfl<;>simp only[z2,seval,hd.nag,he.nag,dR,cN,AOp.kd,zop,tks,bP,dL,zY,i0,i1,aF 74,aJ,hd.fz,he.fz,Kw,l0,l1,ld,cmp2,nb,iA,jN,kR,jJ,tk2,aH e0,aE e1,gH,cp2,eA,dS,bR,j0,j1,j2,bE,cP,eR,A73]<;>rfl
   ·rcases Br with rfl|rfl<;>simp only[z2,seval,hd.nag,he.nag,dR,cN,AOp.kd,zop,tks,bP,dL,zY,i0,i1,aF 74,aJ,hd.fz,he.fz,Kw,l0,l1,ld,cmp2,nb,iA,jN,kR,jJ,tk2,aE e0,aE e1,gH,cp2,eA,dS,bR,j0,j1,j2,bE,cP,eR,A73]<;>rfl
 ·by_cases e1:lw=y1
  ·rw[aG (by simp[e1])]
   cases b0
   ·rw[aS (by simp)]
    rcases Br with rfl|rfl<;>simp only[z2,seval,hd.nag,he.nag,dR,cN,AOp.kd,zop,tks,bP,dL,zY,i0,i1,aF 74,aJ,hd.fz,he.fz,Kw,l0,l1,ld,cmp2,nb,iA,jN,kR,jJ,tk2,aH e1,Eo 1 1,Eo 2 1,dU,bS,gH,cp2,eA,dS,bR,j0,j1,j2,bE,cP,eR,A73]<;>rfl
   ·rw[aG (by simp)]
    rcases Br with rfl|rfl<;>simp only[z2,seval,hd.nag,he.nag,dR,cN,AOp.kd,zop,tks,bP,dL,zY,i0,i1,aF 74,aJ,hd.fz,he.fz,Kw,l0,l1,ld,cmp2,nb,iA,jN,kR,jJ,tk2,aH e1,Eo 1 1,Eo 2 1,dU,bS,gH,cp2,eA,dS,bR,j0,j1,j2,bE,cP,eR,A73]<;>rfl
  ·rw[aS (.inr ⟨by decide,fun h=>e1 h.symm⟩)]
   rcases Br with rfl|rfl<;>simp only[z2,seval,hd.nag,he.nag,dR,cN,AOp.kd,zop,tks,bP,dL,zY,i0,i1,aF 74,aJ,hd.fz,he.fz,Kw,l0,l1,ld,cmp2,nb,iA,jN,kR,jJ,tk2,aE e1,gH,cp2,eA,dS,bR,j0,j1,j2,bE,cP,eR,A73]<;>rfl
 ·rw[aG (by simp)]
  cases b0
  ·rw[aS (by simp)]
   rcases Br with rfl|rfl<;>simp only[z2,seval,hd.nag,he.nag,dR,cN,AOp.kd,zop,tks,bP,dL,zY,i0,i1,aF 74,aJ,hd.fz,he.fz,Kw,l0,l1,ld,cmp2,nb,iA,jN,kR,jJ,tk2,Eo 1 2,Eo 2 2,dU,bS,gH,cp2,eA,dS,bR,j0,j1,j2,bE,cP,eR,A73]<;>rfl
  cases b1
  ·rw[aS (by simp)]
   rcases Br with rfl|rfl<;>simp only[z2,seval,hd.nag,he.nag,dR,cN,AOp.kd,zop,tks,bP,dL,zY,i0,i1,aF 74,aJ,hd.fz,he.fz,Kw,l0,l1,ld,cmp2,nb,iA,jN,kR,jJ,tk2,Eo 1 2,Eo 2 2,dU,bS,gH,cp2,eA,dS,bR,j0,j1,j2,bE,cP,eR,A73]<;>rfl
  ·rw[aG (by simp)]
   rcases Br with rfl|rfl<;>simp only[z2,seval,hd.nag,he.nag,dR,cN,AOp.kd,zop,tks,bP,dL,zY,i0,i1,aF 74,aJ,hd.fz,he.fz,Kw,l0,l1,ld,cmp2,nb,iA,jN,kR,jJ,tk2,Eo 1 2,Eo 2 2,dU,bS,gH,cp2,eA,dS,bR,j0,j1,j2,bE,cP,eR,A73]<;>rfl
theorem zO(h:CHK ss us=e2 0 0):us.length=ss.length∧(1≤ss.length∧ss.length≤8)∧∀a,a<ss.length→mI ss.length (uM us) a=true:=by
 unfold CHK at h;rcases mO ss with⟨h1,h2⟩|⟨h1,a,er,h2,h3⟩
 ·rw[aS h1]at h;by_cases hl:us.length=ss.length
  ·rw[aS hl]at h;unfold ordD at h;refine⟨hl,(oS.1 h1).1,fun a ha=>?_⟩
   rcases eX (sE ss.length (uM us)) (sF ss.length (uM us)) ss.length 0 with⟨hb,h'⟩|⟨m,r,_,h2,h3,_,h5⟩
   all_goals grind [sE,mI,uM,absurd,mU]
  grind [absurd,mU]
 grind [absurd,mU]
theorem ord_trans(h:∀a,a<n→mI n u a=true)(ha:a<n)(hb:b<n)(hc:c<n)(h1:(u a).testBit b=true)(h2:(u b).testBit c=true):(u a).testBit c=true:=by
 have:=h a ha;simp only[mI,bW]at this;have h3:=jI.1 this.2.2 b hb;simp only[okA,h1,bD,Bool.false_or,bW,Nat.beq_eq]at h3;have h4:((u b&&&(2 ^ n-1))&&&u a).testBit c=(u b&&&(2 ^ n-1)).testBit c:=by rw[h3.2]
 grind
theorem xY(h:∀a,a<n→mI n u a=true)(ha:a<n):(u a).testBit a=true∧u a<2 ^ n:=by
 grind [mI,Nat.blt_eq]
theorem xZ(h:∀a,a<n→mI n u a=true)(ha:a<n)(hb:b<n)(h1:(u a).testBit b=true)(h2:(u b).testBit a=true):a=b:=by
 grind [mI,jI,okA,bD,Nat.beq_eq]
theorem has_low(h:CHK ss us=e2 0 0):∃b,b<ss.length∧∀i,i<ss.length→(uM us b).testBit i=true:=by
 obtain⟨hl,⟨h1,h8⟩,ho⟩:=zO h;have hlat:=latD_good (CHK_lat h);have:∀k,k≤ss.length→∃b,b<ss.length∧∀i,i<k→(uM us b).testBit i=true:=by
  intro k
  induction k with
  | zero=>exact fun _=>⟨0,by omega,nofun⟩
  | succ k ih=>
   intro hk;obtain⟨b,hb,Aa⟩:=ih (by omega)
   have h2:=hlat b hb k (by omega)
   unfold lat2 at h2;simp only[bW,Bool.not_eq_true',cD]at h2;have h3:=h2.2;unfold kL at h3;rcases eX (kJ (dnM (uM us) ss.length ss.length) b k) (-1) ss.length 0 with⟨_,h'⟩|⟨m,r,_,hm,h5,_,_⟩
   ·omega
   have Ei:m<ss.length:=by omega
   unfold kJ at h5;split at h5
   case isFalse=>cases h5
   case isTrue he=>
    have Tx:(dnM (uM us) ss.length ss.length m).testBit m=true:=by rw[yS];simp[Ei,(xY ho Ei).1]
    rw[bH he,Nat.testBit_and,yS,yS]at Tx;simp only[bW,bZ]at Tx;refine⟨m,Ei,fun i hi=>?_⟩
    rcases iI.1 hi with h'|rfl
    ·exact ord_trans ho Ei hb (by omega) Tx.1.2.1 (Aa i h')
    grind
 simp_all
theorem pop_full:∀k,k≤8→∀v,v<2 ^ k→(k≤pop v↔v=2 ^ k-1):=by
 have:∀k,k<9→∀v,v<2 ^ k→(k≤pop v↔v=2 ^ k-1):=by decide +kernel
 grind
theorem rI(h:CHK ss us=e2 0 0):∃b:Nat,b<ss.length∧gY us=b∧endI (uM us) ss.length=b∧∀i,i<ss.length→(uM us b).testBit i=true:=by
 obtain⟨hl,⟨h1,h8⟩,ho⟩:=zO h;obtain⟨b,hb,Aa⟩:=has_low h;have hub:uM us b=2 ^ ss.length-1:=by
  refine Nat.eq_of_testBit_eq fun i=>?_
  rw[Nat.testBit_two_pow_sub_one];by_cases hi:i<ss.length
  ·grind
  ·rw[aE hi,Nat.testBit_lt_two_pow];exact bY (xY ho hb).2 (Nat.pow_le_pow_right (by omega) (by omega))
 have Uy:∀j,j<ss.length→uM us j=2 ^ ss.length-1→j=b:=fun j hj he=>
  xZ ho hj hb (by grind) (Aa j hj)
 have hD:∀j,us.getD j 0=uM us j:=fun _=>rfl
 refine⟨b,hb,?_,?_,Aa⟩
 ·unfold gY;rw[hl];refine eL hb (by grind [lowP]) fun j hj=>?_
  grind [lowP]
 ·unfold endI;refine eL hb (by grind [endP,pop_full]) fun j hj=>?_
  rw[endP,aG];rintro(he|he)
  ·omega
  ·have:=Uy j (by omega) ((pop_full _ h8 _ (xY ho (by omega)).2).1 he)
   omega
theorem c62(n:Nat)(hd:Sl 1 fM ss d)(he:Sl 1 u8C us e)(hu:fY us)(hs:oZ ss)(hC:CHK ss us=e2 0 0)(t:Ty):cl (n+9) 62 [.agg [d,e],.agg (tyC t)]=some (.int .i64 (tyE us (gY us) t),true):=by
 rw[kG 62 A62 B62,B62];have zY:cX [d,e] 0 (some 2)=some (.agg [d,e]):=rfl;have htk3:∀x:Int,cX [d,e,.int .i64 x] 0 (some 3)=some (.agg [d,e,.int .i64 x]):=fun _=>rfl
 obtain⟨hl,⟨h1,h8⟩,_⟩:=zO hC;obtain⟨f,h72⟩:=c72 n hd he hu hs hC hl h1 h8;obtain⟨b,_,e1,e2,_⟩:=rI hC;have h73:=c73 (n+7) hd he hu hl (by omega) (gY us) t
 have htt:∀t:Ty,cX (tyC t) 0 (some 5)=some (.agg (tyC t)):=fun _=>rfl
 have Ah:∀t:Ty,(tyC t).any eG=false∧(tyC t).length=5:=fun _=>⟨rfl,rfl⟩
 have hft:∀s,frz false 20 s (.agg (tyC t))=some (.agg (tyC t)):=fun _=>rfl
 rw[e2,←e1]at h72;cases f
 all_goals simp only[z2,seval,hd.nag,he.nag,zY,htk3,htt,(Ah t).1,(Ah t).2,hft,aF 72,aF 73,aJ,hd.fz,he.fz,h72,h73,D.pures,D.pure,hd.pure,he.pure,Bool.and_self,Bool.or_true,dV,nb,A62]
 all_goals rfl
def eW(b:Nat):Bool:=decide (128≤b)&&decide (b<192)
def jZ:List Nat→Int
 | [a]=>if a<128 then a else -1
 | [a,b]=>if 192≤a∧a<224 then bif eW b then 64*((a:Int)-192)+b-128 else -1 else -1
 | [a,b,c]=>if 224≤a∧a<240 then bif eW b then bif eW c then 64*(64*((a:Int)-224)+b-128)+c-128 else -1 else -1 else -1
 | [a,b,c,d]=>if 240≤a∧a<248 then bif eW b then bif eW c then bif eW d then 64*(64*(64*((a:Int)-240)+b-128)+c-128)+d-128 else -1 else -1 else -1 else -1
 | _=>-1
theorem k2:kN .shr (.int .i64 64) (.int .u64 2)=some (.int .i64 16):=rfl
theorem k3:kN .shr (.int .i64 64) (.int .u64 3)=some (.int .i64 8):=rfl
theorem k4:kN .shr (.int .i64 64) (.int .u64 4)=some (.int .i64 4):=rfl
theorem kw:bX .u64 2=2∧bX .u64 3=3∧bX .u64 4=4∧bX .i64 (2+1)=3∧bX .i64 (3+1)=4∧bX .i64 (4+1)=5∧bX .i64 (1+1)=2∧bX .i64 (16*2)=32∧bX .i64 (8*2)=16∧bX .i64 (4*2)=8∧bX .i64 (192+32)=224∧bX .i64 (224+16)=240∧bX .i64 (240+8)=248:=⟨rfl,rfl,rfl,rfl,rfl,rfl,rfl,rfl,rfl,rfl,rfl,rfl,rfl⟩
theorem ki:iF 5 (.int .i64 2)=some 2∧iF 5 (.int .i64 3)=some 3∧iF 5 (.int .i64 4)=some 4∧iF 1 (.int .i64 0)=some 0∧iF 2 (.int .i64 0)=some 0∧iF 3 (.int .i64 0)=some 0∧iF 4 (.int .i64 0)=some 0∧iF 2 (.int .i64 1)=some 1∧iF 3 (.int .i64 1)=some 1∧iF 4 (.int .i64 1)=some 1∧iF 3 (.int .i64 2)=some 2∧iF 4 (.int .i64 2)=some 2∧iF 4 (.int .i64 3)=some 3:=⟨rfl,rfl,rfl,rfl,rfl,rfl,rfl,rfl,rfl,rfl,rfl,rfl,rfl⟩
theorem kc:((1:Nat):Int)=1∧((2:Nat):Int)=2∧((3:Nat):Int)=3∧((4:Nat):Int)=4:=⟨rfl,rfl,rfl,rfl⟩
theorem w64(h:a<256):bX .i64 (a:Int)=a:=cL (by omega) (by omega)
theorem c281_1(n:Nat){ex:Bool}(ha:a<256):cl n 281 [.sl ex 1 [.int .u8 (a:Int)]]=some (.int .i64 (jZ [a]),true):=by
 rw[iP 281 A281 B281,B281];have hl:lenD false (.sl ex 1 [.int .u8 (a:Int)])=some 1:=rfl;by_cases h:a<128;have d1:decide ((a:Int)<128)=true:=aH (by omega);rotate_left
 have d1:decide ((a:Int)<128)=false:=aE (by omega)
 all_goals simp only[z0,↓reduceIte,Nat.reduceEqDiff,Nat.reduceAdd,Nat.reduceLeDiff,reduceCtorEq,zun,k2,k3,k4,kw,ki,kc,w64 ha,hl,iJ,dS,aV,Int.reduceLT,Int.reduceLE,Int.reduceEq,dJ,aM,aN,aQ,aP,bN,d1,A281]
 ·rw[jZ,aG h];rfl
 ·rw[jZ,aS h];rfl
theorem c281_2(n:Nat){ex:Bool}(ha:a<256)(hb:b<256):cl n 281 [.sl ex 2 [.int .u8 (a:Int),.int .u8 (b:Int)]]=some (.int .i64 (jZ [a,b]),true):=by
 rw[iP 281 A281 B281,B281];have hl:lenD false (.sl ex 2 [.int .u8 (a:Int),.int .u8 (b:Int)])=some 2:=rfl;by_cases h0:a<192;have d1:decide ((a:Int)<192)=true:=aH (by omega);have d2:=d1;have d3:=d1;have d4:=d1;rotate_left
 have d1:decide ((a:Int)<192)=false:=aE (by omega)
 by_cases h1:224≤a;have d2:decide ((224:Int)≤a)=true:=aH (by omega);have d3:=d1;have d4:=d1;rotate_left
 have d2:decide ((224:Int)≤a)=false:=aE (by omega)
 by_cases Yq:b<128;have d3:decide ((b:Int)<128)=true:=aH (by omega);have d4:=d1;rotate_left
 have d3:decide ((b:Int)<128)=false:=aE (by omega)
 by_cases Cj:192≤b;have d4:decide ((192:Int)≤b)=true:=aH (by omega);rotate_left
 have d4:decide ((192:Int)≤b)=false:=aE (by omega)
 all_goals simp only[z0,↓reduceIte,Nat.reduceEqDiff,Nat.reduceAdd,Nat.reduceLeDiff,reduceCtorEq,zun,k2,k3,k4,kw,ki,kc,w64 ha,hl,iJ,dS,aV,Int.reduceLT,Int.reduceLE,Int.reduceEq,dJ,aM,aN,aQ,aP,bN,w64 hb,cL (show -9223372036854775808≤(a:Int)-192 by omega) (by omega),cL (show -9223372036854775808≤64*((a:Int)-192) by omega) (by omega),cL (show -9223372036854775808≤64*((a:Int)-192)+(b:Int) by omega) (by omega),cL (show -9223372036854775808≤64*((a:Int)-192)+(b:Int)-128 by omega) (by omega),d1,d2,d3,d4,A281]
 ·rw[jZ,aS (by omega)];rw[show eW b=true from by grind [eW,aH],bG];rfl
 ·rw[jZ,aG (by omega)];rfl
 ·rw[jZ,aG (by omega)];rfl
 ·rw[jZ,aS (by omega)];  rw[show eW b=false from by grind [eW,aE]];rfl
 ·rw[jZ,aS (by omega)];  rw[show eW b=false from by grind [eW,aE]];rfl
theorem c281_3(n:Nat){ex:Bool}(ha:a<256)(hb:b<256)(hc:c<256):cl n 281 [.sl ex 3 [.int .u8 (a:Int),.int .u8 (b:Int),.int .u8 (c:Int)]]=some (.int .i64 (jZ [a,b,c]),true):=by
 rw[iP 281 A281 B281,B281];have hl:lenD false (.sl ex 3 [.int .u8 (a:Int),.int .u8 (b:Int),.int .u8 (c:Int)])=some 3:=rfl;by_cases h0:a<224;have d1:decide ((a:Int)<224)=true:=aH (by omega);have d2:=d1;have d3:=d1;have d4:=d1;have d5:=d1;have d6:=d1;rotate_left
 have d1:decide ((a:Int)<224)=false:=aE (by omega)
 by_cases h1:240≤a;have d2:decide ((240:Int)≤a)=true:=aH (by omega);have d3:=d1;have d4:=d1;have d5:=d1;have d6:=d1;rotate_left
 have d2:decide ((240:Int)≤a)=false:=aE (by omega)
 by_cases Yq:b<128;have d3:decide ((b:Int)<128)=true:=aH (by omega);have d4:=d1;have d5:=d1;have d6:=d1;rotate_left
 have d3:decide ((b:Int)<128)=false:=aE (by omega)
 by_cases Cj:192≤b;have d4:decide ((192:Int)≤b)=true:=aH (by omega);have d5:=d1;have d6:=d1;rotate_left
 have d4:decide ((192:Int)≤b)=false:=aE (by omega)
 by_cases Fe:c<128;have d5:decide ((c:Int)<128)=true:=aH (by omega);have d6:=d1;rotate_left
 have d5:decide ((c:Int)<128)=false:=aE (by omega)
 by_cases Dt:192≤c;have d6:decide ((192:Int)≤c)=true:=aH (by omega);rotate_left
 have d6:decide ((192:Int)≤c)=false:=aE (by omega)
 all_goals simp only[z0,↓reduceIte,Nat.reduceEqDiff,Nat.reduceAdd,Nat.reduceLeDiff,reduceCtorEq,zun,k2,k3,k4,kw,ki,kc,w64 ha,hl,iJ,dS,aV,Int.reduceLT,Int.reduceLE,Int.reduceEq,dJ,aM,aN,aQ,aP,bN,w64 hb,w64 hc,cL (show -9223372036854775808≤(a:Int)-224 by omega) (by omega),cL (show -9223372036854775808≤64*((a:Int)-224) by omega) (by omega),cL (show -9223372036854775808≤64*((a:Int)-224)+(b:Int) by omega) (by omega),cL (show -9223372036854775808≤64*((a:Int)-224)+(b:Int)-128 by omega) (by omega),cL (show -9223372036854775808≤64*(64*((a:Int)-224)+(b:Int)-128) by omega) (by omega),cL (show -9223372036854775808≤64*(64*((a:Int)-224)+(b:Int)-128)+(c:Int) by omega) (by omega),cL (show -9223372036854775808≤64*(64*((a:Int)-224)+(b:Int)-128)+(c:Int)-128 by omega) (by omega),d1,d2,d3,d4,d5,d6,A281]
 ·rw[jZ,aS (by omega)];rw[show eW b=true from by grind [eW,aH],bG];rw[show eW c=true from by grind [eW,aH],bG];rfl
 ·rw[jZ,aG (by omega)];rfl
 ·rw[jZ,aG (by omega)];rfl
 ·rw[jZ,aS (by omega)];  rw[show eW b=false from by grind [eW,aE]];rfl
 ·rw[jZ,aS (by omega)];  rw[show eW b=false from by grind [eW,aE]];rfl
 ·rw[jZ,aS (by omega)];rw[show eW b=true from by grind [eW,aH],bG];rw[show eW c=false from by grind [eW,aE]];rfl
 ·rw[jZ,aS (by omega)];rw[show eW b=true from by grind [eW,aH],bG];rw[show eW c=false from by grind [eW,aE]];rfl
set_option maxHeartbeats 2000000 in
theorem c281_4(n:Nat){ex:Bool}{d:Nat}(ha:a<256)(hb:b<256)(hc:c<256)(hd:d<256):cl n 281 [.sl ex 4 [.int .u8 (a:Int),.int .u8 (b:Int),.int .u8 (c:Int),.int .u8 (d:Int)]]=some (.int .i64 (jZ [a,b,c,d]),true):=by
 rw[iP 281 A281 B281,B281];have hl:lenD false (.sl ex 4 [.int .u8 (a:Int),.int .u8 (b:Int),.int .u8 (c:Int),.int .u8 (d:Int)])=some 4:=rfl;by_cases h0:a<240;have d1:decide ((a:Int)<240)=true:=aH (by omega);have d2:=d1;have d3:=d1;have d4:=d1;have d5:=d1;have d6:=d1;have d7:=d1;have d8:=d1;rotate_left
 have d1:decide ((a:Int)<240)=false:=aE (by omega)
 by_cases h1:248≤a;have d2:decide ((248:Int)≤a)=true:=aH (by omega);have d3:=d1;have d4:=d1;have d5:=d1;have d6:=d1;have d7:=d1;have d8:=d1;rotate_left
 have d2:decide ((248:Int)≤a)=false:=aE (by omega)
 by_cases Yq:b<128;have d3:decide ((b:Int)<128)=true:=aH (by omega);have d4:=d1;have d5:=d1;have d6:=d1;have d7:=d1;have d8:=d1;rotate_left
 have d3:decide ((b:Int)<128)=false:=aE (by omega)
 by_cases Cj:192≤b;have d4:decide ((192:Int)≤b)=true:=aH (by omega);have d5:=d1;have d6:=d1;have d7:=d1;have d8:=d1;rotate_left
 have d4:decide ((192:Int)≤b)=false:=aE (by omega)
 by_cases Fe:c<128;have d5:decide ((c:Int)<128)=true:=aH (by omega);have d6:=d1;have d7:=d1;have d8:=d1;rotate_left
 have d5:decide ((c:Int)<128)=false:=aE (by omega)
 by_cases Dt:192≤c;have d6:decide ((192:Int)≤c)=true:=aH (by omega);have d7:=d1;have d8:=d1;rotate_left
 have d6:decide ((192:Int)≤c)=false:=aE (by omega)
 by_cases hd0:d<128;have d7:decide ((d:Int)<128)=true:=aH (by omega);have d8:=d1;rotate_left
 have d7:decide ((d:Int)<128)=false:=aE (by omega)
 by_cases Fx:192≤d;have d8:decide ((192:Int)≤d)=true:=aH (by omega);rotate_left
 have d8:decide ((192:Int)≤d)=false:=aE (by omega)
 all_goals simp only[z0,↓reduceIte,Nat.reduceEqDiff,Nat.reduceAdd,Nat.reduceLeDiff,reduceCtorEq,zun,k2,k3,k4,kw,ki,kc,w64 ha,hl,iJ,dS,aV,Int.reduceLT,Int.reduceLE,Int.reduceEq,dJ,aM,aN,aQ,aP,bN,w64 hb,w64 hc,w64 hd,cL (show -9223372036854775808≤(a:Int)-240 by omega) (by omega),cL (show -9223372036854775808≤64*((a:Int)-240) by omega) (by omega),cL (show -9223372036854775808≤64*((a:Int)-240)+(b:Int) by omega) (by omega),cL (show -9223372036854775808≤64*((a:Int)-240)+(b:Int)-128 by omega) (by omega),cL (show -9223372036854775808≤64*(64*((a:Int)-240)+(b:Int)-128) by omega) (by omega),cL (show -9223372036854775808≤64*(64*((a:Int)-240)+(b:Int)-128)+(c:Int) by omega) (by omega),cL (show -9223372036854775808≤64*(64*((a:Int)-240)+(b:Int)-128)+(c:Int)-128 by omega) (by omega),cL (show -9223372036854775808≤64*(64*(64*((a:Int)-240)+(b:Int)-128)+(c:Int)-128) by omega) (by omega),cL (show -9223372036854775808≤64*(64*(64*((a:Int)-240)+(b:Int)-128)+(c:Int)-128)+(d:Int) by omega) (by omega),cL (show -9223372036854775808≤64*(64*(64*((a:Int)-240)+(b:Int)-128)+(c:Int)-128)+(d:Int)-128 by omega) (by omega),d1,d2,d3,d4,d5,d6,d7,d8,A281]
 ·rw[jZ,aS (by omega)];rw[show eW b=true from by grind [eW,aH],bG];rw[show eW c=true from by grind [eW,aH],bG];rw[show eW d=true from by grind [eW,aH],bG];rfl
 ·rw[jZ,aG (by omega)];rfl
 ·rw[jZ,aG (by omega)];rfl
 ·rw[jZ,aS (by omega)];  rw[show eW b=false from by grind [eW,aE]];rfl
 ·rw[jZ,aS (by omega)];  rw[show eW b=false from by grind [eW,aE]];rfl
 ·rw[jZ,aS (by omega)];rw[show eW b=true from by grind [eW,aH],bG];rw[show eW c=false from by grind [eW,aE]];rfl
 ·rw[jZ,aS (by omega)];rw[show eW b=true from by grind [eW,aH],bG];rw[show eW c=false from by grind [eW,aE]];rfl
 ·rw[jZ,aS (by omega)];rw[show eW b=true from by grind [eW,aH],bG];rw[show eW c=true from by grind [eW,aH],bG];rw[show eW d=false from by grind [eW,aE]];rfl
 ·rw[jZ,aS (by omega)];rw[show eW b=true from by grind [eW,aH],bG];rw[show eW c=true from by grind [eW,aH],bG];rw[show eW d=false from by grind [eW,aE]];rfl
theorem c281(n:Nat)(hd:Sl 1 u8C us d)(hu:fY us)(h1:1≤us.length)(h4:us.length≤4):cl n 281 [d]=some (.int .i64 (jZ us),true):=by
 rcases hd.2 with⟨rfl,h⟩|⟨ex,rfl⟩
 ·rw[List.map_eq_nil_iff]at h;subst h;simp at h1
 ·match us,hu,h1,h4 with
  | [a],hu,_,_=>exact c281_1 n (hu a (by simp))
  | [a,b],hu,_,_=>exact c281_2 n (hu a (by simp)) (hu b (by simp))
  | [a,b,c],hu,_,_=>exact c281_3 n (hu a (by simp)) (hu b (by simp)) (hu c (by simp))
  | [a,b,c,e],hu,_,_=>exact c281_4 n (hu a (by simp)) (hu b (by simp)) (hu c (by simp)) (hu e (by simp))
def bsN(us:List Nat):List UInt8:=us.map UInt8.ofNat
def encB(r:Int):List UInt8:=(yM r).map fun x=>UInt8.ofNat x.toNat
def vX(us:List Nat):D:=bif isR (jZ us) then .tup [.int .i64 (jZ us),.bool (decide (bsN us=encB (jZ us)))]else .tup [.int .i64 0,.bool false]
theorem u8flat:∀us:List Nat,(us.map u8C).flatten=u8L (us.map fun(u:Nat)=>(u:Int))
 | []=>rfl
 | a::l=>by simp only[bS,dO,u8flat l,u8C,u8L];rfl
theorem byteM:∀l:List Int,(u8L l).mapM byteOfD=some (l.map fun x=>UInt8.ofNat x.toNat)
 | []=>rfl
 | a::l=>by
  have:=byteM l;unfold u8L at this ⊢;simp only[bS,List.mapM_cons,this,byteOfD];rfl
theorem scB(s:St)(ex:Bool)(l:List Int):cP s 1 (.sl ex l.length (u8L l))=some (u8L l,l.length):=by
 have h:(u8L l).length=l.length:=by rw[u8L,dB]
 simp only[cP,dS,h,bO (aK _),bG];rw[←h,List.take_length]
theorem c233(n:Nat)(hd:Sl 1 u8C us d)(hu:fY us)(h1:1≤us.length)(h4:us.length≤4):cl (n+2) 233 [d]=some (vX us,true):=by
 rw[iP 233 A233 B233,B233];have Xb:=c281 (n+1) hd hu h1 h4;obtain⟨ex,hde⟩:∃ex,d = .sl ex (us.map fun(u:Nat)=>(u:Int)).length (u8L (us.map fun(u:Nat)=>(u:Int))):=by
  rcases hd.2 with⟨rfl,h⟩|⟨ex,rfl⟩
  ·rw[List.map_eq_nil_iff]at h;subst h;simp at h1
  ·exact⟨ex,by rw[u8flat,dB,dB]⟩
 cases hr:isR (jZ us)
 ·simp only[z2,seval,hd.nag,aF 281,aF 282,aJ,hd.fz,Xb,c282,hr,A233];rw[vX,hr];rfl
 ·subst hde;have Yp:(us.map fun(u:Nat)=>(u:Int)).map (fun x=>UInt8.ofNat x.toNat)=bsN us:=by
   rw[List.map_map,bsN];rfl
  simp only[z2,seval,hd.nag,aF 281,aF 282,aF 283,aJ,hd.fz,Xb,c282,c283 n hr,hr,dR,cN,fX,iY,AOp.kd,eE,fQ,fG,eJ,dW,lH,xK,pV,scB,byteM,Yp,bE,aC,cC,dD,A233];rw[vX,hr];rfl
def cV{α:Type}(e:α→List D)(l:List α):List D:=(l.map e).flatten
theorem rT(e:α→List D)(l l':List α):cV e (l++l')=cV e l++cV e l':=by
 unfold cV;grind
structure sH {α:Type} (w:Nat) (e:α→List D):Prop where
 len:∀a,(e a).length=w
 pos:0<w
 nag:∀a,(e a).any eG=false
 frz:∀a p k s,(e a).mapM (Zv.frz p (k+1) s)=some (e a)
theorem sH.cells_len{e:α→List D}(h:sH w e):∀l:List α,(cV e l).length=l.length*w
 | []=>by simp[cV]
 | a::l=>by
  have:=h.cells_len l;unfold cV at this ⊢;rw[bS,dO,dZ,h.len,this,aO,Nat.add_mul];omega
theorem sH.cells_nag{e:α→List D}(h:sH w e):∀l:List α,(cV e l).any eG=false
 | []=>rfl
 | a::l=>by
  have:=h.cells_nag l;unfold cV at this ⊢;rw[bS,dO,List.any_append,h.nag,this];rfl
theorem sH.cells_frz{e:α→List D}(h:sH w e)(p:Bool)(k:Nat)(s:St):∀l:List α,(cV e l).mapM (Zv.frz p (k+1) s)=some (cV e l)
 | []=>rfl
 | a::l=>by
  have:=h.cells_frz p k s l;unfold cV at this ⊢;rw[bS,dO,List.mapM_append,h.frz,this];rfl
def jT{α:Type}(w:Nat)(e:α→List D)(B:Nat)(s:St)(q:D)(l:List α):Prop:=
 (q = .nils∧l=[])∨(∃m,B≤m∧q = .ms m 0 w 0 0∧sget s m=some (.fix 0 [])∧l=[])∨(∃m ty,B≤m∧q = .gs m 0 w l.length∧sget s m=some (.grow ty (cV e l))∧l≠[])
theorem jT.len{e:α→List D}{s:St}{l:List α}(h:jT w e B s q l):lenD false q=some l.length:=by
 rcases h with⟨rfl,rfl⟩|⟨m,_,rfl,_,rfl⟩|⟨m,ty,_,rfl,_,_⟩<;>rfl
theorem jT.nag{e:α→List D}{s:St}{l:List α}(h:jT w e B s q l):eG q=false:=by
 rcases h with⟨rfl,rfl⟩|⟨m,_,rfl,_,rfl⟩|⟨m,ty,_,rfl,_,_⟩<;>rfl
theorem jT.keep{e:α→List D}{s s':St}{l:List α}(h:jT w e B s q l)(hs:∀m b,B≤m→sget s m=some b→sget s' m=some b):jT w e B s' q l:=by
 rcases h with h|⟨m,h1,h2,h3,h4⟩|⟨m,ty,h1,h2,h3,h4⟩
 ·exact .inl h
 ·exact .inr (.inl ⟨m,h1,h2,hs _ _ h1 h3,h4⟩)
 ·exact .inr (.inr ⟨m,ty,h1,h2,hs _ _ h1 h3,h4⟩)
theorem jT.fz{e:α→List D}(he:sH w e)(p:Bool){s:St}{l:List α}(h:jT w e B s q l):∃r,(∀k,Zv.frz p (k+2) s q=some r)∧Sl w e l r:=by
 rcases h with⟨rfl,rfl⟩|⟨m,_,rfl,hs,rfl⟩|⟨m,ty,_,rfl,hs,An⟩
 ·exact⟨.nils,fun k=>rfl,fun r hr=>by simp at hr,.inl ⟨rfl,rfl⟩⟩
 ·exact⟨.sl true 0 [],fun k=>by rw[mS,hs];simp;rfl,fun r hr=>by simp at hr,.inr ⟨true,rfl⟩⟩
 ·refine⟨.sl false l.length (cV e l),?_,fun r hr=>?_,.inr ⟨false,by rw[dB];rfl⟩⟩
  ·intro k;rw[lP,hs];simp only[bM,gQ];rw[bO (by rw[he.cells_len];exact aK _),bG,cS (by rw[he.cells_len];exact aK _),he.cells_frz];rfl
  ·obtain⟨a,_,rfl⟩:=cY.1 hr;exact he.len a
theorem Sl.scG{e:α→List D}(he:sH w e){l:List α}(h:Sl w e l d)(s:St):cP s w d=some (cV e l,l.length):=by
 obtain⟨_,⟨rfl,h⟩|⟨ex,rfl⟩⟩:=h
 ·rw[List.map_eq_nil_iff]at h;subst h;rfl
 ·simp only[cP,dB];have:(l.map e).flatten.length=l.length*w:=he.cells_len l;rw[bO (by omega),bG,cS (by omega)];rfl
theorem lR{e:α→List D}(he:sH w e){sz ty:Nat}(Ae:sz≤4096){x:AS}{b:D}{l l':List α}{A:Option (D×AS)}(hA:iS x w sz ty q b=A)(h:jT w e B x.s q l)(hb:cP x.s w b=some (cV e l',l'.length))(zU:l.length+l'.length≤4294967296)(hc:B≤x.c)(zX:∀m,x.c≤m→sget x.s m=none):
  ∃q' s' c',A=some (q',⟨x.t,s',c',x.d,x.r⟩)∧jT w e B s' q' (l++l')∧x.c≤c'∧(∀nm,nm<B→sget s' nm=sget x.s nm)∧∀m,c'≤m→sget s' m=none:=by
 subst hA;unfold iS;rw[hb];simp only[aC,bE];have Lb:∀k,k≤4294967296→room k sz=true:=fun k hk=>by grind [room,bO]
 rcases h with⟨rfl,rfl⟩|⟨m,hm,rfl,hs,rfl⟩|⟨m,Kj,hm,rfl,hs,An⟩
 ·cases l' with
  | nil=>exact⟨.nils,x.s,x.c,rfl,.inl ⟨rfl,rfl⟩,aK _,fun _ _=>rfl,zX⟩
  | cons p r=>
   simp only[aX,bM]at zU;rw[show Nat.beq (p::r).length 0=false from rfl,cO,Lb _ zU,bG]
   exact⟨.gs x.c 0 w (p::r).length,sadd x.s x.c (.grow ty (cV e (p::r))),x.c+1,rfl,.inr (.inr ⟨x.c,ty,hc,rfl,by grind [aZ],by simp⟩),by omega,fun nm hn=>by grind [aZ],fun k hk=>by grind [aZ]⟩
 ·have Ez:m<x.c:=eC fun h=>by grind
  simp only[hs,eQ,bG,bM,eA,gQ,cC,cK,aX];cases l' with
  | nil=>
   exact⟨.ms m 0 w 0 0,sset x.s m (.fix 0 []),x.c,rfl,.inr (.inl ⟨m,hm,rfl,by grind [aU],rfl⟩),aK _,fun nm hn=>by grind [aU],fun k hk=>by
    grind [aU]⟩
  | cons p r=>
   simp only[aX,bM]at zU;rw[show Nat.ble (p::r).length 0=false from rfl,cO,Lb _ zU]
   exact⟨.gs x.c 0 w (p::r).length,sadd x.s x.c (.grow ty (cV e (p::r))),x.c+1,rfl,.inr (.inr ⟨x.c,ty,hc,rfl,by grind [aZ],by simp⟩),by omega,fun nm hn=>by grind [aZ],fun k hk=>by grind [aZ]⟩
 ·simp only[hs];cases l' with
  | nil=>exact⟨.gs m 0 w l.length,x.s,x.c,rfl,.inr (.inr ⟨m,Kj,hm,by grind,by grind,by grind⟩),aK _,fun nm hn=>rfl,zX⟩
  | cons p r=>
   have h1:Nat.ble (0+(l.length+(p::r).length)*w) (cV e l).length=false:=by
    rw[←gI,Nat.ble_eq,he.cells_len,bM];have:=Nat.mul_lt_mul_of_pos_right (show l.length<l.length+(p::r).length by simp) he.pos
    omega
   have h2:Nat.ble (l.length*w) (cV e l).length=true:=bO (by rw[he.cells_len];exact aK _)
   have zY:(cV e l).take (l.length*w)=cV e l:=cS (by rw[he.cells_len];exact aK _)
   rw[show Nat.beq (p::r).length 0=false from rfl,cO,he.cells_nag,eQ,aW,Bool.and_true,bG,h1,cO,h2,Lb _ zU,eQ,zY]
   simp only[Bool.and_true,bG];refine⟨_,_,_,rfl,.inr (.inr ⟨x.c,_,hc,by grind,by rw[aZ,aS rfl,rT],by simp⟩),Nat.le_succ _,fun nm hn=>?_,fun k hk=>?_⟩
   all_goals grind [aZ,hU]
theorem enc_u8:sH 1 u8C:=⟨fun _=>rfl,by decide,fun _=>rfl,fun _ _ _ _=>rfl⟩
theorem enc_str:sH 1 fM:=⟨fun _=>rfl,by decide,fun _=>rfl,fun _ _ _ _=>rfl⟩
theorem xM(us:List Nat):∃(r:Int) (b:Bool),vX us = .tup [.int .i64 r,.bool b]:=by
 unfold vX;cases isR (jZ us)
 ·exact⟨_,_,rfl⟩
 ·exact⟨_,_,rfl⟩
theorem tail234(n:Nat)(hd:Sl 1 u8C us d)(hu:fY us)(h1:1≤us.length)(h4:us.length≤3){M:Nat}(hM:M≤4){t:Tm}(q0:tget t 0=d)(q3:tget t 3 = .int .i64 (M:Nat)):
  ∃b,pout (zbody (dfn (n+3) MM) A234 (zC F234.b (cxn (n+3)) (fn (n+3) 4096) KK ⟨t,st0,0,[],none⟩))=some (.bool b,true):=by
 simp only[F234,cI];by_cases Ac:M≤us.length
 ·simp only[z2,seval,q0,q3,hd.len,show decide (((M:Nat):Int)≤(us.length:Nat))=true from aH (by omega),A234]
  exact⟨_,rfl⟩
 ·simp only[z2,seval,q0,q3,hd.len,show decide (((M:Nat):Int)≤(us.length:Nat))=false from aE (by omega)]
  generalize hz:zloop KK _ _=rl;refine zwhile rl hz 2 (dY (by decide)) (fun i z=>∃t s c,z=⟨t,s,c,[],none⟩∧(∀m,c≤m→sget s m=none)∧tget t 0=d∧tget t 3 = .int .i64 (M:Nat)∧tget t 5 = .int .i64 ((128+63*i:Nat):Int))
   ⟨_,_,_,rfl,fun m _=>dX m,by simp[aA,q0],by simp[aA,q3],by simp[aA]⟩ ?_
  clear q0 q3;rintro i z hi ⟨t,s,c,rfl,Cc,q0,q3,q5⟩;by_cases hi2:i<2
  ·have Gn:decide (((128+63*i:Nat):Int)≤191)=true:=aH (by omega)
   simp only[z2,seval,q0,q3,q5,Gn];generalize hA:iS _ 1 1 6 _ _=A;obtain⟨q',s',c',rfl,hO,Bw,_,hfree'⟩:=lR enc_u8 (B:=0) (l:=[]) (l':=us) (by decide) hA (.inr (.inl ⟨c,dM _,rfl,by simp[aA],rfl⟩)) (hd.scG enc_u8 _) (by grind) (dM _) (fun m hm=>by simp only at hm;simp only[aA];grind)
   clear hA;simp only[z2,seval];generalize Bz:zloop KK _ _=rl2;refine zwhile rl2 Bz 4 (dY (by decide)) (fun k z=>∃t s c q l,z=⟨t,s,c,[],none⟩∧(∀m,c≤m→sget s m=none)∧tget t 0=d∧tget t 3 = .int .i64 (M:Nat)∧tget t 5 = .int .i64 ((128+63*i:Nat):Int)∧tget t 6=q∧jT 1 u8C 0 s q l∧l.length=us.length+k∧l.length≤M∧fY l)
    ⟨_,_,_,_,_,rfl,hfree',by simp[aA,q0],by simp[aA,q3],by simp[aA,q5],by simp[aA],hO,by simp,by simp;omega,by simpa using hu⟩ ?_
   clear q0 q3 q5 hO hfree' Bw;rintro k z hk ⟨t,s,c,q,l,rfl,Cc,q0,q3,q5,q6,hO,Sd,hlM,hl8⟩;have hq:lenD false q=some l.length:=hO.len;have hw5:bX .u8 ((128+63*i:Nat):Int)=((128+63*i:Nat):Int):=sM (by omega) (by omega)
   by_cases zQ:l.length<M
   ·simp only[z2,seval,q0,q3,q5,q6,hq,hw5,show decide ((l.length:Int)<(M:Nat))=true from aH (by omega)]
    generalize hA:iS _ 1 1 6 _ _=A;obtain⟨q2,s2,c2,rfl,hO2,El,_,hfree2⟩:=lR enc_u8 (B:=0) (l:=l) (l':=[128+63*i]) (by decide) hA (hO.keep fun m b _ hb=>by simp only[aA];grind) (by simp only[cP,aA,↓reduceIte];rfl) (by grind) (dM _) (fun m hm=>by simp only at hm;simp only[aA];grind)
    clear hA;simp only[z2,seval];refine⟨by omega,_,_,_,_,_,rfl,hfree2,by simp[aA,q0],by simp[aA,q3],by simp[aA,q5],by simp[aA],hO2,by simp;omega,by simp;omega,fun u hx=>?_⟩
    rcases List.mem_append.1 hx with hx|hx
    ·exact hl8 u hx
    grind
   ·obtain⟨r,Ge,Cb⟩:=hO.fz enc_u8 false;have Mz:=c233 n Cb hl8 (by omega) (by omega)
    obtain⟨rr,bb,zZ⟩:=xM l;have hw6:bX .i64 (((128+63*i:Nat):Int)+63)=((128+63*(i+1):Nat):Int):=by rw[cL (by omega) (by omega)];omega
    cases bb
    ·simp only[z2,seval,q0,q3,q5,q6,hq,show decide ((l.length:Int)<(M:Nat))=false from aE (by omega),aF 233,aJ,Ge,Mz,zZ,hw6]
     exact⟨hi2,_,_,_,rfl,Cc,by simp[aA,q0],by simp[aA,q3],by simp[aA]⟩
    ·simp only[z2,seval,q0,q3,q5,q6,hq,show decide ((l.length:Int)<(M:Nat))=false from aE (by omega),aF 233,aJ,Ge,Mz,zZ,hw6,A234]
     exact⟨_,rfl⟩
  ·have Gn:decide (((128+63*i:Nat):Int)≤191)=false:=aE (by omega)
   simp only[z2,seval,q0,q3,q5,Gn,A234];exact⟨_,rfl⟩
theorem c234(n:Nat)(hd:Sl 1 u8C us d)(hu:fY us)(h1:1≤us.length)(h4:us.length≤3):∃b,cl (n+3) 234 [d]=some (.bool b,true):=by
 rw[uG 234 A234 B234,B234];have ha:=hu _ (bQ (show 0<us.length by omega))
 have hw:=w64 ha;have Da:=hd.ia1 (k:=.i64) (show 0<us.length by omega)
 have Mn:iJ 1 d (.int .i64 0)=some (.iptr (us.map u8C).flatten 0):=Da;have Wp:=hd.at1 (show 0<us.length by omega)
 have T:∀c:Prop,[Decidable c]→c→decide c=true:=fun c _ h=>aH h
 by_cases c1:us[0]<192
 ·simp only[z2,seval,hd.nag,Mn,Wp,u8C,hw,aV,show decide ((192:Int)≤us[0])=false from aE (by omega),show decide ((224:Int)≤us[0])=false from aE (by omega),show decide ((240:Int)≤us[0])=false from aE (by omega)]
  exact tail234 n hd hu h1 h4 (M:=0) (by omega) (by simp[aA]) (by simp[aA])
 ·by_cases c2:us[0]<224
  ·simp only[z2,seval,hd.nag,Mn,Wp,u8C,hw,aV,show decide ((192:Int)≤us[0])=true from aH (by omega),show decide ((us[0]:Int)<224)=true from aH (by omega)]
   exact tail234 n hd hu h1 h4 (M:=2) (by omega) (by simp[aA]) (by simp[aA])
  ·by_cases c3:us[0]<240
   ·simp only[z2,seval,hd.nag,Mn,Wp,u8C,hw,aV,show decide ((192:Int)≤us[0])=true from aH (by omega),show decide ((us[0]:Int)<224)=false from aE (by omega),show decide ((224:Int)≤us[0])=true from aH (by omega),show decide ((us[0]:Int)<240)=true from aH (by omega)]
    exact tail234 n hd hu h1 h4 (M:=3) (by omega) (by simp[aA]) (by simp[aA])
   ·by_cases c4:us[0]<248
    ·simp only[z2,seval,hd.nag,Mn,Wp,u8C,hw,aV,show decide ((192:Int)≤us[0])=true from aH (by omega),show decide ((us[0]:Int)<224)=false from aE (by omega),show decide ((224:Int)≤us[0])=true from aH (by omega),show decide ((us[0]:Int)<240)=false from aE (by omega),show decide ((240:Int)≤us[0])=true from aH (by omega),show decide ((us[0]:Int)<248)=true from aH (by omega)]
     exact tail234 n hd hu h1 h4 (M:=4) (by omega) (by simp[aA]) (by simp[aA])
    ·simp only[z2,seval,hd.nag,Mn,Wp,u8C,hw,aV,show decide ((192:Int)≤us[0])=true from aH (by omega),show decide ((us[0]:Int)<224)=false from aE (by omega),show decide ((224:Int)≤us[0])=true from aH (by omega),show decide ((us[0]:Int)<240)=false from aE (by omega),show decide ((240:Int)≤us[0])=true from aH (by omega),show decide ((us[0]:Int)<248)=false from aE (by omega)]
     exact tail234 n hd hu h1 h4 (M:=0) (by omega) (by simp[aA]) (by simp[aA])
def nC(l:List Nat):Bool:=match vX l with | .tup [_,.bool b]=>b|_=>false
theorem c176(n:Nat)(hd:Sl 1 u8C us d)(hu:fY us){at':Nat}(Ku:at'<us.length)(Dd:us.length<9223372036854775800):
  (∃(k:Nat) (r:Int),1≤k∧k≤4∧at'+k≤us.length∧nC ((us.drop at').take k)=true∧cl (n+4) 176 [d,.int .i64 (at':Nat)]=some (.tup [.int .i64 r,.int .i64 (k:Nat),.int .i64 0],true)) ∨
  ((∀k,1≤k→k≤4→at'+k≤us.length→nC ((us.drop at').take k)=false)∧∃e:Int,e≠0∧cl (n+4) 176 [d,.int .i64 (at':Nat)]=some (.tup [.int .i64 0,.int .i64 0,.int .i64 e],true)):=by
 rw[kG 176 A176 B176,B176];simp only[z2,seval,hd.nag,hd.len,show decide (((at':Nat):Int)<0)=false from aE (by omega),show decide ((us.length:Int)≤(at':Nat))=false from aE (by omega)]
 generalize hz:zloop KK _ _=rl;refine zwhile rl hz 4 (dY (by decide)) (fun i z=>∃t s c,z=⟨t,s,c,[],none⟩∧tget t 0=d∧tget t 1 = .int .i64 (at':Nat)∧tget t 7 = .int .i64 ((i+1:Nat):Int)∧∀k,1≤k→k≤i→at'+k≤us.length→nC ((us.drop at').take k)=false)
  ⟨_,_,_,rfl,by simp[aA],by simp[aA],by simp[aA],fun k h1 h2=>by omega⟩ ?_
 rintro i z hi ⟨t,s,c,rfl,q0,q1,q7,hn⟩;have Kv:bX .i64 (((at':Nat):Int)+((i+1:Nat):Int))=((at'+(i+1):Nat):Int):=by rw[cL (by omega) (by omega)];omega
 have Gq:bX .i64 (((i+1:Nat):Int)+1)=((i+1+1:Nat):Int):=gW (by omega)
 have Bv:bX .i64 ((us.length:Int)-(at':Nat))=((us.length-at':Nat):Int):=by rw[cL (by omega) (by omega)];omega
 by_cases Ny:i+1≤4∧at'+(i+1)≤us.length
 ·obtain⟨d',Fx,Fb⟩:=hd.part (i:=at') (j:=at'+(i+1)) (by omega) Ny.2 (k:=.i64) (k':=.i64)
  rw[List.drop_take,show at'+(i+1)-at'=i+1 by omega]at Fb
  have hl:((us.drop at').take (i+1)).length=i+1:=by rw[eI,gP];omega
  have h8:fY ((us.drop at').take (i+1)):=fun u hx=>hu u (List.mem_of_mem_drop (eH hx))
  have Mz:=c233 (n+1) Fb h8 (by omega) (by omega)
  obtain⟨r,b,zZ⟩:=xM ((us.drop at').take (i+1));have Ee:nC ((us.drop at').take (i+1))=b:=by rw[nC,zZ]
  cases b
  ·simp only[z2,seval,q0,q1,q7,hd.len,Kv,Gq,Fx,show decide (((i+1:Nat):Int)≤4)=true from aH (by omega),show decide (((at'+(i+1):Nat):Int)≤(us.length:Int))=true from aH (by omega),aF 233,aJ,Fb.fz,Mz,zZ]
   refine⟨by omega,_,_,_,rfl,by simp[aA,q0],by simp[aA,q1],by simp[aA],fun k h1 h2 h3=>?_⟩
   rcases Nat.lt_or_ge k (i+1) with h|h
   ·exact hn k h1 (by omega) h3
   ·obtain rfl:k=i+1:=by omega
    exact Ee
  ·simp only[z2,seval,q0,q1,q7,hd.len,Kv,Gq,Fx,show decide (((i+1:Nat):Int)≤4)=true from aH (by omega),show decide (((at'+(i+1):Nat):Int)≤(us.length:Int))=true from aH (by omega),aF 233,aJ,Fb.fz,Mz,zZ,A176]
   exact .inl ⟨i+1,r,by omega,Ny.1,Ny.2,Ee,rfl⟩
 ·have Aa:∀k,1≤k→k≤4→at'+k≤us.length→nC ((us.drop at').take k)=false:=fun k h1 h2 h3=>hn k h1 (by omega) h3
  obtain⟨d',Fx,Fb⟩:=hd.tail (i:=at') (by omega) (k:=.i64)
  have Bm:∀{X:R},True:=trivial
  by_cases h4:us.length-at'<4
  ·have hl:(us.drop at').length=us.length-at':=gP;obtain⟨b,h234⟩:=c234 n Fb (fun u hx=>hu u (List.mem_of_mem_drop hx)) (by omega) (by omega)
   by_cases h5:i+1≤4
   ·cases b
    ·simp only[z2,seval,q0,q1,q7,hd.len,Kv,Bv,Fx,show decide (((i+1:Nat):Int)≤4)=true from aH (by omega),show decide (((at'+(i+1):Nat):Int)≤(us.length:Int))=false from aE (by omega),show decide (((us.length-at':Nat):Int)<4)=true from aH (by omega),aF 234,aJ,Fb.fz,h234,A176]
     exact .inr ⟨Aa,6,by decide,rfl⟩
    ·simp only[z2,seval,q0,q1,q7,hd.len,Kv,Bv,Fx,show decide (((i+1:Nat):Int)≤4)=true from aH (by omega),show decide (((at'+(i+1):Nat):Int)≤(us.length:Int))=false from aE (by omega),show decide (((us.length-at':Nat):Int)<4)=true from aH (by omega),aF 234,aJ,Fb.fz,h234,A176]
     exact .inr ⟨Aa,370,by decide,rfl⟩
   ·cases b
    ·simp only[z2,seval,q0,q1,q7,hd.len,Bv,Fx,show decide (((i+1:Nat):Int)≤4)=false from aE (by omega),show decide (((us.length-at':Nat):Int)<4)=true from aH (by omega),aF 234,aJ,Fb.fz,h234,A176]
     exact .inr ⟨Aa,6,by decide,rfl⟩
    ·simp only[z2,seval,q0,q1,q7,hd.len,Bv,Fx,show decide (((i+1:Nat):Int)≤4)=false from aE (by omega),show decide (((us.length-at':Nat):Int)<4)=true from aH (by omega),aF 234,aJ,Fb.fz,h234,A176]
     exact .inr ⟨Aa,370,by decide,rfl⟩
  ·by_cases h5:i+1≤4
   ·exfalso;omega
   ·simp only[z2,seval,q0,q1,q7,hd.len,Bv,show decide (((i+1:Nat):Int)≤4)=false from aE (by omega),show decide (((us.length-at':Nat):Int)<4)=false from aE (by omega),A176]
    exact .inr ⟨Aa,6,by decide,rfl⟩
open Go.Lib (decodeN decodeL)
theorem good1{b2:Nat}:(decodeN n b0 b1 b2 b3≠(65533,1)∧(decodeN n b0 b1 b2 b3).2=1)↔b0<128:=by
 grind [decodeN]
theorem good2{b2:Nat}(h0:b0<256)(h1:b1<256):(decodeN n b0 b1 b2 b3).2=2↔1<n∧192≤b0∧b0<224∧128≤b1∧b1<192∧128≤(b0-192)*64+(b1-128):=by
 grind [decodeN]
theorem good3{b2:Nat}(h0:b0<256)(h1:b1<256)(h2:b2<256):(decodeN n b0 b1 b2 b3).2=3↔2<n∧224≤b0∧b0<240∧128≤b1∧b1<192∧128≤b2∧b2<192∧2048≤(b0-224)*4096+(b1-128)*64+(b2-128)∧((b0-224)*4096+(b1-128)*64+(b2-128)<55296∨57344≤(b0-224)*4096+(b1-128)*64+(b2-128)):=by
 grind [decodeN]
theorem good4{b2:Nat}(h0:b0<256)(h1:b1<256)(h2:b2<256)(h3:b3<256):(decodeN n b0 b1 b2 b3).2=4↔3<n∧240≤b0∧b0<248∧128≤b1∧b1<192∧128≤b2∧b2<192∧128≤b3∧b3<192∧65536≤(b0-240)*262144+(b1-128)*4096+(b2-128)*64+(b3-128)∧(b0-240)*262144+(b1-128)*4096+(b2-128)*64+(b3-128)≤1114111:=by
 grind [decodeN]
theorem width4{b2:Nat}:1≤(decodeN n b0 b1 b2 b3).2∧(decodeN n b0 b1 b2 b3).2≤4:=by
 grind [decodeN]
/-! Which bytes stand for a rune. -/
theorem bsN_eq(hu:fY us){l:List Int}(h:∀x∈l,0≤x∧x<256):decide (bsN us=l.map fun x=>UInt8.ofNat x.toNat)=decide (us.map (fun(u:Nat)=>(u:Int))=l):=by
 rw[fF,bZ,bZ];unfold bsN
 induction us generalizing l with
 | nil=>simp_all
 | cons a us ih=>
  cases l with
  | nil=>simp
  | cons x l=>
   have ha:=hu a (by simp)
   have hx:=h x (by simp)
   have:=ih (fun u Qf=>hu u (by simp[Qf])) (l:=l) (fun y hy=>h y (by simp[hy]))
   grind [List.cons.injEq,UInt8.toNat,UInt8.toNat_ofNat',Nat.mod_eq_of_lt]
theorem encL_byte{r:Int}(h:isR r=true):∀x∈yM r,0≤x∧x<256:=by
 grind [isR,yM,fV]
theorem uT(hu:fY us):nC us=(isR (jZ us)&&decide (us.map (fun(u:Nat)=>(u:Int))=yM (jZ us))):=by
 unfold nC vX;cases h:isR (jZ us)
 ·rfl
 ·simp only[bG,Bool.true_and];rw[encB,bsN_eq hu (encL_byte h)]
theorem stand1(ha:a<256):nC [a]=true↔a<128:=by
 rw[uT (fun u hu=>by grind),jZ]
 grind [isR,yM]
theorem lJ:eW b=true↔128≤b∧b<192:=by unfold eW;simp
theorem stand2(ha:a<256)(hb:b<256):nC [a,b]=true↔192≤a∧a<224∧128≤b∧b<192∧128≤(a-192)*64+(b-128):=by
 rw[uT (fun u hu=>by grind),jZ]
 by_cases h:192≤a∧a<224
 ·rw[aS h];cases hc:eW b
  all_goals grind [lJ,isR,yM,List.cons.injEq]
 grind [isR]
theorem stand3(ha:a<256)(hb:b<256)(hc:c<256):nC [a,b,c]=true↔224≤a∧a<240∧128≤b∧b<192∧128≤c∧c<192∧2048≤(a-224)*4096+(b-128)*64+(c-128)∧((a-224)*4096+(b-128)*64+(c-128)<55296∨57344≤(a-224)*4096+(b-128)*64+(c-128)):=by
 rw[uT (fun u hu=>by grind),jZ]
 by_cases h:224≤a∧a<240
 ·rw[aS h];cases Js:eW b
  ·grind [lJ,isR]
  ·have Bb:=lJ.1 Js;rw[bG];cases Jb:eW c
   all_goals grind [lJ,isR,yM,List.cons.injEq]
 grind [isR]
theorem stand4{e:Nat}(ha:a<256)(hb:b<256)(hc:c<256)(he:e<256):nC [a,b,c,e]=true↔240≤a∧a<248∧128≤b∧b<192∧128≤c∧c<192∧128≤e∧e<192∧65536≤(a-240)*262144+(b-128)*4096+(c-128)*64+(e-128)∧(a-240)*262144+(b-128)*4096+(c-128)*64+(e-128)≤1114111:=by
 rw[uT (fun u hu=>by grind),jZ]
 by_cases h:240≤a∧a<248
 ·rw[aS h];cases Js:eW b
  ·grind [lJ,isR]
  ·have Bb:=lJ.1 Js;rw[bG];cases Jb:eW c
   ·grind [lJ,isR]
   ·have El:=lJ.1 Jb;rw[bG];cases hce:eW e
    all_goals grind [lJ,isR,yM,List.cons.injEq]
 grind [isR]
def byN(l:List UInt8):List Nat:=l.map UInt8.toNat
theorem byN_8(l:List UInt8):fY (byN l):=fun u hu=>by
 obtain⟨b,_,rfl⟩:=cY.1 hu;exact b.toNat_lt
theorem stand_iff{l:List UInt8}{k:Nat}(h1:1≤k)(h4:k≤4)(hk:k≤l.length):nC ((byN l).take k)=true↔decodeL l≠(65533,1)∧(decodeL l).2=k:=by
 rw[Go.Lib.decodeL_N];have hb:∀i,(l.getD i 0).toNat<256:=fun i=>(l.getD i 0).toNat_lt
 have hg:∀i (h:i<l.length),(byN l)[i]'(by grind [byN,dB])=(l.getD i 0).toNat:=fun i h=>by
  grind [byN,jK]
 have An:∀k,k≠1→(decodeN l.length (l.getD 0 0).toNat (l.getD 1 0).toNat (l.getD 2 0).toNat (l.getD 3 0).toNat).2=k→decodeN l.length (l.getD 0 0).toNat (l.getD 1 0).toNat (l.getD 2 0).toNat (l.getD 3 0).toNat≠(65533,1):=fun k hk h e=>by grind
 have zU:(byN l).length=l.length:=by rw[byN,dB]
 obtain rfl|rfl|rfl|rfl:k=1∨k=2∨k=3∨k=4:=by omega
 ·have ht:(byN l).take 1=[(l.getD 0 0).toNat]:=by
   rw[List.take_succ_eq_append_getElem (by omega),hg 0 (by omega)];rfl
  rw[ht,stand1 (hb 0)];exact good1.symm
 ·grind [byN,List.take_succ_eq_append_getElem,stand2,good2]
 all_goals grind [byN,List.take_succ_eq_append_getElem,stand3,good3,stand4,good4]
end
end Zv
