/- What functions come to: the fault of a node, by the program. Conditions: none. -/
import Derived.Test.YtnpoohbeicakkaaGreatDoorZAR
set_option linter.unusedVariables false
set_option linter.unusedSimpArgs false
set_option maxRecDepth 100000
namespace Zv
open Go
noncomputable section
variable {l:List Nd} {d:D} {i:Nat}
def pJ(x:Nd):Int:=
 bif !zeroB (gT x) then 2 else
 bif decide (x.site<0)||decide (1000000000<x.site) then 7 else
 bif decide (sG x.text<0) then 6 else
 bif decide (400<sG x.text)||(decide (x.kind=3)&&decide (400≤x.kids)) then 3 else
 bif (decide (x.kind=3)&&decide (x.kids<0))||((decide (x.kind=5) && !decide (x.kids=arI x.prim))||(decide (x.kind=6)&&(!decide (x.kids=1) && !decide (x.kids=2)))) then 23 else
 bif (decide (x.kind=4)||decide (x.kind=6)) && !gF x.name then 24 else 0
theorem late_run(n:Nat)(x:Nd)(hn:x.name.length<9223372036854775807)(ht:x.text.length<4294967296){ar:Int}(Ld:x.kind=5→ar=arI x.prim){t:Tm}{st:St}{c:Nat}(h:StF x st t ar):
  ∃t',(pJ x≠0∧zC V3 (cxn (n+9)) (fn (n+9) 4096) KK ⟨t,st,c,[],none⟩ = .ok .ret ⟨t',st,c,[],none⟩∧tget t' 2 = .int .i64 (pJ x))∨(pJ x=0∧zC V3 (cxn (n+9)) (fn (n+9) 4096) KK ⟨t,st,c,[],none⟩ = .ok .normal ⟨t',st,c,[],none⟩):=by
 obtain⟨a3,b3⟩:=V3_ok n x (c:=c) h;cases e3 : !zeroB (gT x)
 case true=>
  grind [pJ]
 obtain⟨t3,r3,k3⟩:=b3 e3;obtain⟨a4,b4⟩:=V4_ok n x (c:=c) k3;cases e4:(decide (x.site<0)||decide (1000000000<x.site))
 case true=>
  grind [pJ]
 obtain⟨t4,r4,k4⟩:=b4 e4;obtain⟨a5,b5⟩:=V5_ok n x ht (c:=c) k4;have hcv:decide (sG x.text<0) = !Go.Lib.validD x.text:=by
  rw[valid_cnt,sG];cases yT x.text with
  | none=>rfl
  | some k=>simp
 cases e5 : !Go.Lib.validD x.text
 case true=>
  grind [pJ]
 obtain⟨t5,r5,k5⟩:=b5 e5;obtain⟨k,hk⟩:∃k,yT x.text=some k:=by
  rw[valid_cnt]at e5;cases hc:yT x.text with
  | none=>grind
  | some k=>grind
 have So:sG x.text=(k:Nat):=by rw[sG,hk]
 obtain⟨a6,b6⟩:=V6_ok n x hk ht (c:=c) k5;cases e6:(decide (400<((k:Nat):Int))||(decide (x.kind=3)&&decide (400≤x.kids)))
 case true=>
  grind [pJ]
 obtain⟨t6,r6,k6⟩:=b6 e6;obtain⟨a7,b7⟩:=V7_ok n x (c:=c) k6;have h7:((decide (x.kind=3)&&decide (x.kids<0))||((decide (x.kind=5) && !decide (x.kids=ar))||(decide (x.kind=6)&&(decide (x.kids<1)||decide (2<x.kids)))))=((decide (x.kind=3)&&decide (x.kids<0))||((decide (x.kind=5) && !decide (x.kids=arI x.prim))||(decide (x.kind=6)&&(!decide (x.kids=1) && !decide (x.kids=2))))):=by
  have e1:(decide (x.kids<1)||decide (2<x.kids))=(!decide (x.kids=1) && !decide (x.kids=2)):=by
   rw[fF];simp;omega
  by_cases h5:x.kind=5
  ·grind
  ·grind
 cases e7:((decide (x.kind=3)&&decide (x.kids<0))||((decide (x.kind=5) && !decide (x.kids=ar))||(decide (x.kind=6)&&(decide (x.kids<1)||decide (2<x.kids)))))
 case true=>
  grind [pJ]
 obtain⟨t7,r7,k7⟩:=b7 e7;obtain⟨a8,b8⟩:=V8_ok n x hn (c:=c) k7;cases e8:((decide (x.kind=4)||decide (x.kind=6)) && !gF x.name)
 case true=>
  grind [pJ]
 obtain⟨t8,r8,k8⟩:=b8 e8;have:pJ x=0:=by rw[pJ,e3,e4,hcv,e5,So,e6,←h7,e7,e8];rfl
 exact⟨t8,.inr ⟨this,r3.trans (r4.trans (r5.trans (r6.trans (r7.trans r8))))⟩⟩
theorem sur_rest(x:Nd)(h:¬(x.kind<1∨6<x.kind)):surB x=(decide (x.kind=5∧(x.prim<1∨40<x.prim)) || !zeroB (gT x)):=by
 have hb:∀z:Int,(z==0)=decide (z=0):=fun z=>rfl
 have hl:∀l:List UInt8,(l==[])=decide (l=[]):=fun l=>by grind
 obtain k|k|k|k|k|k:x.kind=1∨x.kind=2∨x.kind=3∨x.kind=4∨x.kind=5∨x.kind=6:=by omega
 all_goals (unfold surB zeroB gT;simp only[k,hb,hl,Int.reduceEq,↓reduceIte,aQ,aP,bD,aW,Bool.true_and,Bool.false_and,Bool.and_true,Bool.or_false,Bool.false_or,Bool.true_or,true_and,false_and])
 all_goals (generalize decide (x.n=0)=b1;generalize decide (x.text=[])=b2;generalize decide (x.name=[])=b3;generalize decide (x.prim=0)=b4;generalize decide (x.kids=0)=b5;generalize decide (x.prim<1∨40<x.prim)=b6;cases b1<;>cases b2<;>cases b3<;>cases b4<;>cases b5<;>cases b6<;>rfl)
theorem wrong_late(x:Nd):iU x=if x.kind<1∨6<x.kind then 2 else if x.kind=5∧(x.prim<1∨40<x.prim) then 2 else pJ x:=by
 by_cases h:x.kind<1∨6<x.kind
 ·grind [iU,decide,surB]
 grind [decide,aE,sur_rest,iU,aH,pJ]
theorem c119(n:Nat)(x:Nd)(hn:x.name.length<9223372036854775807)(ht:x.text.length<4294967296):cl (n+9) 119 [.agg (bK x)]=some (.int .i64 (iU x),true):=by
 rw[uG 119 A119 B119,B119,wrong_late];simp only[V1,V2,cI];have zY:cX [.int .i64 x.kind,.int .i64 x.prim,.int .i64 x.kids,.str x.name,.str x.text,.int .i64 x.n,.int .i64 x.site] 0 (some 7)=some (.agg (bK x)):=rfl;have Bi:∀st,[D.agg (bK x)].mapM (frz false 20 st)=some [D.agg (bK x)]:=fun _=>rfl
 have Dp:=c123 (n+8) x;have Tz:(bK (gT x)).length=7:=rfl;have Tw:(bK (gT x)).any eG=false:=rfl;have Cm:fJ [.int .i64 0,.int .i64 0,.int .i64 0,.str [],.str [],.int .i64 0,.int .i64 0] 0 (bK (gT x))=bK (gT x):=rfl;by_cases h1:x.kind<1
 ·rw[aS (.inl h1)];unfold bK;simp only[z0,seval,aH h1,A119];rfl
 by_cases h2:6<x.kind
 ·rw[aS (.inr h2)];unfold bK;simp only[z0,seval,aE h1,aH h2,A119];rfl
 rw[aG (fun h=>h.elim h1 h2)]
 have Bm:∀(ar:Int) (T:Tm) (S:St) (c:Nat),(x.kind=5→ar=arI x.prim)→StF x S T ar→pout (zbody (dfn (n+9) MM) A119 (zbind (lL 0 (zC V3 (cxn (n+9)) (fn (n+9) 4096) KK ⟨T,S,c,[],none⟩)) (zC (.seq (.reg none [⟨some 2,.mv (.c (.int .i64 0)),none⟩]) .ret) (cxn (n+9)) (fn (n+9) 4096) KK)))=some (.int .i64 (pJ x),true):=fun ar T S c Ld zZ=>by
  obtain⟨t',⟨h0,r1,r2⟩|⟨h0,r1⟩⟩:=late_run n x hn ht Ld (c:=c) zZ
  ·simp only[z0,seval,r1,r2,A119];rfl
  ·simp only[z0,seval,r1,A119];rw[h0];rfl
 by_cases h5:x.kind=5
 ·rcases zA x.prim with⟨a,hf,hr,_⟩|⟨hf,hr⟩
  ·rw[aG (fun h=>hr h.2)]
   have Ld:arI x.prim=a:=by rw[arI,hf];rfl
   have Gj:cX [.int .i64 5,.int .i64 x.prim,.int .i64 x.kids,.str x.name,.str x.text,.int .i64 x.n,.int .i64 x.site] 0 (some 7)=some (.agg (bK x)):=by rw[←h5];rfl
   unfold bK;simp only[z2,seval,h5,aQ,aP,aF 163,aJ,c163 (n+4) x.prim,hf,dV,dJ,aM,eq_self,Gj];simp only[z2,seval,aF 123,aJ,Bi,Dp,Tz,Tw,Cm,bR];refine Bm a _ _ _ (fun _=>Ld.symm) ⟨?_,?_,?_,?_,?_⟩
   ·simp[aA];rw[bK,h5]
   all_goals simp[aA]
  ·rw[aS ⟨h5,hr⟩];unfold bK;simp only[z2,seval,h5,aQ,aP,aF 163,aJ,c163 (n+4) x.prim,hf,dV,dJ,aN,A119];rfl
 ·rw[aG (fun h=>h5 h.1)]
  unfold bK;simp only[z2,seval,aE h1,aE h2,aE h5,zY];simp only[z2,seval,aF 123,aJ,Bi,Dp,Tz,Tw,Cm,bR];refine Bm 0 _ _ _ (fun h=>absurd h h5) ⟨?_,?_,?_,?_,?_⟩
  ·simp[aA];rfl
  all_goals simp[aA]
def vG(l:List Nd)(p:Nat):Bool:=match l[p]? with|some x=>decide (x.kind=1)|none=>false
def kT(l:List Nd)(i k:Nat):Bool:=zG k fun j=>vG l (i+1+j)
theorem numB_lt{p:Nat}(h:p<l.length):vG l p=decide (l[p].kind=1):=by unfold vG;rw[aI h]
theorem numB_ge{p:Nat}(h:l.length≤p):vG l p=false:=by unfold vG;rw[kH h]
theorem allN_upto{n:Nat}{p:Nat→Bool}(h:∀j,j<n→p j=true):zG n p=true:=jI.2 h
theorem c97(n:Nat)(hd:Sl 7 bK l d)(hl:l.length<4294967296)(hi:i<l.length){k:Nat}(hk:l[i].kids=k)(hk4:k<4294967296):
  cl n 97 [d,.int .i64 (i:Nat)]=some (.bool (kT l i k),true):=by
 rw[kG 97 A97 B97,B97];have w0:bX .i64 ((i:Int)+1)=((i+1:Nat):Int):=gW (by omega)
 have wk:bX .i64 ((i:Int)+(k:Int))=((i+k:Nat):Int):=by rw[cL (by omega) (by omega)];omega
 have g2:=hd.cell hi (show 2<7 by omega)
 simp only[z2,seval,w0];generalize hz:zloop KK _ _=rl;refine zwhile rl hz k (dY (by omega)) (fun j z=>∃t st c,z=⟨t,st,c,[],none⟩∧tget t 0=d∧tget t 1 = .int .i64 (i:Nat)∧tget t 5 = .int .i64 ((i+1+j:Nat):Int)∧∀q,q<j→vG l (i+1+q)=true) ⟨_,_,_,rfl,by simp[aA],by simp[aA],by simp[aA],nofun⟩ ?_
 rintro j z hj ⟨t,st,c,rfl,q0,q1,q5,Aa⟩;by_cases Vx:j<k
 ·have Ac:decide (((i+1+j:Nat):Int)≤((i+k:Nat):Int))=true:=dT (by omega)
  have w1:bX .i64 (((i+1+j:Nat):Int)+1)=((i+1+(j+1):Nat):Int):=gW (by omega)
  by_cases zQ:i+1+j<l.length
  ·have g0:=hd.cell zQ (show 0<7 by omega)
   have hge:decide ((l.length:Int)≤((i+1+j:Nat):Int))=false:=dF (by omega)
   have hn:=numB_lt zQ;cases hk1:decide (l[i+1+j].kind=1)
   ·simp only[z2,seval,q0,q1,q5,hd.len,hd.ia hi,hd.ia zQ,g2,g0,bK,hk,wk,Ac,hge,nb,hk1,A97];rw[show kT l i k=false from oY Vx (hn.trans hk1)];rfl
   ·simp only[z2,seval,q0,q1,q5,hd.len,hd.ia hi,hd.ia zQ,g2,g0,bK,hk,wk,Ac,hge,nb,hk1,w1];refine⟨Vx,_,_,_,rfl,by simp[aA,q0],by simp[aA,q1],by simp[aA],fun q hq=>?_⟩
    rcases iI.1 hq with h|rfl
    ·exact Aa q h
    ·exact hn.trans hk1
  ·have hge:decide ((l.length:Int)≤((i+1+j:Nat):Int))=true:=dT (by omega)
   simp only[z2,seval,q0,q1,q5,hd.len,hd.ia hi,g2,bK,hk,wk,Ac,hge,nb,A97];rw[show kT l i k=false from oY Vx (numB_ge (by omega))];rfl
 ·have Ac:decide (((i+1+j:Nat):Int)≤((i+k:Nat):Int))=false:=dF (by omega)
  have:j=k:=by omega
  subst this;simp only[z2,seval,q0,q1,q5,hd.len,hd.ia hi,g2,bK,hk,wk,Ac,nb,A97];rw[show kT l i j=true from allN_upto Aa];rfl
structure qM (x:Nd):Prop where
 k3:x.kind=3→0≤x.kids∧x.kids<400
 kp:x.kind=5∨x.kind=6→x.kids=1∨x.kids=2
theorem good_of{x:Nd}(h:iU x=0):qM x:=by
 unfold iU at h;cases h1:decide (x.kind<1)||(decide (6<x.kind)||surB x)
 case true=>grind
 cases h2:decide (x.site<0)||decide (1000000000<x.site)
 case true=>grind
 cases h3:decide (sG x.text<0)
 case true=>grind
 cases h4:decide (400<sG x.text)||(decide (x.kind=3)&&decide (400≤x.kids))
 case true=>grind
 cases h5:(decide (x.kind=3)&&decide (x.kids<0))||((decide (x.kind=5) && !decide (x.kids=arI x.prim))||(decide (x.kind=6)&&(!decide (x.kids=1) && !decide (x.kids=2))))
 case true=>grind
 simp only[Bool.or_eq_false_iff,Bool.and_eq_false_imp,bZ,cD,Bool.not_eq_false',Bool.not_eq_eq_eq_not,bD]at h1 h4 h5;refine⟨fun k=>⟨by have:=h5.1 k;omega,by omega⟩,fun k=>?_⟩
 rcases k with k|k
 ·have e:=of_decide_eq_true (h5.2.1 k);have hs:=h1.2.2;rcases zA x.prim with⟨a,hf,hr,ha⟩|⟨hf,hr⟩
  ·have e':x.kids=a:=e.trans (by rw[arI,hf];rfl)
   rw[e',ha];split<;>simp
  grind [decide,aH,sur_rest]
 grind
structure iT (l:List Nd):Prop where
 nd:∀(i:Nat) (h:i<l.length),qM l[i]
 ls:∀(i:Nat) (h:i<l.length),l[i].kind=3→i+1+l[i].kids.toNat≤l.length
def qB(l:List Nd):Nat→Nat→Nat
 | 0,_=>l.length+1
 | f+1,i=>match l[i]? with
  | none=>l.length+1
  | some x=>if x.kind=3 then i+1+x.kids.toNat else if fO x=1 then qB l f (i+1) else if fO x=2 then(if qB l f (i+1)≤l.length then qB l f (qB l f (i+1)) else qB l f (i+1)) else i+1
theorem endF_gt(l:List Nd):∀(f i:Nat),i≤l.length→i<qB l f i
 | 0,i,h=>by rw[qB];omega
 | f+1,i,h=>by
  rw[qB];cases hx:l[i]? with
  | none=>grind
  | some x=>
   have zQ:i<l.length:=(dE.1 hx).1;have h1:=endF_gt l f (i+1) (by omega)
   simp only;split
   ·omega
   ·split
    ·omega
    ·split
     ·split
      ·rename_i h';have:=endF_gt l f _ h';omega
      ·omega
     ·omega
theorem endF_le{l:List Nd}(hg:iT l):∀(f i:Nat),qB l f i≤l.length+1
 | 0,i=>by rw[qB];omega
 | f+1,i=>by
  rw[qB];cases hx:l[i]? with
  | none=>grind
  | some x=>
   obtain⟨zQ,rfl⟩:=dE.1 hx;have h1:=endF_le hg f (i+1);simp only;split
   ·rename_i h3;have:=hg.ls i zQ h3;omega
   ·split
    ·exact h1
    ·split
     ·split
      ·exact endF_le hg f _
      ·exact h1
     ·omega
theorem endF_fuel(l:List Nd):∀(f g i:Nat),l.length+1≤f+i→l.length+1≤g+i→qB l f i=qB l g i
 | 0,0,i,_,_=>rfl
 | 0,g+1,i,h,_=>by grind [qB,kH]
 | f+1,0,i,_,h=>by grind [qB,kH]
 | f+1,g+1,i,hf,hg=>by
  rw[qB,qB];cases hx:l[i]? with
  | none=>rfl
  | some x=>
   have zQ:i<l.length:=(dE.1 hx).1;simp only;have e1:=endF_fuel l f g (i+1) (by omega) (by omega)
   have h1:=endF_gt l g (i+1) (by omega)
   rw[e1,endF_fuel l f g (qB l g (i+1)) (by omega) (by omega)]
def eN(l:List Nd)(i:Nat):Nat:=qB l (l.length+1) i
theorem eN_gt(h:i≤l.length):i<eN l i:=endF_gt l _ i h
theorem eN_le(hg:iT l)(i:Nat):eN l i≤l.length+1:=endF_le hg _ i
theorem eN_ge(h:l.length≤i):eN l i=l.length+1:=by rw[eN,qB,kH h]
theorem eN_eq(h:i<l.length):eN l i=if l[i].kind=3 then i+1+l[i].kids.toNat else if fO l[i]=1 then eN l (i+1) else if fO l[i]=2 then(if eN l (i+1)≤l.length then eN l (eN l (i+1)) else eN l (i+1)) else i+1:=by
 grind [qB,eN,endF_fuel,eN_gt,aI]
theorem lD{x:Nd}(h:qM x):fO x=0∨fO x=1∨fO x=2:=by
 unfold fO;split
 ·rename_i k;have:=h.kp k;omega
 omega
theorem c98(hd:Sl 7 bK l d)(hg:iT l)(hl:l.length<4294967296)(n:Nat):∀(f i:Nat),i≤l.length+1→l.length≤f+i→cl (n+f) 98 [d,.int .i64 (i:Nat)]=some (.int .i64 (eN l i:Nat),true):=by
 intro f
 induction f with
 | zero=>
  intro i hi hf;rw[kG 98 A98 B98,B98];have hge:decide ((l.length:Int)≤(i:Int))=true:=dT (by omega)
  have w:bX .i64 ((l.length:Int)+1)=((l.length+1:Nat):Int):=gW (by omega)
  simp only[z2,seval,hd.len,hge,w,A98,eN_ge (show l.length≤i by omega)]
  rfl
 | succ f ih=>
  intro i hi hf;by_cases zQ:i<l.length
  case neg=>
   show cl (n+f+1) 98 _=_;rw[kG 98 A98 B98,B98];have hge:decide ((l.length:Int)≤(i:Int))=true:=dT (by omega)
   have w:bX .i64 ((l.length:Int)+1)=((l.length+1:Nat):Int):=gW (by omega)
   simp only[z2,seval,hd.len,hge,w,A98,eN_ge (show l.length≤i by omega)]
   rfl
  show cl (n+f+1) 98 _=_;rw[kG 98 A98 B98,B98];have hge:decide ((l.length:Int)≤(i:Int))=false:=dF (by omega)
  have w0:bX .i64 ((i:Int)+1)=((i+1:Nat):Int):=gW (by omega)
  have g0:=hd.cell zQ (show 0<7 by omega)
  have g2:=hd.cell zQ (show 2<7 by omega)
  have zW:=hd.row zQ;have Df:=c148 (n+f) l[i];have hE:=eN_eq zQ;have Bi:∀st x,frz false 20 st (.agg (bK x))=some (.agg (bK x)):=fun _ _=>rfl
  by_cases h3:l[i].kind=3
  ·obtain⟨k0,k4⟩:=(hg.nd i zQ).k3 h3;have w1:bX .i64 (((i+1:Nat):Int)+l[i].kids)=((i+1+l[i].kids.toNat:Nat):Int):=by rw[cL (by omega) (by omega)];omega
   rw[aS h3]at hE;simp only[z2,seval,hd.len,hd.ia zQ,g0,g2,hge,w0,bK,aH h3,w1,A98,hE];rfl
  rw[aG h3]at hE;have z0:(bK l[i])[0]?=some (.int .i64 l[i].kind):=rfl;rw[z0]at g0;have e1:=ih (i+1) (by omega) (by omega)
  have Sh:=eN_gt (l:=l) (i:=i+1) (by omega)
  have Ac:=eN_le hg (i+1);rcases lD (hg.nd i zQ) with hm|hm|hm
  ·rw[hm]at Df hE;simp only[z2,seval,zun,hd.len,hd.ia zQ,g0,hge,w0,aE h3,zW,Bi,aF 148,aJ,hd.fz,Df,nb,A98];rw[hE];rfl
  ·rw[hm]at Df hE;rw[aS rfl]at hE;have Oj:decide (((i+1:Nat):Int)≤(l.length:Int))=true:=dT (by omega)
   simp only[z2,seval,zun,hd.len,hd.ia zQ,g0,hge,w0,aE h3,zW,Bi,aF 148,aF 98,aJ,hd.fz,Df,Oj,e1,show bX .i64 1=1 from rfl,nb,A98]
   rw[hE];rfl
  ·rw[hm]at Df hE;rw[aG (by decide),aS rfl]at hE
   have Oj:decide (((i+1:Nat):Int)≤(l.length:Int))=true:=dT (by omega)
   by_cases h2:eN l (i+1)≤l.length
   ·have e2:=ih (eN l (i+1)) (by omega) (by omega)
    have Rm:decide (((eN l (i+1):Nat):Int)≤(l.length:Int))=true:=dT (by omega)
    rw[aS h2]at hE;simp only[z2,seval,zun,hd.len,hd.ia zQ,g0,hge,w0,aE h3,zW,Bi,aF 148,aF 98,aJ,hd.fz,Df,Oj,Rm,e1,e2,show bX .i64 1=1 from rfl,show bX .i64 2=2 from rfl,nb,A98]
    rw[hE];rfl
   ·have Rm:decide (((eN l (i+1):Nat):Int)≤(l.length:Int))=false:=dF (by omega)
    rw[aG h2]at hE;simp only[z2,seval,zun,hd.len,hd.ia zQ,g0,hge,w0,aE h3,zW,Bi,aF 148,aF 98,aJ,hd.fz,Df,Oj,Rm,e1,show bX .i64 1=1 from rfl,show bX .i64 2=2 from rfl,nb,A98]
    rw[hE];rfl
def gU(k:Nat):List D:=[.int .i64 (k:Int)]
theorem kU:sH 1 gU:=⟨fun _=>rfl,by decide,fun _=>rfl,fun _ _ _ _=>rfl⟩
theorem vE{B:Nat}{t:Tm}{s:St}{c:Nat}{dd:List (D×List D)}{r:Option Nat}{q:D}{L:List Nat}{k ty Kj:Nat}{b:D}{A:Option (D×AS)}(hA:iS ⟨t,sadd s c (.fix Kj [b]),c+1,dd,r⟩ 1 8 ty q (.ms c 0 1 1 1)=A)(hb:b = .int .i64 (k:Nat))(hO:jT 1 gU B s q L)(hL:L.length<4294967295)(hc:B≤c)(zX:∀m,c≤m→sget s m=none):
  ∃q' s' c',A=some (q',⟨t,s',c',dd,r⟩)∧jT 1 gU B s' q' (L++[k])∧c+1≤c'∧(∀m,m<B→sget s' m=sget s m)∧∀m,c'≤m→sget s' m=none:=by
 subst hb;subst hA;obtain⟨q',s',c',h1,h2,h3,h4,h5⟩:=lR kU (B:=B) (l:=L) (l':=[k]) (sz:=8) (ty:=ty) (by decide) (x:=⟨t,sadd s c (.fix Kj [.int .i64 (k:Nat)]),c+1,dd,r⟩) (q:=q) (b:=.ms c 0 1 1 1) rfl
  (hO.keep fun m b _ hb=>by simp only[aA];grind) (by simp only[cP,aA,↓reduceIte];rfl) (by grind) (by grind)
  (fun m hm=>by simp only at hm;simp only[aA];grind)
 exact⟨q',s',c',h1,h2,h3,fun m hm=>by rw[h4 m hm];simp only[aA];grind,h5⟩
def pN(l:List Nd)(i:Nat):List Nat:=match l[i]? with
 | none=>[]
 | some x=>if fO x=1 then[i+1]else if fO x=2 then[i+1,eN l (i+1)] else[]
theorem tQ(h:i<l.length):pN l i=if fO l[i]=1 then[i+1]else if fO l[i]=2 then[i+1,eN l (i+1)] else[]:=by rw[pN,aI h]
theorem pL(hg:iT l)(h:i<l.length)(he:eN l i≤l.length):∀k∈pN l i,i<k∧k<l.length∧eN l k≤l.length:=by
 have hE:=eN_eq h;have Sh:=eN_gt (l:=l) (i:=i+1) (by omega)
 have n3:fO l[i]=1∨fO l[i]=2→¬l[i].kind=3:=by
  intro hm k;unfold fO at hm;rw[aG (by omega)]at hm;omega
 grind [eN,eN_ge,tQ,lD,fV]
theorem c149(hd:Sl 7 bK l d)(hg:iT l)(hl:l.length<4294967296)(n f i:Nat)(hi:i<l.length)(he:eN l i≤l.length)(hf:l.length≤f+i):∃r,cl (n+f+1) 149 [d,.int .i64 (i:Nat)]=some (r,true)∧Sl 1 gU (pN l i) r:=by
 have Cy:=pL hg hi he;rw[tQ hi]at Cy ⊢;rw[kG 149 A149 B149,B149];have w0:bX .i64 ((i:Int)+1)=((i+1:Nat):Int):=gW (by omega)
 have zW:=hd.row hi;have Df:=c148 (n+f) l[i];have Bi:∀st x,frz false 20 st (.agg (bK x))=some (.agg (bK x)):=fun _ _=>rfl
 have e1:=c98 hd hg hl n f (i+1) (by omega) (by omega)
 rcases lD (hg.nd i hi) with hm|hm|hm
 ·rw[hm]at Df;simp only[z2,seval,zun,hd.ia hi,w0,zW,Bi,aF 148,aJ,hd.fz,Df,nb,A149,hm];exact⟨.nils,rfl,fun r hr=>by simp at hr,.inl ⟨rfl,rfl⟩⟩
 ·rw[hm]at Df;simp only[z2,seval,zun,hd.ia hi,w0,zW,Bi,aF 148,aJ,hd.fz,Df,nb];generalize hA:iS _ 1 8 4 _ _=A;obtain⟨q',s',c',rfl,hO,Bw,_,Dn⟩:=vE (B:=0) (L:=[]) (k:=i+1) hA rfl (.inl ⟨rfl,rfl⟩) (by decide) (aK _) (fun m _=>dX m)
  clear hA;simp only[z2,seval,zun,hd.ia hi,zW,Bi,aF 148,aF 98,aJ,hd.fz,Df,e1,show bX .i64 1=1 from rfl,nb,A149]
  obtain⟨r,Ge,Cb⟩:=hO.fz kU true
  grind [pout]
 ·rw[hm]at Df;have e2:=c98 hd hg hl n f (eN l (i+1)) (eN_le hg _) (by grind [eN_gt])
  simp only[z2,seval,zun,hd.ia hi,w0,zW,Bi,aF 148,aJ,hd.fz,Df,nb];generalize hA:iS _ 1 8 4 _ _=A;obtain⟨q',s',c',rfl,hO,Bw,_,Dn⟩:=vE (B:=0) (L:=[]) (k:=i+1) hA rfl (.inl ⟨rfl,rfl⟩) (by decide) (aK _) (fun m _=>dX m)
  clear hA;simp only[z2,seval,zun,hd.ia hi,zW,Bi,aF 148,aF 98,aJ,hd.fz,Df,e1,show bX .i64 1=1 from rfl,nb]
  generalize hA:iS _ 1 8 4 _ _=A;obtain⟨q2,s2,c2,rfl,hO2,El,_,hfr2⟩:=vE (B:=0) (L:=[]++[i+1]) (k:=eN l (i+1)) hA rfl hO (by simp) (dM _) Dn
  clear hA;simp only[z2,seval,zun,hd.ia hi,zW,Bi,aF 148,aF 98,aJ,hd.fz,Df,e2,show bX .i64 2=2 from rfl,nb,A149]
  obtain⟨r,Ge,Cb⟩:=hO2.fz kU true
  grind [pout]
structure Lt (ss:List (List UInt8)) (us:List Nat) (d e:D):Prop where
 d:Sl 1 fM ss d
 e:Sl 1 u8C us e
 u:fY us
 s:oZ ss
 c:CHK ss us=e2 0 0
 l:us.length=ss.length
 h1:1≤ss.length
 h8:ss.length≤8
def J(us:List Nat)(a b:Nat):Nat:=(kL (uM us) us.length a b).toNat
theorem Lt.j{ss:List (List UInt8)}{us:List Nat}{e:D}(h:Lt ss us d e){a b:Nat}(ha:a<us.length)(hb:b<us.length):kL (uM us) us.length a b=(J us a b:Nat)∧J us a b<us.length:=by
 obtain⟨k,h1,h2⟩:=near_nat h.c (h.l▸ha) (h.l▸hb)
 unfold J;rw[h.l,h1];exact⟨rfl,by rw[cQ];exact h2⟩
def jF(us:List Nat)(b:Nat)(l:List Nat):Nat:=l.foldl (J us) b
theorem Lt.jF{ss:List (List UInt8)}{us:List Nat}{d e:D}(h:Lt ss us d e):∀{l:List Nat} {b:Nat},b<us.length→(∀x∈l,x<us.length)→Zv.jF us b l<us.length
 | [],b,hb,_=>hb
 | a::l,b,hb,hl=>Lt.jF h (l:=l) (h.j hb (hl a (cE ..))).2 fun x hx=>hl x (dA _ hx)
theorem jF_step(us:List Nat)(b:Nat)(l:List Nat)(hi:i<l.length):jF us b (l.take (i+1))=J us (jF us b (l.take i)) l[i]:=by
 unfold jF;rw[List.take_succ_eq_append_getElem hi,List.foldl_append];rfl
def lkC(d e:D)(a b:Ty)(bot:Nat):List D:=[d,e,.int .i64 a.kind,.int .i64 a.rank,.int .i64 a.a0,.int .i64 a.a1,.int .i64 a.data,.int .i64 b.kind,.int .i64 b.rank,.int .i64 b.a0,.int .i64 b.a1,.int .i64 b.data,.int .i64 (bot:Nat)]
theorem c278(n:Nat){ss:List (List UInt8)}{us:List Nat}{e q:D}(h:Lt ss us d e)(a b:Ty){bot:Nat}(hb:bot<us.length){ls:List Nat}(hq:Sl 1 gU ls q)(hl:∀x∈ls,x<us.length)(Dd:ls.length<9223372036854775807):
  cl (n+1) 278 [.agg (lkC d e a b bot),q]=some (.int .i64 (jF us bot ls:Nat),true):=by
 rw[kG 278 A278 B278];unfold lkC;simp only[B278,cI];have h8:=h.h8;have Cs:=h.l;have hx:∀c (hc:c<us.length),us[c]=uM us c:=fun c hc=>(jK hc 0).symm
 simp only[z0,seval,h.d.nag,h.e.nag,hq.len];generalize hz:zloop KK _ _=rl;refine zrange rl hz ls.length (dY Dd) Dd (fun i t s c=>sget s 0=some (.fix 234 (lkC d e a b bot))∧tget t 2 = .ptr 0 0∧tget t 10=q∧tget t 5 = .int .i64 (jF us bot (ls.take i):Nat)) (by decide) (by simp[aA]) (by simp[aA]) (by simp[aA,lkC];rfl) ?_ ?_
 ·rintro i t s c hi ⟨s0,q2,q10,q5⟩ Ag Ah;have hg:jF us bot (ls.take i)<us.length:=h.jF hb fun x hx=>hl x (eH hx)
  have hm:=hl _ (bQ hi);have h69:=c69 n h.e (by omega) (jF us bot (ls.take i)) ls[i]
  rw[jF_step us bot ls hi];generalize jF us bot (ls.take i)=o at *;obtain⟨j1,j2⟩:=h.j hg hm;rw[j1]at h69;unfold lkC at s0
  simp only[z0,seval,s0,q2,q10,q5,Ag,Ah,hq.ia1 hi,hq.at1 hi,gU,dR,cN,fX,iY,AOp.kd,eE,fQ,fG,eY,eJ,dW,cC,dD,h.e.ia1 hg,h.e.at1 hg,h.e.ia1 hm,h.e.at1 hm,u8C,hx _ hg,hx _ hm,iQ (kY h.u o) (kY h.u ls[i]),aF 69,aJ,h.e.fz,h69]
  exact⟨trivial,trivial,trivial,.inr (.inr trivial),nofun,nofun,rfl,trivial,trivial,trivial⟩
 ·rintro t s c ⟨s0,q2,q10,q5⟩ Ag Ah;rw[List.take_length]at q5;simp only[z0,seval,q5,A278];rfl
structure Tl where
 k:Int
 r:Int
 x:Nat
 y:Nat
 z:Nat
def tl(t:Tl):Ty:=⟨t.k,t.r,t.x,t.y,t.z⟩
def Tl.ok(n:Nat)(t:Tl):Prop:=t.x<n∧t.y<n∧t.z<n
theorem rH(ex:Bool)(a b:Nat):Sl 1 gU [a,b] (.sl ex 2 [.int .i64 (a:Int),.int .i64 (b:Int)]):=⟨fun r hr=>by simp[gU]at hr;rcases hr with rfl|rfl<;>rfl,.inr ⟨ex,rfl⟩⟩
theorem mem2{n a b:Nat}(ha:a<n)(hb:b<n):∀x∈[a,b],x<n:=fun x hx=>by
 rcases cH.1 hx with rfl|hx
 ·exact ha
 ·exact(fV.1 hx)▸hb
theorem b2:gH 2 2 none=some 2∧gH 2 0 none=some 0:=⟨rfl,rfl⟩
section
variable (n:Nat) {ss:List (List UInt8)} {us:List Nat} {d e:D} (h:Lt ss us d e) (a b:Tl) {bot:Nat} (hb:bot<us.length) (ha:a.ok us.length) (Ad:b.ok us.length)
include h hb ha Ad
theorem c276:cl (n+2) 276 [.agg (lkC d e (tl a) (tl b) bot)]=some (.int .i64 (jF us bot [a.z,b.z]:Nat),true):=by
 rw[iP 276 A276 B276,B276];have Jw:=c278 n h (tl a) (tl b) hb (rH true a.z b.z) (mem2 ha.2.2 Ad.2.2) (show 2<9223372036854775807 by decide)
 unfold lkC tl at *;simp only[z0,seval,h.d.nag,h.e.nag,aF 278,aJ,h.d.fz,h.e.fz,Jw,mS,aK,aQ,A276];rfl
theorem c279(t:Tl)(ht:t.ok us.length):cl (n+2) 279 [.agg (lkC d e (tl a) (tl b) bot),.agg (tyC (tl t))]=some (.int .i64 (jF us bot [t.x,t.y]:Nat),true):=by
 have _h1:=ha;have _h2:=Ad;rw[kG 279 A279 B279,B279];have Jw:=c278 n h (tl a) (tl b) hb (rH true t.x t.y) (mem2 ht.1 ht.2.1) (show 2<9223372036854775807 by decide)
 unfold lkC tl tyC at *;simp only[z0,seval,h.d.nag,h.e.nag,dR,cN,AOp.kd,zop,tks,bP,dL,dC,iA,iB,b2,dX,cB,bE,aF 278,aJ,h.d.fz,h.e.fz,Jw,mS,Nat.sub_zero,aK,aQ,A279];rfl
theorem c277:cl (n+3) 277 [.agg (lkC d e (tl a) (tl b) bot)]=some (.int .i64 (jF us bot [jF us bot [a.x,a.y],jF us bot [b.x,b.y]]:Nat),true):=by
 rw[iP 277 A277 B277,B277];have h1:=c279 n h a b hb ha Ad a ha;have h2:=c279 n h a b hb ha Ad b Ad;have Jw:=c278 (n+1) h (tl a) (tl b) hb (rH true (jF us bot [a.x,a.y]) (jF us bot [b.x,b.y])) (mem2 (h.jF hb (mem2 ha.1 ha.2.1)) (h.jF hb (mem2 Ad.1 Ad.2.1))) (show 2<9223372036854775807 by decide)
 unfold lkC tl tyC at *;simp only[z0,seval,h.d.nag,h.e.nag,dR,cN,AOp.kd,zop,tks,bP,dL,dC,iA,iB,b2,dX,cB,bE,aF 278,aF 279,aJ,h.d.fz,h.e.fz,h1,h2,Jw,mS,aK,aQ,A277];rfl
def sJ(us:List Nat)(bot:Nat)(t:Tl):Nat:=jF us bot [t.x,t.y]
def cJ(us:List Nat)(bot:Nat)(a b:Tl):Nat:=jF us bot [sJ us bot a,sJ us bot b]
def ruD(p q z w c:Int):D:=.agg [.int .i64 0,.int .i64 0,.int .i64 p,.int .i64 q,.int .i64 z,.int .i64 w,.int .i64 c]
theorem c275(p q z w:Int):cl (n+4) 275 [.agg (lkC d e (tl a) (tl b) bot),.agg [.int .i64 p,.int .i64 q],.int .i64 z,.int .i64 w]=some (ruD p q z w (cJ us bot a b:Nat),true):=by
 rw[cl_4 275 A275 B275,B275];have h1:=c277 n h a b hb ha Ad;unfold lkC tl at *;simp only[z0,seval,h.d.nag,h.e.nag,dR,cN,AOp.kd,zop,tks,bP,dL,dC,fH,aF 277,aJ,h.d.fz,h.e.fz,h1,A275];rfl
theorem c280:cl (n+2) 280 [.agg (lkC d e (tl a) (tl b) bot)]=some (.agg [.int .i64 (jF us bot [a.x,b.x]:Nat),.int .i64 (jF us bot [a.y,b.y]:Nat)],true):=by
 rw[iP 280 A280 B280,B280];have h1:=c278 n h (tl a) (tl b) hb (rH true a.x b.x) (mem2 ha.1 Ad.1) (show 2<9223372036854775807 by decide)
 have h2:=c278 n h (tl a) (tl b) hb (rH true a.y b.y) (mem2 ha.2.1 Ad.2.1) (show 2<9223372036854775807 by decide)
 unfold lkC tl at *;have i0:iF 2 (.int .i64 0)=some 0:=rfl;have i1:iF 2 (.int .i64 1)=some 1:=rfl;simp only[z0,seval,h.d.nag,h.e.nag,zun,i0,i1,nb,dR,cN,AOp.kd,zop,tks,bP,dL,dC,iB,dX,cB,bE,show bX .i64 1=1 from rfl,show bX .i64 2=2 from rfl,aF 278,aJ,h.d.fz,h.e.fz,h1,h2,mS,aK,aQ,A280]
 rfl
end
def Rg(m:Nat)(x:Int):Prop:=∃k:Nat,x=k∧k<m
theorem rgN{m k:Nat}(h:k<m):Rg m (k:Int):=⟨k,rfl,h⟩
theorem i20:iF 2 (.int .i64 0)=some 0∧iF 2 (.int .i64 1)=some 1:=⟨rfl,rfl⟩
def ruQ(g:Nat×Nat×Nat×Nat×Nat):D:=ruD (g.1:Nat) (g.2.1:Nat) (g.2.2.1:Nat) (g.2.2.2.1:Nat) (g.2.2.2.2:Nat)
section
variable (n:Nat) {ss:List (List UInt8)} {us:List Nat} {d e:D} (h:Lt ss us d e) (a b:Tl) {bot:Nat} (hb:bot<us.length) (ha:a.ok us.length) (Ad:b.ok us.length)
include h hb ha Ad
theorem xs:
  cl (n+5) 216 [.agg (lkC d e (tl a) (tl b) bot)]=some (ruQ (a.x,a.y,jF us bot [a.z,b.z],jF us bot [a.z,b.z],cJ us bot a b),true) ∧
  cl (n+5) 217 [.agg (lkC d e (tl a) (tl b) bot)]=some (ruQ (a.x,a.y,jF us bot [a.z,b.z],bot,cJ us bot a b),true) ∧
  cl (n+5) 218 [.agg (lkC d e (tl a) (tl b) bot)]=some (ruQ (bot,bot,cJ us bot a b,bot,cJ us bot a b),true) ∧
  cl (n+5) 219 [.agg (lkC d e (tl a) (tl b) bot)]=some (ruQ (cJ us bot a b,0,jF us bot [a.z,b.z],bot,cJ us bot a b),true) ∧
  cl (n+5) 220 [.agg (lkC d e (tl a) (tl b) bot)]=some (ruQ (a.y,a.x,jF us bot [a.z,b.z],bot,cJ us bot a b),true) ∧
  cl (n+5) 222 [.agg (lkC d e (tl a) (tl b) bot)]=some (ruQ (a.x,a.y,jF us bot [a.z,b.z],cJ us bot a b,cJ us bot a b),true) ∧
  cl (n+5) 223 [.agg (lkC d e (tl a) (tl b) bot)]=some (ruQ (a.x,a.y,cJ us bot a b,bot,cJ us bot a b),true) ∧
  cl (n+5) 224 [.agg (lkC d e (tl a) (tl b) bot)]=some (ruQ (jF us bot [a.z,jF us bot [b.x,b.y]],0,jF us bot [a.z,b.z],bot,cJ us bot a b),true) ∧
  cl (n+5) 226 [.agg (lkC d e (tl a) (tl b) bot)]=some (ruQ (jF us bot [a.x,b.x],jF us bot [a.y,b.y],jF us bot [a.z,b.z],cJ us bot a b,cJ us bot a b),true) ∧
  cl (n+5) 227 [.agg (lkC d e (tl a) (tl b) bot)]=some (ruQ (b.x,b.y,jF us bot [a.z,b.z],jF us bot [jF us bot [a.x,a.y],b.z],cJ us bot a b),true) ∧
  cl (n+5) 228 [.agg (lkC d e (tl a) (tl b) bot)]=some (ruQ (jF us bot [a.z,jF us bot [b.x,b.y]],0,jF us bot [a.z,b.z],cJ us bot a b,cJ us bot a b),true) ∧
  cl (n+5) 221 [.agg (lkC d e (tl a) (tl b) bot)]=some (ruQ (a.z,a.z,jF us bot [a.z,b.z],a.z,jF us bot [cJ us bot a b,a.z]),true):=by
 have Sz:=fun p q z w=>c275 n h a b hb ha Ad p q z w
 have My:=c276 (n+2) h a b hb ha Ad;have Sy:=c277 (n+1) h a b hb ha Ad;have Sx:=c280 (n+2) h a b hb ha Ad;have ha9:=c279 (n+2) h a b hb ha Ad a ha;have Wn:=c279 (n+2) h a b hb ha Ad b Ad;have Hn:=h.jF hb (mem2 ha.1 ha.2.1);have Ee:=h.jF hb (mem2 Ad.1 Ad.2.1);have hcJ:cJ us bot a b<us.length:=h.jF hb (mem2 Hn Ee)
 have s1:=c278 (n+3) h (tl a) (tl b) hb (rH true a.z (jF us bot [b.x,b.y])) (mem2 ha.2.2 Ee) (show 2<9223372036854775807 by decide)
 have s2:=c278 (n+3) h (tl a) (tl b) hb (rH true (jF us bot [a.x,a.y]) b.z) (mem2 Hn Ad.2.2) (show 2<9223372036854775807 by decide)
 have s3:=c278 (n+3) h (tl a) (tl b) hb (rH true (cJ us bot a b) a.z) (mem2 hcJ ha.2.2) (show 2<9223372036854775807 by decide)
 unfold lkC tl tyC at *
 refine⟨(jX (A:=A216) rfl (n+5) _ rfl).trans ?_,(jX (A:=A217) rfl (n+5) _ rfl).trans ?_,(jX (A:=A218) rfl (n+5) _ rfl).trans ?_,(jX (A:=A219) rfl (n+5) _ rfl).trans ?_,(jX (A:=A220) rfl (n+5) _ rfl).trans ?_,(jX (A:=A222) rfl (n+5) _ rfl).trans ?_,(jX (A:=A223) rfl (n+5) _ rfl).trans ?_,(jX (A:=A224) rfl (n+5) _ rfl).trans ?_,(jX (A:=A226) rfl (n+5) _ rfl).trans ?_,(jX (A:=A227) rfl (n+5) _ rfl).trans ?_,(jX (A:=A228) rfl (n+5) _ rfl).trans ?_,(jX (A:=A221) rfl (n+5) _ rfl).trans ?_⟩
 all_goals
  simp only[A216,A217,A218,A219,A220,A222,A223,A224,A226,A227,A228,A221];simp only[B216,B217,B218,B219,B220,B222,B223,B224,B226,B227,B228,B221]
  simp only[z0,seval,h.d.nag,h.e.nag,dR,cN,AOp.kd,zop,tks,bP,dL,dC,iA,iB,fH,b2,i20,dX,cB,bE,aF 275,aF 276,aF 277,aF 278,aF 279,aF 280,aJ,h.d.fz,h.e.fz,Sz,My,Sy,Sx,ha9,Wn,mS,Nat.sub_zero,aK,aQ,ruD,aO,aX,s1,s2,s3]
  try rfl
theorem xt:
  (b.r<a.r→cl (n+5) 229 [.agg (lkC d e (tl a) (tl b) bot)]=some (ruQ (a.x,a.y,jF us bot [a.z,b.z],bot,cJ us bot a b),true)) ∧
  (¬b.r<a.r→a.r<b.r→cl (n+5) 229 [.agg (lkC d e (tl a) (tl b) bot)]=some (ruQ (b.x,b.y,jF us bot [a.z,b.z],bot,cJ us bot a b),true)) ∧
  (¬b.r<a.r→¬a.r<b.r→0<a.r→cl (n+5) 229 [.agg (lkC d e (tl a) (tl b) bot)]=some (ruQ (jF us bot [a.x,b.x],jF us bot [a.y,b.y],jF us bot [a.z,b.z],cJ us bot a b,cJ us bot a b),true)) ∧
  (¬b.r<a.r→¬a.r<b.r→¬0<a.r→cl (n+5) 229 [.agg (lkC d e (tl a) (tl b) bot)]=some (ruQ (jF us bot [a.x,b.x],jF us bot [a.y,b.y],jF us bot [a.z,b.z],bot,cJ us bot a b),true)):=by
 have Sz:=fun p q z w=>c275 n h a b hb ha Ad p q z w
 have My:=c276 (n+2) h a b hb ha Ad;have Sy:=c277 (n+1) h a b hb ha Ad;have Sx:=c280 (n+2) h a b hb ha Ad;have ha9:=c279 (n+2) h a b hb ha Ad a ha;have Wn:=c279 (n+2) h a b hb ha Ad b Ad;have Hn:=h.jF hb (mem2 ha.1 ha.2.1);have Ee:=h.jF hb (mem2 Ad.1 Ad.2.1);have hcJ:cJ us bot a b<us.length:=h.jF hb (mem2 Hn Ee);unfold lkC tl tyC at *;rw[iP 229 A229 B229,B229]
 refine⟨fun e1=>?_,fun e1 e2=>?_,fun e1 e2 e3=>?_,fun e1 e2 e3=>?_⟩
 have k1:=aH e1;have k2:=k1;have k3:=k1;rotate_left
 have k1:=aE e1;have k2:=aH e2;have k3:=k1;rotate_left
 have k1:=aE e1;have k2:=aE e2;have k3:=aH e3;rotate_left
 have k1:=aE e1;have k2:=aE e2;have k3:=aE e3;rotate_left
 all_goals
  simp only[z0,seval,h.d.nag,h.e.nag,dR,cN,AOp.kd,zop,tks,bP,dL,dC,iA,iB,fH,b2,i20,dX,cB,bE,aF 275,aF 276,aF 277,aF 278,aF 279,aF 280,aJ,h.d.fz,h.e.fz,Sz,My,Sy,Sx,ha9,Wn,mS,Nat.sub_zero,aK,aQ,ruD,k1,k2,k3,A229]
  try rfl
theorem x225:cl (n+6) 225 [.agg (lkC d e (tl a) (tl b) bot)]=some (ruQ (a.z,a.z,jF us bot [a.z,b.z],jF us bot [a.z,jF us bot [b.x,b.y]],jF us bot [cJ us bot a b,a.z]),true):=by
 have h1:=(xs n h a b hb ha Ad).2.2.2.2.2.2.2.2.2.2.2;have Ee:=h.jF hb (mem2 Ad.1 Ad.2.1);have Wn:=c279 (n+3) h a b hb ha Ad b Ad;have Jw:=c278 (n+4) h (tl a) (tl b) hb (rH true a.z (jF us bot [b.x,b.y])) (mem2 ha.2.2 Ee) (show 2<9223372036854775807 by decide)
 unfold ruQ at *;rw[iP 225 A225 B225,B225];unfold lkC tl tyC at *;unfold ruD at *
 simp only[z0,seval,h.d.nag,h.e.nag,dR,cN,AOp.kd,zop,tks,bP,dL,dC,iA,iB,fH,b2,i20,dX,cB,bE,aF 275,aF 276,aF 277,aF 278,aF 279,aF 280,aJ,h.d.fz,h.e.fz,Wn,mS,Nat.sub_zero,aK,aQ,aF 221,h1,Jw,A225]
 try rfl
theorem x230{g:Nat×Nat×Nat×Nat×Nat}(h1:cl (n+5) 229 [.agg (lkC d e (tl a) (tl b) bot)]=some (ruQ g,true)):cl (n+6) 230 [.agg (lkC d e (tl a) (tl b) bot)]=some (ruQ (g.1,g.2.1,g.2.2.1,jF us bot [a.z,b.z],g.2.2.2.2),true):=by
 have My:=c276 (n+3) h a b hb ha Ad;unfold ruQ at *;rw[iP 230 A230 B230,B230];unfold lkC tl at *;unfold ruD at *
 simp only[z0,seval,h.d.nag,h.e.nag,dR,cN,AOp.kd,zop,tks,bP,dL,dC,iA,iB,fH,b2,i20,dX,cB,bE,aF 275,aF 276,aF 277,aF 278,aF 279,aF 280,aJ,h.d.fz,h.e.fz,My,mS,Nat.sub_zero,aK,aQ,aF 229,h1,A230]
 try rfl
end
variable {s:List UInt8}
def l1:List (List UInt8):=[[105,110,105,110],[107,110,105,49],[107,110,107,49],[107,49,107,49],[107,50,107,50],[105,48,105,49],[105,49,105,48],[105,50,105,49],[107,49,105,48],[107,50,105,49],[105,49,105,49],[105,50,105,50]]
def kr:List (Int×Int):=[(1,0),(1,1),(1,2),(2,0),(2,1),(2,2)]
def okM(x:Option (D×Bool)):Bool:=match x with
 | some (.tup [.int .i64 k,.int .i64 r,.bool a,.bool b],true)=>!a||(!b||(decide (0≤r)&&decide (r≤2)))
 | _=>false
theorem t215(n:Nat):l1.all (fun s=>kr.all fun p=>okM (cl (n+1) 215 [.str s,.sl false 1 [.int .i64 p.1],.sl false 1 [.int .i64 p.2]]))=true:=by kernel_rfl
def l2:List (List UInt8):=[[105,48,105,110,105,110],[105,110,105,48,105,110],[105,110,105,110,105,110],[107,48,107,110,105,110],[107,110,107,48,105,110],[107,110,107,110,105,110],[105,48,107,49,107,49],[105,48,107,48,107,49],[105,49,107,49,107,50],[107,49,107,49,107,49],[107,50,107,50,107,50],[107,49,105,48,107,48],[107,49,105,49,107,49],[107,110,107,49,105,110],[105,49,107,49,107,49]]
def mB(n:Nat)(s:List UInt8):Bool:=kr.all fun p=>kr.all fun q=>okM (cl (n+1) 215 [.str s,.sl false 2 [.int .i64 p.1,.int .i64 q.1],.sl false 2 [.int .i64 p.2,.int .i64 q.2]])
theorem b215_0(n:Nat):mB n [105,48,105,110,105,110]=true:=by kernel_rfl
theorem b215_1(n:Nat):mB n [105,110,105,48,105,110]=true:=by kernel_rfl
theorem b215_2(n:Nat):mB n [105,110,105,110,105,110]=true:=by kernel_rfl
theorem b215_3(n:Nat):mB n [107,48,107,110,105,110]=true:=by kernel_rfl
theorem b215_4(n:Nat):mB n [107,110,107,48,105,110]=true:=by kernel_rfl
theorem b215_5(n:Nat):mB n [107,110,107,110,105,110]=true:=by kernel_rfl
theorem b215_6(n:Nat):mB n [105,48,107,49,107,49]=true:=by kernel_rfl
theorem b215_7(n:Nat):mB n [105,48,107,48,107,49]=true:=by kernel_rfl
theorem b215_8(n:Nat):mB n [105,49,107,49,107,50]=true:=by kernel_rfl
theorem b215_9(n:Nat):mB n [107,49,107,49,107,49]=true:=by kernel_rfl
theorem b215_10(n:Nat):mB n [107,50,107,50,107,50]=true:=by kernel_rfl
theorem b215_11(n:Nat):mB n [107,49,105,48,107,48]=true:=by kernel_rfl
theorem b215_12(n:Nat):mB n [107,49,105,49,107,49]=true:=by kernel_rfl
theorem b215_13(n:Nat):mB n [107,110,107,49,105,110]=true:=by kernel_rfl
theorem b215_14(n:Nat):mB n [105,49,107,49,107,49]=true:=by kernel_rfl
theorem t215b(n:Nat)(hs:s∈l2):mB n s=true:=by
 simp only[l2,cH,List.not_mem_nil,or_false]at hs;rcases hs with rfl|rfl|rfl|rfl|rfl|rfl|rfl|rfl|rfl|rfl|rfl|rfl|rfl|rfl|rfl
 ·exact b215_0 n
 ·exact b215_1 n
 ·exact b215_2 n
 ·exact b215_3 n
 ·exact b215_4 n
 ·exact b215_5 n
 ·exact b215_6 n
 ·exact b215_7 n
 ·exact b215_8 n
 ·exact b215_9 n
 ·exact b215_10 n
 ·exact b215_11 n
 ·exact b215_12 n
 ·exact b215_13 n
 ·exact b215_14 n
def KR(k r:Int):Prop:=(k=1∨k=2)∧0≤r∧r≤2
theorem kr_mem{k r:Int}(h:KR k r):(k,r)∈kr:=by
 obtain⟨h1,h2,h3⟩:=h;have:r=0∨r=1∨r=2:=by omega
 rcases h1 with rfl|rfl<;>rcases this with rfl|rfl|rfl<;>decide
theorem okM_ex{x:Option (D×Bool)}(h:okM x=true):∃k r a b,x=some (.tup [.int .i64 k,.int .i64 r,.bool a,.bool b],true)∧(a=true→b=true→0≤r∧r≤2):=by
 unfold okM at h;split at h
 ·refine⟨_,_,_,_,rfl,fun ha hb=>?_⟩
  simpa[ha,hb]using h
 ·cases h
theorem c215(n:Nat)(hs:s∈l1){k r:Int}(h:KR k r):∃k' r' a b,cl (n+1) 215 [.str s,.sl false 1 [.int .i64 k],.sl false 1 [.int .i64 r]]=some (.tup [.int .i64 k',.int .i64 r',.bool a,.bool b],true)∧(a=true→b=true→0≤r'∧r'≤2):=by
 have h1:=t215 n;rw[cF]at h1;have h2:=h1 s hs;rw[cF]at h2;exact okM_ex (h2 (k,r) (kr_mem h))
theorem c215b(n:Nat)(hs:s∈l2){k r k2 r2:Int}(h:KR k r)(h2:KR k2 r2):∃k' r' a b,cl (n+1) 215 [.str s,.sl false 2 [.int .i64 k,.int .i64 k2],.sl false 2 [.int .i64 r,.int .i64 r2]]=some (.tup [.int .i64 k',.int .i64 r',.bool a,.bool b],true)∧(a=true→b=true→0≤r'∧r'≤2):=by
 have g:=t215b n hs;unfold mB at g;rw[cF]at g;have g2:=g (k,r) (kr_mem h);rw[cF]at g2;exact okM_ex (g2 (k2,r2) (kr_mem h2))
def simD:D→Bool
 | .nils=>true
 | .sl _ _ _=>true
 | .nilfn=>true
 | .fn _ [] []=>true
 | _=>false
theorem uV{d:D}(h:simD d=true)(k:Nat)(s:St):frz false (k+1) s d=some d:=by
 unfold simD at h;split at h<;>first|rfl|cases h
theorem iL{d:D}(h:simD d=true):eG d=false:=by
 unfold simD at h;split at h<;>first|rfl|cases h
def inL(l:List (List UInt8))(d:D):Bool:=match d with
 | .str s=>l.contains s
 | _=>false
def fOk(i:Nat)(x:Option (D×Bool)):Bool:=match x with
 | some (.tup [.agg [.str _,.sl _ k (.str s::cs),er,f1,f2],.int .i64 0],fl)=>simD er&&(simD f1&&(simD f2&&(Nat.beq k (cs.length+1)&&(Nat.ble k 100&&(inL (if i<14 then l1 else l2) (.str s)&&(cs.all (inL (if i<14 then l1 else l2))))))))
 | _=>false
theorem f213(n:Nat):((List.range 40).all fun(i:Nat)=>fOk i (cl (n+3) 213 [.int .i64 ((i+1:Nat):Int)]))=true:=by kernel_rfl
theorem inL_ex{l:List (List UInt8)}:∀{cs:List D},cs.all (inL l)=true→∃L:List (List UInt8),cs=(L.map fM).flatten∧(∀s∈L,s∈l)∧L.length=cs.length
 | [],_=>⟨[],rfl,fun s hs=>by simp at hs,rfl⟩
 | d::cs,h=>by
  simp only[List.all_cons,bW]at h;obtain⟨L,h1,h2,h3⟩:=inL_ex h.2;have hd:=h.1;unfold inL at hd;split at hd
  ·rename_i s;exact⟨s::L,by rw[h1];rfl,fun x hx=>by rcases cH.1 hx with rfl|hx;(exact List.contains_iff_mem.1 hd);exact h2 x hx,by rw[aO,aO,h3]⟩
  ·cases hd
structure PrD (i:Nat) (l:List D) (L:List (List UInt8)):Prop where
 ex:∃nm q er f1 f2,l=[.str nm,q,er,f1,f2]∧Sl 1 fM L q∧simD er=true∧simD f1=true∧simD f2=true
 mem:∀s∈L,s∈(if i<14 then l1 else l2)
 pos:0<L.length
 lt:L.length<4294967296
theorem c213(n:Nat){i:Nat}(hi:i<40):∃l L fl,cl (n+3) 213 [.int .i64 ((i+1:Nat):Int)]=some (.tup [.agg l,.int .i64 0],fl)∧PrD i l L:=by
 have h:=f213 n;rw[cF]at h;have h:=h i (List.mem_range.2 hi);unfold fOk at h;split at h
 ·rename_i nm ex k s cs er f1 f2 fl hx;simp only[bW,Nat.beq_eq,Nat.ble_eq]at h;obtain⟨g1,g2,g3,g4,g7,g5,g6⟩:=h;obtain⟨L,h1,h2,h3⟩:=inL_ex (cs:=.str s::cs) (l:=if i<14 then l1 else l2) (by simp only[List.all_cons,bW];exact⟨g5,g6⟩)
  refine⟨_,L,fl,hx,⟨nm,_,er,f1,f2,rfl,⟨fun r hr=>?_,.inr ⟨ex,?_⟩⟩,g1,g2,g3⟩,h2,by rw[h3];simp,?_⟩
  ·obtain⟨x,_,rfl⟩:=cY.1 hr;rfl
  ·rw[dB,h3,←h1,g4,aO]
  ·rw[h3,aO,←g4];omega
 ·cases h
theorem len1:∀s∈l1,s.length=4:=by decide
theorem len2:∀s∈l2,s.length=6:=by decide
theorem quo46:kN .quo (.int .i64 4) (.int .i64 2)=some (.int .i64 2)∧kN .quo (.int .i64 6) (.int .i64 2)=some (.int .i64 3):=⟨rfl,rfl⟩
def arN(i:Nat):Nat:=if i<14 then 1 else 2
theorem c214(n:Nat){i:Nat}{l:List D}{L:List (List UInt8)}(h:PrD i l L):cl n 214 [.agg l]=some (.int .i64 (arN i:Nat),true):=by
 obtain⟨nm,q,er,f1,f2,rfl,hq,g1,g2,g3⟩:=h.ex;have h0:0<L.length:=h.pos;have hm:=h.mem _ (bQ h0);rw[iP 214 A214 B214,B214];have Fa:=hq.ia1 h0 (k:=.i64);have Ku:=hq.at1 h0;rw[show((0:Nat):Int)=0 from rfl]at Fa
 by_cases hi:i<14
 ·rw[aS hi]at hm;have hl:=len1 _ hm;have Pf:((4:Nat):Int)=4:=rfl;have hc6:((6:Nat):Int)=6:=rfl;simp only[z0,seval,Pf,hc6,hq.nag,iL g1,iL g2,iL g3,Fa,Ku,fM,hl,quo46,show bX .i64 1=1 from rfl,arN,aS hi,A214]
  rfl
 ·rw[aG hi]at hm;have hl:=len2 _ hm;have Pf:((4:Nat):Int)=4:=rfl;have hc6:((6:Nat):Int)=6:=rfl;simp only[z0,seval,Pf,hc6,hq.nag,iL g1,iL g2,iL g3,Fa,Ku,fM,hl,quo46,show bX .i64 2=2 from rfl,arN,aG hi,A214]
  rfl
def kD(K:List (Int×Int)):D:=.sl false K.length (K.map fun p=>.int .i64 p.1)
def rD(K:List (Int×Int)):D:=.sl false K.length (K.map fun p=>.int .i64 p.2)
theorem pZ(K:List (Int×Int)):lenD false (kD K)=some K.length∧lenD false (rD K)=some K.length:=⟨rfl,rfl⟩
theorem rZ(K:List (Int×Int))(k:Nat)(s:St):frz false (k+1) s (kD K)=some (kD K)∧frz false (k+1) s (rD K)=some (rD K):=⟨rfl,rfl⟩
theorem kD_nag(K:List (Int×Int)):eG (kD K)=false∧eG (rD K)=false:=⟨rfl,rfl⟩
theorem c215K(n:Nat){i:Nat}(hs:s∈(if i<14 then l1 else l2)){K:List (Int×Int)}(hl:K.length=arN i)(hK:∀p∈K,KR p.1 p.2):∃k' r' a b,cl (n+1) 215 [.str s,kD K,rD K]=some (.tup [.int .i64 k',.int .i64 r',.bool a,.bool b],true)∧(a=true→b=true→0≤r'∧r'≤2):=by
 unfold arN at hl;by_cases hi:i<14
 ·rw[aS hi]at hl hs
  match K,hl with
  | [(k,r)],_=>exact c215 n hs (hK _ (cE ..))
 ·rw[aG hi]at hl hs
  match K,hl with
  | [(k,r),(k2,r2)],_=>exact c215b n hs (hK _ (cE ..)) (hK _ (dA _ (cE ..)))
theorem c166(n:Nat)(p:Int){K:List (Int×Int)}(hl:K.length<1000)(hK:∀p∈K,KR p.1 p.2):
  ∃k r e,cl (n+4) 166 [.int .i64 p,kD K,rD K]=some (.tup [.int .i64 k,.int .i64 r,.int .i64 e],true)∧(e=0→(0≤r∧r≤2)∧1≤p∧p≤40):=by
 rw[nY 166 wV B166,B166];by_cases hp:p<1∨40<p
 ·refine⟨0,0,2,?_,fun h=>by omega⟩
  simp only[z0,seval,aF 213,aJ,c213e (n+3) hp,D.pures,D.pure,nb,wV];rfl
 obtain⟨i,hi,rfl⟩:∃i:Nat,i<40∧p=((i+1:Nat):Int):=⟨(p-1).toNat,by omega,by omega⟩
 obtain⟨l,L,fl,h213,hP⟩:=c213 n hi;have Na:=c214 (n+3) hP;obtain⟨nm,q,er,f1,f2,rfl,hq,g1,g2,g3⟩:=hP.ex;have Xp:=uV g1;have Tf:=uV g2;have Xo:=uV g3;have zQ:=hP.lt;by_cases hm:K.length=arN i
 ·simp only[z0,seval,aF 213,aJ,h213,D.pures,D.pure,Bool.or_true,nb,aF 214,Na,hq.nag,iL g1,iL g2,iL g3,hq.fz,Xp,Tf,Xo,(pZ K).1,(pZ K).2,hm,hq.len];generalize hz:zloop KK _ _=rl
  refine zrange rl hz L.length (dY (by omega)) (by omega) (fun _ t s c=>tget t 37=q∧tget t 1=kD K∧tget t 2=rD K∧∃v:Int,tget t 8 = .int .i64 v∧v≠0) (by decide) (by simp[aA]) (by simp[aA]) (by simp[aA]) ?_ ?_
  ·rintro j t s c hj ⟨Dk,q1,q2,v,q8,hv⟩ Ag Ah;obtain⟨k',r',a,b,Gv,Bk⟩:=c215K (n+2) (hP.mem _ (bQ hj)) hm hK;cases a
   ·simp only[z0,seval,Dk,q1,q2,q8,Ag,Ah,hq.ia1 hj,hq.at1 hj,fM,aF 215,aJ,(rZ K 19 s).1,(rZ K 19 s).2,Gv,wV];exact⟨trivial,trivial,trivial,.inr (.inr trivial),nofun,nofun,trivial,trivial,trivial,v,rfl,hv⟩
   ·cases b
    ·simp only[z0,seval,Dk,q1,q2,q8,Ag,Ah,hq.ia1 hj,hq.at1 hj,fM,aF 215,aJ,(rZ K 19 s).1,(rZ K 19 s).2,Gv,wV];exact⟨trivial,trivial,trivial,.inr (.inr trivial),nofun,nofun,trivial,trivial,trivial,22,rfl,by decide⟩
    ·simp only[z0,seval,Dk,q1,q2,q8,Ag,Ah,hq.ia1 hj,hq.at1 hj,fM,aF 215,aJ,(rZ K 19 s).1,(rZ K 19 s).2,Gv,wV];exact⟨_,_,_,rfl,fun _=>⟨Bk rfl rfl,by omega,by omega⟩⟩
  ·rintro t s c ⟨Dk,q1,q2,v,q8,hv⟩ Ag Ah;simp only[z0,seval,q8,wV];exact⟨_,_,_,rfl,fun h=>absurd h hv⟩
 ·simp only[z0,seval,aF 213,aJ,h213,D.pures,D.pure,Bool.or_true,nb,aF 214,Na,hq.nag,iL g1,iL g2,iL g3,hq.fz,Xp,Tf,Xo,(pZ K).1,(pZ K).2,hq.len,aE (show ¬((K.length:Int)=(arN i:Nat)) from fun h=>hm (Int.ofNat_inj.1 h)),wV]
  exact⟨_,_,_,rfl,fun h=>by omega⟩
def tabR:List D:=match cl 1 167 [] with|some (.agg l,_)=>l|_=>[]
theorem c167(n:Nat):cl (n+1) 167 []=some (.agg tabR,true):=by kernel_rfl
theorem tabR_len:tabR.length=41:=by kernel_rfl
def ruF:List Nat:=[216,217,218,219,220,221,222,223,224,225,226,227,228,229,230]
def isRu(d:Option D):Bool:=match d with
 | some (.fn (.func f) [] [])=>ruF.contains f
 | _=>false
theorem tabR_at:(List.range 40).all (fun i=>isRu tabR[i+1]?)=true:=by kernel_rfl
def Le(us:List Nat)(a b:Nat):Prop:=(uM us a).testBit b=true
section
variable {ss:List (List UInt8)} {us:List Nat} {d e:D} (h:Lt ss us d e)
variable {a b:Nat}
include h
theorem ord_lt:∀a,a<us.length→mI us.length (uM us) a=true:=by
 obtain⟨h1,_,h3⟩:=zO h.c;rw[h1];exact h3
theorem jm(ha:a<us.length)(hb:b<us.length):uM us (J us a b)=uM us a&&&uM us b:=by
 have hj:=(h.j ha hb).1;unfold kL at hj;rcases eX (kJ (uM us) a b) (-1) us.length 0 with⟨_,h2⟩|⟨m,r,_,_,h3,_,h4⟩
 ·rw[h2]at hj;omega
 ·rw[h4]at hj;unfold kJ at h3;cases hb:Nat.beq (uM us m) (uM us a&&&uM us b) with
  | false=>rw[hb]at h3;cases h3
  | true=>
   rw[hb]at h3;have:(m:Int)=r:=Option.some.inj h3;rw[←bH hb,show m=J us a b by omega]
theorem le_refl(ha:a<us.length):Le us a a:=(xY (ord_lt h) ha).1
theorem le_trans{c:Nat}(ha:a<us.length)(hb:b<us.length)(hc:c<us.length)(h1:Le us a b)(h2:Le us b c):Le us a c:=ord_trans (ord_lt h) ha hb hc h1 h2
theorem u_inj(ha:a<us.length)(hb:b<us.length)(e:uM us a=uM us b):a=b:=by
 refine xZ (ord_lt h) ha hb ?_ ?_
 ·rw[e];exact le_refl h hb
 ·rw[←e];exact le_refl h ha
theorem le_J(ha:a<us.length)(hb:b<us.length):Le us a (J us a b)∧Le us b (J us a b):=by
 have hj:=(h.j ha hb).2;have:=le_refl h hj;unfold Le at this ⊢;rw[jm h ha hb,Nat.testBit_and,bW]at this;exact this
theorem J_le{c:Nat}(ha:a<us.length)(hb:b<us.length)(h1:Le us a c)(h2:Le us b c):Le us (J us a b) c:=by
 unfold Le at *;rw[jm h ha hb,Nat.testBit_and,h1,h2];rfl
end
def Gd(us:List Nat)(t:Tl):Prop:=t.ok us.length∧Le us t.x t.z∧Le us t.y t.z
def TLe(us:List Nat)(a b:Tl):Prop:=a.k=b.k∧a.r=b.r∧Le us a.x b.x∧Le us a.y b.y∧Le us a.z b.z
def Up(us:List Nat)(v w:Nat):Prop:=v<us.length∧w<us.length∧Le us v w
section
variable {ss:List (List UInt8)} {us:List Nat} {d e:D} (h:Lt ss us d e) {bot:Nat} (hb:bot<us.length)
variable {v w:Nat}
include h
theorem Up.self(hv:v<us.length):Up us v v:=⟨hv,hv,le_refl h hv⟩
theorem Up.j{v' w':Nat}(h1:Up us v w)(h2:Up us v' w'):Up us (J us v v') (J us w w'):=
 ⟨(h.j h1.1 h2.1).2,(h.j h1.2.1 h2.2.1).2,J_le h h1.1 h2.1 (le_trans h h1.1 h1.2.1 (h.j h1.2.1 h2.2.1).2 h1.2.2 (le_J h h1.2.1 h2.2.1).1) (le_trans h h2.1 h2.2.1 (h.j h1.2.1 h2.2.1).2 h2.2.2 (le_J h h1.2.1 h2.2.1).2)⟩
include hb
theorem Up.jF{v' w':Nat}(h1:Up us v w)(h2:Up us v' w'):Up us (jF us bot [v,v']) (jF us bot [w,w']):=((Up.self h hb).j h h1).j h h2
theorem jF_ub(hv:v<us.length)(hw:w<us.length):Le us v (jF us bot [v,w])∧Le us w (jF us bot [v,w]):=by
 have j1:=(h.j hb hv).2;exact⟨le_trans h hv j1 (h.j j1 hw).2 (le_J h hb hv).2 (le_J h j1 hw).1,(le_J h j1 hw).2⟩
theorem jF_lub{c:Nat}(hv:v<us.length)(hw:w<us.length)(h0:Le us bot c)(h1:Le us v c)(h2:Le us w c):Le us (jF us bot [v,w]) c:=
 J_le h (h.j hb hv).2 hw (J_le h hb hv h0 h1) h2
end
variable {ss:List (List UInt8)} {us:List Nat} {d e:D}
structure PF (us:List Nat) (bot:Nat) (a b a' b':Tl):Prop where
 ux:Up us a.x a'.x
 uy:Up us a.y a'.y
 uz:Up us a.z a'.z
 vx:Up us b.x b'.x
 vy:Up us b.y b'.y
 vz:Up us b.z b'.z
 ub:Up us bot bot
 u0:Up us 0 0
 dj:Up us (jF us bot [a.z,b.z]) (jF us bot [a'.z,b'.z])
 sa:Up us (jF us bot [a.x,a.y]) (jF us bot [a'.x,a'.y])
 sb:Up us (jF us bot [b.x,b.y]) (jF us bot [b'.x,b'.y])
 cj:Up us (cJ us bot a b) (cJ us bot a' b')
 zs:Up us (jF us bot [a.z,jF us bot [b.x,b.y]]) (jF us bot [a'.z,jF us bot [b'.x,b'.y]])
 sz:Up us (jF us bot [jF us bot [a.x,a.y],b.z]) (jF us bot [jF us bot [a'.x,a'.y],b'.z])
 xx:Up us (jF us bot [a.x,b.x]) (jF us bot [a'.x,b'.x])
 yy:Up us (jF us bot [a.y,b.y]) (jF us bot [a'.y,b'.y])
 cz:Up us (jF us bot [cJ us bot a b,a.z]) (jF us bot [cJ us bot a' b',a'.z])
 lz:Le us a'.z (jF us bot [a'.z,b'.z])
 lx:Le us a'.x (jF us bot [a'.z,b'.z])
 ly:Le us a'.y (jF us bot [a'.z,b'.z])
 mx:Le us b'.x (jF us bot [a'.z,b'.z])
 my:Le us b'.y (jF us bot [a'.z,b'.z])
 lc:Le us (cJ us bot a' b') (jF us bot [a'.z,b'.z])
 ls:Le us (jF us bot [a'.z,jF us bot [b'.x,b'.y]]) (jF us bot [a'.z,b'.z])
 kx:Le us (jF us bot [a'.x,b'.x]) (jF us bot [a'.z,b'.z])
 ky:Le us (jF us bot [a'.y,b'.y]) (jF us bot [a'.z,b'.z])
 cx:Le us a'.x (cJ us bot a' b')
 cy:Le us a'.y (cJ us bot a' b')
 bc:Le us bot (cJ us bot a' b')
theorem pf(h:Lt ss us d e){bot:Nat}(hb:bot<us.length)(hl:∀i,i<us.length→(uM us bot).testBit i=true){a b a' b':Tl}(ga:Gd us a)(gb:Gd us b)(Xm:Gd us a')(Xl:Gd us b')(la:TLe us a a')(lb:TLe us b b'):PF us bot a b a' b':=by
 have ux:Up us a.x a'.x:=⟨ga.1.1,Xm.1.1,la.2.2.1⟩;have uy:Up us a.y a'.y:=⟨ga.1.2.1,Xm.1.2.1,la.2.2.2.1⟩;have uz:Up us a.z a'.z:=⟨ga.1.2.2,Xm.1.2.2,la.2.2.2.2⟩;have vx:Up us b.x b'.x:=⟨gb.1.1,Xl.1.1,lb.2.2.1⟩;have vy:Up us b.y b'.y:=⟨gb.1.2.1,Xl.1.2.1,lb.2.2.2.1⟩;have vz:Up us b.z b'.z:=⟨gb.1.2.2,Xl.1.2.2,lb.2.2.2.2⟩;have dj:=Up.jF h hb uz vz;have sa:=Up.jF h hb ux uy
 have sb:=Up.jF h hb vx vy;have cj:Up us (cJ us bot a b) (cJ us bot a' b'):=Up.jF h hb sa sb;have xx:=Up.jF h hb ux vx;have yy:=Up.jF h hb uy vy;have hz:=jF_ub h hb uz.2.1 vz.2.1;have lx:=le_trans h ux.2.1 uz.2.1 dj.2.1 Xm.2.1 hz.1;have ly:=le_trans h uy.2.1 uz.2.1 dj.2.1 Xm.2.2 hz.1;have mx:=le_trans h vx.2.1 vz.2.1 dj.2.1 Xl.2.1 hz.2;have my:=le_trans h vy.2.1 vz.2.1 dj.2.1 Xl.2.2 hz.2
 have l0:=hl _ dj.2.1;have s1:=jF_lub h hb ux.2.1 uy.2.1 l0 lx ly;have s2:=jF_lub h hb vx.2.1 vy.2.1 l0 mx my;have c1:=jF_ub h hb sa.2.1 sb.2.1;have c2:=jF_ub h hb ux.2.1 uy.2.1
 exact⟨ux,uy,uz,vx,vy,vz,.self h hb,.self h (by omega),dj,sa,sb,cj,Up.jF h hb uz sb,Up.jF h hb sa vz,xx,yy,Up.jF h hb cj uz,hz.1,lx,ly,mx,my,jF_lub h hb sa.2.1 sb.2.1 l0 s1 s2,jF_lub h hb uz.2.1 sb.2.1 l0 hz.1 s2,jF_lub h hb ux.2.1 vx.2.1 l0 lx mx,jF_lub h hb uy.2.1 vy.2.1 l0 ly my,le_trans h ux.2.1 sa.2.1 cj.2.1 c2.1 c1.1,le_trans h uy.2.1 sa.2.1 cj.2.1 c2.2 c1.1,hl _ cj.2.1⟩
def QR(us:List Nat)(g g':Nat×Nat×Nat×Nat×Nat):Prop:=
 Up us g.1 g'.1∧Up us g.2.1 g'.2.1∧Up us g.2.2.1 g'.2.2.1∧Up us g.2.2.2.1 g'.2.2.2.1∧Up us g.2.2.2.2 g'.2.2.2.2∧(Le us g.1 g.2.2.1→Le us g'.1 g'.2.2.1)∧(Le us g.2.1 g.2.2.1→Le us g'.2.1 g'.2.2.1)
def MnG(us:List Nat)(bot:Nat)(g:Tl→Tl→Nat×Nat×Nat×Nat×Nat):Prop:=∀a b a' b':Tl,PF us bot a b a' b'→QR us (g a b) (g a' b')
theorem ru_mono(n:Nat)(h:Lt ss us d e){bot:Nat}(hb:bot<us.length):∀f∈ruF,∀ra rb:Int,∃g:Tl→Tl→Nat×Nat×Nat×Nat×Nat,
  (∀a b:Tl,a.r=ra→b.r=rb→a.ok us.length→b.ok us.length→cl (n+6) f [.agg (lkC d e (tl a) (tl b) bot)]=some (ruQ (g a b),true))∧MnG us bot g:=by
 intro f hf ra rb;have g0:∀{z z':Nat},Up us z z'→Le us 0 z→Le us 0 z':=fun hz h0=>le_trans h (by omega) hz.1 hz.2.1 h0 hz.2.2
 have Xc:∃g:Tl→Tl→Nat×Nat×Nat×Nat×Nat,(∀n a b,a.r=ra→b.r=rb→a.ok us.length→b.ok us.length→cl (n+5) 229 [.agg (lkC d e (tl a) (tl b) bot)]=some (ruQ (g a b),true))∧MnG us bot g∧∀a b,(g a b).2.2.1=jF us bot [a.z,b.z]:=by
  by_cases e1:rb<ra
  ·exact⟨_,fun n a b e2 e3 ha Ad=>(xt n h a b hb ha Ad).1 (by omega),fun a b a' b' q=>⟨q.ux,q.uy,q.dj,q.ub,q.cj,fun _=>q.lx,fun _=>q.ly⟩,fun _ _=>rfl⟩
  by_cases e4:ra<rb
  ·exact⟨_,fun n a b e2 e3 ha Ad=>(xt n h a b hb ha Ad).2.1 (by omega) (by omega),fun a b a' b' q=>⟨q.vx,q.vy,q.dj,q.ub,q.cj,fun _=>q.mx,fun _=>q.my⟩,fun _ _=>rfl⟩
  by_cases e5:0<ra
  ·exact⟨_,fun n a b e2 e3 ha Ad=>(xt n h a b hb ha Ad).2.2.1 (by omega) (by omega) (by omega),fun a b a' b' q=>⟨q.xx,q.yy,q.dj,q.cj,q.cj,fun _=>q.kx,fun _=>q.ky⟩,fun _ _=>rfl⟩
  ·exact⟨_,fun n a b e2 e3 ha Ad=>(xt n h a b hb ha Ad).2.2.2 (by omega) (by omega) (by omega),fun a b a' b' q=>⟨q.xx,q.yy,q.dj,q.ub,q.cj,fun _=>q.kx,fun _=>q.ky⟩,fun _ _=>rfl⟩
 simp only[ruF,cH,List.not_mem_nil,or_false]at hf;rcases hf with rfl|rfl|rfl|rfl|rfl|rfl|rfl|rfl|rfl|rfl|rfl|rfl|rfl|rfl|rfl
 ·exact⟨_,fun a b _ _ ha Ad=>(xs (n+1) h a b hb ha Ad).1,fun a b a' b' q=>⟨q.ux,q.uy,q.dj,q.dj,q.cj,fun _=>q.lx,fun _=>q.ly⟩⟩
 ·exact⟨_,fun a b _ _ ha Ad=>(xs (n+1) h a b hb ha Ad).2.1,fun a b a' b' q=>⟨q.ux,q.uy,q.dj,q.ub,q.cj,fun _=>q.lx,fun _=>q.ly⟩⟩
 ·exact⟨_,fun a b _ _ ha Ad=>(xs (n+1) h a b hb ha Ad).2.2.1,fun a b a' b' q=>⟨q.ub,q.ub,q.cj,q.ub,q.cj,fun _=>q.bc,fun _=>q.bc⟩⟩
 ·exact⟨_,fun a b _ _ ha Ad=>(xs (n+1) h a b hb ha Ad).2.2.2.1,fun a b a' b' q=>⟨q.cj,q.u0,q.dj,q.ub,q.cj,fun _=>q.lc,g0 q.dj⟩⟩
 ·exact⟨_,fun a b _ _ ha Ad=>(xs (n+1) h a b hb ha Ad).2.2.2.2.1,fun a b a' b' q=>⟨q.uy,q.ux,q.dj,q.ub,q.cj,fun _=>q.ly,fun _=>q.lx⟩⟩
 ·exact⟨_,fun a b _ _ ha Ad=>(xs (n+1) h a b hb ha Ad).2.2.2.2.2.2.2.2.2.2.2,fun a b a' b' q=>⟨q.uz,q.uz,q.dj,q.uz,q.cz,fun _=>q.lz,fun _=>q.lz⟩⟩
 ·exact⟨_,fun a b _ _ ha Ad=>(xs (n+1) h a b hb ha Ad).2.2.2.2.2.1,fun a b a' b' q=>⟨q.ux,q.uy,q.dj,q.cj,q.cj,fun _=>q.lx,fun _=>q.ly⟩⟩
 ·exact⟨_,fun a b _ _ ha Ad=>(xs (n+1) h a b hb ha Ad).2.2.2.2.2.2.1,fun a b a' b' q=>⟨q.ux,q.uy,q.cj,q.ub,q.cj,fun _=>q.cx,fun _=>q.cy⟩⟩
 ·exact⟨_,fun a b _ _ ha Ad=>(xs (n+1) h a b hb ha Ad).2.2.2.2.2.2.2.1,fun a b a' b' q=>⟨q.zs,q.u0,q.dj,q.ub,q.cj,fun _=>q.ls,g0 q.dj⟩⟩
 ·exact⟨_,fun a b _ _ ha Ad=>x225 n h a b hb ha Ad,fun a b a' b' q=>⟨q.uz,q.uz,q.dj,q.zs,q.cz,fun _=>q.lz,fun _=>q.lz⟩⟩
 ·exact⟨_,fun a b _ _ ha Ad=>(xs (n+1) h a b hb ha Ad).2.2.2.2.2.2.2.2.1,fun a b a' b' q=>⟨q.xx,q.yy,q.dj,q.cj,q.cj,fun _=>q.kx,fun _=>q.ky⟩⟩
 ·exact⟨_,fun a b _ _ ha Ad=>(xs (n+1) h a b hb ha Ad).2.2.2.2.2.2.2.2.2.1,fun a b a' b' q=>⟨q.vx,q.vy,q.dj,q.sz,q.cj,fun _=>q.mx,fun _=>q.my⟩⟩
 ·exact⟨_,fun a b _ _ ha Ad=>(xs (n+1) h a b hb ha Ad).2.2.2.2.2.2.2.2.2.2.1,fun a b a' b' q=>⟨q.zs,q.u0,q.dj,q.cj,q.cj,fun _=>q.ls,g0 q.dj⟩⟩
 ·obtain⟨g,h1,h2,_⟩:=Xc;exact⟨g,fun a b e2 e3 ha Ad=>h1 (n+1) a b e2 e3 ha Ad,h2⟩
 ·obtain⟨g,h1,h2,h3⟩:=Xc;refine⟨_,fun a b e2 e3 ha Ad=>x230 n h a b hb ha Ad (h1 n a b e2 e3 ha Ad),fun a b a' b' q=>?_⟩
  obtain⟨q1,q2,q3,q4,q5,q6,q7⟩:=h2 a b a' b' q;exact⟨q1,q2,q3,q.dj,q5,q6,q7⟩
theorem tyE_iff{low:Nat}(t:Tl):tyE us (low:Nat) (tl t)=0↔(t.k=1∨t.k=2)∧(0≤t.r∧t.r≤2)∧t.ok us.length∧(t.r=0→t.x=low)∧(t.r≤1→t.y=low)∧(1≤t.r→Le us t.x t.z)∧(t.r=2→Le us t.y t.z):=by
 have hl:∀x:Nat,mQ us.length (x:Int)=false↔¬x<us.length:=fun x=>by
  unfold mQ;rw[Bool.and_eq_false_iff,cD,cD];omega
 have hq:∀x z:Nat,rJ us (x:Int) (z:Int)=false↔¬Le us x z:=fun x z=>by
  unfold rJ Le;rw[cQ,cQ,gI]
 have hn:∀x z:Nat,¬rJ us (x:Int) (z:Int)=false→Le us x z:=fun x z hh=>by
  unfold rJ at hh;unfold Le;simpa[cQ]using hh
 unfold tyE tl Tl.ok;simp only[hl];constructor
 ·intro h;split at h
  ·cases h
  split at h
  ·cases h
  split at h
  ·cases h
  split at h
  ·cases h
  rename_i h1 h2 h3 h4;simp only[not_or,not_and,Decidable.not_not]at h1 h2 h3 h4;exact⟨by have:=h1.1;omega,⟨by omega,by omega⟩,h2,fun e=>by have:=h3.1 e;omega,fun e=>by have:=h3.2 e;omega,fun e=>hn _ _ (h4.1 e),fun e=>hn _ _ (h4.2 e)⟩
 ·rintro⟨h1,h2,h3,h4,h5,h6,h7⟩;rw[aG (by omega),aG (by rintro(h|h|h);exact h h3.1;exact h h3.2.1;exact h h3.2.2),aG (by rintro(⟨h,h'⟩|⟨h,h'⟩);exact h' (by rw[h4 h]);exact h' (by rw[h5 h])),aG (by rintro(⟨h,h'⟩|⟨h,h'⟩);exact(hq _ _).1 h' (h6 h);exact(hq _ _).1 h' (h7 h))]
theorem gd_of{low:Nat}(hl:gY us=(low:Nat))(hb:∀i,i<us.length→(uM us low).testBit i=true){t:Tl}(h1:t.ok us.length)(h3:tyE us (gY us) (tl t)=0):Gd us t:=by
 rw[hl,tyE_iff]at h3;obtain⟨_,⟨r0,r2⟩,_,e1,e2,e3,e4⟩:=h3;refine⟨h1,?_,?_⟩
 ·by_cases e:t.r=0
  ·rw[e1 e];exact hb _ h1.2.2
  ·exact e3 (by omega)
 ·by_cases e:t.r≤1
  ·rw[e2 e];exact hb _ h1.2.2
  ·exact e4 (by omega)
theorem xE(h:Lt ss us d e){t:Tl}(ht:t.ok us.length):TLe us t t:=⟨rfl,rfl,le_refl h ht.1,le_refl h ht.2.1,le_refl h ht.2.2⟩
theorem ru_ps:∀f∈ruF,ps f=true:=by decide
theorem tabR_fn{i:Nat}(hi:i<40):∃f∈ruF,tabR[i+1]?=some (.fn (.func f) [] []):=by
 have h:=tabR_at;rw[cF]at h;have h:=h i (List.mem_range.2 hi);unfold isRu at h;split at h
 ·rename_i f hf;exact⟨f,List.contains_iff_mem.1 h,hf⟩
 ·cases h
theorem appN(t:Tm)(s:St)(c nm ty Kj:Nat)(dd:List (D×List D))(r:Option Nat)(v:D):iS ⟨t,sadd s nm (.fix Kj [v]),c,dd,r⟩ 1 8 ty .nils (.ms nm 0 1 1 1)=some (.gs c 0 1 1,⟨t,sadd (sadd s nm (.fix Kj [v])) c (.grow ty [v]),c+1,dd,r⟩):=by
 unfold iS;simp only[cP,aZ,↓reduceIte];rfl
def tlC(t:Tl):List D:=tyC (tl t)
def RuRes(m:Nat)(x:Option (D×Bool)):Prop:=∃k r p q z w c e:Int,x=some (.tup [.agg [.int .i64 k,.int .i64 r,.int .i64 p,.int .i64 q,.int .i64 z,.int .i64 w,.int .i64 c],.int .i64 e],true)∧(e=0→Rg m w∧Rg m c)
def itC(k:Int):List D:=[.int .i64 k]
theorem uJ(h:Lt ss us d e){a b:Nat}(ha:a<us.length)(hb:b<us.length):upD us a b=(J us a b:Nat):=by
 have hl:=h.l;rw[upD_near h.c hl (by omega) (by omega),←hl];exact(h.j ha hb).1
def onP(p:Int)(L:List Int)(i:Nat):Option Bool:=match L[i]? with|some x=>if x=p then some true else none|none=>none
theorem any_scan(p:Int)(L:List Int):scan (onP p L) false L.length 0=L.any fun x=>decide (x=p):=by
 rcases eX (onP p L) false L.length 0 with⟨h1,h2⟩|⟨j,r,h1,h2,h3,h5,h4⟩
 ·rw[h2,eq_comm,List.any_eq_false];intro x hx;obtain⟨i,hi,rfl⟩:=eV hx;have:=h1 i (dM _) (by omega)
  unfold onP at this;rw[aI hi]at this;simp only[bZ];intro e;simp only[e,aS]at this;cases this
 ·rw[h4];unfold onP at h3;split at h3
  ·rename_i x hx;split at h3
   ·rename_i e;cases h3;rw[eq_comm,List.any_eq_true];exact⟨x,List.mem_of_getElem? hx,by rw[bZ];exact e⟩
   ·cases h3
  ·cases h3
theorem c289(n:Nat)(p:Int){L:List Int}{q:D}(hq:Sl 1 itC L q)(hl:L.length<9223372036854775807):cl n 289 [.int .i64 p,q]=some (.bool (L.any fun x=>decide (x=p)),true):=by
 rw[kG 289 A289 B289,←any_scan,B289];simp only[z2,seval,hq.nag];generalize hz:zloop KK _ _=rl;refine zfor rl hz L.length (dY hl) hl (fun i t st c=>tget t 0 = .int .i64 p∧tget t 1=q∧∀j,j<i→onP p L j=none) (by simp[aA]) (by simp[aA]) ?_
 rintro i t st c hi ⟨q0,q1,hn⟩ q5;by_cases zQ:i<L.length
 ·have g0:=hq.cell zQ (show 0<1 by omega)
  have Fa:=hq.ia1 zQ (k:=.i64);have Ku:=hq.at1 zQ;by_cases e:L[i]=p
  ·have hp:onP p L i=some true:=by rw[onP,aI zQ];exact aS e
   simp only[z2,seval,q0,q1,q5,hq.len,dH zQ,Fa,Ku,itC,g0,aH e,A289];rw[eL zQ hp hn];rfl
  ·have hp:onP p L i=none:=by rw[onP,aI zQ];exact aG e
   simp only[z2,seval,q0,q1,q5,hq.len,dH zQ,Fa,Ku,itC,g0,aE e];exact⟨zQ,trivial,trivial,trivial,trivial,trivial,kP hn hp⟩
 ·have e1:i=L.length:=by omega
  subst e1;rw[fL hn];simp only[z2,seval,q0,q1,q5,hq.len,gG (aK L.length),A289];rfl
theorem it_flat:∀L:List Int,(L.map itC).flatten=L.map (.int .i64)
 | []=>rfl
 | x::L=>congrArg (_ :: ·) (it_flat L)
theorem itS(L:List Int):Sl 1 itC L (.sl true L.length (L.map (.int .i64))):=⟨fun r hr=>by obtain⟨t,_,rfl⟩:=cY.1 hr;rfl,.inr ⟨true,by rw[it_flat,dB]⟩⟩
section
variable (n:Nat) {ss:List (List UInt8)} {us:List Nat} {d e:D} (h:Lt ss us d e)
include h
theorem c287{a b:Nat}(ha:a<us.length)(hb:b<us.length):cl (n+1) 287 [.agg [d,e],.int .i64 (a:Nat),.int .i64 (b:Nat)]=some (.int .i64 (J us a b:Nat),true):=by
 have h1:=c113 n h.d h.e h.u (by have:=h.l;have:=h.h8;omega) ha hb
 rw[uJ h ha hb]at h1;rw[nY 287 A287 B287,B287];simp only[z0,seval,h.d.nag,h.e.nag,aF 113,aJ,h.d.fz,h.e.fz,h1,A287];rfl
theorem c288{t:Tl}(ht:t.ok us.length):cl (n+2) 288 [.agg [d,e],.agg (tlC t)]=some (.int .i64 (J us t.x t.y:Nat),true):=by
 have h1:=c287 n h ht.1 ht.2.1;rw[kG 288 A288 B288];unfold tlC tyC tl;simp only[B288,cI];simp only[z0,seval,h.d.nag,h.e.nag,aF 287,aJ,h.d.fz,h.e.fz,h1,i20,A288];rfl
def exJ(us:List Nat)(a b:Tl):Nat×Nat:=if b.r<a.r then(a.x,a.y) else if a.r<b.r then(b.x,b.y) else(J us a.x b.x,J us a.y b.y)
theorem c291{a b:Tl}(ha:a.ok us.length)(hb:b.ok us.length):cl (n+2) 291 [.agg [d,e],.agg (tlC a),.agg (tlC b)]=some (.agg [.int .i64 ((exJ us a b).1:Nat),.int .i64 ((exJ us a b).2:Nat)],true):=by
 have h1:=c287 n h ha.1 hb.1;have h2:=c287 n h ha.2.1 hb.2.1;rw[nY 291 A291 B291];unfold tlC tyC tl exJ;simp only[B291,cI];by_cases e1:b.r<a.r
 ·simp only[z0,seval,h.d.nag,h.e.nag,aH e1,aS e1,i20,A291];rfl
 ·by_cases e2:a.r<b.r
  ·simp only[z0,seval,h.d.nag,h.e.nag,aE e1,aG e1,aH e2,aS e2,i20,A291];rfl
  ·simp only[z0,seval,h.d.nag,h.e.nag,aE e1,aG e1,aE e2,aG e2,i20,dR,cN,AOp.kd,zop,tks,bP,dL,aF 287,aJ,h.d.fz,h.e.fz,h1,h2,A291];rfl
def lbR(us:List Nat)(bot:Nat)(p:Int)(a b:Tl):Nat×Nat×Nat×Nat×Nat:=
 let D:=J us a.z b.z;let C:=J us (J us a.x a.y) (J us b.x b.y)
 if([1,2,13]:List Int).any (fun x=>decide (x=p))=true then(a.x,a.y,D,D,C) else
 if([4]:List Int).any (fun x=>decide (x=p))=true then(bot,bot,C,bot,C) else
 if([5]:List Int).any (fun x=>decide (x=p))=true then(C,a.y,D,bot,C) else
 if([7]:List Int).any (fun x=>decide (x=p))=true then(a.y,a.x,D,bot,C) else
 if([8]:List Int).any (fun x=>decide (x=p))=true then(D,a.y,D,D,J us C D) else
 if([9]:List Int).any (fun x=>decide (x=p))=true then(a.x,a.y,D,D,C) else
 if([10,11]:List Int).any (fun x=>decide (x=p))=true then(a.x,a.y,D,C,C) else
 if([12]:List Int).any (fun x=>decide (x=p))=true then(a.x,a.y,C,bot,C) else
 if([33,34]:List Int).any (fun x=>decide (x=p))=true then(J us a.z (J us b.x b.y),a.y,D,bot,C) else
 if([35]:List Int).any (fun x=>decide (x=p))=true then(a.z,a.y,D,a.z,J us C a.z) else
 if([36]:List Int).any (fun x=>decide (x=p))=true then(a.z,a.z,D,J us a.z (J us b.x b.y),J us C a.z) else
 if([37]:List Int).any (fun x=>decide (x=p))=true then(J us a.x b.x,J us a.y b.y,D,C,C) else
 if([38]:List Int).any (fun x=>decide (x=p))=true then(b.x,b.y,D,J us (J us a.x a.y) b.z,C) else
 if([40]:List Int).any (fun x=>decide (x=p))=true then(J us a.z (J us b.x b.y),a.y,D,C,C) else
 if(decide (15≤p)&&decide (p≤32))=true then((exJ us a b).1,(exJ us a b).2,D,if([15,16,17,18,19]:List Int).any (fun x=>decide (x=p))=true then D else if a.r=b.r∧0<a.r then C else bot,C)
 else(a.x,a.y,D,bot,C)
omit h in
theorem c290(p:Int):cl n 290 [.int .i64 p]=some (.bool (decide (15≤p)&&decide (p≤32)),true):=by
 rw[iP 290 A290 B290,B290];by_cases h1:15≤p
 ·simp only[z0,seval,aH h1,Bool.true_and,A290];rfl
 ·simp only[z0,seval,aE h1,Bool.false_and,A290];rfl
set_option maxHeartbeats 4000000 in
theorem c236{bot:Nat}(hbot:bot<us.length)(p:Int){a b:Tl}(ha:a.ok us.length)(hb:b.ok us.length):cl (n+5) 236 [.agg [d,e],.int .i64 p,.agg (tlC a),.agg (tlC b),.int .i64 (bot:Nat)]=some (ruQ (lbR us bot p a b),true):=by
 have g:∀(L:List Int),L.length<100→cl (n+4) 289 [.int .i64 p,.sl true L.length (L.map (.int .i64))]=some (.bool (L.any fun x=>decide (x=p)),true):=fun L hl=>c289 (n+4) p (itS L) (by omega)
 have Hn:=(h.j ha.1 ha.2.1).2;have Ee:=(h.j hb.1 hb.2.1).2;have hC:=(h.j Hn Ee).2;have hD:=(h.j ha.2.2 hb.2.2).2;have Qz:=c288 (n+2) h ha;have Qy:=c288 (n+2) h hb;have e1:=c287 (n+3) h ha.2.2 hb.2.2;have e2:=c287 (n+3) h Hn Ee;have e3:=c287 (n+3) h hC hD;have e4:=c287 (n+3) h ha.2.2 Ee;have e5:=c287 (n+3) h hC ha.2.2;have e6:=c287 (n+3) h ha.1 hb.1;have e7:=c287 (n+3) h ha.2.1 hb.2.1
 have e8:=c287 (n+3) h Hn hb.2.2;have Xq:=c291 (n+2) h ha hb;have Pv:=c290 (n+4) p;rw[cl_5 236 A236 B236];unfold tlC tyC tl at *;unfold lbR;simp only[B236,cI];have g0:=g [1,2,13] (by decide)
 have g1:=g [4] (by decide)
 have g2:=g [5] (by decide)
 have g3:=g [7] (by decide)
 have g4:=g [8] (by decide)
 have g5:=g [9] (by decide)
 have g6:=g [10,11] (by decide)
 have g7:=g [12] (by decide)
 have g8:=g [33,34] (by decide)
 have g9:=g [35] (by decide)
 have Hx:=g [36] (by decide)
 have Ps:=g [37] (by decide)
 have Pr:=g [38] (by decide)
 have Xn:=g [40] (by decide)
 have Te:=g [15,16,17,18,19] (by decide)
 simp only[aO,aX,bS,dU,Nat.reduceAdd]at g0 g1 g2 g3 g4 g5 g6 g7 g8 g9 Hx Ps Pr Xn Te;by_cases c0:([1,2,13]:List Int).any (fun x=>decide (x=p))=true
 rw[aS c0];rw[c0]at g0;rotate_left
 rw[aG c0];rw[Bool.eq_false_iff.2 c0]at g0;by_cases c1:([4]:List Int).any (fun x=>decide (x=p))=true
 rw[aS c1];rw[c1]at g1;rotate_left
 rw[aG c1];rw[Bool.eq_false_iff.2 c1]at g1;by_cases c2:([5]:List Int).any (fun x=>decide (x=p))=true
 rw[aS c2];rw[c2]at g2;rotate_left
 rw[aG c2];rw[Bool.eq_false_iff.2 c2]at g2;by_cases c3:([7]:List Int).any (fun x=>decide (x=p))=true
 rw[aS c3];rw[c3]at g3;rotate_left
 rw[aG c3];rw[Bool.eq_false_iff.2 c3]at g3;by_cases c4:([8]:List Int).any (fun x=>decide (x=p))=true
 rw[aS c4];rw[c4]at g4;rotate_left
 rw[aG c4];rw[Bool.eq_false_iff.2 c4]at g4;by_cases c5:([9]:List Int).any (fun x=>decide (x=p))=true
 rw[aS c5];rw[c5]at g5;rotate_left
 rw[aG c5];rw[Bool.eq_false_iff.2 c5]at g5;by_cases c6:([10,11]:List Int).any (fun x=>decide (x=p))=true
 rw[aS c6];rw[c6]at g6;rotate_left
 rw[aG c6];rw[Bool.eq_false_iff.2 c6]at g6;by_cases c7:([12]:List Int).any (fun x=>decide (x=p))=true
 rw[aS c7];rw[c7]at g7;rotate_left
 rw[aG c7];rw[Bool.eq_false_iff.2 c7]at g7;by_cases c8:([33,34]:List Int).any (fun x=>decide (x=p))=true
 rw[aS c8];rw[c8]at g8;rotate_left
 rw[aG c8];rw[Bool.eq_false_iff.2 c8]at g8;by_cases c9:([35]:List Int).any (fun x=>decide (x=p))=true
 rw[aS c9];rw[c9]at g9;rotate_left
 rw[aG c9];rw[Bool.eq_false_iff.2 c9]at g9;by_cases c10:([36]:List Int).any (fun x=>decide (x=p))=true
 rw[aS c10];rw[c10]at Hx;rotate_left
 rw[aG c10];rw[Bool.eq_false_iff.2 c10]at Hx;by_cases c11:([37]:List Int).any (fun x=>decide (x=p))=true
 rw[aS c11];rw[c11]at Ps;rotate_left
 rw[aG c11];rw[Bool.eq_false_iff.2 c11]at Ps;by_cases Xt:([38]:List Int).any (fun x=>decide (x=p))=true
 rw[aS Xt];rw[Xt]at Pr;rotate_left
 rw[aG Xt];rw[Bool.eq_false_iff.2 Xt]at Pr;by_cases c13:([40]:List Int).any (fun x=>decide (x=p))=true
 rw[aS c13];rw[c13]at Xn;rotate_left
 rw[aG c13];rw[Bool.eq_false_iff.2 c13]at Xn;by_cases x1:(decide (15≤p)&&decide (p≤32))=true
 rotate_left
 rw[aG x1];rw[Bool.eq_false_iff.2 x1]at Pv;rotate_right
 rw[aS x1];rw[x1]at Pv;by_cases Zd:([15,16,17,18,19]:List Int).any (fun x=>decide (x=p))=true
 rw[aS Zd];rw[Zd]at Te;rotate_left
 rw[aG Zd];rw[Bool.eq_false_iff.2 Zd]at Te;by_cases k1:a.r=b.r;by_cases k2:0<a.r;rw[aS ⟨k1,k2⟩];have k3:=aH k1;have k4:=aH k2;rotate_left
 rw[aG (fun h=>k2 h.2)];have k3:=aH k1;have k4:=aE k2;rotate_left
 rw[aG (fun h=>k1 h.1)];have k3:=aE k1;have k4:=k3
 all_goals first
  | (simp only[z0,seval,aO,aX,h.d.nag,h.e.nag,dR,cN,AOp.kd,zop,tks,bP,dL,dC,iA,iB,fH,dX,cB,bE,aF 287,aF 288,aF 289,aF 290,aF 291,aJ,h.d.fz,h.e.fz,mS,Nat.sub_zero,aK,aQ,Qz,Qy,e1,e2,e3,e4,e5,e6,e7,e8,Pv,Xq,i20,g0,g1,g2,g3,g4,g5,g6,g7,g8,g9,Hx,Ps,Pr,Xn,Te,k3,k4,A236];rfl)
  | (simp only[z0,seval,aO,aX,h.d.nag,h.e.nag,dR,cN,AOp.kd,zop,tks,bP,dL,dC,iA,iB,fH,dX,cB,bE,aF 287,aF 288,aF 289,aF 290,aF 291,aJ,h.d.fz,h.e.fz,mS,Nat.sub_zero,aK,aQ,Qz,Qy,e1,e2,e3,e4,e5,e6,e7,e8,Pv,Xq,i20,g0,g1,g2,g3,g4,g5,g6,g7,g8,g9,Hx,Ps,Pr,Xn,Te,A236];rfl)
end
def apG(a b:Option Blk)(x:AS)(m nm:Nat):Option (D×AS):=match a,b with
 | some (.grow 4 [u]),some (.fix _ [.int k v])=>some (.gs x.c 0 1 2,⟨x.t,sadd (sdel x.s m) x.c (.grow 4 [u,.int k v]),x.c+1,x.d,x.r⟩)
 | _,_=>iS x 1 8 4 (.gs m 0 1 1) (.ms nm 0 1 1 1)
theorem appG(x:AS)(m nm:Nat):iS x 1 8 4 (.gs m 0 1 1) (.ms nm 0 1 1 1)=apG (sget x.s m) (sget x.s nm) x m nm:=by
 unfold apG;split
 ·rename_i h1 h2;unfold iS;simp only[cP,h2,h1];rfl
 ·rfl
theorem apG_eq(u:D)(ty:Nat)(k:IntKind)(v:Int)(x:AS)(m nm:Nat):apG (some (.grow 4 [u])) (some (.fix ty [.int k v])) x m nm=some (.gs x.c 0 1 2,⟨x.t,sadd (sdel x.s m) x.c (.grow 4 [u,.int k v]),x.c+1,x.d,x.r⟩):=rfl
end
end Zv
