/- rules.Rule: what it comes to, exactly, by labels. Conditions: none. -/
import Derived.Test.YtnpoohbeicakkaaGreatDoorZAS
set_option linter.unusedVariables false
set_option linter.unusedSimpArgs false
set_option maxRecDepth 100000
namespace Zv
open Go
noncomputable section
variable {ss:List (List UInt8)} {us:List Nat} {d e q:D} {bot ec c c':Nat} {k r:Int} {s s':St}
def ruR(bot:Nat)(k r er:Int)(g:Nat×Nat×Nat×Nat×Nat):D:=if er=0 then
  .tup [.agg [.int .i64 k,.int .i64 r,.int .i64 (if r≤0 then bot else g.1:Nat),.int .i64 (if r≤1 then bot else g.2.1:Nat),.int .i64 (g.2.2.1:Nat),.int .i64 (g.2.2.2.1:Nat),.int .i64 (g.2.2.2.2:Nat)],.int .i64 0]
 else .tup [.agg [.int .i64 0,.int .i64 0,.int .i64 0,.int .i64 0,.int .i64 0,.int .i64 0,.int .i64 0],.int .i64 er]
def RuX(n:Nat)(us:List Nat)(d e:D)(bot:Nat)(p:Int)(K:List (Int×Int))(k r er ra rb:Int)(g:Tl→Tl→Nat×Nat×Nat×Nat×Nat):Prop:=
 cl (n+11) 166 [.int .i64 p,kD K,rD K]=some (.tup [.int .i64 k,.int .i64 r,.int .i64 er],true)∧(er=0→(0≤r∧r≤2)∧∃i f:Nat,i<40∧p=((i+1:Nat):Int)∧tabR[i+1]?=some (.fn (.func f) [] [])∧∀a b:Tl,a.r=ra→b.r=rb→a.ok us.length→b.ok us.length→cl (n+11) f [.agg (lkC d e (tl a) (tl b) bot)]=some (ruQ (g a b),true))
set_option maxHeartbeats 1000000 in
theorem m126x_1(n:Nat)(h:Lt ss us d e)(Bb:bot<us.length)(Cd:endI (uM us) ss.length=bot)(p:Int)(hk:KR k r):
  ∃(k' r' er:Int) (g:Tl→Tl→Nat×Nat×Nat×Nat×Nat),MnG us bot g∧RuX n us d e bot p [(k,r)] k' r' er r 0 g∧∀(t:Tl) (q:D),t.k=k→t.r=r→t.ok us.length→tyE us (gY us) (tl t)=0→Sl 5 tlC [t] q→cl (n+12) 126 [.agg [d,e],.int .i64 p,q]=some (ruR bot k' r' er (g t ⟨0,0,bot,bot,bot⟩),true):=by
 obtain⟨k',r',e',h166,Bk⟩:=c166 (n+7) p (K:=[(k,r)]) (show 1<1000 by decide) (fun p hp=>by grind)
 have hX:=h166;simp only[kD,rD,bS,dU,aO,aX,bM]at h166;by_cases Ci:e'=0
 ·subst Ci;obtain⟨Cb,On,hp2⟩:=Bk rfl;obtain⟨i,hi,rfl⟩:∃i:Nat,i<40∧p=((i+1:Nat):Int):=⟨(p-1).toNat,by omega,by omega⟩
  obtain⟨f,hf,htab⟩:=tabR_fn hi;have Fu:=ru_ps f hf;obtain⟨g,hg,hM⟩:=ru_mono (n+5) h Bb f hf r 0;refine⟨k',r',0,g,hM,⟨hX,fun _=>⟨Cb,i,f,hi,rfl,htab,hg⟩⟩,fun t q hk1 Ge ht hE hq=>?_⟩
  subst hk1 Ge;rw[nY 126 A126 B126,B126];have En:=c59 (n+6) h.d h.e h.u h.s;have Ew:=c43 (n+4) h.d h.e h.u h.s h.c h.l h.h1 h.h8;have Fo:=c62 (n+2) h.d h.e h.u h.s h.c (tl t);rw[h.c]at En;rw[Cd]at Ew;rw[hE]at Fo;have zU:=hq.len;have Fa:=hq.ia (i:=0) (show 0<[t].length from Nat.zero_lt_one) (k:=.i64)
  have Fe:((0:Nat):Int)=0:=rfl;have Dt:((([t]:List Tl).length:Nat):Int)=1:=rfl;have zY:cX [d,e] 0 (some 2)=some (.agg [d,e]):=rfl;rw[Fe]at Fa;have Bj:(List.map tlC [t]).flatten=[.int .i64 t.k,.int .i64 t.r,.int .i64 (t.x:Nat),.int .i64 (t.y:Nat),.int .i64 (t.z:Nat)]:=rfl;rw[Bj,eA]at Fa;simp only[tyC,tl]at Fo;have Nu:=hg t ⟨0,0,bot,bot,bot⟩ rfl rfl ht ⟨Bb,Bb,Bb⟩
  generalize g t ⟨0,0,bot,bot,bot⟩=G at *;simp only[lkC,tl,ruQ,ruD]at Nu;have Tb:=c167 (n+10);have Ub:iF 41 (.int .i64 ((i+1:Nat):Int))=some (i+1):=fB (by omega)
  have hr3:r'=0∨r'=1∨r'=2:=by omega
  rcases hr3 with rfl|rfl|rfl<;>simp only[z0,seval,eA,appN,aO,aX,h.d.nag,h.e.nag,zU,Dt,zY,aF 59,aF 43,aF 62,aJ,h.d.fz,h.e.fz,En,Ew,e2,nb,Fa,Fo,zun,show bX .i64 1=1 from rfl,show bX .i64 2=2 from rfl,i20,dR,cN,AOp.kd,zop,tks,bP,dL,dC,iB,dX,cB,bE,lP,aF 166,h166,aF 167,Tb,Ub,htab,tabR_len,xI,wW,cf_fn,dS,aF _ Fu,Nu,A126]
  all_goals rfl
 ·obtain⟨g,hg,hM⟩:=ru_mono (n+5) h Bb 216 (by decide) 0 0
  refine⟨k',r',e',g,hM,⟨hX,fun h0=>absurd h0 Ci⟩,fun t q hk1 Ge ht hE hq=>?_⟩
  subst hk1 Ge;rw[nY 126 A126 B126,B126];have En:=c59 (n+6) h.d h.e h.u h.s;have Ew:=c43 (n+4) h.d h.e h.u h.s h.c h.l h.h1 h.h8;have Fo:=c62 (n+2) h.d h.e h.u h.s h.c (tl t);rw[h.c]at En;rw[Cd]at Ew;rw[hE]at Fo;have zU:=hq.len;have Fa:=hq.ia (i:=0) (show 0<[t].length from Nat.zero_lt_one) (k:=.i64)
  have Fe:((0:Nat):Int)=0:=rfl;have Dt:((([t]:List Tl).length:Nat):Int)=1:=rfl;have zY:cX [d,e] 0 (some 2)=some (.agg [d,e]):=rfl;rw[Fe]at Fa;have Bj:(List.map tlC [t]).flatten=[.int .i64 t.k,.int .i64 t.r,.int .i64 (t.x:Nat),.int .i64 (t.y:Nat),.int .i64 (t.z:Nat)]:=rfl;rw[Bj,eA]at Fa;simp only[tyC,tl]at Fo;rw[show ruR bot k' r' e' (g t ⟨0,0,bot,bot,bot⟩)=_ from aG Ci]
  simp only[z0,seval,eA,appN,aO,aX,h.d.nag,h.e.nag,zU,Dt,zY,aF 59,aF 43,aF 62,aJ,h.d.fz,h.e.fz,En,Ew,e2,nb,Fa,Fo,zun,show bX .i64 1=1 from rfl,show bX .i64 2=2 from rfl,i20,dR,cN,AOp.kd,zop,tks,bP,dL,dC,iB,dX,cB,bE,lP,aF 166,h166,aE Ci,A126]
  rfl
set_option maxHeartbeats 1000000 in
theorem m126x_2(n:Nat)(h:Lt ss us d e)(Bb:bot<us.length)(Cd:endI (uM us) ss.length=bot)(p:Int){k2 r2:Int}(hk:KR k r)(Yh:KR k2 r2):
  ∃(k' r' er:Int) (g:Tl→Tl→Nat×Nat×Nat×Nat×Nat),MnG us bot g∧RuX n us d e bot p [(k,r),(k2,r2)] k' r' er r r2 g∧∀(t u:Tl) (q:D),t.k=k→t.r=r→u.k=k2→u.r=r2→t.ok us.length→u.ok us.length→tyE us (gY us) (tl t)=0→tyE us (gY us) (tl u)=0→Sl 5 tlC [t,u] q→cl (n+12) 126 [.agg [d,e],.int .i64 p,q]=some (ruR bot k' r' er (g t u),true):=by
 obtain⟨k',r',e',h166,Bk⟩:=c166 (n+7) p (K:=[(k,r),(k2,r2)]) (show 2<1000 by decide) (fun p hp=>by grind)
 have hX:=h166;simp only[kD,rD,bS,dU,aO,aX,bM]at h166;by_cases Ci:e'=0
 ·subst Ci;obtain⟨Cb,On,hp2⟩:=Bk rfl;obtain⟨i,hi,rfl⟩:∃i:Nat,i<40∧p=((i+1:Nat):Int):=⟨(p-1).toNat,by omega,by omega⟩
  obtain⟨f,hf,htab⟩:=tabR_fn hi;have Fu:=ru_ps f hf;obtain⟨g,hg,hM⟩:=ru_mono (n+5) h Bb f hf r r2;refine⟨k',r',0,g,hM,⟨hX,fun _=>⟨Cb,i,f,hi,rfl,htab,hg⟩⟩,fun t u q hk1 Ge Bn Rx ht hu hE Pi hq=>?_⟩
  subst hk1 Ge Bn Rx;rw[nY 126 A126 B126,B126];have En:=c59 (n+6) h.d h.e h.u h.s;have Ew:=c43 (n+4) h.d h.e h.u h.s h.c h.l h.h1 h.h8;have Fo:=c62 (n+2) h.d h.e h.u h.s h.c (tl t);rw[h.c]at En;rw[Cd]at Ew;have Ju:=c62 (n+2) h.d h.e h.u h.s h.c (tl u);rw[hE]at Fo;rw[Pi]at Ju;have zU:=hq.len;have Fa:=hq.ia (i:=0) (show 0<[t,u].length from Nat.zero_lt_two) (k:=.i64)
  have Jp:=hq.ia (i:=1) (show 1<[t,u].length from Nat.one_lt_two) (k:=.i64)
  have Fe:((0:Nat):Int)=0:=rfl;have Dt:((([t,u]:List Tl).length:Nat):Int)=2:=rfl;have El:((1:Nat):Int)=1:=rfl;have zY:cX [d,e] 0 (some 2)=some (.agg [d,e]):=rfl;rw[Fe]at Fa;rw[El]at Jp
  have Bj:(List.map tlC [t,u]).flatten=[.int .i64 t.k,.int .i64 t.r,.int .i64 (t.x:Nat),.int .i64 (t.y:Nat),.int .i64 (t.z:Nat),.int .i64 u.k,.int .i64 u.r,.int .i64 (u.x:Nat),.int .i64 (u.y:Nat),.int .i64 (u.z:Nat)]:=rfl;rw[Bj,eA]at Fa;rw[Bj,Nat.one_mul]at Jp;simp only[tyC,tl]at Fo Ju;have Nu:=hg t u rfl rfl ht hu;generalize g t u=G at *;simp only[lkC,tl,ruQ,ruD]at Nu
  have Tb:=c167 (n+10);have Ub:iF 41 (.int .i64 ((i+1:Nat):Int))=some (i+1):=fB (by omega)
  have hr3:r'=0∨r'=1∨r'=2:=by omega
  rcases hr3 with rfl|rfl|rfl<;>simp only[z0,seval,eA,appN,appG,apG_eq,hU,aO,aX,h.d.nag,h.e.nag,zU,Dt,zY,aF 59,aF 43,aF 62,aJ,h.d.fz,h.e.fz,En,Ew,e2,nb,Fa,Jp,Fo,Ju,zun,show bX .i64 1=1 from rfl,show bX .i64 2=2 from rfl,i20,dR,cN,AOp.kd,zop,tks,bP,dL,dC,iB,dX,cB,bE,lP,aF 166,h166,aF 167,Tb,Ub,htab,tabR_len,xI,wW,cf_fn,dS,aF _ Fu,Nu,A126]
  all_goals rfl
 ·obtain⟨g,hg,hM⟩:=ru_mono (n+5) h Bb 216 (by decide) 0 0
  refine⟨k',r',e',g,hM,⟨hX,fun h0=>absurd h0 Ci⟩,fun t u q hk1 Ge Bn Rx ht hu hE Pi hq=>?_⟩
  subst hk1 Ge Bn Rx;rw[nY 126 A126 B126,B126];have En:=c59 (n+6) h.d h.e h.u h.s;have Ew:=c43 (n+4) h.d h.e h.u h.s h.c h.l h.h1 h.h8;have Fo:=c62 (n+2) h.d h.e h.u h.s h.c (tl t);rw[h.c]at En;rw[Cd]at Ew;have Ju:=c62 (n+2) h.d h.e h.u h.s h.c (tl u);rw[hE]at Fo;rw[Pi]at Ju;have zU:=hq.len;have Fa:=hq.ia (i:=0) (show 0<[t,u].length from Nat.zero_lt_two) (k:=.i64)
  have Jp:=hq.ia (i:=1) (show 1<[t,u].length from Nat.one_lt_two) (k:=.i64)
  have Fe:((0:Nat):Int)=0:=rfl;have Dt:((([t,u]:List Tl).length:Nat):Int)=2:=rfl;have El:((1:Nat):Int)=1:=rfl;have zY:cX [d,e] 0 (some 2)=some (.agg [d,e]):=rfl;rw[Fe]at Fa;rw[El]at Jp
  have Bj:(List.map tlC [t,u]).flatten=[.int .i64 t.k,.int .i64 t.r,.int .i64 (t.x:Nat),.int .i64 (t.y:Nat),.int .i64 (t.z:Nat),.int .i64 u.k,.int .i64 u.r,.int .i64 (u.x:Nat),.int .i64 (u.y:Nat),.int .i64 (u.z:Nat)]:=rfl;rw[Bj,eA]at Fa;rw[Bj,Nat.one_mul]at Jp;simp only[tyC,tl]at Fo Ju;rw[show ruR bot k' r' e' (g t u)=_ from aG Ci]
  simp only[z0,seval,eA,appN,appG,apG_eq,hU,aO,aX,h.d.nag,h.e.nag,zU,Dt,zY,aF 59,aF 43,aF 62,aJ,h.d.fz,h.e.fz,En,Ew,e2,nb,Fa,Jp,Fo,Ju,zun,show bX .i64 1=1 from rfl,show bX .i64 2=2 from rfl,i20,dR,cN,AOp.kd,zop,tks,bP,dL,dC,iB,dX,cB,bE,lP,aF 166,h166,aE Ci,A126]
  rfl
theorem m126_1(n:Nat)(h:Lt ss us d e)(Bb:bot<us.length)(Cd:endI (uM us) ss.length=bot)(p:Int)(hk:KR k r):
  ∃(k' r' er:Int) (g:Tl→Tl→Nat×Nat×Nat×Nat×Nat),MnG us bot g∧∀(t:Tl) (q:D),t.k=k→t.r=r→t.ok us.length→tyE us (gY us) (tl t)=0→Sl 5 tlC [t] q→cl (n+12) 126 [.agg [d,e],.int .i64 p,q]=some (ruR bot k' r' er (g t ⟨0,0,bot,bot,bot⟩),true):=by
 obtain⟨k',r',er,g,h1,_,h2⟩:=m126x_1 n h Bb Cd p hk;exact⟨k',r',er,g,h1,h2⟩
theorem m126_2(n:Nat)(h:Lt ss us d e)(Bb:bot<us.length)(Cd:endI (uM us) ss.length=bot)(p:Int){k2 r2:Int}(hk:KR k r)(Yh:KR k2 r2):
  ∃(k' r' er:Int) (g:Tl→Tl→Nat×Nat×Nat×Nat×Nat),MnG us bot g∧∀(t u:Tl) (q:D),t.k=k→t.r=r→u.k=k2→u.r=r2→t.ok us.length→u.ok us.length→tyE us (gY us) (tl t)=0→tyE us (gY us) (tl u)=0→Sl 5 tlC [t,u] q→cl (n+12) 126 [.agg [d,e],.int .i64 p,q]=some (ruR bot k' r' er (g t u),true):=by
 obtain⟨k',r',er,g,h1,_,h2⟩:=m126x_2 n h Bb Cd p hk Yh;exact⟨k',r',er,g,h1,h2⟩
theorem ru_res{er:Int}{g:Nat×Nat×Nat×Nat×Nat}{x:Option (D×Bool)}(hx:x=some (ruR bot k r er g,true))(hq:QR us g g):RuRes us.length x:=by
 rw[hx];unfold RuRes ruR;split
 ·exact⟨_,_,_,_,_,_,_,_,rfl,fun _=>⟨rgN hq.2.2.2.1.1,rgN hq.2.2.2.2.1.1⟩⟩
 ·rename_i h;exact⟨_,_,_,_,_,_,_,_,rfl,fun h'=>absurd h' h⟩
theorem c126_1(n:Nat)(h:Lt ss us d e)(t:Tl)(ht:t.ok us.length)(hk:KR t.k t.r)(hE:tyE us (gY us) (tl t)=0)(p:Int)(hq:Sl 5 tlC [t] q):
  RuRes us.length (cl (n+12) 126 [.agg [d,e],.int .i64 p,q]):=by
 obtain⟨b,Cj,Bb,Cd,Gt⟩:=rI h.c;rw[←h.l]at Cj Gt;obtain⟨k,r,er,g,hM,hg⟩:=m126_1 n h Cj Cd p hk;have g0:Gd us ⟨0,0,b,b,b⟩:=⟨⟨Cj,Cj,Cj⟩,Gt _ Cj,Gt _ Cj⟩;have g1:=gd_of Bb Gt ht hE;exact ru_res (hg t q rfl rfl ht hE hq) (hM _ _ _ _ (pf h Cj Gt g1 g0 g1 g0 (xE h ht) (xE h g0.1)))
theorem c126_2(n:Nat)(h:Lt ss us d e)(t u:Tl)(ht:t.ok us.length)(hk:KR t.k t.r)(hE:tyE us (gY us) (tl t)=0)(hu:u.ok us.length)(Yh:KR u.k u.r)(Pi:tyE us (gY us) (tl u)=0)(p:Int)(hq:Sl 5 tlC [t,u] q):
  RuRes us.length (cl (n+12) 126 [.agg [d,e],.int .i64 p,q]):=by
 obtain⟨b,Cj,Bb,Cd,Gt⟩:=rI h.c;rw[←h.l]at Cj Gt;obtain⟨k,r,er,g,hM,hg⟩:=m126_2 n h Cj Cd p hk Yh;have g1:=gd_of Bb Gt ht hE;have g2:=gd_of Bb Gt hu Pi;exact ru_res (hg t u q rfl rfl rfl rfl ht hu hE Pi hq) (hM _ _ _ _ (pf h Cj Gt g1 g2 g1 g2 (xE h ht) (xE h hu)))
theorem i30:iJ 1 (.ms 2 0 1 3 3) (.int .i64 0)=some (.ptr 2 0)∧iJ 1 (.ms 2 0 1 3 3) (.int .i64 1)=some (.ptr 2 1)∧iJ 1 (.ms 2 0 1 3 3) (.int .i64 2)=some (.ptr 2 2)∧iJ 1 (.ms 3 0 1 2 2) (.int .i64 0)=some (.ptr 3 0)∧iJ 1 (.ms 3 0 1 2 2) (.int .i64 1)=some (.ptr 3 1):=⟨rfl,rfl,rfl,rfl,rfl⟩
def afN(us:List Nat)(ec w c:Nat):Nat:=J us (J us ec w) c
set_option maxHeartbeats 1000000 in
theorem c127(n:Nat)(h:Lt ss us d e)(ty:Ty){w:Nat}(Hb:ec<us.length)(hw:w<us.length)(hc:c<us.length):
  cl (n+10) 127 [.agg [d,e],.int .i64 (ec:Nat),.agg [.int .i64 ty.kind,.int .i64 ty.rank,.int .i64 ty.a0,.int .i64 ty.a1,.int .i64 ty.data,.int .i64 (w:Nat),.int .i64 (c:Nat)]]=some (if tyE us (gY us) ty=0 then e2 (afN us ec w c:Nat) 0 else e2 0 (tyE us (gY us) ty),true):=by
 rw[nY 127 A127 B127,B127];have Fo:=c62 n h.d h.e h.u h.s h.c ty;have zY:cX [d,e] 0 (some 2)=some (.agg [d,e]):=rfl;have hx:∀c (hc:c<us.length),us[c]=uM us c:=fun c hc=>(jK hc 0).symm
 have Cs:=h.l;have h8:=h.h8;obtain⟨j1,j2⟩:=h.j Hb hw;obtain⟨j3,j4⟩:=h.j j2 hc;have k1:=c69 (n+9) h.e (by omega) ec w
 have k2:=c69 (n+9) h.e (by omega) (J us ec w) c
 rw[j1]at k1;rw[j3]at k2;have ld:=h.d.len;have g:∀{k:Nat},k<us.length→decide ((k:Int)<0)=false∧decide ((k:Int)≥(ss.length:Nat))=false∧decide (((ss.length:Nat):Int)≤(k:Nat))=false:=fun hk=>⟨by rw[cD];omega,by rw[cD];omega,by rw[cD];omega⟩
 have Sq:((3:Nat):Int)=3:=rfl;have El:((2:Nat):Int)=2:=rfl;simp only[tyC]at Fo;by_cases hE:tyE us (gY us) ty=0
 ·rw[aS hE];rw[hE]at Fo
  simp only[z0,seval,eA,dS,h.d.nag,h.e.nag,zY,aF 62,aF 69,aJ,h.d.fz,h.e.fz,Fo,nb,zun,Sq,El,i30,show lenD false (.ms 2 0 1 3 3)=some 3 from rfl,show lenD false (.ms 3 0 1 2 2)=some 2 from rfl,ld,(g Hb).1,(g hw).1,(g hc).1,(g Hb).2.1,(g hw).2.1,(g hc).2.1,(g Hb).2.2,(g hw).2.2,(g hc).2.2,show bX .i64 1=1 from rfl,show bX .i64 2=2 from rfl,show bX .i64 3=3 from rfl,dR,cN,AOp.kd,zop,tks,bP,dL,dC,iB,h.e.ia1 Hb,h.e.at1 Hb,h.e.ia1 hw,h.e.at1 hw,h.e.ia1 hc,h.e.at1 hc,h.e.ia1 j2,h.e.at1 j2,u8C,hx _ Hb,hx _ hw,hx _ hc,hx _ j2,iQ (kY h.u ec) (kY h.u w),iQ (kY h.u (J us ec w)) (kY h.u c),k1,k2,A127]
  rfl
 ·rw[aG hE];simp only[z0,seval,h.d.nag,h.e.nag,zY,aF 62,aJ,h.d.fz,h.e.fz,Fo,nb,aE hE,A127];rfl
theorem jB:(∀(cx:Cx) (cl:CL) (dst:Option Nat) (g:Option (Nat×Bool)) (x:AS) (f:Arg) (l:List Arg),zOp cx cl ⟨dst,.callv f l,g⟩ x=lY cx cl dst x (f.ev cx.G x.t) (evs l cx.G x.t)) ∧
  (∀(cx:Cx) (cl:CL) (dst:Option Nat) (x:AS) (f:Nat) (p q args:List D),lY cx cl dst x (.fn (.func f) p q) args=back dst x (cl (.fn f) (p++args++q) x.s x.c)) ∧
  (∀(cx:Cx) (cl:CL) (dst:Option Nat) (g:Option (Nat×Bool)) (x:AS) (a:Arg),zOp cx cl ⟨dst,.pan a,g⟩ x=match a.ev cx.G x.t with | .iface t v=>.ok (.pan [(.iface t v,false)]) x|_=>.no) ∧
  (∀(cx:Cx) (cl:CL) (dst:Option Nat) (g:Option (Nat×Bool)) (f:Nat) (l:List Arg) (t:Tm) (s:St) (c:Nat) (d:List (D×List D)),zOp cx cl ⟨dst,.dfr (.f f) l,g⟩ ⟨t,s,c,d,none⟩ = .ok .normal ⟨iO dst t .un,s,c,(.fn (.func f) [] [],evs l cx.G t)::d,none⟩):=
 ⟨fun _ _ _ _ _ _ _=>rfl,fun _ _ _ _ _ _ _ _=>rfl,fun _ _ _ _ _ _=>rfl,fun _ _ _ _ _ _ _ _ _ _=>rfl⟩
theorem uS(df:Nat→List D→eU→St→Nat→DR)(A:AF)(ch:Ch)(t:Tm)(s:St)(c:Nat)(r:Option Nat):zbody df A (.ok (.pan ch) ⟨t,s,c,[],r⟩) = .ok (.pan ch) s c:=rfl
def jL(a e:Int):Ch:=[(.iface 130 (.agg [.int .i64 a,.int .i64 e]),false)]
theorem fS(n j:Nat)(a e:Int)(s:St)(c:Nat):fn n (j+1) (.fn 41) [.int .i64 a,.int .i64 e] s c=if e=0 then .ok (.ret (.tup [])) s c else .ok (.pan (jL a e)) s c:=by
 rw[iG (A:=A41) rfl rfl rfl rfl n j _ s c rfl,show A41.body=B41.b from rfl]
 simp only[B41,cI];by_cases h:e=0
 ·rw[aS h];subst h;simp only[z2,seval,A41,show decide ((0:Int)≠0)=false from rfl]
 ·rw[aG h];simp only[z2,seval,A41,jB,show decide (e≠0)=true from aH h,uS,jL]
theorem dfn_in{f:Nat}{A:AF}(hT:BX.T f=some A)(n j:Nat)(args:List D)(m:eU)(s:St)(c:Nat)(hl:Nat.beq args.length A.np=true):dfn n (j+1) f args m s c=zdbody A (zS (cxn n) (fn n j) KK A.body (start args s c) m):=by
 show zdef (lw BX ps ms KK MM n) KK (zN (lw BX ps ms KK MM n) KK j) f args m s c=_;unfold zdef;rw[(yC n).1,hT];simp only;rw[hl];rfl
theorem caught_none(n j:Nat)(s:St)(c:Nat):dfn n (j+1) 40 [.ptr 2 0,.ptr 1 0] none s c = .ok (.ret (.tup [])) none s c:=by
 rw[dfn_in (A:=A40) rfl n j _ _ s c rfl];rfl
def zSb(K:AS→eU→RS)(r:RS):RS:=match r with
 | .ok .normal y m=>K y m
 | r=>r
def zSc(v:D)(p q:RS):RS:=match v with
 | .bool r=>bif r then p else q
 | _=>.no
def zSl(id:Nat)(r:RS):RS:=match r with
 | .ok (.exit i) y m=>bif Nat.beq i id then .ok .normal y m else .ok (.exit i) y m
 | r=>r
def zSr(m:eU)(r:R):RS:=match r with
 | .ok o y=>.ok o y m
 | .no=>.no
def zSo(K:AS→RS)(m:eU)(r:R):RS:=match r with
 | .ok .normal y=>K y
 | .ok e y=>.ok e y m
 | .no=>.no
theorem ex_S:(∀(cx:Cx) (cl:CL) (k:Nat) (m:eU) (x:AS) ops,zS cx cl k (.reg none ops) x m=jR cx cl ops x m)∧(∀(cx:Cx) (cl:CL) (k:Nat) (m:eU) (x:AS) o ops,zS cx cl k (.reg (some o) ops) x m=bif (AC.reg (some o) ops).noRcv then zSr m (zC (.reg (some o) ops) cx cl k x) else .no) ∧
  (∀(cx:Cx) (cl:CL) (k:Nat) (m:eU) (x:AS) a b,zS cx cl k (.seq a b) x m=zSb (zS cx cl k b) (zS cx cl k a x m))∧(∀(cx:Cx) (cl:CL) (k:Nat) (m:eU) (x:AS) v a b,zS cx cl k (.cond v a b) x m=zSc (v.ev cx.G x.t) (zS cx cl k a x m) (zS cx cl k b x m))∧(∀(cx:Cx) (cl:CL) (k:Nat) (m:eU) (x:AS) i a,zS cx cl k (.block i a) x m=zSl i (zS cx cl k a x m)) ∧
  (∀(cx:Cx) (cl:CL) (m:eU) (x:AS),jR cx cl [] x m = .ok .normal x m)∧(∀(cx:Cx) (cl:CL) (x:AS) n v o r,jR cx cl (⟨some n,.rcv,none⟩::r) x (some ((v,false)::o))=jR cx cl r ⟨tput x.t n v,x.s,x.c,x.d,x.r⟩ (some ((v,true)::o))) ∧
  (∀(cx:Cx) (cl:CL) (m:eU) (x:AS) d a r,jR cx cl (⟨d,.mv a,none⟩::r) x m=zSo (fun y=>jR cx cl r y m) m (zOp cx cl ⟨d,.mv a,none⟩ x)) ∧
  (∀(cx:Cx) (cl:CL) (m:eU) (x:AS) d a b u v r,jR cx cl (⟨d,.cmp a b u v,none⟩::r) x m=zSo (fun y=>jR cx cl r y m) m (zOp cx cl ⟨d,.cmp a b u v,none⟩ x)) ∧
  (∀(cx:Cx) (cl:CL) (m:eU) (x:AS) d a b u v r,jR cx cl (⟨d,.tas a b u v,none⟩::r) x m=zSo (fun y=>jR cx cl r y m) m (zOp cx cl ⟨d,.tas a b u v,none⟩ x)) ∧
  (∀(cx:Cx) (cl:CL) (m:eU) (x:AS) d a b r,jR cx cl (⟨d,.ext a b,none⟩::r) x m=zSo (fun y=>jR cx cl r y m) m (zOp cx cl ⟨d,.ext a b,none⟩ x)) ∧
  (∀(cx:Cx) (cl:CL) (m:eU) (x:AS) d a b r,jR cx cl (⟨d,.new a b,none⟩::r) x m=zSo (fun y=>jR cx cl r y m) m (zOp cx cl ⟨d,.new a b,none⟩ x)) ∧
  (∀(cx:Cx) (cl:CL) (m:eU) (x:AS) d a b u r,jR cx cl (⟨d,.st a b u,none⟩::r) x m=zSo (fun y=>jR cx cl r y m) m (zOp cx cl ⟨d,.st a b u,none⟩ x)) ∧
  (∀m K y,zSo K m (.ok .normal y)=K y)∧(∀m K y,zSb K (.ok .normal y m)=K y m)∧(∀p q,zSc (.bool true) p q=p)∧(∀p q,zSc (.bool false) p q=q)∧(∀m i y,zSl i (.ok .normal y m) = .ok .normal y m)∧(∀m o y,zSr m (.ok o y) = .ok o y m):=
 ⟨fun _ _ _ _ _ _=>rfl,fun _ _ _ _ _ _ _=>rfl,fun _ _ _ _ _ _ _=>rfl,fun _ _ _ _ _ _ _ _=>rfl,fun _ _ _ _ _ _ _=>rfl,fun _ _ _ _=>rfl,fun _ _ _ _ _ _ _=>rfl,fun _ _ _ _ _ _ _=>rfl,fun _ _ _ _ _ _ _ _ _ _=>rfl,fun _ _ _ _ _ _ _ _ _ _=>rfl,fun _ _ _ _ _ _ _ _=>rfl,fun _ _ _ _ _ _ _ _=>rfl,fun _ _ _ _ _ _ _ _ _=>rfl,fun _ _ _=>rfl,fun _ _ _=>rfl,fun _ _=>rfl,fun _ _=>rfl,fun _ _ _=>rfl,fun _ _ _=>rfl⟩
theorem caught_some(n j:Nat)(a e x y:Int){k k':Nat}(h1:sget s 1=some (.fix k [.int .i64 x]))(h2:sget s 2=some (.fix k' [.int .i64 y]))(hf:∀m,c≤m→sget s m=none)(hc:3≤c):
  ∃s' c',dfn n (j+1) 40 [.ptr 2 0,.ptr 1 0] (some (jL a e)) s c = .ok (.ret (.tup [])) (some [(.iface 130 (.agg [.int .i64 a,.int .i64 e]),true)]) s' c'∧sget s' 1=some (.fix k [.int .i64 e])∧sget s' 2=some (.fix k' [.int .i64 a]):=by
 rw[dfn_in (A:=A40) rfl n j _ _ s c rfl,show A40.body=B40.b from rfl]
 unfold jL;simp only[B40,cI];have f1:(1=c)=False:=aL (by omega)
 have f2:(2=c)=False:=aL (by omega)
 have g1:(c=1)=False:=aL (by omega)
 have g2:(c=2)=False:=aL (by omega)
 have Yo:∀d,oW (.ifc true) (.iface 130 d) .nilif=some false:=fun _=>rfl
 simp only[z2,seval,ex_S,f1,f2,g1,g2,h1,h2,Yo,cA,cK,AC.noRcv,dR,cN,AOp.kd,zop,dP,tks,bP,dL,nb];refine⟨_,_,rfl,?_,?_⟩
 ·simp only[aA];simp
 ·simp only[aA];simp
def mpS:Nat→List (List UInt8)→List (D×D×Nat)
 | _,[]=>[]
 | k,s::r=>(.str s,.bool true,k)::mpS (k+1) r
theorem mpS_snoc:∀(L:List (List UInt8)) (k:Nat) (s:List UInt8),mpS k L++[(.str s,.bool true,k+L.length)]=mpS k (L++[s])
 | [],k,s=>rfl
 | a::L,k,s=>by
  simp only[mpS,cA,aO];rw[show k+(L.length+1)=k+1+L.length by omega,mpS_snoc L (k+1) s]
theorem mfind_mpS(x:List UInt8):∀(L:List (List UInt8)) (k n:Nat),(x∈L∧∃i,mfind .str (.str x) (mpS k L) n=some (some (i,.bool true)))∨(x∉L∧mfind .str (.str x) (mpS k L) n=some none)
 | [],k,n=>.inr ⟨by simp,rfl⟩
 | a::L,k,n=>by
  have h:keyEq .str (.str x) (.str a)=some (decide (x=a)):=by
   show some (x==a)=_;rw[show(x==a)=decide (x=a) from by grind]
  simp only[mpS,mfind,h];by_cases e:x=a
  ·grind
  ·rw[aE e];rcases mfind_mpS x L (k+1) (n+1) with⟨h1,h2⟩|⟨h1,h2⟩
   ·exact .inl ⟨by simp[h1],h2⟩
   ·exact .inr ⟨by simp[e,h1],h2⟩
def lC(s:List UInt8)(had:List (List UInt8)):Int:=if gF s=true then(if s∈had then 8 else 0) else 6
theorem fresh_ok(n j:Nat){nm:List UInt8}(hl:nm.length<9223372036854775807){L:List (List UInt8)}(h4:sget s 4=some (.fix 107 [.mp 3]))(h3:sget s 3=some (.mp (mpS 0 L) L.length)):
  fn (n+9) (j+2) (.fn 60) [.str nm,.ptr 4 0] s c=if lC nm L=0 then .ok (.ret (.tup [])) (sset s 3 (.mp (mpS 0 (L++[nm])) (L.length+1))) c else .ok (.pan (jL 0 (lC nm L))) s c:=by
 rw[iG (A:=A60) rfl rfl rfl rfl (n+9) (j+1) _ s c rfl,show A60.body=B60.b from rfl]
 unfold lC;simp only[B60,cI];have Jv:=c61 n nm hl;have Vb:=mpS_snoc L 0 nm;rw[bM]at Vb;cases hb:gF nm
 ·rw[hb]at Jv;simp only[z2,seval,A60,aF 61,aJ,Jv,fS,nb,uS]<;>rfl
 ·rw[hb]at Jv;rcases mfind_mpS nm L 0 0 with⟨h1,i,h2⟩|⟨h1,h2⟩
  ·simp only[z2,seval,A60,aF 61,aJ,Jv,fS,nb,h4,h3,h2,aS h1,uS]<;>rfl
  ·simp only[z2,seval,A60,aF 61,aJ,Jv,fS,nb,h4,h3,h2,aG h1,uS,Vb]
def lrC(d e:D)(low pc ec:Nat)(lk:Int)(m v f a:D):List D:=[d,e,.int .i64 1,.int .i64 0,.int .i64 (low:Nat),.int .i64 (low:Nat),.int .i64 (low:Nat),.int .i64 (pc:Nat),.int .i64 (ec:Nat),.int .i64 lk,m,v,f,a]
theorem f133(n j:Nat)(h:Lt ss us d e){low pc:Nat}{lk:Int}{m v f:D}{K ty:Nat}(hK:sget s K=some (.fix ty (lrC d e low pc ec lk m v f q))){a b:Nat}(ha:a<us.length)(hb:b<us.length):
  fn (n+1) (j+2) (.fn 133) [.ptr K 0,.int .i64 (a:Nat),.int .i64 (b:Nat)] s c = .ok (.ret (.int .i64 (J us a b:Nat))) s (c+24):=by
 rw[iG (A:=A133) rfl rfl rfl rfl (n+1) (j+1) _ s c rfl,show A133.body=B133.b from rfl]
 simp only[B133,cI];have Cs:=h.l;have h8:=h.h8;have hx:∀c (hc:c<us.length),us[c]=uM us c:=fun c hc=>(jK hc 0).symm
 obtain⟨j1,j2⟩:=h.j ha hb;have k1:=c69 n h.e (by omega) a b
 rw[j1]at k1;unfold lrC at hK;simp only[z0,seval,hK,dR,cN,AOp.kd,zop,tks,bP,dL,dC,dP,aO,aX,h.e.ia1 ha,h.e.at1 ha,h.e.ia1 hb,h.e.at1 hb,u8C,hx _ ha,hx _ hb,iQ (kY h.u a) (kY h.u b),aF 69,aJ,h.e.fz,k1,A133]
def mkL(us:List Nat)(lm:List (Int×Int))(x:Int)(Hr:Nat):List (Int×Int):=match qI lm x 0 with
 | none=>lm++[(x,(Hr:Int))]
 | some q=>setM lm q.1 (J us Hr q.2.toNat:Nat)
def wT(us:List Nat)(lm:List (Int×Int)):Prop:=∀p∈lm,∃k:Nat,p.2=k∧k<us.length
theorem uX:∀{l:List (Int×Int)} {x:Int} {n:Nat} {q:Nat×Int},qI l x n=some q→∃p∈l,p.1=x∧p.2=q.2
 | [],_,_,_,h=>by cases h
 | p::r,x,n,q,h=>by
  unfold qI at h;split at h
  ·rename_i e;cases h;exact⟨p,by simp,e.symm,rfl⟩
  ·obtain⟨p',h1,h2⟩:=uX h;exact⟨p',by simp[h1],h2⟩
set_option maxHeartbeats 1000000 in
theorem f92(n j:Nat)(h:Lt ss us d e){low pc M:Nat}{lk:Int}{v f:D}{K ty:Nat}{lm:List (Int×Int)}(hK:sget s K=some (.fix ty (lrC d e low pc ec lk (.mp M) v f q)))(hM:sget s M=some (.mp (mpE 0 lm) lm.length))(hp:pc<us.length)(he:ec<us.length)(hl:wT us lm)(x:Int):
  ∃c',c≤c'∧fn (n+1) (j+3) (.fn 92) [.ptr K 0,.int .i64 x] s c = .ok (.ret (.tup [])) (sset s M (.mp (mpE 0 (mkL us lm x (J us pc ec))) (mkL us lm x (J us pc ec)).length)) c':=by
 rw[iG (A:=A92) rfl rfl rfl rfl (n+1) (j+2) _ s c rfl,show A92.body=B92.b from rfl]
 unfold mkL;simp only[B92,cI];obtain⟨j1,j2⟩:=h.j hp he;have Gy:=mfind_mpE x lm 0 0;have hJ:∀{a b c},a<us.length→b<us.length→fn (n+1) (j+2) (.fn 133) [.ptr K 0,.int .i64 (a:Nat),.int .i64 (b:Nat)] s c = .ok (.ret (.int .i64 (J us a b:Nat))) s (c+24):=fun ha hb=>f133 n j h hK ha hb
 cases hq:qI lm x 0 with
 | none=>
  rw[hq]at Gy;have Vb:=mpE_snoc lm 0 (x,(J us pc ec:Nat));rw[bM]at Vb;have Fg:=hK;unfold lrC at Fg;simp only[z0,seval,Fg,hM,dR,cN,AOp.kd,zop,tks,bP,dL,dC,dP,aO,aX,hJ hp he,Gy,Option.map_none,Vb,cA,cK,dZ,A92];exact⟨c+11+24,by omega,rfl⟩
 | some r=>
  rw[hq]at Gy;obtain⟨p',h1,h2,h3⟩:=uX hq;obtain⟨kh,hkh,hkh2⟩:=hl p' h1;have Qi:r.2=(kh:Int):=by rw[←h3,hkh]
  have hJ2:∀c',fn (n+1) (j+2) (.fn 133) [.ptr K 0,.int .i64 (J us pc ec:Nat),.int .i64 (kh:Nat)] s c' = .ok (.ret (.int .i64 (J us (J us pc ec) kh:Nat))) s (c'+24):=fun c'=>f133 n j h hK j2 hkh2
  have hJ1:∀c',fn (n+1) (j+2) (.fn 133) [.ptr K 0,.int .i64 (pc:Nat),.int .i64 (ec:Nat)] s c' = .ok (.ret (.int .i64 (J us pc ec:Nat))) s (c'+24):=fun c'=>f133 n j h hK hp he
  have Fg:=hK;unfold lrC at Fg;simp only[Qi]at Gy ⊢;simp only[z0,seval,Fg,hM,dR,cN,AOp.kd,zop,tks,bP,dL,dC,dP,aO,aX,hJ1,hJ2,Gy,Qi,bR,cA,cK,cQ,mset_mpE,setM_len,A92];refine⟨_,?_,rfl⟩;omega
structure Aft (s:St) (c:Nat) (s':St) (c':Nat):Prop where
 le:c≤c'
 old:∀m,m<c→sget s' m=sget s m
 free:∀m,c'≤m→sget s' m=none
theorem Aft.refl(h:∀m,c≤m→sget s m=none):Aft s c s c:=⟨aK _,fun _ _=>rfl,h⟩
theorem Aft.add(h:Aft s c s' c')(b:Blk):Aft s c (sadd s' c' b) (c'+1):=⟨Nat.le_succ_of_le h.le,fun m hm=>by rw[aZ,aG (by have:=h.le;omega)];exact h.old m hm,fun m hm=>by rw[aZ,aG (by omega)];exact h.free m (by omega)⟩
theorem Aft.set(h:Aft s c s' c'){nm:Nat}(h1:c≤nm)(h2:nm<c')(b:Blk):Aft s c (sset s' nm b) c':=⟨h.le,fun m hm=>by rw[aU,aG (by omega)];exact h.old m hm,fun m hm=>by rw[aU,aG (by omega)];exact h.free m hm⟩
theorem Aft.trans{s2:St}{c2:Nat}(h:Aft s c s' c')(g:Aft s' c' s2 c2):Aft s c s2 c2:=⟨fZ h.le g.le,fun m hm=>by rw[g.old m (bY hm h.le),h.old m hm],g.free⟩
def lowC(low:Nat)(k r:Int):D:=.agg [.int .i64 k,.int .i64 r,.int .i64 (low:Nat),.int .i64 (low:Nat),.int .i64 (low:Nat)]
section
variable (n j:Nat) {d e:D} {low pc ec:Nat} {lk:Int} {m v f q:D} {K ty:Nat} {s:St} {c:Nat} (hK:sget s K=some (.fix ty (lrC d e low pc ec lk m v f q))) (Al:K<c) (zX:∀m,c≤m→sget s m=none)
include hK Al zX
theorem f125(k:Int):∃s' c',fn (n+1) (j+2) (.fn 125) [.ptr K 0,.int .i64 k] s c = .ok (.ret (lowC low k 1)) s' c'∧Aft s c s' c':=by
 rw[iG (A:=A125) rfl rfl rfl rfl (n+1) (j+1) _ s c rfl,show A125.body=B125.b from rfl]
 simp only[B125,cI];unfold lrC at hK;have k0:(K=c)=False:=aL (by omega)
 have k1:(K=c+1)=False:=aL (by omega)
 have k2:(c=c+1)=False:=aL (by omega)
 have k3:(c+1=c)=False:=aL (by omega)
 simp only[z0,seval,hK,k0,k1,k2,k3,dP,A125];exact⟨_,_,rfl,((((((Aft.refl zX).add _).add _).set (by omega) (by omega) _).set (by omega) (by omega) _).set (by omega) (by omega) _).set (by omega) (by omega) _⟩
theorem f83(x:Nd):∃s' c',fn (n+1) (j+2) (.fn 83) [.ptr K 0,.agg (bK x)] s c = .ok (.ret (lowC low 1 0)) s' c'∧Aft s c s' c':=by
 rw[iG (A:=A83) rfl rfl rfl rfl (n+1) (j+1) _ s c rfl,show A83.body=B83.b from rfl]
 simp only[B83,cI];unfold lrC at hK;have k0:(K=c)=False:=aL (by omega)
 have k1:(K=c+1)=False:=aL (by omega)
 simp only[z0,seval,hK,k0,k1,dP,bK,A83];exact⟨_,_,rfl,(((Aft.refl zX).add _).add _).set (by omega) (by omega) _⟩
theorem f84(x:Nd):∃s' c',fn (n+1) (j+3) (.fn 84) [.ptr K 0,.agg (bK x)] s c = .ok (.ret (lowC low 1 1)) s' c'∧Aft s c s' c':=by
 rw[iG (A:=A84) rfl rfl rfl rfl (n+1) (j+2) _ s c rfl,show A84.body=B84.b from rfl]
 simp only[B84,cI];have hA:=((Aft.refl zX).add (.fix 57 (bK x))).add (.fix 37 [.int .i64 0,.int .i64 0,.int .i64 0,.int .i64 0,.int .i64 0]);obtain⟨s',c',h1,h2⟩:=f125 n j (by rw[hA.old K Al];exact hK) (bY Al hA.le) hA.free 1
 have h4:sget s' (c+1)=some (.fix 37 [.int .i64 0,.int .i64 0,.int .i64 0,.int .i64 0,.int .i64 0]):=by rw[h2.old (c+1) (by omega)];simp[aA]
 have Ac:=h2.le;unfold bK at h1;simp only[z0,seval,bK,h1,h4,lowC,A84];exact⟨_,_,rfl,(hA.trans h2).set (by omega) (by omega) _⟩
theorem f85(x:Nd):∃s' c',fn (n+1) (j+3) (.fn 85) [.ptr K 0,.agg (bK x)] s c = .ok (.ret (lowC low 2 1)) s' c'∧Aft s c s' c':=by
 rw[iG (A:=A85) rfl rfl rfl rfl (n+1) (j+2) _ s c rfl,show A85.body=B85.b from rfl]
 simp only[B85,cI];have hA:=((Aft.refl zX).add (.fix 57 (bK x))).add (.fix 37 [.int .i64 0,.int .i64 0,.int .i64 0,.int .i64 0,.int .i64 0]);obtain⟨s',c',h1,h2⟩:=f125 n j (by rw[hA.old K Al];exact hK) (bY Al hA.le) hA.free 2
 have h4:sget s' (c+1)=some (.fix 37 [.int .i64 0,.int .i64 0,.int .i64 0,.int .i64 0,.int .i64 0]):=by rw[h2.old (c+1) (by omega)];simp[aA]
 have Ac:=h2.le;unfold bK at h1;simp only[z0,seval,bK,h1,h4,lowC,A85];exact⟨_,_,rfl,(hA.trans h2).set (by omega) (by omega) _⟩
end
variable {l:List Nd} {i k n c L:Nat} {d q:D} {fE fD fK fN:Nat→D} {s:St} {t:Tm}
def dQ(l:List Nd):Nat→Nat→Nat
 | 0,_=>0
 | f+1,i=>(pN l i).foldl (fun d k=>max d (dQ l f k)) 0+1
theorem yK{α β:Type}{g h:β→α→β}:∀(l:List α) (b:β),(∀a,a∈l→∀b,g b a=h b a)→l.foldl g b=l.foldl h b
 | [],_,_=>rfl
 | a::l,b,H=>by
  rw[List.foldl_cons,List.foldl_cons,H a (cE ..)];exact yK l _ fun x hx=>H x (dA _ hx)
theorem dQ_fuel{l:List Nd}(hg:iT l):∀(f g i:Nat),i<l.length→eN l i≤l.length→l.length≤f+i→l.length≤g+i→dQ l f i=dQ l g i
 | 0,_,i,h,_,hf,_=>by omega
 | _,0,i,h,_,_,hf=>by omega
 | f+1,g+1,i,h,he,hf,Yj=>by
  rw[dQ,dQ,yK _ _ fun k hk d=>?_]
  obtain⟨h1,h2,h3⟩:=pL hg h he k hk;rw[dQ_fuel hg f g k h2 h3 (by omega) (by omega)]
def dN(l:List Nd)(i:Nat):Nat:=dQ l l.length i
theorem dN_eq(hg:iT l)(h:i<l.length)(he:eN l i≤l.length):dN l i=(pN l i).foldl (fun d k=>max d (dN l k)) 0+1:=by
 unfold dN;rw[dQ_fuel hg l.length (l.length+1) i h he (by omega) (by omega),dQ]
theorem dN_le{l:List Nd}(hg:iT l):∀(f i:Nat),i<l.length→eN l i≤l.length→l.length≤f+i→dN l i≤f
 | 0,i,h,_,hf=>by omega
 | f+1,i,h,he,hf=>by
  rw[dN_eq hg h he];have:∀(K:List Nat) (d:Nat),d≤f→(∀k∈K,dN l k≤f)→K.foldl (fun d k=>max d (dN l k)) d≤f:=by
   intro K
   induction K with
   | nil=>grind
   | cons a K ih=>grind
  have:=this (pN l i) 0 (dM _) fun k hk=>by
   obtain⟨h1,h2,h3⟩:=pL hg h he k hk;exact dN_le hg f k h2 h3 (by omega)
  omega
theorem kids_cases(hg:iT l)(h:i<l.length):pN l i=[]∨(∃a,pN l i=[a])∨∃a b,pN l i=[a,b]:=by
 grind [tQ,lD]
theorem c99(hd:Sl 7 bK l d)(hg:iT l)(hl:l.length<4294967296)(n:Nat):∀(f i:Nat),i<l.length→eN l i≤l.length→l.length≤f+i→cl (n+f+2) 99 [d,.int .i64 (i:Nat)]=some (.int .i64 (dN l i:Nat),true):=by
 intro f
 induction f with
 | zero=>omega
 | succ f ih=>
  intro i hi he hf;show cl (n+f+3) 99 _=_;obtain⟨r,h149,hr⟩:∃r,cl (n+f+2) 149 [d,.int .i64 (i:Nat)]=some (r,true)∧Sl 1 gU (pN l i) r:=c149 hd hg hl n (f+1) i hi he (by omega)
  have hD:=dN_eq hg hi he;have Cy:=pL hg hi he;have hmax:∀a b:Nat,(if a<b then b else a)=max a b:=fun a b=>by split<;>omega
  rw[kG 99 A99 B99,B99];rcases kids_cases hg hi with hK|⟨a,hK⟩|⟨a,b,hK⟩<;>rw[hK]at hr hD Cy
  ·simp only[z2,seval,zun,aF 149,aJ,hd.fz,h149,hr.len,aX,show((0:Nat):Int)=0 from rfl,nb,A99]
   rw[hD];rfl
  ·obtain⟨a1,a2,a3⟩:=Cy a (fV.2 rfl);have e1:=ih a a2 a3 (by omega)
   have Ac:=dN_le hg l.length a a2 a3 (by omega)
   have hp:0<dN l a:=by rw[dN_eq hg a2 a3];omega
   have hc:decide ((0:Int)<(dN l a:Nat))=true:=dT (by omega)
   have ia:iJ 1 r (.int .i64 0)=some (.iptr ([a].map gU).flatten 0):=hr.ia1 (i:=0) (by simp)
   have Jf:([a].map gU).flatten[0]?=some (.int .i64 (a:Int)):=rfl;have w:bX .i64 ((dN l a:Int)+1)=((dN l a+1:Nat):Int):=gW (by omega)
   simp only[z2,seval,zun,aF 149,aF 99,aJ,hd.fz,h149,hr.len,aO,aX,show((1:Nat):Int)=1 from rfl,show bX .i64 1=1 from rfl,ia,Jf,e1,hc,w,nb,A99]
   rw[hD,show[a].foldl (fun d k=>max d (dN l k)) 0=dN l a from Nat.max_eq_right (dM _)];rfl
  ·obtain⟨a1,a2,a3⟩:=Cy a (cE ..);obtain⟨b1,b2,b3⟩:=Cy b (dA _ (fV.2 rfl));have e1:=ih a a2 a3 (by omega)
   have e2:=ih b b2 b3 (by omega)
   have Ac:=dN_le hg l.length a a2 a3 (by omega)
   have hleb:=dN_le hg l.length b b2 b3 (by omega)
   have hp:0<dN l a:=by rw[dN_eq hg a2 a3];omega
   have hc:decide ((0:Int)<(dN l a:Nat))=true:=dT (by omega)
   have ia:iJ 1 r (.int .i64 0)=some (.iptr ([a,b].map gU).flatten 0):=hr.ia1 (i:=0) (by simp)
   have ib:iJ 1 r (.int .i64 1)=some (.iptr ([a,b].map gU).flatten 1):=hr.ia1 (i:=1) (by simp)
   have Jf:([a,b].map gU).flatten[0]?=some (.int .i64 (a:Int)):=rfl;have at1:([a,b].map gU).flatten[1]?=some (.int .i64 (b:Int)):=rfl;have hF:[a,b].foldl (fun d k=>max d (dN l k)) 0=max (dN l a) (dN l b):=by simp
   rw[hF]at hD;have w:bX .i64 ((dN l a:Int)+1)=((dN l a+1:Nat):Int):=gW (by omega)
   have wb:bX .i64 ((dN l b:Int)+1)=((dN l b+1:Nat):Int):=gW (by omega)
   by_cases Hv:dN l a<dN l b
   ·have El:decide ((dN l a:Int)<(dN l b:Nat))=true:=dT (by omega)
    simp only[z2,seval,zun,aF 149,aF 99,aJ,hd.fz,h149,hr.len,aO,aX,show((2:Nat):Int)=2 from rfl,show bX .i64 1=1 from rfl,show bX .i64 2=2 from rfl,ia,ib,Jf,at1,e1,e2,hc,El,wb,nb,A99]
    rw[hD,Nat.max_eq_right (Nat.le_of_lt Hv)];rfl
   ·have El:decide ((dN l a:Int)<(dN l b:Nat))=false:=dF (by omega)
    simp only[z2,seval,zun,aF 149,aF 99,aJ,hd.fz,h149,hr.len,aO,aX,show((2:Nat):Int)=2 from rfl,show bX .i64 1=1 from rfl,show bX .i64 2=2 from rfl,ia,ib,Jf,at1,e1,e2,hc,El,w,nb,A99]
    rw[hD,Nat.max_eq_left (by omega)];rfl
def gE(l:List Nd)(i:Nat):Nat:=min (eN l i) l.length
def gK(l:List Nd)(i:Nat):List Nat:=match l[i]? with
 | none=>[]
 | some x=>if fO x=1 then(if i+1<l.length then[i+1] else[]) else if fO x=2 then(if i+1<l.length then(if gE l (i+1)<l.length then[i+1,gE l (i+1)] else[i+1]) else[]) else[]
theorem gK_eq(h:i<l.length):gK l i=if fO l[i]=1 then(if i+1<l.length then[i+1] else[]) else if fO l[i]=2 then(if i+1<l.length then(if gE l (i+1)<l.length then[i+1,gE l (i+1)] else[i+1]) else[]) else[]:=by rw[gK,aI h]
theorem gE_gt(h:i<l.length):i<gE l i:=by
 grind [gE,eN_gt]
theorem gK_in(h:k∈gK l i):i<k∧k<l.length:=by
 grind [gK,fV,gE_gt]
def gDF(l:List Nd):Nat→Nat→Nat
 | 0,_=>0
 | f+1,i=>(gK l i).foldl (fun d k=>max d (gDF l f k)) 0+1
theorem gDF_fuel{l:List Nd}:∀(f g i:Nat),i<l.length→l.length≤f+i→l.length≤g+i→gDF l f i=gDF l g i
 | 0,_,i,h,hf,_=>by omega
 | _,0,i,h,_,hf=>by omega
 | f+1,g+1,i,h,hf,hg=>by
  rw[gDF,gDF,yK _ _ fun k hk d=>?_]
  obtain⟨h1,h2⟩:=gK_in hk;rw[gDF_fuel f g k h2 (by omega) (by omega)]
def gD(l:List Nd)(i:Nat):Nat:=gDF l l.length i
theorem gD_eq(h:i<l.length):gD l i=(gK l i).foldl (fun d k=>max d (gD l k)) 0+1:=by
 unfold gD;rw[gDF_fuel l.length (l.length+1) i h (by omega) (by omega),gDF]
theorem gD_le{l:List Nd}:∀(f i:Nat),i<l.length→l.length≤f+i→gD l i≤f
 | 0,i,h,hf=>by omega
 | f+1,i,h,hf=>by
  rw[gD_eq h];have:∀(K:List Nat) (d:Nat),d≤f→(∀k∈K,gD l k≤f)→K.foldl (fun d k=>max d (gD l k)) d≤f:=by
   intro K
   induction K with
   | nil=>grind
   | cons a K ih=>grind
  have:=this (gK l i) 0 (dM _) fun k hk=>by
   obtain⟨h1,h2⟩:=gK_in hk;exact gD_le f k h2 (by omega)
  omega
theorem gK_kids(hg:iT l)(h:i<l.length)(he:eN l i≤l.length):gK l i=pN l i:=by
 have Cy:=pL hg h he
 grind [tQ,gK_eq,lD,eN,gE]
theorem gD_dN{l:List Nd}(hg:iT l):∀(f i:Nat),i<l.length→eN l i≤l.length→l.length≤f+i→gD l i=dN l i
 | 0,i,h,_,hf=>by omega
 | f+1,i,h,he,hf=>by
  rw[gD_eq h,dN_eq hg h he,gK_kids hg h he,yK _ _ fun k hk d=>?_]
  obtain⟨h1,h2,h3⟩:=pL hg h he k hk;rw[gD_dN hg f k h2 h3 (by omega)]
theorem gE_eq(hg:iT l)(h:i<l.length):gE l i=if l[i].kind=3 then i+1+l[i].kids.toNat else if fO l[i]=1 then(if i+1<l.length then gE l (i+1) else i+1) else if fO l[i]=2 then(if i+1<l.length then(if gE l (i+1)<l.length then gE l (gE l (i+1)) else gE l (i+1)) else i+1) else i+1:=by
 have hE:=eN_eq h;have h1:=eN_le hg i;have h2:=eN_le hg (i+1);have h3:=eN_gt (l:=l) (i:=i+1) (by omega)
 have Pb:∀j,gE l j=min (eN l j) l.length:=fun _=>rfl
 by_cases k3:l[i].kind=3
 ·rw[aS k3]at hE ⊢;have:=hg.ls i h k3
  grind
 grind [k3,fO,eN_ge,eN,gE]
def rg(n:Nat)(f:Nat→D):List D:=(List.range n).map f
theorem rg_len(n:Nat)(f:Nat→D):(rg n f).length=n:=by simp[rg]
theorem wB(h:i<n)(f:Nat→D):(rg n f)[i]?=some (f i):=by simp[rg,h]
theorem rg_set(n i:Nat)(f:Nat→D)(v:D):fJ (rg n f) i [v]=rg n fun j=>if j=i then v else f j:=by
 show(rg n f).set i v=_;refine List.ext_getElem? fun j=>?_
 grind [rg]
theorem rg_congr{f g:Nat→D}(h:∀j,j<n→f j=g j):rg n f=rg n g:=List.map_congr_left fun j hj=>h j (List.mem_range.1 hj)
theorem rep_rg(n:Nat)(d:D):rep n [d]=rg n fun _=>d:=by
 induction n with
 | zero=>rfl
 | succ n ih => 
  show[d]++rep n [d]=_
  simp_all [rg,List.range_succ_eq_map,bS,List.map_map]
theorem ia_ms(h:i<n)(e m:Nat):iJ 1 (.ms e 0 1 n m) (.int .i64 (i:Nat))=some (.ptr e i):=by
 grind [iJ,fB,aC,eQ]
def iZ(l:List Nd)(i:Nat):Option D:=match l[i]? with
 | some x=>if iU x=0 then none else some (e2 i (iU x))
 | none=>none
def jW(l:List Nd)(i:Nat):Option D:=match l[i]? with
 | some x=>if x.kind=3∧kT l i x.kids.toNat=false then some (e2 i 6) else none
 | none=>none
def mL(l:List Nd):D:=if l.length<eN l 0 then e2 l.length 6 else if eN l 0<l.length then e2 (eN l 0) 6 else if 24<dN l 0 then e2 0 3 else e2 0 0
def exD(l:List Nd):D:=if l.length=0 then e2 0 6 else if 400<l.length then e2 0 3 else scan (iZ l) (scan (jW l) (mL l) l.length 0) l.length 0
def NdOk(l:List Nd):Prop:=∀x∈l,x.name.length<9223372036854775807∧x.text.length<4294967296
theorem listed_le(hi:i<l.length)(h:kT l i k=true):i+1+k≤l.length:=by
 cases k with
 | zero=>omega
 | succ k=>
  have:=jI.1 h k (by omega)
  grind [numB_ge]
theorem goodL_of(h1:∀j,j<l.length→iZ l j=none)(h2:∀j,j<l.length→jW l j=none):iT l:=by
 have hw:∀i (h:i<l.length),iU l[i]=0:=fun i h=>by
  grind [iZ,aI]
 refine⟨fun i h=>good_of (hw i h),fun i h h3=>listed_le h ?_⟩
 grind [jW,aI,kT,absurd]
theorem c48(n:Nat)(hd:Sl 7 bK l d)(hl:l.length<4294967296)(Av:l.length≤400→NdOk l):cl (n+403) 48 [d]=some (exD l,true):=by
 rw[iP 48 A48 B48,B48];by_cases h0:l.length=0
 ·have hc:decide ((l.length:Int)=0)=true:=dT (by omega)
  simp only[z2,seval,hd.len,hc,nb,A48];rw[exD,aS h0];rfl
 have Fe:decide ((l.length:Int)=0)=false:=dF (by omega)
 by_cases h4:400<l.length
 ·have hc:decide ((400:Int)<l.length)=true:=dT (by omega)
  simp only[z2,seval,hd.len,Fe,hc,nb,A48];rw[exD,aG h0,aS h4];rfl
 have Pf:decide ((400:Int)<l.length)=false:=dF (by omega)
 rw[show exD l=scan (iZ l) (scan (jW l) (mL l) l.length 0) l.length 0 from by grind [exD]]
 have Bi:∀st x,frz false 20 st (.agg (bK x))=some (.agg (bK x)):=fun _ _=>rfl
 simp only[z2,seval,hd.len,Fe,Pf,nb];generalize hz:zloop KK _ _=rl;refine zfor rl hz l.length (dY (by omega)) (by omega) (fun i t s c=>tget t 0=d∧∀j,j<i→iZ l j=none) (by simp[aA]) (by simp[aA]) ?_
 rintro i t s c hi ⟨q0,hn⟩ q4;by_cases zQ:i<l.length
 ·have zW:=hd.row zQ;have h96:=c96 (n+396) l[i] (Av (by omega) _ (bQ zQ)).1 (Av (by omega) _ (bQ zQ)).2
  by_cases hw:iU l[i]=0
  ·have hp:iZ l i=none:=by rw[iZ,aI zQ];exact aS hw
   rw[hw]at h96;simp only[z2,seval,q0,q4,hd.len,dH zQ,hd.ia zQ,zW,Bi,aF 96,aJ,h96,nb]
   grind
  ·have hp:iZ l i=some (e2 i (iU l[i])):=by rw[iZ,aI zQ];exact aG hw
   simp only[z2,seval,q0,q4,hd.len,dH zQ,hd.ia zQ,zW,Bi,aF 96,aJ,h96,aE hw,nb,A48];rw[eL zQ hp hn];rfl
 ·have e1:i=l.length:=by omega
  subst e1;rw[fL hn];simp only[z2,seval,q0,q4,hd.len,gG (aK l.length)];generalize Bz:zloop KK _ _=rl2;refine zfor rl2 Bz l.length (dY (by omega)) (by omega) (fun i t s c=>tget t 0=d∧∀j,j<i→jW l j=none) (by simp[aA]) (by simp[aA,q0]) ?_
  rintro i t s c hi ⟨q0,Eh⟩ q6;by_cases zQ:i<l.length
  ·have g0:=hd.cell zQ (show 0<7 by omega)
   have Fk:l[i]?=some l[i]:=aI zQ;have Gx:qM l[i]:=good_of (by
    grind [iZ])
   by_cases h3:l[i].kind=3
   ·obtain⟨k0,k4⟩:=Gx.k3 h3;have Sv:=c97 (n+402) hd hl zQ (k:=l[i].kids.toNat) (by omega) (by omega)
    cases hb:kT l i l[i].kids.toNat
    ·have hp:jW l i=some (e2 i 6):=by rw[jW,Fk];exact aS ⟨h3,hb⟩
     rw[hb]at Sv;simp only[z2,seval,q0,q6,hd.len,dH zQ,hd.ia zQ,g0,bK,aH h3,aF 97,aJ,hd.fz,Sv,nb,A48];rw[eL zQ hp Eh];rfl
    ·have hp:jW l i=none:=by rw[jW,Fk];exact aG (by rw[hb];simp)
     rw[hb]at Sv;simp only[z2,seval,q0,q6,hd.len,dH zQ,hd.ia zQ,g0,bK,aH h3,aF 97,aJ,hd.fz,Sv,nb]
     grind
   ·have hp:jW l i=none:=by rw[jW,Fk];exact aG (fun h=>h3 h.1)
    simp only[z2,seval,q0,q6,hd.len,dH zQ,hd.ia zQ,g0,bK,aE h3,nb]
    grind
  ·have e1:i=l.length:=by omega
   subst e1;rw[fL Eh];have hg:=goodL_of hn Eh;have Yw:cl (n+402) 98 [d,.int .i64 0]=some (.int .i64 (eN l 0:Nat),true):=c98 hd hg hl (n+2) 400 0 (by omega) (by omega)
   have hE:=eN_le hg 0;by_cases t1:l.length<eN l 0
   ·have k1:decide ((l.length:Int)<(eN l 0:Nat))=true:=dT (by omega)
    simp only[z2,seval,q0,q6,hd.len,gG (aK l.length),aF 98,aJ,hd.fz,Yw,k1,nb,A48];rw[mL,aS t1];rfl
   have k1:decide ((l.length:Int)<(eN l 0:Nat))=false:=dF (by omega)
   by_cases t2:eN l 0<l.length
   ·have k2:decide (((eN l 0:Nat):Int)<l.length)=true:=dT (by omega)
    simp only[z2,seval,q0,q6,hd.len,gG (aK l.length),aF 98,aJ,hd.fz,Yw,k1,k2,nb,A48];rw[mL,aG t1,aS t2];rfl
   have k2:decide (((eN l 0:Nat):Int)<l.length)=false:=dF (by omega)
   have Wx:cl (n+402) 99 [d,.int .i64 0]=some (.int .i64 (dN l 0:Nat),true):=c99 hd hg hl n 400 0 (by omega) (by omega) (by omega)
   by_cases t3:24<dN l 0
   ·have k3:decide ((24:Int)<(dN l 0:Nat))=true:=dT (by omega)
    simp only[z2,seval,q0,q6,hd.len,gG (aK l.length),aF 98,aF 99,aJ,hd.fz,Yw,Wx,k1,k2,k3,nb,A48];rw[mL,aG t1,aG t2,aS t3];rfl
   ·have k3:decide ((24:Int)<(dN l 0:Nat))=false:=dF (by omega)
    simp only[z2,seval,q0,q6,hd.len,gG (aK l.length),aF 98,aF 99,aJ,hd.fz,Yw,Wx,k1,k2,k3,nb,A48];rw[mL,aG t1,aG t2,aG t3];rfl
theorem f121(n j:Nat)(x:Nd)(st:St)(c:Nat):fn n (j+1) (.fn 121) [.agg (bK x)] st c = .ok (.ret (.bool !decide (x.kind=1))) (sadd st c (.fix 57 (bK x))) (c+1):=by
 rw[iG (f:=121) (A:=A121) rfl rfl rfl rfl n j _ _ _ rfl,show A121.body=B121.b from rfl]
 unfold bK;simp only[B121,cI];simp only[z0,seval,nb,A121]
theorem f120(n j:Nat)(hd:Sl 7 bK l d)(hl:l.length<9223372036854775807){st:St}:
  ∃(Hg:St) (c':Nat),fn n (j+4) (.fn 120) [d,.fn (.func 121) [] []] st c = .ok (.ret (.bool !(zG l.length (vG l)))) Hg c'∧c≤c'∧(∀x,x<c→sget Hg x=sget st x)∧∀m,c'≤m→(∀k,c≤k→sget st k=none)→sget Hg m=none:=by
 have Hj:∃(Hg:St) (c':Nat),fn n (j+3) (.fn 165) [d,.fn (.func 121) [] []] st c = .ok (.ret (.int .i64 (scan (fun i=>if vG l i=true then none else some (i:Int)) (-1) l.length 0))) Hg c'∧c≤c'∧(∀x,x<c→sget Hg x=sget st x)∧∀m,c'≤m→(∀k,c≤k→sget st k=none)→sget Hg m=none:=by
  rw[iG (f:=165) (A:=A165) rfl rfl rfl rfl n (j+2) _ _ _ rfl,show A165.body=B165.b from rfl]
  simp only[B165,cI];simp only[z0,↓reduceIte,Nat.reduceEqDiff,Nat.reduceAdd,Nat.reduceLeDiff,reduceCtorEq,hd.len];generalize hz:zloop KK _ _=rl
  refine zrange rl hz l.length (dY hl) hl (fun i t s c'=>tget t 0=d∧tget t 1 = .fn (.func 121) [] []∧c≤c'∧(∀x,x<c→sget s x=sget st x)∧(∀m,c'≤m→(∀k,c≤k→sget st k=none)→sget s m=none)∧∀j,j<i→(if vG l j=true then none else some (j:Int))=none) (by decide) (by simp[aA]) (by simp[aA]) (by simp[aA];exact fun m hm hk=>hk m hm) ?_ ?_
  ·rintro i t s c1 hi ⟨q0,q1,hc,zX,Cc,hn⟩ Ag Ah;have zW:=hd.row hi;have Vp:=numB_lt hi;have Po:=f121 n (j+1) l[i] s c1;cases hb:decide (l[i].kind=1)
   ·rw[hb]at Vp Po;simp only[z2,↓reduceIte,Nat.reduceEqDiff,Nat.reduceAdd,Nat.reduceLeDiff,reduceCtorEq,q0,q1,Ag,Ah,hd.ia hi,zW,wW,cf_fn,Po,nb,A165];refine⟨_,_,by rw[eL hi (aG (by rw[Vp];decide)) hn],by omega,fun x hx=>by rw[aZ,aG (by omega)];exact zX x hx,fun m hm hk=>by rw[aZ,aG (by omega)];exact Cc m (by omega) hk⟩
   ·rw[hb]at Vp Po;simp only[z2,↓reduceIte,Nat.reduceEqDiff,Nat.reduceAdd,Nat.reduceLeDiff,reduceCtorEq,q0,q1,Ag,Ah,hd.ia hi,zW,wW,cf_fn,Po,nb];exact⟨trivial,trivial,trivial,.inr (.inr trivial),by decide,by decide,trivial,trivial,by omega,fun x hx=>by rw[aG (by omega)];exact zX x hx,fun m hm hk=>by rw[aG (by omega)];exact Cc m (by omega) hk,kP hn (aS Vp)⟩
  ·rintro t s c1 ⟨q0,q1,hc,zX,Cc,hn⟩ Ag Ah;simp only[z2,↓reduceIte,Nat.reduceEqDiff,Nat.reduceAdd,Nat.reduceLeDiff,reduceCtorEq,q0,q1,Ag,Ah,A165];exact⟨s,c1,by rw[fL hn],hc,zX,Cc⟩
 obtain⟨Hg,c',h165,hc,zX,Cc⟩:=Hj;refine⟨Hg,c',?_,hc,zX,Cc⟩;rw[iG (f:=120) (A:=A120) rfl rfl rfl rfl n (j+3) _ _ _ rfl,show A120.body=B120.b from rfl]
 simp only[B120,cI];rcases eX (fun i=>if vG l i=true then none else some (i:Int)) (-1) l.length 0 with⟨h1,h2⟩|⟨m,r,_,h2,h3,_,h5⟩
 ·rw[h2]at h165;rw[show zG l.length (vG l)=true from jI.2 fun i hi=>by
   have:=h1 i (by omega) (by omega)
   cases hb:vG l i
   ·rw[hb]at this;cases this
   ·rfl]
  simp only[z2,↓reduceIte,Nat.reduceEqDiff,Nat.reduceAdd,Nat.reduceLeDiff,reduceCtorEq,h165,A120];rfl
 ·rw[h5]at h165;have hb:vG l m=false:=by
   cases hb:vG l m
   ·rfl
   ·rw[hb]at h3;cases h3
  rw[hb]at h3;cases h3;rw[oY (show m<l.length by omega) hb]
  simp only[z2,↓reduceIte,Nat.reduceEqDiff,Nat.reduceAdd,Nat.reduceLeDiff,reduceCtorEq,h165,show decide ((0:Int)≤(m:Int))=true from aH (by omega),A120]
structure GS (L:Nat) (fE fD fK fN:Nat→D) (s:St):Prop where
 b0:sget s 0=some (.fix 135 [.ms 2 0 1 L L,.ms 4 0 1 L L,.ms 6 0 1 L L,.ms 8 0 1 L L])
 be:sget s 2=some (.fix 0 (rg L fE))
 bd:sget s 4=some (.fix 0 (rg L fD))
 bk:sget s 6=some (.fix 0 (rg L fK))
 bn:sget s 8=some (.fix 0 (rg L fN))
theorem GS.add{s':St}(h:GS L fE fD fK fN s)(hs:∀m,m<11→sget s' m=sget s m):GS L fE fD fK fN s':=
 ⟨by rw[hs 0 (by decide)];exact h.b0,by rw[hs 2 (by decide)];exact h.be,by rw[hs 4 (by decide)];exact h.bd,by rw[hs 6 (by decide)];exact h.bk,by rw[hs 8 (by decide)];exact h.bn⟩
theorem GS.setN(h:GS L fE fD fK fN s)(g:Nat→D):GS L fE fD fK g (sset s 8 (.fix 0 (rg L g))):=by
 refine⟨?_,?_,?_,?_,?_⟩<;>rw[aU]<;>simp only[Nat.reduceEqDiff,↓reduceIte]
 ·exact h.b0
 ·exact h.be
 ·exact h.bd
 ·exact h.bk
theorem GS.setE(h:GS L fE fD fK fN s)(g:Nat→D):GS L g fD fK fN (sset s 2 (.fix 0 (rg L g))):=by
 refine⟨?_,?_,?_,?_,?_⟩<;>rw[aU]<;>simp only[Nat.reduceEqDiff,↓reduceIte]
 ·exact h.b0
 ·exact h.bd
 ·exact h.bk
 ·exact h.bn
theorem GS.setD(h:GS L fE fD fK fN s)(g:Nat→D):GS L fE g fK fN (sset s 4 (.fix 0 (rg L g))):=by
 refine⟨?_,?_,?_,?_,?_⟩<;>rw[aU]<;>simp only[Nat.reduceEqDiff,↓reduceIte]
 ·exact h.b0
 ·exact h.be
 ·exact h.bk
 ·exact h.bn
theorem GS.setK(h:GS L fE fD fK fN s)(g:Nat→D):GS L fE fD g fN (sset s 6 (.fix 0 (rg L g))):=by
 refine⟨?_,?_,?_,?_,?_⟩<;>rw[aU]<;>simp only[Nat.reduceEqDiff,↓reduceIte]
 ·exact h.b0
 ·exact h.be
 ·exact h.bd
 ·exact h.bn
def lsB(l:List Nd)(q j:Nat):Bool:=match l[q]? with
 | some x=>decide (x.kind=3)&&decide (q<j∧j≤q+x.kids.toNat)
 | none=>false
def nbB(l:List Nd)(i j:Nat):Bool:=(List.range i).any fun q=>lsB l q j
theorem nbB_succ(l:List Nd)(i j:Nat):nbB l (i+1) j=(nbB l i j||lsB l i j):=by simp[nbB,List.range_succ]
def mX(f:Nat→Bool):Nat→D:=fun j=>.bool (f j)
theorem Y0_ok(n:Nat)(hd:Sl 7 bK l d)(hg:iT l)(hl:l.length≤400)(hS:GS l.length fE fD fK (mX fun _=>false) s)(hc:11≤c)(zX:∀m,c≤m→sget s m=none) 
  (q0:tget t 0=d) (q2:tget t 2 = .ptr 0 0) (q3:tget t 3 = .bool false) (q4:tget t 4 = .int .i64 (l.length:Nat)) :
  ∃t' s' c',zC Y0.b (cxn (n+1)) (fn (n+1) 4096) KK ⟨t,s,c,[],none⟩ = .ok .normal ⟨t',s',c',[],none⟩∧GS l.length fE fD fK (mX (nbB l l.length)) s'∧11≤c'∧(∀m,c'≤m→sget s' m=none)∧tget t' 0=d∧tget t' 2 = .ptr 0 0∧tget t' 3 = .bool false∧tget t' 4 = .int .i64 (l.length:Nat):=by
 simp only[Y0,cI];simp only[z2,seval,q0,hd.len];generalize hz:zloop KK _ _=rl;refine zrange rl hz l.length (dY (by omega)) (by omega) (fun i t s c=>GS l.length fE fD fK (mX (nbB l i)) s∧11≤c∧(∀m,c≤m→sget s m=none)∧tget t 0=d∧tget t 2 = .ptr 0 0∧tget t 3 = .bool false∧tget t 4 = .int .i64 (l.length:Nat)∧tget t 23=d) (by decide) (by simp[aA]) (by simp[aA])
  ⟨hS,hc,zX,by simp[aA,q0],by simp[aA,q2],by simp[aA,q3],by simp[aA,q4],by simp[aA]⟩ ?_ ?_
 ·clear q0 q2 q3 q4 hc zX hS hz;rintro i t s c hi ⟨hS,hc,zX,q0,q2,q3,q4,Od⟩ Ag Ah;have zW:cX (l.map bK).flatten (i*7) (some 7)=some (.agg [.int .i64 l[i].kind,.int .i64 l[i].prim,.int .i64 l[i].kids,.str l[i].name,.str l[i].text,.int .i64 l[i].n,.int .i64 l[i].site]):=hd.row hi;by_cases h3:l[i].kind=3
  ·obtain⟨k0,k4⟩:=(hg.nd i hi).k3 h3;have hls:=hg.ls i hi h3;have w0:bX .i64 ((i:Int)+1)=((i+1:Nat):Int):=gW (by omega)
   have wk:bX .i64 ((i:Int)+l[i].kids)=((i+l[i].kids.toNat:Nat):Int):=by rw[cL (by omega) (by omega)];omega
   have Qk:nbB l (i+1)=fun q=>nbB l i q||decide (i<q∧q≤i+l[i].kids.toNat):=by
    funext j
    rw[nbB_succ,lsB,aI hi];simp[h3]
   have Yq:(mX fun q=>nbB l i q||decide (i<q∧q≤i+0))=mX (nbB l i):=by
    unfold mX;funext q
    simp only[show decide (i<q∧q≤i+0)=false from aE (by omega),Bool.or_false]
   simp only[z2,seval,q0,q2,q3,q4,Od,Ag,Ah,hd.ia hi,zW,aH h3,w0];generalize hz:zloop KK _ _=rl
   refine zwhile rl hz l[i].kids.toNat (dY (by omega)) (fun j z=>∃t s c',z=⟨t,s,c',[],none⟩∧GS l.length fE fD fK (mX fun q=>nbB l i q||decide (i<q∧q≤i+j)) s∧sget s c=some (.fix 57 [.int .i64 l[i].kind,.int .i64 l[i].prim,.int .i64 l[i].kids,.str l[i].name,.str l[i].text,.int .i64 l[i].n,.int .i64 l[i].site])∧c<c'∧(∀m,c'≤m→sget s m=none)∧tget t 0=d∧tget t 2 = .ptr 0 0∧tget t 3 = .bool false∧tget t 4 = .int .i64 (l.length:Nat)∧tget t 23=d∧tget t 24 = .int .i64 (l.length:Nat)∧tget t 25 = .int .i64 (i:Nat)∧tget t 5 = .int .i64 (i:Nat)∧tget t 6 = .ptr c 0∧tget t 7 = .int .i64 ((i+1+j:Nat):Int))
    ⟨_,_,_,rfl,by rw[Yq];exact hS.add fun m hm=>by simp only[aA];grind,by simp[aA],Nat.lt_succ_self c,fun m hm=>by simp only[aA];grind,by simp[aA,q0],by simp[aA,q2],by simp[aA,q3],by simp[aA,q4],by simp[aA,Od],by simp[aA,Ah],by simp[aA,Ag],by simp[aA],by simp[aA],by simp[aA]⟩ ?_
   clear q0 q2 q3 q4 Od Ag Ah hS zX hz;rintro j z hj ⟨t,s,c',rfl,hS,Ma,Bw,zX,q0,q2,q3,q4,Od,Rb,Zm,q5,q6,q7⟩;have Jj:=hS.b0;have hx8:=hS.bn;by_cases Vx:j<l[i].kids.toNat
   ·have Ac:decide (((i+1+j:Nat):Int)≤((i+l[i].kids.toNat:Nat):Int))=true:=dT (by omega)
    have w1:bX .i64 (((i+1+j:Nat):Int)+1)=((i+1+(j+1):Nat):Int):=gW (by omega)
    simp only[z2,seval,q0,q2,q3,q4,Od,Rb,Zm,q5,q6,q7,Ma,Jj,hx8,wk,w1,Ac,ia_ms (show i+1+j<l.length by omega),rg_len,show i+1+j+1≤l.length from by omega]
    have Vk:(rg l.length (mX fun q=>nbB l i q||decide (i<q∧q≤i+j))).set (i+1+j) (.bool true)=rg l.length (mX fun q=>nbB l i q||decide (i<q∧q≤i+(j+1))):=(rg_set _ _ _ _).trans (rg_congr fun q hq=>by
     grind [mX,decide,aH])
    rw[Vk];exact⟨Vx,_,_,_,rfl,hS.setN _,by grind [aU],Bw,fun m hm=>by grind [aU],by simp[aA,q0],by simp[aA,q2],by simp[aA,q3],by simp[aA,q4],by simp[aA,Od],by simp[aA,Rb],by simp[aA,Zm],by simp[aA,q5],by simp[aA,q6],by simp[aA]⟩
   ·have Ac:decide (((i+1+j:Nat):Int)≤((i+l[i].kids.toNat:Nat):Int))=false:=dF (by omega)
    have:j=l[i].kids.toNat:=by omega
    subst this;simp only[z2,seval,q0,q2,q3,q4,Od,Rb,Zm,q5,q6,q7,Ma,Jj,hx8,wk,Ac]
    grind
  ·have Qk:nbB l (i+1)=nbB l i:=by
    funext j
    rw[nbB_succ,lsB,aI hi];simp[h3]
   simp only[z2,seval,q0,q2,q3,q4,Od,Ag,Ah,hd.ia hi,zW,aE h3];rw[Qk];refine⟨trivial,trivial,trivial,.inr (.inr trivial),by decide,by decide,hS.add fun m hm=>?_,by omega,fun m hm=>?_,trivial,trivial,trivial,trivial,trivial⟩
   all_goals grind [aU,aZ]
 ·rintro t s c ⟨hS,hc,zX,q0,q2,q3,q4,Od⟩ Ag Ah;simp only[z2,seval];exact⟨_,_,_,rfl,hS,hc,zX,by simp[aA,q0],by simp[aA,q2],by simp[aA,q3],by simp[aA,q4]⟩
theorem jT.cellsq{α:Type}{w:Nat}{e:α→List D}{B:Nat}{l:List α}(h:jT w e B s q l):q.cells?=some [q]:=by
 rcases h with⟨rfl,rfl⟩|⟨m,_,rfl,_,rfl⟩|⟨m,ty,_,rfl,_,_⟩<;>rfl
def eF(l:List Nd)(i j:Nat):D:=if i≤j then .int .i64 (gE l j:Nat) else .int .i64 0
def dFn(l:List Nd)(i j:Nat):D:=if i≤j then .int .i64 (gD l j:Nat) else .int .i64 0
def upF(f:Nat→D)(i:Nat)(v:D)(j:Nat):D:=if j=i then v else f j
theorem rg_upd(n i:Nat)(f:Nat→D)(v w:D):(rg n (upF f i v)).set i w=rg n (upF f i w):=
 (rg_set _ _ _ _).trans (rg_congr fun j _=>by grind [upF])
theorem app_at{B:Nat}{nm C:Nat}{dd:List (D×List D)}{r:Option Nat}{L:List Nat}{ty Kj:Nat}{b:D}{A:Option (D×AS)}(hA:iS ⟨t,sadd s nm (.fix Kj [b]),C,dd,r⟩ 1 8 ty q (.ms nm 0 1 1 1)=A)(hb:b = .int .i64 (k:Nat))(hO:jT 1 gU B s q L)(hL:L.length<4294967295)(hc:B≤c)(hn:c≤nm)(hC:nm<C)(zX:∀m,c≤m→sget s m=none):
  ∃q' s' c',A=some (q',⟨t,s',c',dd,r⟩)∧jT 1 gU B s' q' (L++[k])∧C≤c'∧(∀m,m<B→sget s' m=sget s m)∧∀m,c'≤m→sget s' m=none:=by
 subst hb;subst hA;obtain⟨q',s',c',h1,h2,h3,h4,h5⟩:=lR kU (B:=B) (l:=L) (l':=[k]) (sz:=8) (ty:=ty) (by decide) (x:=⟨t,sadd s nm (.fix Kj [.int .i64 (k:Nat)]),C,dd,r⟩) (q:=q) (b:=.ms nm 0 1 1 1) rfl
  (hO.keep fun m b _ hb=>by simp only[aA];grind) (by simp only[cP,aA,↓reduceIte];rfl) (by grind) (by grind)
  (fun m hm=>by simp only at hm;simp only[aA];grind)
 exact⟨q',s',c',h1,h2,h3,fun m hm=>by rw[h4 m hm];simp only[aA];grind,h5⟩
theorem YB_ok(n:Nat)(hl:l.length≤400){at_ Ec c0:Nat}{Kc:List Nat} 
  (hS:GS l.length (eF l (i+1)) (upF (dFn l (i+1)) i (.int .i64 (Ec:Nat))) (upF fK i q) fN s) (hO:jT 1 gU c0 s q Kc) (Cr:11≤c0) (Fe:c0≤c) (zX:∀m,c≤m→sget s m=none) (hi:i<at_) (Ku:at_<l.length) (hK:Kc.length≤4) (hcur:Ec≤1000)
  (q0:tget t 0=d) (q2:tget t 2 = .ptr 0 0) (q4:tget t 4 = .int .i64 (l.length:Nat)) (q8:tget t 8 = .int .i64 (i:Nat)) (q9:tget t 9 = .int .i64 (at_:Nat)) :
  ∃t' s' c' q',zC YB.b (cxn (n+1)) (fn (n+1) 4096) KK ⟨t,s,c,[],none⟩ = .ok .normal ⟨t',s',c',[],none⟩∧GS l.length (eF l (i+1)) (upF (dFn l (i+1)) i (.int .i64 (max Ec (gD l at_):Nat))) (upF fK i q') fN s'∧jT 1 gU c0 s' q' (Kc++[at_])∧c≤c'∧(∀m,c'≤m→sget s' m=none)∧(∀m,11≤m→m<c0→sget s' m=sget s m) ∧
   tget t' 9 = .int .i64 (gE l at_:Nat)∧∀k,k=0∨k=2∨k=3∨k=4∨k=8∨k=82∨k=83→tget t' k=tget t k:=by
 simp only[YB,cI];have hge:decide ((l.length:Int)≤(at_:Nat))=false:=dF (by omega)
 have x0:=hS.b0;have x2:=hS.be;have x4:=hS.bd;have x6:=hS.bk;have Dl:∀m,c≤m→sget s m=none:=zX
 have gK0:(rg l.length (upF fK i q))[i]?=some q:=by rw[wB (by omega)];unfold upF;rw[aS rfl]
 simp only[z2,seval,q0,q2,q4,q8,q9,hge,nb,dR,cN,AOp.kd,zop,tks,bP,dL,dC,x0,x2,x4,x6,ia_ms (show i<l.length by omega),ia_ms Ku,gK0,Dl (c+9) (by omega),cB]
 generalize hA:iS _ 1 8 4 _ _=A;obtain⟨q',s',c',rfl,hO',Bw,Gr,Dn⟩:=app_at (B:=c0) (k:=at_) hA rfl hO (by omega) Fe (by omega) (by simp_all) zX
 clear hA;simp only[aO,aX]at Bw;have Eu:GS l.length (eF l (i+1)) (upF (dFn l (i+1)) i (.int .i64 (Ec:Nat))) (upF fK i q) fN s':=hS.add fun m hm=>Gr m (by omega)
 have y0:=Eu.b0;have y2:=Eu.be;have y4:=Eu.bd;have y6:=Eu.bk;have z4:(rg l.length (upF (dFn l (i+1)) i (.int .i64 (Ec:Nat))))[i]?=some (.int .i64 (Ec:Nat)):=by rw[wB (by omega)];unfold upF;rw[aS rfl]
 have z4':(rg l.length (upF (dFn l (i+1)) i (.int .i64 (Ec:Nat))))[at_]?=some (.int .i64 (gD l at_:Nat)):=by rw[wB Ku];unfold upF dFn;rw[aG (by omega),aS (by omega)]
 have Zh:(rg l.length (eF l (i+1)))[at_]?=some (.int .i64 (gE l at_:Nat)):=by rw[wB Ku];unfold eF;rw[aS (by omega)]
 simp only[z2,seval,q0,q2,q4,q8,q9,hge,nb,dR,cN,AOp.kd,zop,tks,bP,dL,dC,x0,x2,x4,x6,y0,y2,y4,y6,ia_ms (show i<l.length by omega),ia_ms Ku,gK0,hO'.cellsq,hO'.nag,rg_len,show i+1≤l.length from by omega,rg_upd,z4,z4',Zh,step_mm]
 have hmx:(if((gD l at_:Nat):Int)>(Ec:Nat) then((gD l at_:Nat):Int) else(Ec:Int))=((max Ec (gD l at_):Nat):Int):=by omega
 rw[hmx];refine⟨_,_,_,q',rfl,(Eu.setK _).setD _,hO'.keep fun m b hm hb=>?_,by omega,fun m hm=>?_,fun m h1 h2=>?_,by simp[aA],?_⟩
 ·grind [aU]
 ·grind [aU,aO,aX]
 ·grind [aU]
 ·rintro k (rfl|rfl|rfl|rfl|rfl|rfl|rfl)<;>simp[aA]
theorem YB_no(n:Nat){at_:Nat}(hL:L≤400)(Ku:L≤at_)(q4:tget t 4 = .int .i64 (L:Nat))(q9:tget t 9 = .int .i64 (at_:Nat)):
  ∃t',zC YB.b (cxn (n+1)) (fn (n+1) 4096) KK ⟨t,s,c,[],none⟩ = .ok (.exit 12) ⟨t',s,c,[],none⟩∧tget t' 3 = .bool true∧∀k,k=0∨k=2∨k=4∨k=8∨k=9→tget t' k=tget t k:=by
 simp only[YB,cI];have hge:decide ((L:Int)≤(at_:Nat))=true:=dT (by omega)
 simp only[z2,seval,q4,q9,hge];refine⟨_,rfl,by simp[aA],?_⟩
 rintro k (rfl|rfl|rfl|rfl|rfl)<;>simp[aA]
theorem YN_ok(n:Nat)(hg:iT l)(hl:l.length≤400){c0:Nat}(hi:i<l.length){b0:Bool}{m:Nat}(hm:fO l[i]=(m:Int))(Ow:m=1∨m=2) 
  (hS:GS l.length (eF l (i+1)) (upF (dFn l (i+1)) i (.int .i64 ((0:Nat):Int))) (upF fK i .nils) fN s) (Cr:11≤c0) (Fe:c0≤c) (zX:∀m,c≤m→sget s m=none)
  (q0:tget t 0=d) (q2:tget t 2 = .ptr 0 0) (q3:tget t 3 = .bool b0) (q4:tget t 4 = .int .i64 (l.length:Nat)) (q8:tget t 8 = .int .i64 (i:Nat)) (q9:tget t 9 = .int .i64 ((i+1:Nat):Int)) (Uq:tget t 82 = .int .i64 (m:Nat)) (Uo:tget t 83 = .int .i64 0) :
  ∃t' s' c' q' b,lL 12 (zC YN (cxn (n+1)) (fn (n+1) 4096) KK ⟨t,s,c,[],none⟩) = .ok .normal ⟨t',s',c',[],none⟩∧GS l.length (eF l (i+1)) (upF (dFn l (i+1)) i (.int .i64 ((gD l i-1:Nat):Int))) (upF fK i q') fN s'∧jT 1 gU c0 s' q' (gK l i)∧c≤c'∧(∀m,c'≤m→sget s' m=none)∧(∀m,11≤m→m<c0→sget s' m=sget s m) ∧
   tget t' 9 = .int .i64 (gE l i:Nat)∧tget t' 3 = .bool b∧∀k,k=0∨k=2∨k=4∨k=8→tget t' k=tget t k:=by
 have n3:¬l[i].kind=3:=by
  intro k;unfold fO at hm;rw[aG (by omega)]at hm;omega
 have hE:=gE_eq hg hi;rw[aG n3]at hE;have hK:=gK_eq hi;have hD:=gD_eq hi;simp only[YN,Ab.abq];by_cases h1:i+1<l.length
 ·obtain⟨t1,s1,c1,qq1,r1,Hd,hO1,Dt,Fw,Ax,e9,hk1⟩:=YB_ok n hl (d:=d) (t:=tput t 84 (.bool true)) hS (.inl ⟨rfl,rfl⟩) Cr Fe zX (show i<i+1 by omega) h1 (by simp) (by decide) (by simp[aA,q0]) (by simp[aA,q2]) (by simp[aA,q4]) (by simp[aA,q8]) (by simp[aA,q9])
  have f0:tget t1 0=d:=by rw[hk1 0 (.inl rfl)];simp[aA,q0]
  have f2:tget t1 2 = .ptr 0 0:=by rw[hk1 2 (by simp)];simp[aA,q2]
  have f3:tget t1 3 = .bool b0:=by rw[hk1 3 (by simp)];simp[aA,q3]
  have f4:tget t1 4 = .int .i64 (l.length:Nat):=by rw[hk1 4 (by simp)];simp[aA,q4]
  have f8:tget t1 8 = .int .i64 (i:Nat):=by rw[hk1 8 (by simp)];simp[aA,q8]
  have f82:tget t1 82 = .int .i64 (m:Nat):=by rw[hk1 82 (by simp)];simp[aA,Uq]
  have f83:tget t1 83 = .int .i64 0:=by rw[hk1 83 (by simp)];simp[aA,Uo]
  clear hk1;rcases Ow with rfl|rfl
  ·have Ei:fO l[i]=1:=hm;rw[aS Ei,aS h1]at hE hK;rw[hK]at hD;simp only[z2,seval,zun,Uq,Uo,r1,f82,f83,show((1:Nat):Int)=1 from rfl,show bX .i64 1=1 from rfl]
   refine⟨_,_,_,qq1,b0,rfl,?_,by rw[hK];exact hO1,Dt,Fw,Ax,?_,?_,?_⟩
   ·rw[hD];exact Hd
   ·simp[aA,e9,hE]
   ·simp[aA,f3]
   ·rintro k (rfl|rfl|rfl|rfl)<;>simp[aA,f0,f2,f4,f8,q0,q2,q4,q8]
  ·have Ei:fO l[i]=2:=hm;rw[Ei,aG (by decide),aS rfl,aS h1]at hE hK
   by_cases h2:gE l (i+1)<l.length
   ·rw[aS h2]at hE hK;rw[hK]at hD;have Ac:=gD_le l.length (i+1) h1 (by omega)
    obtain⟨t2,s2,c2,qq2,r2,Bu,hO2,El,hfr2,Az,e92,Bn⟩:=YB_ok n hl (d:=d) (t:=tput (tput (tput t1 120 (.int .i64 1)) 83 (.int .i64 1)) 84 (.bool true)) Hd hO1 Cr (by omega) Fw (by have:=gE_gt h1;omega) h2 (by simp) (by omega) (by simp[aA,f0]) (by simp[aA,f2]) (by simp[aA,f4]) (by simp[aA,f8]) (by simp[aA,e9])
    have k0:tget t2 0=d:=by rw[Bn 0 (.inl rfl)];simp[aA,f0]
    have k2:tget t2 2 = .ptr 0 0:=by rw[Bn 2 (by simp)];simp[aA,f2]
    have k3:tget t2 3 = .bool b0:=by rw[Bn 3 (by simp)];simp[aA,f3]
    have k4:tget t2 4 = .int .i64 (l.length:Nat):=by rw[Bn 4 (by simp)];simp[aA,f4]
    have k8:tget t2 8 = .int .i64 (i:Nat):=by rw[Bn 8 (by simp)];simp[aA,f8]
    have k82:tget t2 82 = .int .i64 ((2:Nat):Int):=by rw[Bn 82 (by simp)];simp[aA,f82]
    have k83:tget t2 83 = .int .i64 1:=by rw[Bn 83 (by simp)];simp[aA]
    simp only[z2,seval,zun,Uq,Uo,r1,f82,f83,r2,k82,k83,show((2:Nat):Int)=2 from rfl,show bX .i64 1=1 from rfl,show bX .i64 2=2 from rfl]
    refine⟨_,_,_,qq2,b0,rfl,?_,by rw[hK];exact hO2,by omega,hfr2,fun m h1 h2=>(Az m h1 h2).trans (Ax m h1 h2),?_,?_,?_⟩
    ·rw[hD];exact Bu
    ·simp[aA,e92,hE]
    ·simp[aA,k3]
    ·rintro k (rfl|rfl|rfl|rfl)<;>simp[aA,k0,k2,k4,k8,q0,q2,q4,q8]
   ·rw[aG h2]at hE hK;rw[hK]at hD;obtain⟨t2,r2,e3,Bn⟩:=YB_no n (t:=tput (tput (tput t1 120 (.int .i64 1)) 83 (.int .i64 1)) 84 (.bool true)) (s:=s1) (c:=c1) hl (at_:=gE l (i+1)) (by omega) (by simp[aA,f4]) (by simp[aA,e9])
    simp only[z2,seval,zun,Uq,Uo,r1,f82,f83,r2,show((2:Nat):Int)=2 from rfl,show bX .i64 1=1 from rfl,show bX .i64 2=2 from rfl]
    refine⟨_,_,_,qq1,true,rfl,?_,by rw[hK];exact hO1,by omega,Fw,Ax,?_,e3,?_⟩
    ·rw[hD];exact Hd
    ·rw[Bn 9 (by simp)];simp[aA,e9,hE]
    ·rintro k (rfl|rfl|rfl|rfl)
     ·rw[Bn 0 (by simp)];simp[aA,f0,q0]
     ·rw[Bn 2 (by simp)];simp[aA,f2,q2]
     ·rw[Bn 4 (by simp)];simp[aA,f4,q4]
     ·rw[Bn 8 (by simp)];simp[aA,f8,q8]
 ·obtain⟨t2,r2,e3,Bn⟩:=YB_no n (t:=tput t 84 (.bool true)) (s:=s) (c:=c) hl (at_:=i+1) (by omega) (by simp[aA,q4]) (by simp[aA,q9])
  have hE':gE l i=i+1:=by
   rw[hE];rcases Ow with rfl|rfl
   ·rw[aS (show fO l[i]=1 from hm),aG h1]
   ·rw[show fO l[i]=2 from hm,aG (by decide),aS rfl,aG h1]
  have Fg:gK l i=[]:=by
   rw[hK];rcases Ow with rfl|rfl
   ·rw[aS (show fO l[i]=1 from hm),aG h1]
   ·rw[show fO l[i]=2 from hm,aG (by decide),aS rfl,aG h1]
  rw[Fg]at hD;have zQ:decide ((0:Int)<(m:Nat))=true:=dT (by omega)
  simp only[z2,seval,zun,Uq,Uo,r2,zQ];refine⟨_,_,_,.nils,true,rfl,?_,by rw[Fg];exact .inl ⟨rfl,rfl⟩,aK _,zX,fun _ _ _=>rfl,?_,e3,?_⟩
  ·rw[hD];exact hS
  ·rw[Bn 9 (by simp)];simp[aA,q9,hE']
  ·rintro k (rfl|rfl|rfl|rfl)
   ·rw[Bn 0 (by simp)];simp[aA]
   ·rw[Bn 2 (by simp)];simp[aA]
   ·rw[Bn 4 (by simp)];simp[aA]
   ·rw[Bn 8 (by simp)];simp[aA]
end
end Zv
