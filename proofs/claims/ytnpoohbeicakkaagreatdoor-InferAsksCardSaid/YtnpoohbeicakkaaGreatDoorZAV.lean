/- What functions come to: Check of an environment by the program, whole. Conditions: none. -/
import Derived.Test.YtnpoohbeicakkaaGreatDoorZAU
set_option linter.unusedVariables false
set_option linter.unusedSimpArgs false
set_option maxRecDepth 100000
namespace Zv
open Go
noncomputable section
variable {d e v f m q:D} {vs:List Vr} {fs:List Fd} {t:Tm} {s S s':St} {c i c' nm low pc ec ty k:Nat} {ss:List (List UInt8)} {us:List Nat} {l:List Nd}
theorem W22_ok(n:Nat)(hE:mZ vs fs v f)(hI:I22 d e v f (vs.map Vr.name) t s c):
  Out22 (n+12) (zC W22.b (cxn (n+12)) (fn (n+12) 4096) KK ⟨t,s,c,D22,none⟩) (scan (dfP vs fs) 0 fs.length 0):=by
 rw[W22_eq];simp only[z2,seval,hI.q1,hI.s0,hE.f.len];generalize hz:zloop KK _ _=rl;refine zrange rl hz fs.length (dY hE.fl) hE.fl (fun i t s c=>I22 d e v f (vs.map Vr.name++(fs.take i).map Fd.name) t s c∧tget t 53=f∧∀j,j<i→dfP vs fs j=none) (by decide) (by simp[aA]) (by simp[aA])
  ⟨by rw[cC,dU,dG];exact hI.tmp (aK _) (by simp[aA]) (by simp[aA]) (by simp[aA]),by simp[aA],nofun⟩ ?_ ?_
 ·clear hI hz;rintro i t s c zQ ⟨hI,Xy,hn⟩ Ag Ah;have zW:=hE.f.row zQ;have Av:=hE.fo _ (bQ zQ);have zX:=fun s c h4 h3=>fresh_ok (n+3) 4094 (nm:=fs[i].name) Av.nm (L:=vs.map Vr.name++(fs.take i).map Fd.name) (s:=s) (c:=c) h4 h3
  have Fk:fs[i]?=some fs[i]:=aI zQ;have zZ:=nR Fd.name zQ;have hP:dfP vs fs i=if lC fs[i].name (vs.map Vr.name++(fs.take i).map Fd.name)=0 then(if defE fs[i]=0 then none else some (defE fs[i])) else some (lC fs[i].name (vs.map Vr.name++(fs.take i).map Fd.name)):=by rw[dfP,Fk]
  have zY:∀a b c:D,cX [a,b,c] 0 (some 3)=some (.agg [a,b,c]):=fun _ _ _=>rfl
  have Jn:=Av.p.nag;have Iu:=Av.b.nag;rw[zZ,←List.append_assoc];generalize hN:lC fs[i].name (vs.map Vr.name++(fs.take i).map Fd.name)=en at *;generalize hL:vs.map Vr.name++(fs.take i).map Fd.name=L at *;have hh:=hI.hc;have f0:(0=c)=False:=aL (by omega)
  have f1:(1=c)=False:=aL (by omega)
  have f2:(2=c)=False:=aL (by omega)
  have f3:(3=c)=False:=aL (by omega)
  have f4:(4=c)=False:=aL (by omega)
  have g3:(c=3)=False:=aL (by omega)
  by_cases h0:en=0
  ·subst h0;simp only[if_true]at zX hP;simp only[z2,seval,hI.q1,hI.q2,hI.q5,Xy,Ag,Ah,hE.f.ia zQ,zW,fdC,hI.s0,f0,f1,f2,f3,f4,g3,hI.s3,hI.s4,Jn,Iu,jB,cK,dG,cA,zX,zY,nb];generalize hT:tput (tput _ 61 _) 62 _=T
   obtain⟨t',s',c',r1,r2,r3⟩:=X22_ok n Av (t:=T) (hI.next fs[i].name (.fix 79 [.str [],.nils,.nils]) (.fix 79 [.str fs[i].name,fs[i].pd,fs[i].bd]) (t':=T) (by rw[←hT];simp[aA]) (by rw[←hT];simp[aA]) (by rw[←hT];simp[aA])) (k:=c) (by rw[←hT];simp[aA]) (by simp only[aA];grind)
   rw[r1];have k53:tget t' 53=f:=by rw[r3 53 (.inl rfl),←hT];simp[aA,Xy]
   have k54:tget t' 54 = .int .i64 (fs.length:Nat):=by rw[r3 54 (.inr (.inl rfl)),←hT];simp[aA,Ah]
   have k55:tget t' 55 = .int .i64 (i:Nat):=by rw[r3 55 (.inr (.inr rfl)),←hT];simp[aA,Ag]
   by_cases h1:defE fs[i]=0
   ·rw[aS h1]at hP ⊢;simp only[fU,↓reduceIte,go1];exact⟨trivial,trivial,k55,.inr (.inr k54),nofun,nofun,r2.tmp (aK _) (by simp[aA]) (by simp[aA]) (by simp[aA]),by omega,kP hn hP⟩
   ·rw[aG h1]at hP ⊢;simp only[fU,↓reduceIte,go1];rw[eL zQ hP hn];exact r2.pan (n+12) _ rfl rfl rfl (aK _) r2.hf
  ·simp only[aG h0]at zX hP;simp only[z2,seval,hI.q1,hI.q2,hI.q5,Xy,Ag,Ah,hE.f.ia zQ,zW,fdC,hI.s0,f0,f1,f2,f3,f4,g3,hI.s3,hI.s4,Jn,Iu,jB,cK,dG,cA,zX,zY,nb];rw[eL zQ hP hn]
   exact hI.pan (n+12) en (by simp[aA]) (by simp[aA,f1]) (by simp[aA,f2]) (Nat.le_succ _) fun m hm=>by rw[aU,aG (by omega),aZ,aG (by omega)];exact hI.hf m (by omega)
 ·rintro t s c ⟨hI,Xy,hn⟩ Ag Ah;rw[fL hn];simp only[z2,seval,hI.q2,hI.s1];exact end22_ret (n+12) 0 (k:=41) (by simp[aA]) (by simp[aA,hI.q2])
theorem c22e(n:Nat)(hd:Sl 1 fM ss d)(he:Sl 1 u8C us e)(hu:fY us)(hs:oZ ss){x er:Int}(hC:CHK ss us=e2 x er)(h0:er≠0)(hE:mZ vs fs v f):cl (n+12) 22 [.agg [d,e,v,f]]=some (.int .i64 er,true):=by
 rw[uG 22 A22 B22,B22];have En:=c59 (n+6) hd he hu hs;rw[hC]at En;have zY:cX [d,e,v,f] 0 (some 2)=some (.agg [d,e]):=rfl;have hm:∀s c,fn (n+12) 4096 (.fn 41) [.int .i64 0,.int .i64 er] s c = .ok (.pan (jL 0 er)) s c:=fun s c=>by grind [fS]
 simp only[z2,seval,hd.nag,he.nag,hE.v.nag,hE.f.nag,jB,zY,aF 59,aJ,hd.fz,he.fz,En,dV,hm];exact end22_pan (n+12) er er 0 (k:=41) (k':=4) (by simp[aA]) (by simp[aA]) (fun m hm=>by simp only[aA,dX];grind) (by decide) (by simp[aA])
theorem c22(n:Nat)(hd:Sl 1 fM ss d)(he:Sl 1 u8C us e)(hu:fY us)(hs:oZ ss)(hC:CHK ss us=e2 0 0)(hE:mZ vs fs v f):cl (n+12) 22 [.agg [d,e,v,f]]=some (.int .i64 (envE us vs fs),true):=by
 rw[uG 22 A22 B22,B22];have En:=c59 (n+6) hd he hu hs;rw[hC]at En;have zY:cX [d,e,v,f] 0 (some 2)=some (.agg [d,e]):=rfl;unfold envE;by_cases h32:32<vs.length
 ·have k1:decide ((32:Int)<vs.length)=true:=dT (by omega)
  rw[aS (.inl h32)];simp only[z2,seval,hd.nag,he.nag,hE.v.nag,hE.f.nag,hE.v.len,hE.f.len,k1,jB,zY,aF 59,aJ,hd.fz,he.fz,En,dV,fS,nb];exact end22_ret (n+12) 3 (k:=41) (by simp[aA]) (by simp[aA])
 have k1:decide ((32:Int)<vs.length)=false:=dF (by omega)
 by_cases De:16<fs.length
 ·have k2:decide ((16:Int)<fs.length)=true:=dT (by omega)
  rw[aS (.inr De)];simp only[z2,seval,hd.nag,he.nag,hE.v.nag,hE.f.nag,hE.v.len,hE.f.len,k1,k2,jB,zY,aF 59,aJ,hd.fz,he.fz,En,dV,fS,nb];exact end22_ret (n+12) 3 (k:=41) (by simp[aA]) (by simp[aA])
 have k2:decide ((16:Int)<fs.length)=false:=dF (by omega)
 rw[aG (by omega)]
 simp only[z2,seval,hd.nag,he.nag,hE.v.nag,hE.f.nag,hE.v.len,hE.f.len,k1,k2,jB,zY,aF 59,aJ,hd.fz,he.fz,En,dV,fS,bS,dU,show D.nilm.cells?=some [.nilm]from rfl,show eG (.mp 3)=false from rfl,show fJ [D.nilm] 0 [D.mp 3]=[.mp 3]from rfl,nb]
 refine U22_ok n hd he hu hs hC hE (fun h=>W22_ok n hE h) ⟨?_,?_,?_,?_,?_,by decide,fun m hm=>by
  have e:∀k,k<5→(m=k)=False:=fun k hk=>aL (by omega)
  simp only[aA,dX,e 0 (by decide),e 1 (by decide),e 2 (by decide),e 3 (by decide),e 4 (by decide),iV],?_,?_,?_⟩
 all_goals simp[aA]
 all_goals rfl
def ty0:List D:=[.int .i64 0,.int .i64 0,.int .i64 0,.int .i64 0,.int .i64 0]
def ofP(vs:List Vr)(s:List UInt8)(i:Nat):Option D:=match vs[i]? with|some x=>if x.name=s then some (.tup [.agg (tyC x.ty),.int .i64 0]) else none|none=>none
def ofD(vs:List Vr)(s:List UInt8):D:=scan (ofP vs s) (.tup [.agg ty0,.int .i64 24]) vs.length 0
theorem var_ty(hv:Sl 6 vrC vs v)(zQ:i<vs.length):cX (vs.map vrC).flatten (i*6+1) (some 5)=some (.agg (tyC vs[i].ty)):=by
 have hb:=jE.ble hv (i:=i) (by grind)
 have h2:=jE.tk hv (i:=i) (by grind)
 rw[List.getElem_map]at h2;simp only[cX];rw[bO (by omega),bG]
 have:((vs.map vrC).flatten.drop (i*6+1)).take 5=(((vs.map vrC).flatten.drop (i*6)).take 6).drop 1:=by rw[List.drop_take,List.drop_drop]
 rw[this,h2];rfl
theorem c58(n:Nat)(hv:Sl 6 vrC vs v)(hl:vs.length<9223372036854775807)(hd:eG d=false)(he:eG e=false)(hf:eG f=false)(s:List UInt8):cl n 58 [.agg [d,e,v,f],.str s]=some (ofD vs s,true):=by
 rw[kG 58 A58 B58,B58];simp only[z2,seval,hd,he,hv.nag,hf];generalize hz:zloop KK _ _=rl;refine zfor rl hz vs.length (dY hl) hl (fun i t st c=>sget st 0=some (.fix 30 [d,e,v,f])∧sget st 1=some (.fix 37 ty0)∧tget t 1 = .str s∧tget t 2 = .ptr 0 0∧tget t 4 = .ptr 1 0∧∀j,j<i→ofP vs s j=none) (by simp[aA]) (by simp[aA,ty0]) ?_
 rintro i t st c hi ⟨s0,s1,q1,q2,q4,hn⟩ q6;by_cases zQ:i<vs.length
 ·have g0:=hv.cell zQ (show 0<6 by omega)
  have zY:=var_ty hv zQ;simp only[tyC]at zY;by_cases e:vs[i].name=s
  ·have hp:ofP vs s i=some (.tup [.agg (tyC vs[i].ty),.int .i64 0]):=by rw[ofP,aI zQ];exact aS e
   unfold ofD;simp only[z2,seval,s0,s1,ty0,q1,q2,q4,q6,hv.len,dH zQ,hv.ia zQ,vrC,g0,aH e,zY,nb,A58];rw[eL zQ hp hn];rfl
  ·have hp:ofP vs s i=none:=by rw[ofP,aI zQ];exact aG e
   simp only[z2,seval,s0,s1,ty0,q1,q2,q4,q6,hv.len,dH zQ,hv.ia zQ,vrC,g0,aE e,nb]
   grind
 ·have e1:i=vs.length:=by omega
  subst e1;unfold ofD;rw[fL hn];simp only[z2,seval,s0,s1,ty0,q1,q2,q4,q6,hv.len,gG (aK vs.length),A58];rfl
theorem f105(n j:Nat)(x:Vr){s:List UInt8}(s0:sget S 0=some (.fix 10 [.str s]))(hc:1≤c):fn n (j+1) (.fn 105) [.agg (vrC x),.ptr 0 0] S c = .ok (.ret (.bool (decide (x.name=s)))) (sadd S c (.fix 55 (vrC x))) (c+1):=by
 rw[iG (f:=105) (A:=A105) rfl rfl rfl rfl n j _ _ _ rfl,show A105.body=B105.b from rfl]
 unfold vrC tyC;simp only[B105,cI];have f0:(0=c)=False:=aL (by omega)
 simp only[z2,seval,s0,f0,nb,A105]
def ixP(vs:List Vr)(s:List UInt8)(i:Nat):Option Int:=match vs[i]? with|some x=>if x.name=s then some (i:Int) else none|none=>none
theorem f104(n j:Nat)(hv:Sl 6 vrC vs v)(hl:vs.length<9223372036854775807){s:List UInt8}(s0:sget S 0=some (.fix 10 [.str s]))(hc:1≤c):
  ∃s' c',fn n (j+2) (.fn 104) [v,.fn (.func 105) [] [.ptr 0 0]] S c = .ok (.ret (.int .i64 (scan (ixP vs s) (-1) vs.length 0))) s' c'∧c≤c'∧∀m,m<c→sget s' m=sget S m:=by
 rw[iG (f:=104) (A:=A104) rfl rfl rfl rfl n (j+1) _ _ _ rfl,show A104.body=B104.b from rfl]
 simp only[B104,cI];simp only[z2,seval,hv.len];generalize hz:zloop KK _ _=rl;refine zrange rl hz vs.length (dY hl) hl (fun i t s' c'=>(c≤c'∧∀m,m<c→sget s' m=sget S m)∧tget t 0=v∧tget t 1 = .fn (.func 105) [] [.ptr 0 0]∧∀k,k<i→ixP vs s k=none) (by decide) (by simp[aA]) (by simp[aA]) ⟨⟨aK _,fun _ _=>rfl⟩,by simp[aA],by simp[aA],nofun⟩ ?_ ?_
 ·rintro i t s' c' hi ⟨⟨hK,hk⟩,q0,q1,hn⟩ Ag Ah;have zW:=hv.row hi;have Xj:=f105 n j vs[i] (S:=s') (c:=c') (by rw[hk 0 (by omega)];exact s0) (by omega)
  have Fg:∀b,c≤c'+1∧∀m,m<c→sget (sadd s' c' b) m=sget S m:=fun b=>⟨by omega,fun m hm=>by grind [aZ]⟩
  by_cases e:vs[i].name=s
  ·have hp:ixP vs s i=some (i:Int):=by rw[ixP,aI hi];exact aS e
   simp only[z2,seval,q0,q1,Ag,Ah,hv.ia hi,zW,jB,cK,dG,cA,Xj,aH e,nb,A104];rw[eL hi hp hn]
   grind
  ·have hp:ixP vs s i=none:=by rw[ixP,aI hi];exact aG e
   simp only[z2,seval,q0,q1,Ag,Ah,hv.ia hi,zW,jB,cK,dG,cA,Xj,aE e,nb]
   grind
 ·rintro t s' c' ⟨hK,q0,q1,hn⟩ Ag Ah;simp only[z2,seval,q0,q1,Ag,Ah,A104];rw[fL hn]
  grind
theorem c57(n:Nat)(hv:Sl 6 vrC vs v)(hl:vs.length<9223372036854775807)(s:List UInt8):cl n 57 [v,.str s]=some (ofD vs s,true):=by
 rw[kG 57 A57 B57,B57];obtain⟨s',c',h104,hc,hk⟩:=f104 n 4094 hv hl (s:=s) (S:=sadd (sadd st0 0 (.fix 10 [.str s])) 1 (.fix 37 ty0)) (c:=2) (by simp[aA]) (by decide)
 have k1:sget s' 1=some (.fix 37 ty0):=by rw[hk 1 (by decide)];simp[aA]
 unfold ty0 at *;rcases eX (ixP vs s) (-1) vs.length 0 with⟨h1,h2⟩|⟨m,r,_,hm,h3,h4,h5⟩
 ·rw[h2]at h104;simp only[z2,seval,bS,dU,h104,k1,nb,A57];have:ofD vs s = .tup [.agg ty0,.int .i64 24]:=fL fun j hj=>by
   grind [ixP,aI,ofP]
  rw[this];rfl
 ·have Ei:m<vs.length:=by omega
  rw[h5]at h104;rw[ixP,aI Ei]at h3;simp only at h3;split at h3
  case isFalse=>cases h3
  rename_i Mf;cases h3;have zY:=var_ty hv Ei;simp only[tyC]at zY;have zQ:decide (((m:Nat):Int)<0)=false:=dF (by omega)
  simp only[z2,seval,bS,dU,h104,k1,zQ,hv.ia Ei,zY,nb,A57];have:ofD vs s = .tup [.agg (tyC vs[m].ty),.int .i64 0]:=eL Ei (by grind [ofP,aI]) fun j hj=>by
   grind [ixP,aI,ofP]
  rw[this];rfl
theorem Aft.addAt(h:Aft s c s' c'){C:Nat}(h1:c'≤nm)(h2:nm<C)(b:Blk):Aft s c (sadd s' nm b) C:=⟨by have:=h.le;omega,fun m hm=>by rw[aZ,aG (by have:=h.le;omega)];exact h.old m hm,fun m hm=>by rw[aZ,aG (by omega)];exact h.free m (by omega)⟩
set_option maxHeartbeats 1000000 in
theorem f86(n j:Nat){lk:Int}{K:Nat}(hK:sget s K=some (.fix ty (lrC d e low pc ec lk m v f q)))(Al:K<c)(zX:∀m,c≤m→sget s m=none) 
  {vs:List Vr} {w:D} (La:eG v=false) (hv:∀s2,(∀m,m<c→sget s2 m=sget s m)→∀k,frz false (k+2) s2 v=some w) (hw:Sl 6 vrC vs w) (hl:vs.length<9223372036854775807) (x:Nd) {a1 a2 a3 a4 a5 er:Int} (hof:ofD vs x.name = .tup [.agg [.int .i64 a1,.int .i64 a2,.int .i64 a3,.int .i64 a4,.int .i64 a5],.int .i64 er]) :
  ∃s' c',fn (n+1) (j+3) (.fn 86) [.ptr K 0,.agg (bK x)] s c=(if er=0 then .ok (.ret (.agg [.int .i64 a1,.int .i64 a2,.int .i64 a3,.int .i64 a4,.int .i64 a5])) s' c' else .ok (.pan (jL x.site er)) s' c')∧Aft s c s' c':=by
 rw[iG (A:=A86) rfl rfl rfl rfl (n+1) (j+2) _ s c rfl,show A86.body=B86.b from rfl]
 simp only[B86,cI];have h57:=c57 n hw hl x.name;rw[hof]at h57;unfold lrC at hK;have k0:(K=c)=False:=aL (by omega)
 have k1:(K=c+1)=False:=aL (by omega)
 have k2:(c=c+1)=False:=aL (by omega)
 have k3:(c+1=c)=False:=aL (by omega)
 have n0:sget s (c+1+1+10)=none:=zX _ (by omega)
 have n1:(c+11=c)=False:=aL (by omega)
 have n2:(c+1+1+10=c)=False:=aL (by omega)
 have n3:(c+1+1+10=c+1)=False:=aL (by omega)
 have n4:(c+1=c+1+1+10)=False:=aL (by omega)
 have n5:(c=c+1+1+10)=False:=aL (by omega)
 have n6:(c=c+11)=False:=aL (by omega)
 have n7:(K=c+1+1+10)=False:=aL (by omega)
 have hA:=((Aft.refl zX).add (.fix 57 (bK x))).add (.fix 37 [.int .i64 0,.int .i64 0,.int .i64 0,.int .i64 0,.int .i64 0]);have hf:=hv _ hA.old 18;unfold bK at hf;by_cases h0:er=0
 ·subst h0;simp only[z0,seval,hK,La,n0,n1,n2,n3,n4,n5,n6,n7,cB,k0,k1,k2,k3,dR,cN,AOp.kd,zop,tks,bP,dL,dC,dP,aO,aX,bK,hf,aF 57,aJ,h57,fS,A86];exact⟨_,_,rfl,(((hA.addAt (c:=c) (nm:=c+1+1+10) (C:=c+1+1+13) (by omega) (by omega) _).set (by omega) (by omega) _).set (by omega) (by omega) _)⟩
 ·simp only[z0,seval,hK,La,n0,n1,n2,n3,n4,n5,n6,n7,cB,k0,k1,k2,k3,dR,cN,AOp.kd,zop,tks,bP,dL,dC,dP,aO,aX,bK,hf,aF 57,aJ,h57,fS,aG h0,A86];exact⟨_,_,rfl,((hA.addAt (c:=c) (nm:=c+1+1+10) (C:=c+1+1+13) (by omega) (by omega) _).set (by omega) (by omega) _)⟩
theorem Aft.setK(h:Aft s c s' c'){K:Nat}(hK:K<c)(b:Blk):Aft (sset s K b) c (sset s' K b) c':=⟨h.le,fun m hm=>by rw[aU,aU,h.old m hm],fun m hm=>by rw[aU,aG (by have:=h.le;omega)];exact h.free m hm⟩
theorem Aft.mono{C:Nat}(h:Aft s c s' c')(hC:c'≤C):Aft s c s' C:=⟨fZ h.le hC,h.old,fun m hm=>h.free m (fZ hC hm)⟩
set_option maxHeartbeats 2000000 in
theorem f87e(n j:Nat)(h:Lt ss us d e){lk:Int}{w:D}{K:Nat}(hK:sget s K=some (.fix ty (lrC d e low pc ec lk m v f q)))(Al:K<c)(zX:∀m,c≤m→sget s m=none) 
  (Jl:eG q=false) (hq:∀s2,(∀m,m<c→sget s2 m=sget s m)→∀k,frz false (k+2) s2 q=some w) (x:Nd) {k r p1 q1 z1 w1 c1 er:Int}
  (Nu:cl (n+12) 126 [.agg [d,e],.int .i64 x.prim,w]=some (.tup [.agg [.int .i64 k,.int .i64 r,.int .i64 p1,.int .i64 q1,.int .i64 z1,.int .i64 w1,.int .i64 c1],.int .i64 er],true)) (her:er≠0) :
  ∃s' c',fn (n+13) (j+3) (.fn 87) [.ptr K 0,.agg (bK x)] s c = .ok (.pan (jL x.site er)) s' c'∧Aft s c s' c':=by
 rw[iG (A:=A87) rfl rfl rfl rfl (n+13) (j+2) _ s c rfl,show A87.body=B87.b from rfl]
 simp only[B87,cI];unfold lrC at hK;have k0:(K=c)=False:=aL (by omega)
 have k1:(K=c+1)=False:=aL (by omega)
 have k2:(c=c+1)=False:=aL (by omega)
 have k3:(c+1=c)=False:=aL (by omega)
 have n0:sget s (c+1+1+14)=none:=zX _ (by omega)
 have n1:(c+15=c)=False:=aL (by omega)
 have n2:(c+1+1+14=c)=False:=aL (by omega)
 have n3:(c+1+1+14=c+1)=False:=aL (by omega)
 have n4:(c+1=c+1+1+14)=False:=aL (by omega)
 have n5:(c=c+1+1+14)=False:=aL (by omega)
 have n6:(c=c+15)=False:=aL (by omega)
 have n7:(K=c+1+1+14)=False:=aL (by omega)
 have hA:=((Aft.refl zX).add (.fix 57 (bK x))).add (.fix 37 [.int .i64 0,.int .i64 0,.int .i64 0,.int .i64 0,.int .i64 0]);have hf:=hq _ hA.old 18;unfold bK at hf
 simp only[z0,seval,hK,Jl,h.d.nag,h.e.nag,n0,n1,n2,n3,n4,n5,n6,n7,cB,k0,k1,k2,k3,dR,cN,AOp.kd,zop,tks,bP,dL,dC,dP,aO,aX,bK,hf,h.d.fz,h.e.fz,aF 126,aJ,Nu,fS,aG her,A87];refine⟨_,_,rfl,?_⟩;exact((hA.addAt (c:=c) (nm:=c+1+1+14) (C:=c+1+1+17) (by omega) (by omega) _).set (by omega) (by omega) _)
set_option maxHeartbeats 2000000 in
theorem f87(n j:Nat)(h:Lt ss us d e){lk:Int}{w:D}{K:Nat}(hK:sget s K=some (.fix ty (lrC d e low pc ec lk m v f q)))(Al:K<c)(zX:∀m,c≤m→sget s m=none) 
  (Jl:eG q=false) (hq:∀s2,(∀m,m<c→sget s2 m=sget s m)→∀k,frz false (k+2) s2 q=some w) (x:Nd) {k r p1 q1 z1:Int} {w1 c1:Nat} (hp:pc<us.length) (Hb:ec<us.length) (Ka:w1<us.length) (Dt:c1<us.length)
  (Nu:cl (n+12) 126 [.agg [d,e],.int .i64 x.prim,w]=some (.tup [.agg [.int .i64 k,.int .i64 r,.int .i64 p1,.int .i64 q1,.int .i64 z1,.int .i64 (w1:Nat),.int .i64 (c1:Nat)],.int .i64 0],true)) :
  ∃s' c',fn (n+13) (j+3) (.fn 87) [.ptr K 0,.agg (bK x)] s c=(if tyE us (gY us) ⟨k,r,p1,q1,z1⟩=0 then .ok (.ret (.agg [.int .i64 k,.int .i64 r,.int .i64 p1,.int .i64 q1,.int .i64 z1])) s' c' else .ok (.pan (jL x.site (tyE us (gY us) ⟨k,r,p1,q1,z1⟩))) s' c') ∧
   (tyE us (gY us) ⟨k,r,p1,q1,z1⟩=0→Aft (sset s K (.fix ty (lrC d e low pc (afN us ec w1 c1) lk m v f q))) c s' c') ∧
   (¬tyE us (gY us) ⟨k,r,p1,q1,z1⟩=0→Aft (sset s K (.fix ty (lrC d e low pc 0 lk m v f q))) c s' c'):=by
 rw[iG (A:=A87) rfl rfl rfl rfl (n+13) (j+2) _ s c rfl,show A87.body=B87.b from rfl]
 simp only[B87,cI];unfold lrC at hK;have k0:(K=c)=False:=aL (by omega)
 have k1:(K=c+1)=False:=aL (by omega)
 have k2:(c=c+1)=False:=aL (by omega)
 have k3:(c+1=c)=False:=aL (by omega)
 have n0:sget s (c+1+1+14)=none:=zX _ (by omega)
 have n1:(c+15=c)=False:=aL (by omega)
 have n2:(c+1+1+14=c)=False:=aL (by omega)
 have n3:(c+1+1+14=c+1)=False:=aL (by omega)
 have n4:(c+1=c+1+1+14)=False:=aL (by omega)
 have n5:(c=c+1+1+14)=False:=aL (by omega)
 have n6:(c=c+15)=False:=aL (by omega)
 have n7:(K=c+1+1+14)=False:=aL (by omega)
 have hA:=((Aft.refl zX).add (.fix 57 (bK x))).add (.fix 37 [.int .i64 0,.int .i64 0,.int .i64 0,.int .i64 0,.int .i64 0]);have hf:=hq _ hA.old 18;unfold bK at hf;have n8:(c+1+1+14=K)=False:=aL (by omega)
 have n9:(c+1=K)=False:=aL (by omega)
 have na:(c=K)=False:=aL (by omega)
 have Pm:=c127 (n+2) h ⟨k,r,p1,q1,z1⟩ Hb Ka Dt;by_cases hE:tyE us (gY us) ⟨k,r,p1,q1,z1⟩=0
 ·rw[aS hE]at Pm;simp only[hE];simp only[z0,seval,hK,Jl,h.d.nag,h.e.nag,n0,n1,n2,n3,n4,n5,n6,n7,cB,k0,k1,k2,k3,dR,cN,AOp.kd,zop,tks,bP,dL,dC,dP,aO,aX,bK,hf,h.d.fz,h.e.fz,aF 126,aJ,Nu,fS,aF 127,Pm,n8,n9,na,e2,A87]
  exact⟨_,_,rfl,fun _=>(((((hA.addAt (c:=c) (nm:=c+1+1+14) (C:=c+1+1+17) (by omega) (by omega) _).set (by omega) (by omega) _).setK Al _).mono (by omega)).set (by omega) (by omega) _),fun h=>absurd trivial h⟩
 ·rw[aG hE]at Pm;simp only[z0,seval,hK,Jl,h.d.nag,h.e.nag,n0,n1,n2,n3,n4,n5,n6,n7,cB,k0,k1,k2,k3,dR,cN,AOp.kd,zop,tks,bP,dL,dC,dP,aO,aX,bK,hf,h.d.fz,h.e.fz,aF 126,aJ,Nu,fS,aF 127,Pm,n8,n9,na,e2,aG hE,A87]
  refine⟨_,_,rfl,fun h=>absurd h hE,fun _=>((((hA.addAt (c:=c) (nm:=c+1+1+14) (C:=c+1+1+17) (by omega) (by omega) _).set (by omega) (by omega) _).setK Al _).mono ?_)⟩
  grind
theorem cf_yl(cx:Cx)(k:CL)(dst:Option Nat)(x:AS)(nm:Nat)(l:List D):lY cx k dst x (.yl nm) l=back dst x (k (.yl nm) l x.s x.c):=rfl
theorem fn_yl(n j nm:Nat)(l:List D)(s:St)(c:Nat):fn n (j+1) (.yl nm) l s c=zRound (cxn n) (fn n j) KK nm l s c:=rfl
theorem zrf_n(cx:Cx)(cl:CL)(k:Nat)(f:Arg)(ps:List Nat)(a b:AC)(t:Tm)(s:St)(c:Nat)(d:List (D×List D)):
  zC (.rfn f ps a b) cx cl k ⟨t,s,c,d,none⟩=zbind (lY cx cl none ⟨t,sadd (sadd s c .dfd) (c+1) (.lp .ready none t ps a b),c+2,(.it c,[])::d,none⟩ (f.ev cx.G t) [.yl (c+1)]) (mK (c+1)):=rfl
theorem zrf_s(cx:Cx)(cl:CL)(k:Nat)(f:Arg)(ps:List Nat)(a b:AC)(t:Tm)(s:St)(c:Nat)(d:List (D×List D))(l0:Nat){st:LoopState}{p:Option (Option Nat)}{t':Tm}{Ln:List Nat}{a' b':AC}(h:sget s l0=some (.lp st p t' Ln a' b')):
  zC (.rfn f ps a b) cx cl k ⟨t,s,c,d,some l0⟩=zbind (lY cx cl none ⟨t,sadd s c (.lp .ready none t ps a b),c+1,d,some l0⟩ (f.ev cx.G t) [.yl c]) (mK c):=by
 grind [zc_rfn,zC]
theorem zrf_e{y:AS}{ps:List Nat}{a b:AC}(h:sget y.s nm=some (.lp .ready none t ps a b)):mK nm y = .ok .normal ⟨y.t,sset y.s nm (.lp .exhausted none t ps a b),y.c,y.d,y.r⟩:=by
 grind [mK]
theorem zround{cx:Cx}{cl:CL}{args:List D}{s2:St}{c2:Nat}{t1 t2:Tm}{ps:List Nat}{a b:AC}{dd:List (D×List D)}{rr:Option Nat}(hs:sget s nm=some (.lp .ready none t ps a b))(hl:Nat.beq args.length ps.length=true) 
  (ha:zC a cx cl k ⟨oQ ps args t,s,c,[],some nm⟩ = .ok .normal ⟨t1,s,c,[],some nm⟩) (hb:zC b cx cl k ⟨t1,sset s nm (.lp .busy none t ps a b),c,[],some nm⟩ = .ok .normal ⟨t2,s2,c2,dd,rr⟩) (h2:sget s2 nm=some (.lp .busy none t ps a b)) :
  zRound cx cl k nm args s c = .ok (.ret (.bool true)) (sset s2 nm (.lp .ready none t ps a b)) c2:=by
 grind [zRound,cB]
def kA(s:St)(c:Nat):Prop:=∀m,c≤m→sget s m=none
structure Exn (O:Nat→Prop) (s:St) (c:Nat) (O':Nat→Prop) (s':St) (c':Nat):Prop where
 le:c≤c'
 own:∀m,O' m→O m∨c≤m
 old:∀m,m<c→¬O m→sget s' m=sget s m
theorem Exn.trans{O O' O2:Nat→Prop}{s2:St}{c2:Nat}(h:Exn O s c O' s' c')(g:Exn O' s' c' O2 s2 c2):Exn O s c O2 s2 c2:=
 ⟨fZ h.le g.le,fun m hm=>(g.own m hm).elim (h.own m) fun hc=>.inr (fZ h.le hc),fun m hm hn=>by
  rw[g.old m (bY hm h.le) (fun ho=>(h.own m ho).elim hn (by omega)),h.old m hm hn]⟩
structure YS (n nm J:Nat) (W:List Nat) (Q:List Nat→(Nat→Prop)→St→Nat→Prop):Prop where
 step:∀j acc O s c (i:Nat),J≤j→Q acc O s c→(acc++[i]) <+: W→∃O' s' c',fn n j (.yl nm) [.int .i64 (i:Nat)] s c = .ok (.ret (.bool true)) s' c'∧Q (acc++[i]) O' s' c'∧Exn O s c O' s' c'
 keep:∀acc O s c s' c',Q acc O s c→c≤c'→(∀m,O m→sget s' m=sget s m)→kA s' c'→Q acc O s' c'
 lt:∀acc O s c,Q acc O s c→∀m,O m→m<c
 free:∀acc O s c,Q acc O s c→kA s c
theorem f170(n j:Nat)(hq:q.cells?=some [q])(s:St)(c:Nat):fn n (j+1) (.fn 170) [q] s c = .ok (.ret (.fn (.func 231) [] [.ptr c 0])) (sadd s c (.fix 64 [q])) (c+1):=by
 rw[iG (A:=A170) rfl rfl rfl rfl n j _ s c rfl,show A170.body=B170.b from rfl]
 simp only[B170,cI];simp only[z0,seval,hq,bS,dU,A170]
theorem f132(n j:Nat)(T:List D)(i:Nat)(s:St)(c:Nat):fn n (j+1) (.fn 132) [.agg T,.int .i64 (i:Nat)] s c = .ok (.ret (.fn (.func 169) [] [.ptr c 0,.ptr (c+1) 0])) (sadd (sadd s c (.fix 135 T)) (c+1) (.fix 4 [.int .i64 (i:Nat)])) (c+1+1):=by
 rw[iG (A:=A132) rfl rfl rfl rfl n j _ s c rfl,show A132.body=B132.b from rfl]
 simp only[B132,cI];simp only[z0,seval,bS,dU,A132]
theorem f231(n j:Nat){ks:List Nat}(hq:Sl 1 gU ks q)(hl:ks.length≤2){Kb:Nat}(I:Nat→St→Nat→Prop)(hK:∀i s c,I i s c→sget s Kb=some (.fix 64 [q])) 
  (hs:∀i s c (h:i<ks.length),I (i+1) s c→∃s' c',fn n j (.yl nm) [.int .i64 (i:Nat),.int .i64 (ks[i]:Nat)] s c = .ok (.ret (.bool true)) s' c'∧I i s' c') {s:St} {c:Nat} (h0:I ks.length s c) :
  ∃s' c',fn n (j+1) (.fn 231) [.yl nm,.ptr Kb 0] s c = .ok (.ret (.tup [])) s' c'∧I 0 s' c':=by
 rw[iG (A:=A231) rfl rfl rfl rfl n j _ s c rfl,show A231.body=B231.b from rfl]
 simp only[B231,cI];have Nx:=hK _ _ _ h0
 match ks,hl with
 | [],_=>
  refine⟨s,c,?_,h0⟩;simp only[z0,↓reduceIte,Nat.reduceEqDiff,Nat.reduceAdd,Nat.reduceLeDiff,reduceCtorEq,Nx,hq.len,show bX .i64 ((([]:List Nat).length:Nat)-1:Int) = -1 from rfl,zun,show decide ((0:Int)≤-1)=false from rfl,A231]
 | [a],_=>
  obtain⟨s1,c1,h1,i1⟩:=hs 0 s c (by simp) h0
  refine⟨s1,c1,?_,i1⟩;have ia:=hq.ia1 (i:=0) (show 0<[a].length by simp) (k:=.i64)
  have at1:=hq.at1 (i:=0) (show 0<[a].length by simp)
  rw[show((0:Nat):Int)=0 from rfl]at ia
  replace h1:fn n j (.yl nm) [.int .i64 0,.int .i64 (a:Nat)] s c=_:=h1
  simp only[z0,↓reduceIte,Nat.reduceEqDiff,Nat.reduceAdd,Nat.reduceLeDiff,reduceCtorEq,Nx,hq.len,show bX .i64 ((([a]:List Nat).length:Nat)-1:Int)=0 from rfl,zun,show decide ((0:Int)≤0)=true from rfl,ia,at1,gU,wW,cf_yl,h1,show bX .i64 (0-1) = -1 from rfl,show decide ((0:Int)≤-1)=false from rfl,A231,List.getElem_cons_zero]
 | [a,b],_=>
  obtain⟨s1,c1,h1,i1⟩:=hs 1 s c (by simp) h0
  obtain⟨s2,c2,h2,i2⟩:=hs 0 s1 c1 (by simp) i1
  refine⟨s2,c2,?_,i2⟩;have hk1:=hK _ _ _ i1;have ia:=hq.ia1 (i:=0) (show 0<[a,b].length by simp) (k:=.i64)
  have at1:=hq.at1 (i:=0) (show 0<[a,b].length by simp)
  have ia':=hq.ia1 (i:=1) (show 1<[a,b].length by simp) (k:=.i64)
  have at1':=hq.at1 (i:=1) (show 1<[a,b].length by simp)
  rw[show((0:Nat):Int)=0 from rfl]at ia
  rw[show((1:Nat):Int)=1 from rfl]at ia'
  replace h1:fn n j (.yl nm) [.int .i64 1,.int .i64 (b:Nat)] s c=_:=h1;replace h2:fn n j (.yl nm) [.int .i64 0,.int .i64 (a:Nat)] s1 c1=_:=h2
  simp only[z0,↓reduceIte,Nat.reduceEqDiff,Nat.reduceAdd,Nat.reduceLeDiff,reduceCtorEq,Nx,hk1,hq.len,show bX .i64 ((([a,b]:List Nat).length:Nat)-1:Int)=1 from rfl,zun,show decide ((0:Int)≤0)=true from rfl,show decide ((0:Int)≤1)=true from rfl,ia,at1,ia',at1',gU,wW,cf_yl,h1,h2,show bX .i64 (1-1)=0 from rfl,show bX .i64 (0-1) = -1 from rfl,show decide ((0:Int)≤-1)=false from rfl,A231,List.getElem_cons_zero,List.getElem_cons_succ]
def evN(l:List Nd):Nat→Nat→List Nat
 | 0,_=>[]
 | f+1,i=>(gK l i).reverse.flatMap (evN l f)++[i]
theorem zend_it(df:Nat→List D→eU→St→Nat→DR){np:Nat}{b:AC}{r:Option Nat}(h:sget s nm=some .dfd):zbody df ⟨np,b,[]⟩ (.ok .normal ⟨t,s,c,[(.it nm,[])],r⟩) = .ok (.ret (.tup [])) (sdel s nm) c:=by
 show pU df ⟨np,b,[]⟩ none ⟨t,s,c,[(.it nm,[])],r⟩=_;unfold pU;simp only[zDs,h];rfl
def Q2(Q:List Nat→(Nat→Prop)→St→Nat→Prop)(nm nm2 Ky:Nat)(t2:Tm)(acc:List Nat)(O2:Nat→Prop)(s:St)(c:Nat):Prop:=
 ∃O,Q acc O s c∧(∀m,O2 m↔O m∨m=nm2∨m=Ky)∧sget s nm2=some (.lp .ready none t2 [18] E6.b F6.b)∧sget s Ky=some (.fix 123 [.yl nm])∧nm2<c∧Ky<c∧¬O nm2∧¬O Ky
theorem ys_nest{n nm2 Ky J:Nat}{W:List Nat}{Q:List Nat→(Nat→Prop)→St→Nat→Prop}(h:YS n nm J W Q){t2:Tm}(h3:tget t2 3 = .ptr Ky 0)(An:Ky≠nm2):YS n nm2 (J+1) W (Q2 Q nm nm2 Ky t2) where
 step:=by
  rintro j acc O2 s c i hj ⟨O,hQ,hO,s2,sk,l2,lk,n2,nk⟩ hW;obtain⟨j,rfl⟩:∃j',j=j'+1:=⟨j-1,by omega⟩
  obtain⟨sb,Ee⟩:∃sb,sb=sset s nm2 (.lp .busy none t2 [18] E6.b F6.b):=⟨_,rfl⟩
  have gb:∀m,sget sb m=if m=nm2 then some (.lp .busy none t2 [18] E6.b F6.b) else sget s m:=fun m=>by rw[Ee,aU]
  have hQb:=h.keep _ _ _ _ sb c hQ (aK _) (fun m hm=>by rw[gb,aG (by rintro rfl;exact n2 hm)]) (fun m hm=>by rw[gb,aG (by omega)];exact h.free _ _ _ _ hQ m hm)
  obtain⟨O',s',c',h1,Ug,hE⟩:=h.step j _ _ _ _ i (by omega) hQb hW
  have Ac:=hE.le;have Eh:¬O' nm2:=fun ho=>(hE.own _ ho).elim n2 (by omega)
  have hnk:¬O' Ky:=fun ho=>(hE.own _ ho).elim nk (by omega)
  have e2:sget s' nm2=some (.lp .busy none t2 [18] E6.b F6.b):=by rw[hE.old _ l2 n2,gb,aS rfl]
  have ek:sget s' Ky=some (.fix 123 [.yl nm]):=by rw[hE.old _ lk nk,gb,aG An,sk]
  have hkb:sget sb Ky=some (.fix 123 [.yl nm]):=by rw[gb,aG An,sk]
  refine⟨fun m=>O' m∨m=nm2∨m=Ky,sset s' nm2 (.lp .ready none t2 [18] E6.b F6.b),c',?_,⟨O',h.keep _ _ _ _ _ _ Ug (aK _) (fun m hm=>by rw[aU,aG (by rintro rfl;exact Eh hm)]) (fun m hm=>by rw[aU,aG (by omega)];exact h.free _ _ _ _ Ug m hm),fun m=>Iff.rfl,by rw[aU,aS rfl],by rw[aU,aG An,ek],by omega,by omega,Eh,hnk⟩,⟨Ac,?_,?_⟩⟩
  ·rw[fn_yl];refine zround s2 rfl (t1:=tput (tput t2 18 (.int .i64 (i:Nat))) 6 (.int .i64 (i:Nat))) (dd:=[]) (rr:=some nm2) ?_ (t2:=tput (tput (tput (tput (tput (tput t2 18 (.int .i64 (i:Nat))) 6 (.int .i64 (i:Nat))) 19 (.yl nm)) 20 (.int .i64 (i:Nat))) 21 (.bool true)) 22 (.bool false)) ?_ e2
   ·simp only[E6,cI];simp only[z0,seval,oQ]
   ·rw[←Ee];simp only[F6,cI];simp only[z0,seval,h3,hkb,wW,cf_yl,h1]
  ·rintro m (hm|rfl|rfl)
   ·exact(hE.own m hm).imp (fun ho=>(hO m).2 (.inl ho)) id
   ·exact .inl ((hO _).2 (.inr (.inl rfl)))
   ·exact .inl ((hO _).2 (.inr (.inr rfl)))
  ·intro m hm hn;have Ij:¬O m∧m≠nm2∧m≠Ky:=⟨fun ho=>hn ((hO m).2 (.inl ho)),fun e=>hn ((hO m).2 (.inr (.inl e))),fun e=>hn ((hO m).2 (.inr (.inr e)))⟩
   rw[aU,aG Ij.2.1,hE.old m hm Ij.1,gb,aG Ij.2.1]
 keep:=by
  rintro acc O2 s c s' c' ⟨O,hQ,hO,s2,sk,l2,lk,n2,nk⟩ hc hs hf;exact⟨O,h.keep _ _ _ _ _ _ hQ hc (fun m hm=>hs m ((hO m).2 (.inl hm))) hf,hO,by rw[hs _ ((hO _).2 (.inr (.inl rfl))),s2],by rw[hs _ ((hO _).2 (.inr (.inr rfl))),sk],by omega,by omega,n2,nk⟩
 lt:=by
  rintro acc O2 s c ⟨O,hQ,hO,s2,sk,l2,lk,n2,nk⟩ m hm;rcases(hO m).1 hm with h1|rfl|rfl
  ·exact h.lt _ _ _ _ hQ m h1
  ·exact l2
  ·exact lk
 free:=by
  rintro acc O2 s c ⟨O,hQ,hO,s2,sk,l2,lk,n2,nk⟩;exact h.free _ _ _ _ hQ
def evK(l:List Nd)(f:Nat)(ks:List Nat):List Nat:=ks.reverse.flatMap (evN l f)
theorem evK_drop(l:List Nd)(f:Nat){ks:List Nat}(h:k<ks.length):evK l f (ks.drop k)=evK l f (ks.drop (k+1))++evN l f ks[k]:=by
 grind [evK,List.drop_eq_getElem_cons,List.reverse_cons,List.flatMap_singleton]
theorem evK_pre(l:List Nd)(f:Nat)(ks:List Nat)(k:Nat):evK l f (ks.drop k) <+: evK l f ks:=by
 refine⟨evK l f (ks.take k),?_⟩
 grind [evK,List.reverse_append,List.take_append_drop]
theorem gK_two(l:List Nd)(i:Nat):(gK l i).length≤2:=by
 grind [gK]
set_option maxHeartbeats 1000000 in
theorem f169(n:Nat){l:List Nd}{a0 a1 a3:D}{fR:Nat→D}(Ud:∀j,j<l.length→Sl 1 gU (gK l j) (fR j)){W:List Nat}:
  ∀(f i:Nat),i<l.length→l.length≤f+i→∀(nm J:Nat) (Q:List Nat→(Nat→Prop)→St→Nat→Prop),YS n nm J W Q→∀(acc:List Nat) (O:Nat→Prop) (s:St) (c K2 K3 j:Nat),J+4*f≤j→Q acc O s c→(acc++evN l f i) <+: W→¬O K2→¬O K3→K2<c→K3<c →
   sget s K2=some (.fix 135 [a0,a1,.sl true l.length (rg l.length fR),a3])→sget s K3=some (.fix 4 [.int .i64 (i:Nat)]) →
   ∃O' s' c',fn n (j+1) (.fn 169) [.yl nm,.ptr K2 0,.ptr K3 0] s c = .ok (.ret (.tup [])) s' c'∧Q (acc++evN l f i) O' s' c'∧Exn O s c O' s' c'
 | 0,i,hi,hf=>by omega
 | f+1,i,hi,hf=>by
  intro nm J Q h acc O s c K2 K3 j hj hQ hW n2 n3 l2 l3 s2 s3;obtain⟨j3,rfl⟩:∃j3,j=j3+3:=⟨j-3,by omega⟩
  rw[iG (A:=A169) rfl rfl rfl rfl n (j3+3) _ s c rfl,show A169.body=B169 from rfl,B169]
  have hq:=Ud i hi;have zQ:=h.lt _ _ _ _ hQ;have zX:=h.free _ _ _ _ hQ;have Bn:=gK_two l i;have hkin:∀k∈gK l i,i<k∧k<l.length:=fun k hk=>gK_in hk
  have Pc:evN l (f+1) i=evK l f (gK l i)++[i]:=rfl;rw[Pc]at hW ⊢;generalize gK l i=ks at *;obtain⟨q,hqe⟩:∃q,q=fR i:=⟨_,rfl⟩
  rw[←hqe]at hq;obtain⟨t1,ht1⟩:∃t1,t1=tput (tput (tput (tput (tput (tput (tput (tput (tput (tput tm0 0 (.yl nm)) 1 (.ptr K2 0)) 2 (.ptr K3 0)) 3 (.ptr c 0)) 7 (.ptr K2 2)) 8 (.sl true l.length (rg l.length fR))) 9 (.int .i64 (i:Nat))) 10 (.iptr (rg l.length fR) i)) 11 q) 12 (.fn (.func 231) [] [.ptr (c+1) 0]):=⟨_,rfl⟩
  obtain⟨s4,hs4⟩:∃s4,s4=sadd (sadd (sadd (sadd s c (.fix 123 [.yl nm])) (c+1) (.fix 64 [q])) (c+1+1) .dfd) (c+1+1+1) (.lp .ready none t1 [13,14] E5.b F2):=⟨_,rfl⟩
  have g4:∀m,sget s4 m=if m=c+1+1+1 then some (.lp .ready none t1 [13,14] E5.b F2) else if m=c+1+1 then some .dfd else if m=c+1 then some (.fix 64 [q]) else if m=c then some (.fix 123 [.yl nm]) else sget s m:=fun m=>by grind [aZ]
  have o4:∀m,m<c→sget s4 m=sget s m:=fun m hm=>by rw[g4,aG (by omega),aG (by omega),aG (by omega),aG (by omega)]
  have nO:∀m,c≤m→¬O m:=fun m hm ho=>by grind
  have hQ4:Q acc O s4 (c+4):=h.keep _ _ _ _ _ _ hQ (by omega) (fun m hm=>o4 m (zQ m hm)) (fun m hm=>by rw[g4,aG (by omega),aG (by omega),aG (by omega),aG (by omega)];exact zX m (by omega))
  have ia:iJ 1 (.sl true l.length (rg l.length fR)) (.int .i64 (i:Nat))=some (.iptr (rg l.length fR) i):=by
   simp only[iJ,fB hi,bR,dS]
  have zW:(rg l.length fR)[i]?=some q:=by rw[wB hi,hqe]
  obtain⟨s5,c5,h5,O5,hQ5,hE5⟩:=f231 n (j3+2) hq Bn (nm:=c+1+1+1) (Kb:=c+1) (fun k s' c'=>∃O',Q (acc++evK l f (ks.drop k)) O' s' c'∧Exn O s4 (c+4) O' s' c')
   (by
    rintro k s' c' ⟨O',_,hE⟩;rw[hE.old (c+1) (by omega) (nO _ (by omega)),g4,aG (by omega),aG (by omega),aS rfl])
   (by
    rintro k s' c' hk ⟨O',Ug,hE⟩;have Ac:=hE.le;have Gm:=h.lt _ _ _ _ Ug;have Dn:=h.free _ _ _ _ Ug;have keep':∀m,m<c+4→¬O m→sget s' m=sget s4 m:=hE.old
    have e1:sget s' (c+1+1+1)=some (.lp .ready none t1 [13,14] E5.b F2):=by grind
    have e0:sget s' c=some (.fix 123 [.yl nm]):=by grind
    have eK:sget s' K2=some (.fix 135 [a0,a1,.sl true l.length (rg l.length fR),a3]):=by grind
    have Zq:∀m,m<c+4→¬O m→¬O' m:=fun m hm hn ho=>(hE.own m ho).elim hn (by omega)
    obtain⟨t2,ht2⟩:∃t2,t2=tput (tput (tput (tput (tput (tput t1 13 (.int .i64 (k:Nat))) 14 (.int .i64 (ks[k]:Nat))) 5 (.int .i64 (ks[k]:Nat))) 15 (.agg [a0,a1,.sl true l.length (rg l.length fR),a3])) 16 (.int .i64 (ks[k]:Nat))) 17 (.fn (.func 169) [] [.ptr c' 0,.ptr (c'+1) 0]):=⟨_,rfl⟩
    have h3:tget t2 3 = .ptr c 0:=by rw[ht2,ht1];simp[aA]
    have t1x:tget t1 1 = .ptr K2 0:=by rw[ht1];simp[aA]
    obtain⟨sb,Ee⟩:∃sb,sb=sset s' (c+1+1+1) (.lp .busy none t1 [13,14] E5.b F2):=⟨_,rfl⟩
    have gb:∀m,sget sb m=if m=c+1+1+1 then some (.lp .busy none t1 [13,14] E5.b F2) else sget s' m:=fun m=>by rw[Ee,aU]
    obtain⟨sx,hsx⟩:∃sx,sx=sadd (sadd (sadd sb c' (.fix 135 [a0,a1,.sl true l.length (rg l.length fR),a3])) (c'+1) (.fix 4 [.int .i64 (ks[k]:Nat)])) (c'+1+1) (.lp .ready none t2 [18] E6.b F6.b):=⟨_,rfl⟩
    have gx:∀m,sget sx m=if m=c'+1+1 then some (.lp .ready none t2 [18] E6.b F6.b) else if m=c'+1 then some (.fix 4 [.int .i64 (ks[k]:Nat)]) else if m=c' then some (.fix 135 [a0,a1,.sl true l.length (rg l.length fR),a3]) else sget sb m:=fun m=>by grind [aZ]
    have ox:∀m,m<c'→m≠c+1+1+1→sget sx m=sget s' m:=fun m hm hn=>by grind
    have nO1:=Zq (c+1+1+1) (by omega) (nO _ (by omega))
    have nO0:=Zq c (by omega) (nO _ (by omega))
    have hQx:Q (acc++evK l f (ks.drop (k+1))) O' sx (c'+1+1+1):=h.keep _ _ _ _ _ _ Ug (by omega) (fun m hm=>ox m (Gm m hm) (by grind)) (fun m hm=>by rw[gx,aG (by omega),aG (by omega),aG (by omega),gb,aG (by omega)];exact Dn m (by omega))
    have hki:=hkin _ (bQ hk);obtain⟨O6,s6,c6,h6,⟨O7,hQ7,hO7,z1,z2,z3,z4,z5,z6⟩,hE6⟩:=f169 n Ud f ks[k] hki.2 (by omega) (c'+1+1) (J+1) _ (ys_nest h h3 (Ky:=c) (nm2:=c'+1+1) (by omega)) (acc++evK l f (ks.drop (k+1))) (fun m=>O' m∨m=c'+1+1∨m=c) sx (c'+1+1+1) c' (c'+1) j3 (by omega)
     ⟨O',hQx,fun m=>Iff.rfl,by grind,by grind,by omega,by omega,fun ho=>by grind,nO0⟩
     (by rw[List.append_assoc,←evK_drop l f hk];exact((List.prefix_append_right_inj acc).2 ((evK_pre l f ks k).trans (List.prefix_append _ _))).trans hW)
     (by grind) (by grind) (by omega) (by omega) (by rw[gx,aG (by omega),aG (by omega),aS rfl]) (by grind)
    have Vv:=hE6.le;have nO7:∀m,O7 m→O' m∨c'≤m:=fun m hm=>by
     rcases hE6.own m ((hO7 m).2 (.inl hm)) with(ho|rfl|rfl)|ho
     ·exact .inl ho
     ·exact .inr (by omega)
     ·exact absurd hm z6
     ·exact .inr (by omega)
    have e6:sget s6 (c+1+1+1)=some (.lp .busy none t1 [13,14] E5.b F2):=by
     rw[hE6.old _ (by omega) (by grind),gx,aG (by omega),aG (by omega),aG (by omega),gb,aS rfl]
    have lt7:=h.lt _ _ _ _ hQ7;have fr7:=h.free _ _ _ _ hQ7;have Zp:¬O7 (c+1+1+1):=fun ho=>(nO7 _ ho).elim nO1 (by omega)
    obtain⟨s7,hs7⟩:∃s7,s7=sset (sset s6 (c'+1+1) (.lp .exhausted none t2 [18] E6.b F6.b)) (c+1+1+1) (.lp .ready none t1 [13,14] E5.b F2):=⟨_,rfl⟩
    have g7:∀m,sget s7 m=if m=c+1+1+1 then some (.lp .ready none t1 [13,14] E5.b F2) else if m=c'+1+1 then some (.lp .exhausted none t2 [18] E6.b F6.b) else sget s6 m:=fun m=>by grind [aU]
    refine⟨s7,c6,?_,O7,?_,?_⟩
    ·rw[fn_yl,hs7];refine zround e1 rfl (t1:=tput (tput (tput t1 13 (.int .i64 (k:Nat))) 14 (.int .i64 (ks[k]:Nat))) 5 (.int .i64 (ks[k]:Nat))) (dd:=[]) (rr:=some (c+1+1+1)) ?_ (t2:=t2) ?_ (by grind [aU])
     ·simp only[E5,cI];simp only[z0,seval,oQ]
     ·have eKb:sget sb K2=some (.fix 135 [a0,a1,.sl true l.length (rg l.length fR),a3]):=by rw[gb,aG (by omega),eK]
      have eb1:sget sb (c+1+1+1)=some (.lp .busy none t1 [13,14] E5.b F2):=by grind
      have eb2:sget (sadd (sadd sb c' (.fix 135 [a0,a1,.sl true l.length (rg l.length fR),a3])) (c'+1) (.fix 4 [.int .i64 (ks[k]:Nat)])) (c+1+1+1)=some (.lp .busy none t1 [13,14] E5.b F2):=by rw[aZ,aG (by omega),aZ,aG (by omega),eb1]
      rw[←Ee];simp only[F2,Ab.abq];simp only[z0,seval,t1x,eKb,f132];rw[←ht2,zrf_s _ _ _ _ _ _ _ _ _ _ _ _ eb2,←hsx];have e17:tget t2 17 = .fn (.func 169) [] [.ptr c' 0,.ptr (c'+1) 0]:=by rw[ht2];simp[aA]
      simp only[z0,seval,e17,cf_fn,h6];rw[zrf_e (by simpa using z1)]
      simp only[z0,seval,hs7]
    ·have:acc++evK l f (ks.drop (k+1))++evN l f ks[k]=acc++evK l f (ks.drop k):=by rw[List.append_assoc,←evK_drop l f hk]
     rw[this]at hQ7;exact h.keep _ _ _ _ _ _ hQ7 (aK _) (fun m hm=>by rw[g7,aG (by rintro rfl;exact Zp hm),aG (by rintro rfl;exact z5 hm)]) (fun m hm=>by rw[g7,aG (by omega),aG (by omega)];exact fr7 m hm)
    ·refine⟨by omega,fun m hm=>(nO7 m hm).elim (fun ho=>hE.own m ho) fun hc=>.inr (by omega),fun m hm hn=>?_⟩
     have Ij:=Zq m hm hn;rw[g7];split
     ·rename_i e;rw[e,g4,aS rfl]
     ·rename_i An;rw[aG (by omega)]
      by_cases Ez:m=c
      ·rw[Ez,z2,g4,aG (by omega),aG (by omega),aG (by omega),aS rfl]
      ·rw[hE6.old m (by omega) (by rintro(ho|ho|ho);exact Ij ho;omega;exact Ez ho),ox m (by omega) An,hE.old m hm hn])
   (s:=s4) (c:=c+1+1+1+1) ⟨O,by rw[List.drop_length];simpa[evK]using hQ4,aK _,fun m hm=>.inl hm,fun m hm hn=>rfl⟩
  rw[gQ]at hQ5;have hle5:=hE5.le;have lt5:=h.lt _ _ _ _ hQ5;have fr5:=h.free _ _ _ _ hQ5;have Yb:∀m,m<c+4→¬O m→¬O5 m:=fun m hm hn ho=>(hE5.own m ho).elim hn (by omega)
  have e51:sget s5 (c+1+1+1)=some (.lp .ready none t1 [13,14] E5.b F2):=by rw[hE5.old _ (by omega) (nO _ (by omega)),g4,aS rfl]
  obtain⟨sx,hsx⟩:∃sx,sx=sset s5 (c+1+1+1) (.lp .exhausted none t1 [13,14] E5.b F2):=⟨_,rfl⟩
  have gx:∀m,sget sx m=if m=c+1+1+1 then some (.lp .exhausted none t1 [13,14] E5.b F2) else sget s5 m:=fun m=>by rw[hsx,aU]
  have hQx:Q (acc++evK l f ks) O5 sx c5:=h.keep _ _ _ _ _ _ hQ5 (aK _) (fun m hm=>by rw[gx,aG (by rintro rfl;exact Yb _ (by omega) (nO (c+1+1+1) (by omega)) hm)]) (fun m hm=>by rw[gx,aG (by omega)];exact fr5 m hm)
  have ex0:sget sx c=some (.fix 123 [.yl nm]):=by rw[gx,aG (by omega),hE5.old _ (by omega) (nO _ (by omega)),g4,aG (by omega),aG (by omega),aG (by omega),aS rfl]
  have ex3:sget sx K3=some (.fix 4 [.int .i64 (i:Nat)]):=by rw[gx,aG (by omega),hE5.old _ (by omega) n3,o4 _ l3,s3]
  obtain⟨O8,s8,c8,h8,hQ8,hE8⟩:=h.step (j3+3) _ _ _ _ i (by omega) hQx (by rw[List.append_assoc];exact hW)
  have hle8:=hE8.le;have nO8:∀m,m<c+4→¬O m→¬O8 m:=fun m hm hn ho=>(hE8.own m ho).elim (Yb m hm hn) (by omega)
  have e8:sget s8 (c+1+1)=some .dfd:=by rw[hE8.old _ (by omega) (Yb _ (by omega) (nO _ (by omega))),gx,aG (by omega),hE5.old _ (by omega) (nO _ (by omega)),g4,aG (by omega),aS rfl]
  have lt8:=h.lt _ _ _ _ hQ8;have fr8:=h.free _ _ _ _ hQ8;refine⟨O8,sdel s8 (c+1+1),c8,?_,?_,by omega,fun m hm=>?_,fun m hm hn=>?_⟩
  ·have k0:(K2=c)=False:=aL (by omega)
   have k1:(K3=c)=False:=aL (by omega)
   have t12:tget t1 12 = .fn (.func 231) [] [.ptr (c+1) 0]:=by rw[ht1];simp[aA]
   have t13:tget t1 3 = .ptr c 0:=by rw[ht1];simp[aA]
   have t14:tget t1 2 = .ptr K3 0:=by rw[ht1];simp[aA]
   simp only[z0,seval,show(D.yl nm).cells?=some [D.yl nm]from rfl,s2,s3,k0,k1,ia,zW,f170 n (j3+2) hq.cellsq,zrf_n]
   rw[←ht1,←hs4];simp only[z0,seval,t12,cf_fn,h5];rw[zrf_e (by simpa using e51),←hsx]
   simp only[z0,seval,t13,t14,ex0,ex3,wW,cf_yl,h8,zend_it _ e8,A169]
  ·exact h.keep _ _ _ _ _ _ (by rw[←List.append_assoc];exact hQ8) (aK _) (fun m hm=>by rw[hU,aG (by rintro rfl;exact nO8 _ (by omega) (nO (c+1+1) (by omega)) hm)]) (fun m hm=>by
    rw[hU];split
    ·rfl
    ·exact fr8 m hm)
  ·rcases hE8.own m hm with ho|ho
   ·exact(hE5.own m ho).imp id (by omega)
   ·exact .inr (by omega)
  ·rw[hU,aG (by omega),hE8.old m (by omega) (Yb m (by omega) hn),gx,aG (by omega),hE5.old m (by omega) hn,o4 m hm]
def chF(l:List Nd):Nat→Nat→List Nat
 | 0,_=>[]
 | f+1,i=>if i<l.length then i::chF l f (nxN l i) else[]
theorem chF_fuel{l:List Nd}(hg:iT l):∀(f g i:Nat),l.length≤f+i→l.length≤g+i→chF l f i=chF l g i
 | 0,0,_,_,_=>rfl
 | 0,g+1,i,h,_=>by rw[chF,chF,aG (by omega)]
 | f+1,0,i,_,h=>by rw[chF,chF,aG (by omega)]
 | f+1,g+1,i,h,h'=>by
  rw[chF,chF];split
  ·rename_i hi;have:=nx_le hg hi;rw[chF_fuel hg f g _ (by omega) (by omega)]
  ·rfl
def chN(l:List Nd)(i:Nat):List Nat:=chF l l.length i
theorem chN_eq(hg:iT l)(h:i<l.length):chN l i=i::chN l (nxN l i):=by
 unfold chN;rw[chF_fuel hg l.length (l.length+1) i (by omega) (by omega),chF,aS h]
theorem chN_ge(h:l.length≤i):chN l i=[]:=by
 unfold chN;cases hl:l.length with
 | zero=>rfl
 | succ f=>rw[chF,aG (by omega)]
theorem ev_ch{l:List Nd}(hg:iT l):∀(f i:Nat),i<l.length→eN l i≤l.length→l.length≤f+i→chN l i=(evN l f i).reverse++chN l (eN l i)
 | 0,i,h,_,hf=>by omega
 | f+1,i,h,he,hf=>by
  have hk:=pL hg h he;rw[chN_eq hg h,evN,gK_kids hg h he,List.reverse_append,List.reverse_singleton,List.singleton_append,cA];refine congrArg (i :: ·) ?_;have e0:=eN_eq h;have n0:=nx_eq h;rw[tQ h]at hk ⊢;by_cases k3:l[i].kind=3
  ·have hm:fO l[i]=0:=by unfold fO;rw[aG (by omega)]
   rw[aS k3]at e0 n0;rw[hm]at hk ⊢;rw[e0,n0];rfl
  ·rw[aG k3]at e0 n0;rcases lD (hg.nd i h) with hm|hm|hm<;>rw[hm]at hk e0 ⊢
   ·rw[n0,e0];rfl
   ·rw[aS rfl]at hk e0 ⊢;obtain⟨h1,h2,h3⟩:=hk (i+1) (by simp)
    have ih:=ev_ch hg f (i+1) h2 h3 (by omega)
    rw[n0,e0,ih];simp
   ·rw[aG (by decide),aS rfl]at hk e0 ⊢
    obtain⟨h1,h2,h3⟩:=hk (i+1) (by simp)
    obtain⟨g1,g2,g3⟩:=hk (eN l (i+1)) (by simp)
    rw[aS h3]at e0;have ih:=ev_ch hg f (i+1) h2 h3 (by omega)
    have Zu:=ev_ch hg f (eN l (i+1)) g2 g3 (by omega)
    rw[n0,e0,ih,Zu];simp[List.flatMap]
def gN(l:List Nd):List Nat:=(chN l 0).reverse
theorem ev_ord(hg:iT l)(h:0<l.length)(he:eN l 0=l.length):evN l l.length 0=gN l:=by
 have:=ev_ch hg l.length 0 h (by omega) (by omega)
 rw[he,chN_ge (aK _),dG]at this;unfold gN;rw[this,List.reverse_reverse]
theorem chF_len(l:List Nd)(hg:iT l):∀(f i:Nat),(chF l f i).length≤l.length-i
 | 0,i=>dM _
 | f+1,i=>by
  rw[chF];split
  ·rename_i h;have:=chF_len l hg f (nxN l i);have:=nx_le hg h;simp only[aO];omega
  ·exact dM _
theorem ord_len(hg:iT l):(gN l).length≤l.length:=by
 unfold gN chN;rw[List.length_reverse];have:=chF_len l hg l.length 0;omega
def delq(s:St):D→St
 | .gs m _ _ _=>sdel s m
 | _=>s
theorem app1{x:AS}{acc:List Nat}{nb:Nat}(ho:(q = .nils∧acc=[])∨∃m,q = .gs m 0 1 acc.length∧sget x.s m=some (.grow 4 (cV gU acc))∧acc≠[])(hb:sget x.s nb=some (.fix 0 [.int .i64 (i:Nat)]))(hl:acc.length<4294967295):
  iS x 1 8 4 q (.ms nb 0 1 1 1)=some (.gs x.c 0 1 (acc.length+1),⟨x.t,sadd (delq x.s q) x.c (.grow 4 (cV gU (acc++[i]))),x.c+1,x.d,x.r⟩):=by
 have hc:cP x.s 1 (.ms nb 0 1 1 1)=some ([.int .i64 (i:Nat)],1):=by simp only[cP,hb];rfl
 have Lb:∀k,k≤4294967296→room k 8=true:=fun k hk=>by grind [room,bO]
 unfold iS;rw[hc];simp only[aC,bE];rcases ho with⟨rfl,rfl⟩|⟨m,rfl,hs,An⟩
 ·rfl
 ·have Bo:=kU.cells_len acc;have h1:Nat.ble (0+(acc.length+1)*1) (cV gU acc).length=false:=by rw[←gI,Nat.ble_eq,Bo];omega
  have h2:Nat.ble (acc.length*1) (cV gU acc).length=true:=bO (by omega)
  have zY:(cV gU acc).take (acc.length*1)=cV gU acc:=cS (by omega)
  simp only[hs,h1,h2,zY,show Nat.beq 1 0=false from rfl,cO,Lb (acc.length+1) (by omega),eQ,show([.int .i64 (i:Nat)]:List D).any eG=false from rfl,aW,Bool.and_true,bG,delq]
  rw[rT];rfl
def isGs(q:D)(m:Nat):Prop:=match q with | .gs k _ _ _=>m=k|_=>False
def QC1(K nm:Nat)(t0:Tm)(acc:List Nat)(O:Nat→Prop)(s:St)(c:Nat):Prop:=
 ∃q,sget s K=some (.fix 64 [q])∧sget s nm=some (.lp .ready none t0 [7] C5.b C2.b)∧((q = .nils∧acc=[])∨∃m,q = .gs m 0 1 acc.length∧sget s m=some (.grow 4 (cV gU acc))∧acc≠[])∧kA s c∧K<c∧nm<c∧(∀m,O m↔m=K∨m=nm∨isGs q m)∧(∀m,isGs q m→m<c∧m≠K∧m≠nm)
theorem ys_coll(n:Nat){K:Nat}{t0:Tm}(h2:tget t0 2 = .ptr K 0)(An:K≠nm){W:List Nat}(hW:W.length≤400):YS n nm 1 W (QC1 K nm t0) where
 step:=by
  rintro j acc O s c i hj ⟨q,sK,sN,hq,hf,lK,lN,hO,hg⟩ hp;obtain⟨j,rfl⟩:∃j',j=j'+1:=⟨j-1,by omega⟩
  have Ki:acc.length<4294967295:=by have:=hp.length_le;simp only[dZ,List.length_singleton]at this;omega
  have Jo:eG q=false:=by rcases hq with⟨rfl,_⟩|⟨m,rfl,_⟩<;>rfl
  have hgK:∀m,isGs q m→sget s m=some (.grow 4 (cV gU acc)):=by
   rintro m hm;rcases hq with⟨rfl,_⟩|⟨m',rfl,h1,_⟩
   ·exact hm.elim
   ·cases hm;exact h1
  obtain⟨sq,Tt⟩:∃sq,sq=sset s nm (.lp .busy none t0 [7] C5.b C2.b):=⟨_,rfl⟩
  have gq:∀m,sget sq m=if m=nm then some (.lp .busy none t0 [7] C5.b C2.b) else sget s m:=fun m=>by rw[Tt,aU]
  obtain⟨sb,Ee⟩:∃sb,sb=sadd sq c (.fix 0 [.int .i64 (i:Nat)]):=⟨_,rfl⟩
  have gb:∀m,sget sb m=if m=c then some (.fix 0 [.int .i64 (i:Nat)]) else if m=nm then some (.lp .busy none t0 [7] C5.b C2.b) else sget s m:=fun m=>by grind [aZ]
  have happ:∀(t:Tm) dd r,iS ⟨t,sb,c+1,dd,r⟩ 1 8 4 q (.ms c 0 1 1 1)=some (.gs (c+1) 0 1 (acc.length+1),⟨t,sadd (delq sb q) (c+1) (.grow 4 (cV gU (acc++[i]))),c+1+1,dd,r⟩):=fun t dd r=>by
   refine app1 (x:=⟨t,sb,c+1,dd,r⟩) ?_ (by grind) Ki
   rcases hq with hq|⟨m,rfl,h1,h3⟩
   ·exact .inl hq
   ·have:=hg m rfl;exact .inr ⟨m,rfl,by show sget sb m=_;rw[gb,aG (by omega),aG this.2.2,h1],h3⟩
  have gd:∀m,sget (delq sb q) m=sget sb m∨(isGs q m∧sget (delq sb q) m=none):=fun m=>by
   rcases hq with⟨rfl,_⟩|⟨m',rfl,_⟩
   ·exact .inl rfl
   ·show sget (sdel sb m') m=_∨_;rw[hU];split
    ·rename_i e;refine .inr ⟨e,?_⟩;show sget (sdel sb m') m=none;grind [hU]
    grind
  have gd':∀m,¬isGs q m→sget (delq sb q) m=sget sb m:=fun m hm=>(gd m).elim id fun h=>absurd h.1 hm
  have nK:¬isGs q K:=fun h=>(hg _ h).2.1 rfl
  have nN:¬isGs q nm:=fun h=>(hg _ h).2.2 rfl
  obtain⟨s5,hs5⟩:∃s5,s5=sset (sadd (delq sb q) (c+1) (.grow 4 (cV gU (acc++[i])))) K (.fix 64 [.gs (c+1) 0 1 (acc.length+1)]):=⟨_,rfl⟩
  have g5:∀m,sget s5 m=if m=K then some (.fix 64 [.gs (c+1) 0 1 (acc.length+1)]) else if m=c+1 then some (.grow 4 (cV gU (acc++[i]))) else sget (delq sb q) m:=fun m=>by rw[hs5,aU,aZ]
  have e5:sget s5 nm=some (.lp .busy none t0 [7] C5.b C2.b):=by grind
  refine⟨fun m=>m=K∨m=nm∨m=c+1,sset s5 nm (.lp .ready none t0 [7] C5.b C2.b),c+1+1,?_,⟨.gs (c+1) 0 1 (acc++[i]).length,?_,by grind [aU],.inr ⟨c+1,rfl,?_,by simp⟩,?_,by omega,by omega,fun m=>Iff.rfl,fun m (hm:m=c+1)=>by omega⟩,by omega,fun m hm=>?_,fun m hm hn=>?_⟩
  ·rw[fn_yl,hs5];refine zround sN rfl (t1:=tput (tput t0 7 (.int .i64 (i:Nat))) 5 (.int .i64 (i:Nat))) (dd:=[]) (rr:=some nm) ?_ (t2:=tput (tput (tput (tput (tput (tput t0 7 (.int .i64 (i:Nat))) 5 (.int .i64 (i:Nat))) 8 q) 9 (.int .i64 (i:Nat))) 10 (.ms c 0 1 1 1)) 11 (.gs (c+1) 0 1 (acc.length+1))) ?_ (by grind)
   ·simp only[C5,cI];simp only[z0,seval,oQ]
   ·rw[←Tt];simp only[C2,cI];have kK:(K=nm)=False:=aL An;have kc:(K=c)=False:=aL (by omega)
    have Zs:(K=c+1)=False:=aL (by omega)
    have eK:sget (delq sb q) K=some (.fix 64 [q]):=by grind
    have eq:sget sq K=some (.fix 64 [q]):=by grind
    simp only[z0,seval,h2,eq,kK,Jo];rw[←Ee];simp only[z0,seval,h2,happ,kc,Zs,eK]
  ·grind [aU,dZ]
  ·grind [aU]
  ·intro m hm;rw[aU,aG (by omega),g5,aG (by omega),aG (by omega)]
   rcases gd m with h|h
   ·rw[h,gb,aG (by omega),aG (by omega)];exact hf m (by omega)
   ·exact h.2
  all_goals grind [isGs,aU]
 keep:=by
  rintro acc O s c s' c' ⟨q,sK,sN,hq,hf,lK,lN,hO,hg⟩ hc hs Ha;refine⟨q,by grind,by grind,?_,Ha,by omega,by omega,hO,fun m hm=>⟨by have:=(hg m hm).1;omega,(hg m hm).2⟩⟩
  rcases hq with hq|⟨m,rfl,h1,h3⟩
  ·exact .inl hq
  ·exact .inr ⟨m,rfl,by rw[hs m ((hO m).2 (.inr (.inr rfl))),h1],h3⟩
 lt:=by
  rintro acc O s c ⟨q,sK,sN,hq,hf,lK,lN,hO,hg⟩ m hm
  grind
 free:=by
  rintro acc O s c ⟨q,sK,sN,hq,hf,lK,lN,hO,hg⟩;exact hf
theorem zend_i1(df:Nat→List D→eU→St→Nat→DR){np:Nat}{b:AC}{r:Option Nat}(h:sget s nm=some .dfd):zbody df ⟨np,b,[.tmp k]⟩ (.ok .ret ⟨t,s,c,[(.it nm,[])],r⟩) = .ok (.ret (tget t k)) (sdel s nm) c:=by
 show pU df ⟨np,b,[.tmp k]⟩ none ⟨t,s,c,[(.it nm,[])],r⟩=_;unfold pU;simp only[zDs,h];rfl
set_option maxHeartbeats 1000000 in
theorem f168(n:Nat)(hg:iT l)(h0:0<l.length)(h4:l.length≤400)(he:eN l 0=l.length){a0 a1 a3:D}{fR:Nat→D}(Ud:∀j,j<l.length→Sl 1 gU (gK l j) (fR j)){K2 K3 j:Nat}(hj:1+4*l.length≤j)(zX:kA s c)(l2:K2<c)(l3:K3<c) 
  (s2:sget s K2=some (.fix 135 [a0,a1,.sl true l.length (rg l.length fR),a3])) (s3:sget s K3=some (.fix 4 [.int .i64 0])) :
  ∃s' c' m,fn n (j+2) (.fn 168) [.nils,.fn (.func 169) [] [.ptr K2 0,.ptr K3 0]] s c = .ok (.ret (.gs m 0 1 (gN l).length)) s' c'∧sget s' m=some (.grow 4 (cV gU (gN l))):=by
 rw[iG (A:=A168) rfl rfl rfl rfl n (j+1) _ s c rfl,show A168.body=B168 from rfl,B168]
 have Pc:=ev_ord hg h0 he;have Kq:=ord_len hg;obtain⟨t0,ht0⟩:∃t0,t0=tput (tput (tput (tput (tput tm0 0 .nils) 1 (.fn (.func 169) [] [.ptr K2 0,.ptr K3 0])) 2 (.ptr c 0)) 4 .nils) 6 (.fn (.func 169) [] [.ptr K2 0,.ptr K3 0]):=⟨_,rfl⟩
 have q2:tget t0 2 = .ptr c 0:=by rw[ht0];simp[aA]
 have q6:tget t0 6 = .fn (.func 169) [] [.ptr K2 0,.ptr K3 0]:=by rw[ht0];simp[aA]
 obtain⟨s4,hs4⟩:∃s4,s4=sadd (sadd (sadd s c (.fix 64 [.nils])) (c+1) .dfd) (c+1+1) (.lp .ready none t0 [7] C5.b C2.b):=⟨_,rfl⟩
 have g4:∀m,sget s4 m=if m=c+1+1 then some (.lp .ready none t0 [7] C5.b C2.b) else if m=c+1 then some .dfd else if m=c then some (.fix 64 [.nils]) else sget s m:=fun m=>by grind [aZ]
 obtain⟨O5,s5,c5,h5,⟨q,zK,zN,hq,hf5,zlK,zlN,hO5,hg5⟩,hE⟩:=f169 n Ud l.length 0 h0 (by omega) (c+1+1) 1 (QC1 c (c+1+1) t0) (ys_coll n q2 (by omega) (W:=gN l) (by omega)) [] (fun m=>m=c∨m=c+1+1∨False) s4 (c+1+1+1) K2 K3 j hj
  ⟨.nils,by grind,by grind,.inl ⟨rfl,rfl⟩,fun m hm=>by rw[g4,aG (by omega),aG (by omega),aG (by omega)];exact zX m (by omega),by omega,by omega,fun m=>Iff.rfl,fun m hm=>hm.elim⟩
  (by grind) (by grind) (by grind) (by omega) (by omega) (by rw[g4,aG (by omega),aG (by omega),aG (by omega),s2]) (by grind)
 rw[cK,Pc]at hq;have An:gN l≠[]:=by unfold gN;rw[chN_eq hg h0];simp
 rcases hq with⟨_,h⟩|⟨m,rfl,hm,_⟩
 ·grind
 have nO:¬O5 (c+1):=fun ho=>by
  rcases hE.own _ ho with(h|h|h)|h
  all_goals omega
 have e5:sget s5 (c+1)=some .dfd:=by rw[hE.old _ (by omega) (by grind),g4,aG (by omega),aS rfl]
 have hm5:=hg5 m rfl;have Ez:m≠c+1:=fun e=>nO ((hO5 _).2 (.inr (.inr e.symm)))
 refine⟨sdel (sset s5 (c+1+1) (.lp .exhausted none t0 [7] C5.b C2.b)) (c+1),c5,m,?_,by grind [hU,aU]⟩
 have kk:(c=c+1+1)=False:=aL (by omega)
 have e6:sget (sset s5 (c+1+1) (.lp .exhausted none t0 [7] C5.b C2.b)) (c+1)=some .dfd:=by grind [aU]
 simp only[z0,seval,show D.nils.cells?=some [D.nils]from rfl,zrf_n]
 rw[←ht0,←hs4];simp only[z0,seval,q6,cf_fn,h5];rw[zrf_e (by simpa using zN)]
 simp only[z0,seval,q2,zK,kk,A168];rw[zend_i1 _ e6];simp only[z0,seval]
structure wU (l:List Nd):Prop where
 g:iT l
 pos:0<l.length
 le:l.length≤400
 e:eN l 0=l.length
 w:∀j,j<l.length→iZ l j=none
theorem ex_ok{x:Int}(h:exD l=e2 x 0):wU l:=by
 unfold exD at h;have z6:(6:Int)≠0:=by decide
 have z3:(3:Int)≠0:=by decide
 split at h
 ·exact absurd (mU h).2 z6
 split at h
 ·exact absurd (mU h).2 z3
 rcases eX (iZ l) (scan (jW l) (mL l) l.length 0) l.length 0 with⟨h1,h2⟩|⟨j,r,h1,h2,h3,_,h4⟩
 ·rw[h2]at h;rcases eX (jW l) (mL l) l.length 0 with⟨g1,g2⟩|⟨j,r,g1,g2,g3,_,g4⟩
  ·rw[g2]at h;refine⟨goodL_of (fun j hj=>h1 j (dM _) (by omega)) (fun j hj=>g1 j (dM _) (by omega)),by omega,by omega,?_,fun j hj=>h1 j (dM _) (by omega)⟩
   unfold mL at h;split at h
   ·exact absurd (mU h).2 z6
   split at h
   ·exact absurd (mU h).2 z6
   omega
  ·rw[g4]at h;unfold jW at g3;split at g3
   ·split at g3
    ·cases g3;exact absurd (mU h).2 z6
    ·cases g3
   ·cases g3
 ·rw[h4]at h;unfold iZ at h3;split at h3
  ·split at h3
   ·cases h3
   ·rename_i An;cases h3;exact absurd (mU h).2 An
  ·cases h3
theorem f131(n j:Nat)(h:fn n j (.fn 168) [.nils,q] s c = .ok (.ret d) s' c'):fn n (j+1) (.fn 131) [q] s c = .ok (.ret d) s' c':=by
 rw[iG (A:=A131) rfl rfl rfl rfl n j _ s c rfl,show A131.body=B131.b from rfl]
 simp only[B131,cI];simp only[z0,seval,h,A131]
theorem c89(n:Nat)(hd:Sl 7 bK l d)(hN:NdOk l){x:Int}(h:exD l=e2 x 0):∃w,cl (n+11) 89 [d]=some (.tup [w,.int .i64 0],true)∧Sl 1 gU (gN l) w:=by
 rw[iP 89 A89 B89,B89];have ho:=ex_ok h;have Ac:=ho.le;obtain⟨T,x',y,f,h1,h79,hT⟩:=c79 n hd (by omega) fun _=>hN
 rw[h]at h1;obtain⟨rfl,rfl⟩:=mU h1;obtain⟨fR,rfl,Ud⟩:=hT rfl;obtain⟨s1,Ax⟩:∃s1,s1=sset (sadd st0 0 (.fix 135 [.nils,.nils,.nils,.nils])) 0 (.fix 135 [.sl true l.length (rg l.length (eF l 0)),.sl true l.length (rg l.length (dFn l 0)),.sl true l.length (rg l.length fR),.sl true l.length (rg l.length (mX (nbB l l.length)))]):=⟨_,rfl⟩
 have g1:∀m,0<m→sget s1 m=none:=fun m hm=>by rw[Ax,aU,aG (by omega),aZ,aG (by omega)];exact dX m
 have g0:sget s1 0=some (.fix 135 [.sl true l.length (rg l.length (eF l 0)),.sl true l.length (rg l.length (dFn l 0)),.sl true l.length (rg l.length fR),.sl true l.length (rg l.length (mX (nbB l l.length)))]):=by rw[Ax,aU,aS rfl]
 obtain⟨s',c',m,h168,hm⟩:=f168 (n+11) (j:=4093) ho.g ho.pos Ac ho.e Ud (s:=sadd (sadd s1 1 (.fix 135 [.sl true l.length (rg l.length (eF l 0)),.sl true l.length (rg l.length (dFn l 0)),.sl true l.length (rg l.length fR),.sl true l.length (rg l.length (mX (nbB l l.length)))])) 2 (.fix 4 [.int .i64 0])) (c:=3) (K2:=1) (K3:=2) (by omega)
  (fun m hm=>by rw[aZ,aG (by omega),aZ,aG (by omega)];exact g1 m (by omega)) (by omega) (by omega) (by rw[aZ,aG (by omega),aZ,aS rfl]) (by rw[aZ,aS rfl])
 have h131:fn (n+11) 4096 (.fn 131) _ _ _=_:=f131 (n+11) 4095 h168;have h132:∀T,fn (n+11) 4096 (.fn 132) [.agg T,.int .i64 0] s1 1 = .ok (.ret (.fn (.func 169) [] [.ptr 1 0,.ptr 2 0])) (sadd (sadd s1 1 (.fix 135 T)) 2 (.fix 4 [.int .i64 0])) 3:=fun T=>f132 (n+11) 4095 T 0 s1 1
 have An:gN l≠[]:=by unfold gN;rw[chN_eq ho.g ho.pos];simp
 refine⟨.sl false (gN l).length (cV gU (gN l)),?_,fun r hr=>by obtain⟨k,_,rfl⟩:=cY.1 hr;rfl,.inr ⟨false,by rw[dB];rfl⟩⟩
 have Bi:∀k,frz true (k+2) s' (.gs m 0 1 (gN l).length)=some (.sl false (gN l).length (cV gU (gN l))):=fun k=>by
  rw[lP,hm];simp only[bM,gQ];rw[bO (by rw[kU.cells_len];exact aK _),bG,cS (by rw[kU.cells_len];exact aK _),kU.cells_frz];rfl
 have Ff:D.pures [d]=true:=by simp[D.pures,hd.pure]
 simp only[z0,seval,hd.fz,aF 79,aJ,h79,Ff,Bool.or_true,Bool.or_false,bG,cO,show ∀a b c,eG (.sl a b c)=false from fun _ _ _=>rfl]
 rw[←Ax];simp only[z0,seval,show decide ((0:Int)≠0)=false from rfl,g0,show((0:Nat):Int)=0 from rfl,h132,h131,A89]
 have Pk:frz true 20 s' (.tup [.gs m 0 1 (gN l).length,.int .i64 0])=some (.tup [.sl false (gN l).length (cV gU (gN l)),.int .i64 0]):=by
  rw[show(20:Nat)=17+2+1 from rfl]
  simp only[aJ,Bi,bE,bR]
 unfold pout;simp only[Pk]
theorem f90(n j:Nat){p:D}{cs:List D}(hp:oW .slc p .nils=some false)(Ma:cP (sadd s c (.fix 0 [])) 5 p=some (cs,k))(hk:k=1∨k=2):
  fn n (j+1) (.fn 90) [p] s c = .ok (.ret (.gs (c+1) 0 5 k)) (sadd (sadd s c (.fix 0 [])) (c+1) (.grow 37 cs)) (c+1+1):=by
 rw[iG (A:=A90) rfl rfl rfl rfl n j _ s c rfl,show A90.body=B90.b from rfl]
 simp only[B90,cI];have Wo:∀(t:Tm) dd r,iS ⟨t,sadd s c (.fix 0 []),c+1,dd,r⟩ 5 40 37 (.ms c 0 5 0 0) p=some (.gs (c+1) 0 5 k,⟨t,sadd (sadd s c (.fix 0 [])) (c+1) (.grow 37 cs),c+1+1,dd,r⟩):=fun t dd r=>by
  unfold iS;rw[Ma];simp only[aC,bE,aZ,aS];rcases hk with rfl|rfl<;>rfl
 simp only[z0,seval,hp,Wo,A90]
theorem f91_1(n j:Nat){m:Nat}(s:St)(c:Nat):fn n (j+1) (.fn 91) [.gs m 0 5 1] s c = .ok (.ret (.tup [])) s c:=by
 rw[iG (A:=A91) rfl rfl rfl rfl n j _ s c rfl,show A91.body=B91.b from rfl]
 simp only[B91,cI];simp only[z0,↓reduceIte,Nat.reduceEqDiff,Nat.reduceAdd,Nat.reduceLeDiff,reduceCtorEq,show lenD false (.gs m 0 5 1)=some 1 from rfl,show bX .i64 (((1:Nat):Int)-1)=0 from rfl,zun,show decide ((0:Int)<0)=false from rfl,A91]
theorem f91_2(n j:Nat){m:Nat}{t u:Tl}(hs:sget s m=some (.grow 37 (tlC t++tlC u))):∃s',fn n (j+1) (.fn 91) [.gs m 0 5 2] s c = .ok (.ret (.tup [])) s' (c+16)∧sget s' m=some (.grow 37 (tlC u++tlC t))∧∀k,k≠m→sget s' k=sget s k:=by
 rw[iG (A:=A91) rfl rfl rfl rfl n j _ s c rfl,show A91.body=B91.b from rfl]
 simp only[B91,cI];have i0:iJ 5 (.gs m 0 5 2) (.int .i64 0)=some (.ptr m 0):=rfl;have i1:iJ 5 (.gs m 0 5 2) (.int .i64 1)=some (.ptr m 5):=rfl;unfold tlC tyC tl at *;simp only[cA,cK]at hs ⊢
 have sb:∀a1 a2 a3 a4 a5 b1 b2 b3 b4 b5 x1 x2 x3 x4 x5:Int,stB (.grow 37 [.int .i64 a1,.int .i64 a2,.int .i64 a3,.int .i64 a4,.int .i64 a5,.int .i64 b1,.int .i64 b2,.int .i64 b3,.int .i64 b4,.int .i64 b5]) 0 [.int .i64 x1,.int .i64 x2,.int .i64 x3,.int .i64 x4,.int .i64 x5]=some (.grow 37 [.int .i64 x1,.int .i64 x2,.int .i64 x3,.int .i64 x4,.int .i64 x5,.int .i64 b1,.int .i64 b2,.int .i64 b3,.int .i64 b4,.int .i64 b5]) ∧
   stB (.grow 37 [.int .i64 a1,.int .i64 a2,.int .i64 a3,.int .i64 a4,.int .i64 a5,.int .i64 b1,.int .i64 b2,.int .i64 b3,.int .i64 b4,.int .i64 b5]) 5 [.int .i64 x1,.int .i64 x2,.int .i64 x3,.int .i64 x4,.int .i64 x5]=some (.grow 37 [.int .i64 a1,.int .i64 a2,.int .i64 a3,.int .i64 a4,.int .i64 a5,.int .i64 x1,.int .i64 x2,.int .i64 x3,.int .i64 x4,.int .i64 x5]):=fun _ _ _ _ _ _ _ _ _ _ _ _ _ _ _=>⟨rfl,rfl⟩
 simp only[z0,↓reduceIte,Nat.reduceEqDiff,Nat.reduceAdd,Nat.reduceLeDiff,reduceCtorEq,hs,sb,aO,aX,show lenD false (.gs m 0 5 2)=some 2 from rfl,show bX .i64 (((2:Nat):Int)-1)=1 from rfl,zun,show decide ((0:Int)<1)=true from rfl,i0,i1,dR,cN,AOp.kd,zop,tks,bP,dL,show bX .i64 (0+1)=1 from rfl,show bX .i64 (1-1)=0 from rfl,show decide ((1:Int)<0)=false from rfl,A91]
 grind [aU]
theorem f129(n j:Nat)(x:Fd)(y:Nd){K:Nat}(s0:sget S K=some (.fix 57 (bK y)))(hc:K<c):fn n (j+1) (.fn 129) [.agg (fdC x),.ptr K 0] S c = .ok (.ret (.bool (decide (x.name=y.name)))) (sadd S c (.fix 79 (fdC x))) (c+1):=by
 rw[iG (A:=A129) rfl rfl rfl rfl n j _ _ _ rfl,show A129.body=B129.b from rfl]
 unfold fdC;simp only[B129,cI];unfold bK at s0;have f0:(K=c)=False:=aL (by omega)
 simp only[z0,seval,s0,f0,A129]
def fxP(fs:List Fd)(s:List UInt8)(i:Nat):Option Int:=match fs[i]? with|some x=>if x.name=s then some (i:Int) else none|none=>none
theorem f128(n j:Nat)(hf:Sl 3 fdC fs f)(hl:fs.length<9223372036854775807)(y:Nd){K:Nat}(s0:sget S K=some (.fix 57 (bK y)))(hc:K<c)(zX:∀m,c≤m→sget S m=none):
  ∃s' c',fn n (j+2) (.fn 128) [f,.fn (.func 129) [] [.ptr K 0]] S c = .ok (.ret (.int .i64 (scan (fxP fs y.name) (-1) fs.length 0))) s' c'∧Aft S c s' c':=by
 rw[iG (A:=A128) rfl rfl rfl rfl n (j+1) _ _ _ rfl,show A128.body=B128.b from rfl]
 simp only[B128,cI];simp only[z0,seval,hf.len];generalize hz:zloop KK _ _=rl;refine zrange rl hz fs.length (dY hl) hl (fun i t s' c'=>Aft S c s' c'∧tget t 0=f∧tget t 1 = .fn (.func 129) [] [.ptr K 0]∧∀k,k<i→fxP fs y.name k=none) (by decide) (by simp[aA]) (by simp[aA]) ⟨Aft.refl zX,by simp[aA],by simp[aA],nofun⟩ ?_ ?_
 ·rintro i t s' c' hi ⟨hA,q0,q1,hn⟩ Ag Ah;have zW:=hf.row hi;have Ac:=hA.le;have Xg:=f129 n j fs[i] y (S:=s') (c:=c') (by rw[hA.old K hc];exact s0) (by omega)
  by_cases e:fs[i].name=y.name
  ·have hp:fxP fs y.name i=some (i:Int):=by rw[fxP,aI hi];exact aS e
   simp only[z2,seval,nb,q0,q1,Ag,Ah,hf.ia hi,zW,jB,cK,dG,cA,Xg,aH e,A128];rw[eL hi hp hn];exact⟨_,_,rfl,hA.add _⟩
  ·have hp:fxP fs y.name i=none:=by rw[fxP,aI hi];exact aG e
   simp only[z2,seval,nb,q0,q1,Ag,Ah,hf.ia hi,zW,jB,cK,dG,cA,Xg,aE e];exact⟨trivial,trivial,trivial,.inr (.inr trivial),nofun,nofun,hA.add _,trivial,trivial,kP hn hp⟩
 ·rintro t s' c' ⟨hK,q0,q1,hn⟩ Ag Ah;simp only[z0,seval,q0,q1,Ag,Ah,A128];rw[fL hn];exact⟨_,_,rfl,hK⟩
theorem hY(h:eG d=false):d.cells?=some [d]:=by
 cases d<;>first|rfl|cases h
theorem f130(n j:Nat){md:eU}{a b e K:Nat}{cs:List D}(h1:sget s a=some (.fix 27 [v]))(h2:sget s b=some (.fix 28 [f]))(h3:sget s e=some (.fix 92 [.ptr K 0]))(hK:sget s K=some (.fix ty cs))(hl:cs.length=14)(hv:eG v=false)(hf:eG f=false)(ha:a≠K)(hb:b≠K):
  dfn n (j+1) 130 [.ptr a 0,.ptr b 0,.ptr e 0] md s c = .ok (.ret (.tup [])) md (sset (sset s K (.fix ty (cs.set 11 v))) K (.fix ty ((cs.set 11 v).set 12 f))) c:=by
 rw[dfn_in (A:=A130) rfl n j _ _ s c rfl,show A130.body=B130.b from rfl]
 simp only[B130,cI]
 match cs,hl with
 | [c0,c1,c2,c3,c4,c5,c6,c7,c8,c9,c10,c11,Xt,c13],_=>
  have k1:(a=K)=False:=aL ha;have k2:(b=K)=False:=aL hb;simp only[z0,seval,ex_S,h1,h2,h3,hK,hv,hf,hY hv,hY hf,k1,k2,dP,jR,wanted];rfl
inductive Lo (α:Type) where
 | ok (a:α)
 | bad (site e:Int)
structure Lk where
 ec:Nat
 lk:Nat
 lm:List (Int×Int)
structure LEn where
 us:List Nat
 low:Nat
 pc:Nat
 R:Int→List Tl→Ty×Int×Int×Int
def Lk.mark(E:LEn)(s:Lk)(x:Int):Lk:=⟨s.ec,s.lk,mkL E.us s.lm x (J E.us E.pc s.ec)⟩
def Lk.tick(s:Lk):Lk:=⟨s.ec,s.lk+1,s.lm⟩
def toT(t:Ty):Tl:=⟨t.kind,t.rank,t.a0.toNat,t.a1.toNat,t.data.toNat⟩
def nU(ps:List (List UInt8))(ts:List Tl):List Vr:=List.zipWith (fun p t=>⟨p,tl t⟩) ps ts
def wN(E:LEn)(cal:Nat→List Vr→Lk→Lo (Tl×Lk))(fs:List Fd)(x:Nd)(ts:List Tl)(s:Lk):Lo (Tl×Lk):=
 match fs.findIdx? (fun f=>decide (f.name=x.name)) with
 | none=>.bad x.site 24
 | some i=>match fs[i]? with
  | none=>.bad 0 0
  | some g=>if g.ps.length≠ts.length then .bad x.site 23 else cal i (nU g.ps ts) (s.mark E x.site)
def vN(E:LEn)(x:Nd)(ts:List Tl)(s:Lk):Lo (Tl×Lk):=
 if(E.R x.prim ts).2.2.2≠0 then .bad x.site (E.R x.prim ts).2.2.2
 else if tyE E.us (gY E.us) (E.R x.prim ts).1≠0 then .bad x.site (tyE E.us (gY E.us) (E.R x.prim ts).1)
 else .ok (toT (E.R x.prim ts).1,⟨afN E.us s.ec (E.R x.prim ts).2.1.toNat (E.R x.prim ts).2.2.1.toNat,s.lk,s.lm⟩)
def nameM(vs:List Vr)(x:Nd)(s:Lk):Lo (Tl×Lk):=match vs.find? (fun v=>decide (v.name=x.name)) with
 | none=>.bad x.site 24
 | some v=>.ok (toT v.ty,s)
def mY(E:LEn)(cal:Nat→List Vr→Lk→Lo (Tl×Lk))(fs:List Fd)(vs:List Vr)(x:Nd)(ts:List Tl)(s:Lk):Lo (Tl×Lk):=
 if x.kind=1 then .ok (⟨1,0,E.low,E.low,E.low⟩,s)
 else if x.kind=3 then .ok (⟨1,1,E.low,E.low,E.low⟩,s)
 else if x.kind=2 then .ok (⟨2,1,E.low,E.low,E.low⟩,s)
 else if x.kind=4 then nameM vs x s
 else if x.kind=5 then vN E x ts s
 else wN E cal fs x ts s
def oR(E:LEn)(cal:Nat→List Vr→Lk→Lo (Tl×Lk))(fs:List Fd)(vs:List Vr)(x:Nd)(st:List Tl)(s:Lk):Lo (List Tl×Lk):=
 if 2000<s.lk+1 then .bad x.site 3
 else match mY E cal fs vs x (st.take (opN x)) s.tick with
  | .ok p=>.ok (p.1::st.drop (opN x),if x.kind=6 then p.2 else p.2.mark E x.site)
  | .bad a e=>.bad a e
def lO(E:LEn)(cal:Nat→List Vr→Lk→Lo (Tl×Lk))(fs:List Fd)(vs:List Vr):List Nd→List Tl→Lk→Lo (List Tl×Lk)
 | [],st,s=>.ok (st,s)
 | x::r,st,s=>match oR E cal fs vs x st s with
  | .ok p=>lO E cal fs vs r p.1 p.2
  | .bad a e=>.bad a e
def fC(x:List Nd):List Nd:=(gN x).map fun i=>(x[i]?).getD ⟨0,0,0,[],[],0,0⟩
def tN(E:LEn):Nat→List Fd→List Vr→List Nd→Lk→Lo (Tl×Lk)
 | 0,_,_,_,_=>.bad 0 0
 | f+1,fs,vs,x,s=>
  match lO E (fun i Ep s'=>match fs[i]? with|some g=>tN E f (fs.take i) Ep g.body s'|none=>.bad 0 0) fs vs (fC x) [] s with
  | .ok (t::_,s')=>.ok (t,s')
  | .ok ([],_)=>.bad 0 0
  | .bad a e=>.bad a e
def TG(us:List Nat)(t:Tl):Prop:=t.ok us.length∧KR t.k t.r∧tyE us (gY us) (tl t)=0
theorem tl_toT{t:Ty}(h:tyE us (gY us) t=0):tl (toT t)=t∧TG us (toT t):=by
 have h0:=h;unfold tyE at h;split at h
 ·cases h
 split at h
 ·cases h
 rename_i h1 h2;have hl:∀{x:Int},mQ us.length x=true→(x.toNat:Int)=x∧x.toNat<us.length:=fun {x} hx=>by
  grind [mQ]
 simp only[not_or,Bool.not_eq_false]at h1 h2;have a0:=hl h2.1;have a1:=hl h2.2.1;have a2:=hl h2.2.2;have e:tl (toT t)=t:=by unfold tl toT;simp only[a0.1,a1.1,a2.1]
 refine⟨e,⟨a0.2,a1.2,a2.2⟩,?_,by grind⟩
 grind [KR,toT]
def ruV(x:Option (D×Bool)):Ty×Int×Int×Int:=match x with
 | some (.tup [.agg [.int _ k,.int _ r,.int _ p,.int _ q,.int _ z,.int _ w,.int _ c],.int _ e],_)=>(⟨k,r,p,q,z⟩,w,c,e)
 | _=>(⟨0,0,0,0,0⟩,0,0,1)
def yZ(ts:List Tl):D:=.sl false ts.length (ts.map tlC).flatten
def RDl(n:Nat)(d e:D)(p:Int)(ts:List Tl):Ty×Int×Int×Int:=ruV (cl (n+12) 126 [.agg [d,e],.int .i64 p,yZ ts])
theorem rd_ok(n:Nat)(h:Lt ss us d e)(p:Int){ts:List Tl}(hl:ts.length=1∨ts.length=2)(hg:∀t∈ts,TG us t):
  ∃(t:Ty) (w c er:Int),RDl n d e p ts=(t,w,c,er)∧cl (n+12) 126 [.agg [d,e],.int .i64 p,yZ ts]=some (.tup [.agg [.int .i64 t.kind,.int .i64 t.rank,.int .i64 t.a0,.int .i64 t.a1,.int .i64 t.data,.int .i64 w,.int .i64 c],.int .i64 er],true)∧(er=0→Rg us.length w∧Rg us.length c):=by
 have Km:Sl 5 tlC ts (yZ ts):=⟨fun r hr=>by obtain⟨t,_,rfl⟩:=cY.1 hr;rfl,.inr ⟨false,by rw[dB];rfl⟩⟩
 have hr:RuRes us.length (cl (n+12) 126 [.agg [d,e],.int .i64 p,yZ ts]):=by
  match ts,hl with
  | [t],_=>
   obtain⟨h1,h2,h3⟩:=hg t (by simp)
   grind [c126_1]
  | [t,u],_=>
   obtain⟨h1,h2,h3⟩:=hg t (by simp)
   obtain⟨g1,g2,g3⟩:=hg u (by simp)
   grind [c126_2,g1,g2,g3]
 obtain⟨k,r,p',q,z,w,c,er,h1,h2⟩:=hr;exact⟨⟨k,r,p',q,z⟩,w,c,er,by unfold RDl;rw[h1];rfl,h1,h2⟩
theorem ofD_find(vs:List Vr)(s:List UInt8):ofD vs s=match vs.find? (fun v=>decide (v.name=s)) with
  | none=>.tup [.agg ty0,.int .i64 24]
  | some v=>.tup [.agg (tyC v.ty),.int .i64 0]:=by
 unfold ofD;rcases eX (ofP vs s) (.tup [.agg ty0,.int .i64 24]) vs.length 0 with⟨h1,h2⟩|⟨m,r,_,hm,h3,h4,h5⟩
 all_goals grind [List.find?_eq_none,eV,ofP,aI,decide,List.find?_eq_some_iff_getElem]
theorem fx_find(fs:List Fd)(s:List UInt8):scan (fxP fs s) (-1) fs.length 0=match fs.findIdx? (fun f=>decide (f.name=s)) with
  | none=>-1
  | some i=>(i:Int):=by
 rcases eX (fxP fs s) (-1) fs.length 0 with⟨h1,h2⟩|⟨m,r,_,hm,h3,h4,h5⟩
 ·grind [List.findIdx?_eq_none_iff,eV,fxP,aI]
 ·have Ei:m<fs.length:=by omega
  rw[fxP,aI Ei]at h3;simp only at h3;split at h3
  case isFalse=>cases h3
  rename_i hn;cases h3;have:fs.findIdx? (fun f=>decide (f.name=s))=some m:=List.findIdx?_eq_some_iff_getElem.2 ⟨Ei,by simpa using hn,fun j hj=>by
   grind [fxP,aI]⟩
  rw[h5,this]
end
end Zv
