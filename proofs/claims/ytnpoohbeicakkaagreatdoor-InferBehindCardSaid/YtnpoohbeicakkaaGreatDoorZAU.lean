/- looker: operands, functions by their names. Conditions: none. -/
import Derived.Test.YtnpoohbeicakkaaGreatDoorZAT
set_option linter.unusedVariables false
set_option linter.unusedSimpArgs false
set_option maxRecDepth 100000
namespace Zv
open Go
noncomputable section
theorem f90(n j:Nat){p:D}{cs:List D}{k:Nat}(hp:pI .slc p .nils=some false){s:St}{c:Nat}(hsc:dC (sadd s c (.fix 0 [])) 5 p=some (cs,k))(hk:k=1∨k=2):
  fn n (j+1) (.fn 90) [p] s c = .ok (.ret (.gs (c+1) 0 5 k)) (sadd (sadd s c (.fix 0 [])) (c+1) (.grow 37 cs)) (c+1+1):=by
 rw[iO (A:=A90) rfl rfl rfl rfl n j _ s c rfl,show A90.body=B90 from rfl]
 simp only[B90,Ab.abq];have hap:∀(t:Tm) dd r,nT ⟨t,sadd s c (.fix 0 []),c+1,dd,r⟩ 5 40 37 (.ms c 0 5 0 0) p=some (.gs (c+1) 0 5 k,⟨t,sadd (sadd s c (.fix 0 [])) (c+1) (.grow 37 cs),c+1+1,dd,r⟩):=fun t dd r=>by
  unfold nT;rw[hsc];simp only[aB,aN,aX,aH];rcases hk with rfl|rfl<;>rfl
 simp only[z0,↓reduceIte,Nat.reduceEqDiff,Nat.reduceAdd,Nat.reduceLeDiff,reduceCtorEq,hp,hap,A90]
theorem f91_1(n j:Nat){m:Nat}(s:St)(c:Nat):fn n (j+1) (.fn 91) [.gs m 0 5 1] s c = .ok (.ret (.tup [])) s c:=by
 rw[iO (A:=A91) rfl rfl rfl rfl n j _ s c rfl,show A91.body=B91 from rfl]
 simp only[B91,Ab.abq];simp only[z0,↓reduceIte,Nat.reduceEqDiff,Nat.reduceAdd,Nat.reduceLeDiff,reduceCtorEq,show lenD false (.gs m 0 5 1)=some 1 from rfl,show cT .i64 (((1:Nat):Int)-1)=0 from rfl,zun,show decide ((0:Int)<0)=false from rfl,A91]
theorem f91_2(n j:Nat){m:Nat}{t u:Tl}{s:St}{c:Nat}(hs:sget s m=some (.grow 37 (tlC t++tlC u))):∃s',fn n (j+1) (.fn 91) [.gs m 0 5 2] s c = .ok (.ret (.tup [])) s' (c+16)∧sget s' m=some (.grow 37 (tlC u++tlC t))∧∀k,k≠m→sget s' k=sget s k:=by
 rw[iO (A:=A91) rfl rfl rfl rfl n j _ s c rfl,show A91.body=B91 from rfl]
 simp only[B91,Ab.abq];have i0:kE 5 (.gs m 0 5 2) (.int .i64 0)=some (.ptr m 0):=rfl;have i1:kE 5 (.gs m 0 5 2) (.int .i64 1)=some (.ptr m 5):=rfl;unfold tlC tyC tl at *;simp only[cB,bZ]at hs ⊢
 have sb:∀a1 a2 a3 a4 a5 b1 b2 b3 b4 b5 x1 x2 x3 x4 x5:Int,stB (.grow 37 [.int .i64 a1,.int .i64 a2,.int .i64 a3,.int .i64 a4,.int .i64 a5,.int .i64 b1,.int .i64 b2,.int .i64 b3,.int .i64 b4,.int .i64 b5]) 0 [.int .i64 x1,.int .i64 x2,.int .i64 x3,.int .i64 x4,.int .i64 x5]=some (.grow 37 [.int .i64 x1,.int .i64 x2,.int .i64 x3,.int .i64 x4,.int .i64 x5,.int .i64 b1,.int .i64 b2,.int .i64 b3,.int .i64 b4,.int .i64 b5]) ∧
   stB (.grow 37 [.int .i64 a1,.int .i64 a2,.int .i64 a3,.int .i64 a4,.int .i64 a5,.int .i64 b1,.int .i64 b2,.int .i64 b3,.int .i64 b4,.int .i64 b5]) 5 [.int .i64 x1,.int .i64 x2,.int .i64 x3,.int .i64 x4,.int .i64 x5]=some (.grow 37 [.int .i64 a1,.int .i64 a2,.int .i64 a3,.int .i64 a4,.int .i64 a5,.int .i64 x1,.int .i64 x2,.int .i64 x3,.int .i64 x4,.int .i64 x5]):=fun _ _ _ _ _ _ _ _ _ _ _ _ _ _ _=>⟨rfl,rfl⟩
 simp only[z0,↓reduceIte,Nat.reduceEqDiff,Nat.reduceAdd,Nat.reduceLeDiff,reduceCtorEq,hs,sb,aV,bU,show lenD false (.gs m 0 5 2)=some 2 from rfl,show cT .i64 (((2:Nat):Int)-1)=1 from rfl,zun,show decide ((0:Int)<1)=true from rfl,i0,i1,dU,cP,AOp.kd,zop,tks,bV,dO,show cT .i64 (0+1)=1 from rfl,show cT .i64 (1-1)=0 from rfl,show decide ((1:Int)<0)=false from rfl,A91]
 refine⟨_,rfl,?_,fun k hk=>?_⟩
 ·simp only[z0,↓reduceIte,Nat.reduceEqDiff,Nat.reduceAdd,Nat.reduceLeDiff,reduceCtorEq]
 ·simp only[aO,aD hk]
theorem f129(n j:Nat)(x:Fd)(y:Nd){S:St}{c K:Nat}(s0:sget S K=some (.fix 57 (bW y)))(hc:K<c):fn n (j+1) (.fn 129) [.agg (fdC x),.ptr K 0] S c = .ok (.ret (.bool (decide (x.name=y.name)))) (sadd S c (.fix 79 (fdC x))) (c+1):=by
 rw[iO (A:=A129) rfl rfl rfl rfl n j _ _ _ rfl,show A129.body=B129 from rfl]
 unfold B129 fdC;unfold bW at s0;have f0:(K=c)=False:=aL (by omega)
 simp only[z0,↓reduceIte,Nat.reduceEqDiff,Nat.reduceAdd,Nat.reduceLeDiff,reduceCtorEq,s0,f0,A129]
def fxP(fs:List Fd)(s:List UInt8)(i:Nat):Option Int:=match fs[i]? with|some x=>if x.name=s then some (i:Int) else none|none=>none
theorem f128(n j:Nat){fs:List Fd}{f:D}(hf:Sl 3 fdC fs f)(hl:fs.length<9223372036854775807)(y:Nd){S:St}{c K:Nat}(s0:sget S K=some (.fix 57 (bW y)))(hc:K<c)(hfr:∀m,c≤m→sget S m=none):
  ∃s' c',fn n (j+2) (.fn 128) [f,.fn (.func 129) [] [.ptr K 0]] S c = .ok (.ret (.int .i64 (scan (fxP fs y.name) (-1) fs.length 0))) s' c'∧Aft S c s' c':=by
 rw[iO (A:=A128) rfl rfl rfl rfl n (j+1) _ _ _ rfl,show A128.body=B128 from rfl]
 simp only[B128,Ab.abq];simp only[z0,↓reduceIte,Nat.reduceEqDiff,Nat.reduceAdd,Nat.reduceLeDiff,reduceCtorEq,hf.len];generalize hz:zloop KK _ _=rl
 refine zrange rl hz fs.length (fI hl) hl (fun i t s' c'=>Aft S c s' c'∧tget t 0=f∧tget t 1 = .fn (.func 129) [] [.ptr K 0]∧∀k,k<i→fxP fs y.name k=none) (by decide) (by simp[aE]) (by simp[aE]) ⟨Aft.refl hfr,by simp[aE],by simp[aE],nofun⟩ ?_ ?_
 ·rintro i t s' c' hi ⟨hA,q0,q1,hn⟩ hti htn;have hrow:=hf.row hi;have hle:=hA.le;have h129:=f129 n j fs[i] y (S:=s') (c:=c') (by rw[hA.old K hc];exact s0) (by omega)
  by_cases e:fs[i].name=y.name
  ·have hp:fxP fs y.name i=some (i:Int):=by rw[fxP,aJ hi];exact aH e
   simp only[z2,↓reduceIte,Nat.reduceEqDiff,Nat.reduceAdd,Nat.reduceLeDiff,reduceCtorEq,nb,q0,q1,hti,htn,hf.ia hi,hrow,iU,bZ,dG,cB,h129,bH e,A128];rw[fX hi hp hn];exact⟨_,_,rfl,hA.add _⟩
  ·have hp:fxP fs y.name i=none:=by rw[fxP,aJ hi];exact aD e
   simp only[z2,↓reduceIte,Nat.reduceEqDiff,Nat.reduceAdd,Nat.reduceLeDiff,reduceCtorEq,nb,q0,q1,hti,htn,hf.ia hi,hrow,iU,bZ,dG,cB,h129,aK e];exact⟨trivial,trivial,trivial,.inr (.inr trivial),nofun,nofun,hA.add _,trivial,trivial,eE hn hp⟩
 ·rintro t s' c' ⟨hK,q0,q1,hn⟩ hti htn;simp only[z0,↓reduceIte,Nat.reduceEqDiff,Nat.reduceAdd,Nat.reduceLeDiff,reduceCtorEq,q0,q1,hti,htn,A128];rw[gN hn];exact⟨_,_,rfl,hK⟩
theorem iN{d:D}(h:eP d=false):d.cells?=some [d]:=by
 cases d<;>first|rfl|cases h
theorem f130(n j:Nat){md:dV}{a b e K ty:Nat}{v f:D}{s:St}{c:Nat}{cs:List D}(h1:sget s a=some (.fix 27 [v]))(h2:sget s b=some (.fix 28 [f]))(h3:sget s e=some (.fix 92 [.ptr K 0]))(hK:sget s K=some (.fix ty cs))(hl:cs.length=14)(hv:eP v=false)(hf:eP f=false)(ha:a≠K)(hb:b≠K):
  dfn n (j+1) 130 [.ptr a 0,.ptr b 0,.ptr e 0] md s c = .ok (.ret (.tup [])) md (sset (sset s K (.fix ty (cs.set 11 v))) K (.fix ty ((cs.set 11 v).set 12 f))) c:=by
 rw[dfn_in (A:=A130) rfl n j _ _ s c rfl,show A130.body=B130 from rfl]
 simp only[B130,Ab.abq]
 match cs,hl with
 | [c0,c1,c2,c3,c4,c5,c6,c7,c8,c9,c10,c11,c12,c13],_=>
  have k1:(a=K)=False:=aL ha;have k2:(b=K)=False:=aL hb;simp only[z0,↓reduceIte,Nat.reduceEqDiff,Nat.reduceAdd,Nat.reduceLeDiff,reduceCtorEq,ex_S,h1,h2,h3,hK,hv,hf,iN hv,iN hf,k1,k2,dR,jJ,wanted];rfl
inductive Lo (α:Type) where
 | ok (a:α)
 | bad (site e:Int)
structure Lk where
 ec:Nat
 lk:Nat
 lm:List (Int×Int)
structure LEn where
 us:List Nat
 low:Nat
 pc:Nat
 R:Int→List Tl→Ty×Int×Int×Int
def Lk.mark(E:LEn)(s:Lk)(x:Int):Lk:=⟨s.ec,s.lk,mkL E.us s.lm x (J E.us E.pc s.ec)⟩
def Lk.tick(s:Lk):Lk:=⟨s.ec,s.lk+1,s.lm⟩
def toT(t:Ty):Tl:=⟨t.kind,t.rank,t.a0.toNat,t.a1.toNat,t.data.toNat⟩
def oT(ps:List (List UInt8))(ts:List Tl):List Vr:=List.zipWith (fun p t=>⟨p,tl t⟩) ps ts
def calM(E:LEn)(cal:Nat→List Vr→Lk→Lo (Tl×Lk))(fs:List Fd)(x:Nd)(ts:List Tl)(s:Lk):Lo (Tl×Lk):=
 match fs.findIdx? (fun f=>decide (f.name=x.name)) with
 | none=>.bad x.site 24
 | some i=>match fs[i]? with
  | none=>.bad 0 0
  | some g=>if g.ps.length≠ts.length then .bad x.site 23 else cal i (oT g.ps ts) (s.mark E x.site)
def pP(E:LEn)(x:Nd)(ts:List Tl)(s:Lk):Lo (Tl×Lk):=
 if(E.R x.prim ts).2.2.2≠0 then .bad x.site (E.R x.prim ts).2.2.2
 else if tyE E.us (iG E.us) (E.R x.prim ts).1≠0 then .bad x.site (tyE E.us (iG E.us) (E.R x.prim ts).1)
 else .ok (toT (E.R x.prim ts).1,⟨afN E.us s.ec (E.R x.prim ts).2.1.toNat (E.R x.prim ts).2.2.1.toNat,s.lk,s.lm⟩)
def nameM(vs:List Vr)(x:Nd)(s:Lk):Lo (Tl×Lk):=match vs.find? (fun v=>decide (v.name=x.name)) with
 | none=>.bad x.site 24
 | some v=>.ok (toT v.ty,s)
def pT(E:LEn)(cal:Nat→List Vr→Lk→Lo (Tl×Lk))(fs:List Fd)(vs:List Vr)(x:Nd)(ts:List Tl)(s:Lk):Lo (Tl×Lk):=
 if x.kind=1 then .ok (⟨1,0,E.low,E.low,E.low⟩,s)
 else if x.kind=3 then .ok (⟨1,1,E.low,E.low,E.low⟩,s)
 else if x.kind=2 then .ok (⟨2,1,E.low,E.low,E.low⟩,s)
 else if x.kind=4 then nameM vs x s
 else if x.kind=5 then pP E x ts s
 else calM E cal fs x ts s
def mF(E:LEn)(cal:Nat→List Vr→Lk→Lo (Tl×Lk))(fs:List Fd)(vs:List Vr)(x:Nd)(st:List Tl)(s:Lk):Lo (List Tl×Lk):=
 if 2000<s.lk+1 then .bad x.site 3
 else match pT E cal fs vs x (st.take (opN x)) s.tick with
  | .ok p=>.ok (p.1::st.drop (opN x),if x.kind=6 then p.2 else p.2.mark E x.site)
  | .bad a e=>.bad a e
def kL(E:LEn)(cal:Nat→List Vr→Lk→Lo (Tl×Lk))(fs:List Fd)(vs:List Vr):List Nd→List Tl→Lk→Lo (List Tl×Lk)
 | [],st,s=>.ok (st,s)
 | x::r,st,s=>match mF E cal fs vs x st s with
  | .ok p=>kL E cal fs vs r p.1 p.2
  | .bad a e=>.bad a e
def fY(x:List Nd):List Nd:=(jC x).map fun i=>(x[i]?).getD ⟨0,0,0,[],[],0,0⟩
def sO(E:LEn):Nat→List Fd→List Vr→List Nd→Lk→Lo (Tl×Lk)
 | 0,_,_,_,_=>.bad 0 0
 | f+1,fs,vs,x,s=>
  match kL E (fun i vs' s'=>match fs[i]? with|some g=>sO E f (fs.take i) vs' g.body s'|none=>.bad 0 0) fs vs (fY x) [] s with
  | .ok (t::_,s')=>.ok (t,s')
  | .ok ([],_)=>.bad 0 0
  | .bad a e=>.bad a e
def TG(us:List Nat)(t:Tl):Prop:=t.ok us.length∧KR t.k t.r∧tyE us (iG us) (tl t)=0
theorem uS{us:List Nat}{t:Ty}(h:tyE us (iG us) t=0):tl (toT t)=t∧TG us (toT t):=by
 have h0:=h;unfold tyE at h;split at h
 ·cases h
 split at h
 ·cases h
 rename_i h1 h2;have hl:∀{x:Int},mJ us.length x=true→(x.toNat:Int)=x∧x.toNat<us.length:=fun {x} hx=>by
  unfold mJ at hx;simp only[bK,cI]at hx;omega
 simp only[not_or,Bool.not_eq_false]at h1 h2;have a0:=hl h2.1;have a1:=hl h2.2.1;have a2:=hl h2.2.2;have e:tl (toT t)=t:=by unfold tl toT;simp only[a0.1,a1.1,a2.1]
 refine⟨e,⟨a0.2,a1.2,a2.2⟩,?_,by rw[e];exact h0⟩
 unfold KR toT;simp only;omega
def ruV(x:Option (D×Bool)):Ty×Int×Int×Int:=match x with
 | some (.tup [.agg [.int _ k,.int _ r,.int _ p,.int _ q,.int _ z,.int _ w,.int _ c],.int _ e],_)=>(⟨k,r,p,q,z⟩,w,c,e)
 | _=>(⟨0,0,0,0,0⟩,0,0,1)
def argD(ts:List Tl):D:=.sl false ts.length (ts.map tlC).flatten
def RDl(n:Nat)(d e:D)(p:Int)(ts:List Tl):Ty×Int×Int×Int:=ruV (cl (n+12) 126 [.agg [d,e],.int .i64 p,argD ts])
theorem rd_ok(n:Nat){ss:List (List UInt8)}{us:List Nat}{d e:D}(h:Lt ss us d e)(p:Int){ts:List Tl}(hl:ts.length=1∨ts.length=2)(hg:∀t∈ts,TG us t):
  ∃(t:Ty) (w c er:Int),RDl n d e p ts=(t,w,c,er)∧cl (n+12) 126 [.agg [d,e],.int .i64 p,argD ts]=some (.tup [.agg [.int .i64 t.kind,.int .i64 t.rank,.int .i64 t.a0,.int .i64 t.a1,.int .i64 t.data,.int .i64 w,.int .i64 c],.int .i64 er],true)∧(er=0→Rg us.length w∧Rg us.length c):=by
 have hsl:Sl 5 tlC ts (argD ts):=⟨fun r hr=>by obtain⟨t,_,rfl⟩:=cR.1 hr;rfl,.inr ⟨false,by rw[gP];rfl⟩⟩
 have hr:RuRes us.length (cl (n+12) 126 [.agg [d,e],.int .i64 p,argD ts]):=by
  match ts,hl with
  | [t],_=>
   obtain⟨h1,h2,h3⟩:=hg t (by simp)
   exact c126_1 n h t h1 h2 h3 p hsl
  | [t,u],_=>
   obtain⟨h1,h2,h3⟩:=hg t (by simp)
   obtain⟨g1,g2,g3⟩:=hg u (by simp)
   exact c126_2 n h t u h1 h2 h3 g1 g2 g3 p hsl
 obtain⟨k,r,p',q,z,w,c,er,h1,h2⟩:=hr;exact⟨⟨k,r,p',q,z⟩,w,c,er,by unfold RDl;rw[h1];rfl,h1,h2⟩
theorem ofD_find(vs:List Vr)(s:List UInt8):ofD vs s=match vs.find? (fun v=>decide (v.name=s)) with
  | none=>.tup [.agg ty0,.int .i64 24]
  | some v=>.tup [.agg (tyC v.ty),.int .i64 0]:=by
 unfold ofD;rcases eV (ofP vs s) (.tup [.agg ty0,.int .i64 24]) vs.length 0 with⟨h1,h2⟩|⟨m,r,_,hm,h3,h4,h5⟩
 ·rw[h2,List.find?_eq_none.2];intro x hx;obtain⟨i,hi,rfl⟩:=fB hx;have:=h1 i (dD _) (by omega)
  rw[ofP,aJ hi]at this;simp only at this;split at this
  ·cases this
  ·simpa using by assumption
 ·have hm':m<vs.length:=by omega
  rw[ofP,aJ hm']at h3;simp only at h3;split at h3
  case isFalse=>cases h3
  rename_i hn;cases h3;have:vs.find? (fun v=>decide (v.name=s))=some vs[m]:=List.find?_eq_some_iff_getElem.2 ⟨by simpa using hn,m,hm',rfl,fun j hj=>by
   have:=h4 j (dD _) hj;rw[ofP,aJ (by omega)]at this
   simp only at this;split at this
   ·cases this
   ·simpa using by assumption⟩
  rw[h5,this]
theorem fx_find(fs:List Fd)(s:List UInt8):scan (fxP fs s) (-1) fs.length 0=match fs.findIdx? (fun f=>decide (f.name=s)) with
  | none=>-1
  | some i=>(i:Int):=by
 rcases eV (fxP fs s) (-1) fs.length 0 with⟨h1,h2⟩|⟨m,r,_,hm,h3,h4,h5⟩
 ·rw[h2,List.findIdx?_eq_none_iff.2];intro x hx;obtain⟨i,hi,rfl⟩:=fB hx;have:=h1 i (dD _) (by omega)
  rw[fxP,aJ hi]at this;simp only at this;split at this
  ·cases this
  ·simpa using by assumption
 ·have hm':m<fs.length:=by omega
  rw[fxP,aJ hm']at h3;simp only at h3;split at h3
  case isFalse=>cases h3
  rename_i hn;cases h3;have:fs.findIdx? (fun f=>decide (f.name=s))=some m:=List.findIdx?_eq_some_iff_getElem.2 ⟨hm',by simpa using hn,fun j hj=>by
   have:=h4 j (dD _) hj;rw[fxP,aJ (by omega)]at this
   simp only at this;split at this
   ·cases this
   ·simpa using by assumption⟩
  rw[h5,this]
theorem B44_eq:B44=(.seq (.reg none [⟨some 4,(.new 37 (.c (.agg [(.int .i64 0),(.int .i64 0),(.int .i64 0),(.int .i64 0),(.int .i64 0)]))),none⟩]) (.seq (.reg none [⟨some 13,.mkm,none⟩,⟨some 14,(.mv (.t 0)),none⟩,⟨some 15,(.mkfn (.func 83) [(.t 14)] []),none⟩,⟨none,(.mup .int (.t 13) (.c (.int .i64 1)) (.t 15)),none⟩,⟨some 16,(.mv (.t 0)),none⟩,⟨some 17,(.mkfn (.func 84) [(.t 16)] []),none⟩,⟨none,(.mup .int (.t 13) (.c (.int .i64 3)) (.t 17)),none⟩,⟨some 18,(.mv (.t 0)),none⟩,⟨some 19,(.mkfn (.func 85) [(.t 18)] []),none⟩,⟨none,(.mup .int (.t 13) (.c (.int .i64 2)) (.t 19)),none⟩,⟨some 20,(.mv (.t 0)),none⟩,⟨some 21,(.mkfn (.func 86) [(.t 20)] []),none⟩,⟨none,(.mup .int (.t 13) (.c (.int .i64 4)) (.t 21)),none⟩,⟨some 22,(.mv (.t 0)),none⟩,⟨some 23,(.mkfn (.func 87) [(.t 22)] []),none⟩,⟨none,(.mup .int (.t 13) (.c (.int .i64 5)) (.t 23)),none⟩,⟨some 24,(.mv (.t 0)),none⟩,⟨some 25,(.mkfn (.func 88) [(.t 24)] []),none⟩,⟨none,(.mup .int (.t 13) (.c (.int .i64 6)) (.t 25)),none⟩,⟨some 26,(.mv (.t 13)),none⟩,⟨some 5,(.mv (.t 26)),none⟩]) (.seq (.reg none [⟨some 28,(.mv (.t 1)),none⟩,⟨some 29,(.call 89 [(.t 28)]),none⟩,⟨some 27,(.mv (.t 29)),none⟩,⟨some 30,(.ext 0 (.t 27)),none⟩,⟨some 31,(.ext 1 (.t 27)),none⟩,⟨some 6,(.mv (.t 30)),none⟩,⟨some 7,(.mv (.t 31)),none⟩]) (.seq (.reg none [⟨some 32,(.mv (.t 7)),none⟩,⟨some 33,(.call 41 [(.c (.int .i64 0)),(.t 32)]),none⟩]) (.seq (.reg none [⟨some 8,(.mv (.c .nils)),none⟩]) (.seq (.seq (.reg none [⟨some 34,(.mv (.t 6)),none⟩,⟨some 35,(.len false (.t 34)),none⟩,⟨some 36,(.mv (.c (.int .i64 0))),none⟩]) (.block 0 (.loop (.seq (.reg none [⟨some 37,(.bin .lss (.t 36) (.t 35)),none⟩]) (.seq (.cond (.t 37) .skip (.exit 0)) (.seq (.block 2 (.seq La1 (.seq La2 (.seq La3 (.seq La4 (.seq La5 (.seq La6 (.seq La7 (.seq La8 La9))))))))) (.reg none [⟨some 106,(.bin .add (.t 36) (.c (.int .i64 1))),none⟩,⟨some 36,(.mv (.t 106)),none⟩]))))))) (.seq (.reg none [⟨some 107,(.mv (.t 8)),none⟩,⟨some 108,(.iaS 5 (.t 107) (.c (.int .i64 0))),none⟩,⟨some 109,(.ld (some 5) (.t 108)),none⟩,⟨none,(.st 5 (.t 4) (.t 109)),none⟩]) .ret))))))):=rfl
structure TI (K By R4:Nat) (dx w:D) (L i:Nat) (q8:D) (t:Tm):Prop where
 q0:tget t 0 = .ptr K 0
 q1:tget t 1=dx
 q4:tget t 4 = .ptr R4 0
 q5:tget t 5 = .mp By
 q8:tget t 8=q8
 q34:tget t 34=w
 q35:tget t 35 = .int .i64 (L:Nat)
 q36:tget t 36 = .int .i64 (i:Nat)
structure LkC where
 d:D
 e:D
 low:Nat
 pc:Nat
 M:Nat
 v:D
 f:D
structure Bad (C:LkC) (K:Nat) (s:St) (c:Nat) (s':St) (c':Nat):Prop where
 le:c≤c'
 fr:∀m,c'≤m→sget s' m=none
 hK:∃cs,sget s' K=some (.fix 96 cs)∧cs.length=14
 old:∀m,m<c→m≠K→m≠C.M→sget s' m=sget s m
def LkC.blk(C:LkC)(s:Lk)(q:D):Blk:=.fix 96 (lrC C.d C.e C.low C.pc s.ec (s.lk:Nat) (.mp C.M) C.v C.f q)
theorem gA(n j:Nat)(C:LkC){K By R4:Nat}{x:List Nd}{o:List Nat}{dx w:D}(hx:Sl 7 bW x dx)(hw:Sl 1 jI o w){i:Nat}(hi:i<o.length)(ho:o[i]<x.length){q8 q:D}{t:Tm}(hT:TI K By R4 dx w o.length i q8 t){s:St}{c:Nat}{sm:Lk}(hK:sget s K=some (C.blk sm q))(hKc:K<c)(hfr:∀m,c≤m→sget s m=none)(hlk:sm.lk≤2000):
  (2000<sm.lk+1→∃t' s' c',zC (.seq La1 (.seq La2 (.seq La3 La4))) (cxn n) (fn n (j+1)) KK ⟨t,s,c,[],none⟩ = .ok (.pan (jD x[o[i]].site 3)) ⟨t',s',c',[],none⟩∧Bad C K s c s' c') ∧
  (¬2000<sm.lk+1→∃t' s',zC (.seq La1 (.seq La2 (.seq La3 (.seq La4 La5)))) (cxn n) (fn n (j+1)) KK ⟨t,s,c,[],none⟩ = .ok .normal ⟨t',s',c+1,[],none⟩∧TI K By R4 dx w o.length i q8 t'∧tget t' 11 = .ptr c 0 ∧
   sget s' c=some (.fix 57 (bW x[o[i]]))∧sget s' K=some (C.blk sm.tick .nils)∧∀m,m≠c→m≠K→sget s' m=sget s m):=by
 obtain⟨q0,q1,q4,q5,q8',q34,q35,q36⟩:=hT;have ia:=hw.ia1 hi (k:=.i64);have at1:=hw.at1 hi;have ix:=hx.ia ho (k:=.i64);have row:=hx.row ho;have kc:(K=c)=False:=aL (by omega)
 have ck:(c=K)=False:=aL (by omega)
 have hinc:=kS (a:=sm.lk) (by omega)
 unfold LkC.blk lrC at *;simp only[jI,bW]at *;refine⟨fun h=>?_,fun h=>?_⟩
 ·have hd:decide ((2000:Int)<((sm.lk+1:Nat):Int))=true:=bH (by omega)
  simp only[La1,La2,La3,La4,Ab.abq];simp only[z2,seval,q0,q1,q34,q36,ia,at1,ix,row,hK,kc,ck,hinc,hd,dR,nb,eX,show((3:Int)=0)=False from aL (by decide)]
  refine⟨_,_,_,rfl,Nat.le_succ _,fun m hm=>?_,⟨_,by rw[aO,aH rfl],rfl⟩,fun m m1 m2 m3=>?_⟩
  ·have hm':c+1≤m:=hm;simp only[aO,aX];rw[aD (by omega),aD (by omega),aD (by omega)];exact hfr m (by omega)
  simp only[aO,aX];rw[aD m2,aD (by omega),aD (by omega)]
 ·have hd:decide ((2000:Int)<((sm.lk+1:Nat):Int))=false:=aK (by omega)
  simp only[La1,La2,La3,La4,La5,Ab.abq];simp only[z2,seval,q0,q1,q34,q36,ia,at1,ix,row,hK,kc,ck,hinc,hd,dR,nb,eX];refine⟨_,_,rfl,⟨?_,?_,?_,?_,?_,?_,?_,?_⟩,?_,?_,?_,?_⟩
  ·simpa[aE]using q0
  ·simpa[aE]using q1
  ·simpa[aE]using q4
  ·simpa[aE]using q5
  ·simpa[aE]using q8'
  ·simpa[aE]using q34
  ·simpa[aE]using q35
  ·simpa[aE]using q36
  ·simp[aE]
  ·simp[aE,ck]
  ·simp[aE,Lk.tick]
  ·intro m h1 h2;simp only[aO,aX,aD h1,aD h2]
theorem enc_tl:EncG 5 tlC:=⟨fun _=>rfl,by decide,fun _=>rfl,fun _ _ _ _=>rfl⟩
def StkD(B:Nat)(s:St)(q:D)(st:List Tl):Prop:=(q = .nils∧st=[])∨∃m ty cs,B≤m∧q = .gs m 0 5 st.length∧sget s m=some (.grow ty cs)∧st.length*5≤cs.length∧cs.take (st.length*5)=cZ tlC st.reverse
theorem StkD.keep{B:Nat}{s s':St}{q:D}{st:List Tl}(h:StkD B s q st)(hs:∀m,B≤m→(∃b,sget s m=some b)→sget s' m=sget s m):StkD B s' q st:=by
 rcases h with h|⟨m,ty,cs,h1,h2,h3,h4,h5⟩
 ·exact .inl h
 ·exact .inr ⟨m,ty,cs,h1,h2,by rw[hs m h1 ⟨_,h3⟩,h3],h4,h5⟩
theorem slv_lo{m L r:Nat}(h:r<L):uT 5 (.gs m 0 5 L) (some (.int .i64 (r:Nat))) none none=some (.gs m (r*5) 5 (L-r)):=by
 have hb:uE L (.int .i64 (r:Nat))=some r:=kQ (by omega)
 simp only[uT,fL,aB,aN,hb,fF,aU,bP];cases r with
 | zero=>simp
 | succ r=>rw[show Nat.beq (r+1) 0=false from rfl,show Nat.blt (r+1) L=true from cG h];rfl
theorem slv_hi{m L r:Nat}(h:r≤L):uT 5 (.gs m 0 5 L) none (some (.int .i64 (r:Nat))) none=some (.gs m 0 5 r):=by
 have hb:uE L (.int .i64 (r:Nat))=some r:=kQ h;simp only[uT,fL,aB,aN,hb,fF,aU,bP]
theorem part_cells{cs:List D}{a b:List Tl}(h1:(a.length+b.length)*5≤cs.length)(h2:cs.take ((a.length+b.length)*5)=cZ tlC (a++b)):(cs.drop (a.length*5)).take (b.length*5)=cZ tlC b∧cs.take (a.length*5)=cZ tlC a:=by
 rw[rH]at h2;have la:=enc_tl.cells_len a;generalize cZ tlC a=x at *;generalize cZ tlC b=y at *;have e1:cs.take (a.length*5)=x:=by
  have:=congrArg (List.take (a.length*5)) h2;rw[List.take_take,Nat.min_eq_left (by omega),←la,List.take_left]at this
  rw[←la];exact this
 refine⟨?_,e1⟩;have:=congrArg (List.drop (a.length*5)) h2;rw[List.drop_take,show(a.length+b.length)*5-a.length*5=b.length*5 by omega]at this
 rw[this,←la,List.drop_left]
theorem gB0(n j:Nat){K By R4 L i Kn:Nat}{dx w q8:D}{t:Tm}(hT:TI K By R4 dx w L i q8 t)(h11:tget t 11 = .ptr Kn 0){s:St}{c:Nat}{y:Nd}(hn:sget s Kn=some (.fix 57 (bW y)))(h5:y.kind≠5)(h6:y.kind≠6):
  ∃t',zC La6 (cxn n) (fn n j) KK ⟨t,s,c,[],none⟩ = .ok .normal ⟨t',s,c,[],none⟩∧TI K By R4 dx w L i q8 t'∧tget t' 11 = .ptr Kn 0:=by
 obtain⟨q0,q1,q4,q5,q8',q34,q35,q36⟩:=hT;unfold bW at hn;simp only[La6,Ab.abq];simp only[z2,seval,h11,hn,aK h5,aK h6,nb];refine⟨_,rfl,⟨?_,?_,?_,?_,?_,?_,?_,?_⟩,?_⟩
 ·simpa[aE]using q0
 ·simpa[aE]using q1
 ·simpa[aE]using q4
 ·simpa[aE]using q5
 ·simpa[aE]using q8'
 ·simpa[aE]using q34
 ·simpa[aE]using q35
 ·simpa[aE]using q36
 ·simpa[aE]using h11
theorem gB(n j:Nat)(C:LkC){K By R4 L i Kn:Nat}{dx w q8 q:D}{t:Tm}(hT:TI K By R4 dx w L i q8 t)(h11:tget t 11 = .ptr Kn 0){s:St}{c:Nat}{y:Nd}(hn:sget s Kn=some (.fix 57 (bW y)))(h56:y.kind=5∨y.kind=6)
  {st:List Tl} {k:Nat} (hk:k=1∨k=2) (hyk:y.kids=(k:Nat)) (hkl:k≤st.length) (hL:st.length<1000) {B:Nat} (hS:StkD B s q8 st) (hKB:K<B) (hnB:Kn≠K) (hBc:B≤c) (hnc:Kn<c) {sm:Lk} (hK:sget s K=some (C.blk sm q)) (hfr:mX s c) :
  ∃t' s' c' q',zC La6 (cxn n) (fn n (j+1)) KK ⟨t,s,c,[],none⟩ = .ok .normal ⟨t',s',c',[],none⟩∧TI K By R4 dx w L i q' t'∧tget t' 11 = .ptr Kn 0∧StkD B s' q' (st.drop k)∧c+1<c' ∧
   sget s' K=some (C.blk sm (.gs (c+1) 0 5 k))∧sget s' (c+1)=some (.grow 37 (cZ tlC (st.take k)))∧(∀m,m<c→m≠K→sget s' m=sget s m)∧mX s' c':=by
 obtain⟨q0,q1,q4,q5,q8',q34,q35,q36⟩:=hT;rcases hS with⟨_,rfl⟩|⟨m,ty,cs,hm,rfl,hs,hl,hc⟩
 ·simp at hkl;omega
 have hmc:m<c:=gR fun h=>by rw[hfr m h]at hs;cases hs
 have hsplit:st.reverse=(st.drop k).reverse++(st.take k).reverse:=by rw[←List.reverse_append,List.take_append_drop]
 have hlen:(st.drop k).reverse.length+(st.take k).reverse.length=st.length:=by simp;omega
 have hld:(st.drop k).reverse.length=st.length-k:=by simp
 have hlt:(st.take k).reverse.length=k:=by simp;omega
 rw[hsplit,←hlen]at hc;obtain⟨p1,p2⟩:=part_cells (a:=(st.drop k).reverse) (b:=(st.take k).reverse) (by rw[hlen];exact hl) hc
 rw[hld,hlt]at p1;rw[hld]at p2;have hsub:cT .i64 ((st.length:Int)-(k:Int))=((st.length-k:Nat):Int):=by rw[gU (by omega) (by omega)];omega
 have lo:=slv_lo (m:=m) (L:=st.length) (r:=st.length-k) (by omega)
 rw[show st.length-(st.length-k)=k by omega]at lo
 have hi:=slv_hi (m:=m) (L:=st.length) (r:=st.length-k) (by omega)
 have hsc:dC (sadd s c (.fix 0 [])) 5 (.gs m ((st.length-k)*5) 5 k)=some (cZ tlC (st.take k).reverse,k):=by
  have e:sget (sadd s c (.fix 0 [])) m=some (.grow ty cs):=by rw[aX,aD (by omega),hs]
  simp only[dC,e,aB,aN,dX,fF,Bool.true_and,cG (show(st.length-k)*5+k*5≤cs.length by omega),aU,p1]
 have h90:=f90 n j (p:=.gs m ((st.length-k)*5) 5 k) (by rcases hk with rfl|rfl<;>rfl) hsc hk
 obtain⟨s3,hs3⟩:∃s3,s3=sset (sadd (sadd s c (.fix 0 [])) (c+1) (.grow 37 (cZ tlC (st.take k).reverse))) K (C.blk sm (.gs (c+1) 0 5 k)):=⟨_,rfl⟩
 have g3:∀a,sget s3 a=if a=K then some (C.blk sm (.gs (c+1) 0 5 k)) else if a=c+1 then some (.grow 37 (cZ tlC (st.take k).reverse)) else if a=c then some (.fix 0 []) else sget s a:=fun a=>by rw[hs3];simp only[aO,aX]
 have h91:∃s4 c4,fn n (j+1) (.fn 91) [.gs (c+1) 0 5 k] s3 (c+1+1) = .ok (.ret (.tup [])) s4 c4∧c+1+1≤c4∧sget s4 (c+1)=some (.grow 37 (cZ tlC (st.take k)))∧∀a,a≠c+1→sget s4 a=sget s3 a:=by
  rcases hk with rfl|rfl
  ·refine⟨s3,c+1+1,f91_1 n j s3 _,aI _,?_,fun _ _=>rfl⟩
   rw[g3,aD (by omega),aH rfl]
   match st,hkl with
   | a::r,_=>rfl
  ·match st,hkl with
   | a::b::r,_=>
    obtain⟨s4,h1,h2,h3⟩:=f91_2 n j (m:=c+1) (t:=b) (u:=a) (s:=s3) (c:=c+1+1) (by rw[g3,aD (by omega),aH rfl];rfl)
    exact⟨s4,_,h1,by omega,by rw[h2];rfl,h3⟩
 obtain⟨s4,c4,h91,hc4,e4,o4⟩:=h91;have k1:(K=c)=False:=aL (by omega)
 have k2:(K=c+1)=False:=aL (by omega)
 have h56':(decide (y.kind=5)||decide (y.kind=6))=true:=by rcases h56 with h|h<;>simp[h]
 have hKn:=hn;unfold LkC.blk lrC at hK hs3;unfold bW at hKn;have hfr4:mX s4 c4:=fun a ha=>by
  rw[o4 a (by omega),g3,aD (by omega),aD (by omega),aD (by omega)];exact hfr a (by omega)
 have res:∀t',(TI K By R4 dx w L i (.gs m 0 5 (st.length-k)) t'∧tget t' 11 = .ptr Kn 0)→zC La6 (cxn n) (fn n (j+1)) KK ⟨t,s,c,[],none⟩ = .ok .normal ⟨t',s4,c4,[],none⟩→∃t' s' c' q',zC La6 (cxn n) (fn n (j+1)) KK ⟨t,s,c,[],none⟩ = .ok .normal ⟨t',s',c',[],none⟩∧TI K By R4 dx w L i q' t'∧tget t' 11 = .ptr Kn 0∧StkD B s' q' (st.drop k)∧c+1<c' ∧
   sget s' K=some (C.blk sm (.gs (c+1) 0 5 k))∧sget s' (c+1)=some (.grow 37 (cZ tlC (st.take k)))∧(∀m,m<c→m≠K→sget s' m=sget s m)∧mX s' c':=fun t' ht' hz=>
  ⟨t',s4,c4,_,hz,ht'.1,ht'.2,.inr ⟨m,ty,cs,hm,by rw[fH],by rw[o4 m (by omega),g3,aD (by omega),aD (by omega),aD (by omega),hs],by rw[fH];omega,by rw[fH];exact p2⟩,by omega,
   by rw[o4 K (by omega),g3,aH rfl],e4,fun a ha hne=>by rw[o4 a (by omega),g3,aD hne,aD (by omega),aD (by omega)],hfr4⟩
 have e3:sget s3 K=some (C.blk sm (.gs (c+1) 0 5 k)):=by rw[g3,aH rfl]
 unfold LkC.blk lrC at e3;have hlen8:lenD false (.gs m 0 5 st.length)=some st.length:=rfl;rcases h56 with h5|h6
 ·have hd5:=bH h5;refine res ?t ?_ ?_
  rotate_left 2
  ·simp only[La6,Ab.abq];simp only[z2,seval,q0,q8',h11,hKn,hd5,hyk,hlen8,hsub,lo,h90,k1,k2,hK,dR,nb];rw[←hs3];simp only[z2,seval,q0,e3,h91,hi,q8',dR,nb];rfl
  ·refine⟨⟨?_,?_,?_,?_,?_,?_,?_,?_⟩,?_⟩
   ·simpa[aE]using q0
   ·simpa[aE]using q1
   ·simpa[aE]using q4
   ·simpa[aE]using q5
   ·simp[aE]
   ·simpa[aE]using q34
   ·simpa[aE]using q35
   ·simpa[aE]using q36
   ·simpa[aE]using h11
 ·have hd5:=aK (show ¬y.kind=5 by omega)
  have hd6:=bH h6;refine res ?u ?_ ?_
  rotate_left 2
  ·simp only[La6,Ab.abq];simp only[z2,seval,q0,q8',h11,hKn,hd5,hd6,hyk,hlen8,hsub,lo,h90,k1,k2,hK,dR,nb];rw[←hs3];simp only[z2,seval,q0,e3,h91,hi,q8',dR,nb];rfl
  ·refine⟨⟨?_,?_,?_,?_,?_,?_,?_,?_⟩,?_⟩
   ·simpa[aE]using q0
   ·simpa[aE]using q1
   ·simpa[aE]using q4
   ·simpa[aE]using q5
   ·simp[aE]
   ·simpa[aE]using q34
   ·simpa[aE]using q35
   ·simpa[aE]using q36
   ·simpa[aE]using h11
theorem setAt_mid{α:Type}:∀(pre mid post vs:List α),mid.length=vs.length→eU (pre++(mid++post)) pre.length vs=pre++(vs++post)
 | pre,[],post,[],_=>by simp[eU]
 | _,[],_,_::_,h=>by simp at h
 | _,_::_,_,[],h=>by simp at h
 | pre,c::cs,post,v::vs,h=>by
  have:=setAt_mid (pre++[v]) cs post vs (by simpa using h)
  simp only[eU];rw[show(pre++(c::cs++post)).set pre.length v=(pre++[v])++(cs++post) by simp]
  simpa using this
theorem stk_app{B:Nat}{tm:Tm}{s:St}{c nb:Nat}{dd:List (D×List D)}{r:Option Nat}{q:D}{st:List Tl}{u:Tl}(h:StkD B s q st)(hb:sget s nb=some (.fix 0 (tlC u)))(hB:B≤c)(hfr:mX s c)(hl:st.length<1000):
  ∃q' s' c',nT ⟨tm,s,c,dd,r⟩ 5 40 37 q (.ms nb 0 5 1 1)=some (q',⟨tm,s',c',dd,r⟩)∧StkD B s' q' (u::st)∧c≤c'∧mX s' c'∧∀m,m<c→(m<B∨∀ty cs,sget s m≠some (.grow ty cs))→sget s' m=sget s m:=by
 have hc:dC s 5 (.ms nb 0 5 1 1)=some (tlC u,1):=by simp only[dC,hb];rfl
 have hrm:∀k,k≤4294967296→room k 40=true:=fun k hk=>by unfold room;rw[cG hk];rfl
 have hul:(tlC u).length=5:=rfl;unfold nT;simp only;rw[hc];simp only[aB,aN];rcases h with⟨rfl,rfl⟩|⟨m,ty,cs,hm,rfl,hs,hle,htk⟩
 ·refine⟨.gs c 0 5 1,sadd s c (.grow 37 (tlC u)),c+1,rfl,.inr ⟨c,37,tlC u,hB,rfl,by rw[aX,aH rfl],by simp[hul],rfl⟩,by omega,fun m hm=>by rw[aX,aD (by omega)];exact hfr m (by omega),fun m hm _=>by rw[aX,aD (by omega)]⟩
 ·have hmc:m<c:=gR fun h=>by rw[hfr m h]at hs;cases hs
  have hun:(tlC u).any eP=false:=rfl;have hcu:cZ tlC (u::st).reverse=cZ tlC st.reverse++tlC u:=by rw[List.reverse_cons,rH];simp[cZ]
  simp only[hs,show Nat.beq 1 0=false from rfl,cD,fF,hun,bI,Bool.and_true,aU,bP]
  by_cases hbig:(st.length+1)*5≤cs.length
  ·rw[cG hbig,aU];have e0:cs=cs.take (st.length*5)++((cs.drop (st.length*5)).take 5++cs.drop (st.length*5+5)):=by
    rw[←List.drop_drop,List.take_append_drop,List.take_append_drop]
   have l0:(cs.take (st.length*5)).length=st.length*5:=by rw[dM];omega
   have l1:((cs.drop (st.length*5)).take 5).length=(tlC u).length:=by rw[dM,fH,hul];omega
   have hset:eU cs (st.length*5) (tlC u)=cs.take (st.length*5)++(tlC u++cs.drop (st.length*5+5)):=by
    have:=setAt_mid (cs.take (st.length*5)) ((cs.drop (st.length*5)).take 5) (cs.drop (st.length*5+5)) (tlC u) l1;rw[←e0,l0]at this;exact this
   have hst:stB (.grow ty cs) (st.length*5) (tlC u)=some (.grow ty (eU cs (st.length*5) (tlC u))):=by
    simp only[stB,hun,cD,hul,cG (show st.length*5+5≤cs.length by omega),aU]
   rw[hst];refine⟨_,_,_,rfl,.inr ⟨m,ty,_,hm,rfl,by rw[aO,aH rfl],?_,?_⟩,aI _,fun a ha=>by rw[aO,aD (by omega)];exact hfr a ha,fun a ha hn=>?_⟩
   ·rw[hset];simp only[dK,l0,hul,fH,aV];omega
   ·rw[hset,htk,hcu,←List.append_assoc,aV];refine List.take_left' ?_;rw[←htk,dK,l0,hul];omega
   ·rw[aO];split
    ·rename_i e;rw[e]at hn;exact hn.elim (by omega) fun hn=>absurd hs (hn _ _)
    ·rfl
  ·have hnb:Nat.ble ((st.length+1)*5) cs.length=false:=by rw[←eW,Nat.ble_eq];exact hbig
   rw[hnb,cD,cG hle,hrm (st.length+1) (by omega)]
   refine⟨_,_,_,rfl,.inr ⟨c,_,_,hB,rfl,by rw[aX,aH rfl],?_,?_⟩,Nat.le_succ _,fun a ha=>?_,fun a ha hn=>?_⟩
   ·simp only[dK,dM,hul,aV];omega
   ·rw[hcu,htk];refine cX ?_;rw[←htk,dK,dM,hul,aV];omega
   ·have ha':c+1≤a:=ha;rw[aX,aD (by omega),iE]
    split
    ·rfl
    ·exact hfr a (by omega)
   ·rw[aX,aD (by omega),iE]
    split
    ·rename_i e;rw[e]at hn;exact hn.elim (by omega) fun hn=>absurd hs (hn _ _)
    ·rfl
def byE(K:Nat):List rJ:=[(.int .i64 1,.fn (.func 83) [.ptr K 0] [],0),(.int .i64 3,.fn (.func 84) [.ptr K 0] [],1),(.int .i64 2,.fn (.func 85) [.ptr K 0] [],2),(.int .i64 4,.fn (.func 86) [.ptr K 0] [],3),(.int .i64 5,.fn (.func 87) [.ptr K 0] [],4),(.int .i64 6,.fn (.func 88) [.ptr K 0] [],5)]
def byF(k:Int):Nat:=if k=1 then 83 else if k=3 then 84 else if k=2 then 85 else if k=4 then 86 else if k=5 then 87 else 88
theorem by_find{k:Int}(h:1≤k∧k≤6)(K:Nat):∃p,mfind .int (.int .i64 k) (byE K) 0=some (some (p,.fn (.func (byF k)) [.ptr K 0] [])):=by
 have:k=1∨k=2∨k=3∨k=4∨k=5∨k=6:=by omega
 rcases this with rfl|rfl|rfl|rfl|rfl|rfl<;>exact⟨_,rfl⟩
structure SI (C:LkC) (K By R4 B:Nat) (s0:St) (c0:Nat) (sm:Lk) (st:List Tl) (q8 q:D) (s:St) (c:Nat):Prop where
 hK:sget s K=some (C.blk sm q)
 hM:sget s C.M=some (.mp (mpE 0 sm.lm) sm.lm.length)
 hBy:sget s By=some (.mp (byE K) 6)
 hR:sget s R4=some (.fix 37 ty0)
 old:∀m,m<c0→m≠K→m≠C.M→sget s m=sget s0 m
 stk:StkD B s q8 st
 fr:mX s c
 le:B≤c
 nag:eP q=false
structure PI (C:LkC) (K By R4 B c0:Nat):Prop where
 pK:K<c0
 pM:C.M<c0
 pKM:K≠C.M
 pR:c0≤R4
 pBy:R4<By
 pB:By<B
structure Cal (C:LkC) (K:Nat) (sm:Lk) (q:D) (s:St) (c:Nat) (s':St) (c':Nat):Prop where
 le:c≤c'
 hK:sget s' K=some (C.blk sm q)
 hM:sget s' C.M=some (.mp (mpE 0 sm.lm) sm.lm.length)
 old:∀m,m<c→m≠K→m≠C.M→sget s' m=sget s m
 fr:mX s' c'
 nag:eP q=false
theorem SI.cal{C:LkC}{K By R4 B c0:Nat}{s0:St}{sm sm':Lk}{st:List Tl}{q8 q q':D}{s s':St}{c c':Nat}(h:SI C K By R4 B s0 c0 sm st q8 q s c)(hP:PI C K By R4 B c0)(g:Cal C K sm' q' s c s' c'):SI C K By R4 B s0 c0 sm' st q8 q' s' c':=by
 obtain⟨p1,p2,p3,p4,p5,p6⟩:=hP;have hle:=h.le;have gle:=g.le;refine⟨g.hK,g.hM,by rw[g.old _ (by omega) (by omega) (by omega),h.hBy],by rw[g.old _ (by omega) (by omega) (by omega),h.hR],fun m h1 h2 h3=>by rw[g.old m (by omega) h2 h3,h.old m h1 h2 h3],h.stk.keep fun m hm hb=>g.old m ?_ (by omega) (by omega),g.fr,by omega,g.nag⟩
 exact gR fun hc=>by obtain⟨b,hb⟩:=hb;rw[h.fr m hc]at hb;cases hb
theorem gC(n j:Nat)(C:LkC){K By R4 B c0 L i Kn:Nat}{dx w q8 q:D}{t:Tm}(hT:TI K By R4 dx w L i q8 t)(h11:tget t 11 = .ptr Kn 0){s s0:St}{c:Nat}{y:Nd}(hn:sget s Kn=some (.fix 57 (bW y)))(hkn:B≤Kn)(hk:1≤y.kind∧y.kind≤6)
  {sm sm':Lk} {st:List Tl} (hS:SI C K By R4 B s0 c0 sm st q8 q s c) (hP:PI C K By R4 B c0) (hl:st.length<1000) {u:Tl} {s1:St} {c1:Nat} {q1:D} (hc:fn n j (.fn (byF y.kind)) [.ptr K 0,.agg (bW y)] s c = .ok (.ret (.agg (tlC u))) s1 c1) (hC:Cal C K sm' q1 s c s1 c1) :
  ∃t' s' c' q',zC La7 (cxn n) (fn n j) KK ⟨t,s,c,[],none⟩ = .ok .normal ⟨t',s',c',[],none⟩∧TI K By R4 dx w L i q' t'∧tget t' 11 = .ptr Kn 0∧sget s' Kn=some (.fix 57 (bW y))∧SI C K By R4 B s0 c0 sm' (u::st) q' q1 s' c':=by
 obtain⟨q0,q1',q4,q5,q8',q34,q35,q36⟩:=hT;obtain⟨p,hf⟩:=by_find hk K;have hB:=hS.hBy;have h1:=hS.cal hP hC;obtain⟨p1,p2,p3,p4,p5,p6⟩:=hP;have hle:=hS.le;have hle1:=hC.le;have hKnc:Kn<c:=gR fun h=>by rw[hS.fr _ h]at hn;cases hn
 have hn1:sget s1 Kn=some (.fix 57 (bW y)):=by rw[hC.old _ hKnc (by omega) (by omega),hn]
 have stk1:StkD B (sadd s1 c1 (.fix 0 (tlC u))) q8 st:=h1.stk.keep fun m hm hb=>by
  rw[aX,aD];rintro rfl;obtain⟨b,hb⟩:=hb;rw[h1.fr m (aI _)]at hb;cases hb
 obtain⟨T8,hT8⟩:∃T8,T8=tput (tput (tput (tput (tput (tput (tput (tput t 90 q8) 91 (.mp By)) 92 (.ptr Kn 0)) 93 (.int .i64 y.kind)) 94 (.fn (.func (byF y.kind)) [.ptr K 0] [])) 95 (.agg (bW y))) 96 (.agg (tlC u))) 97 (.ms c1 0 5 1 1):=⟨_,rfl⟩
 obtain⟨q',s',c',ha,hst,hc',hfr',ho⟩:=stk_app (tm:=T8) (dd:=[]) (r:=none) (nb:=c1) (c:=c1+1) (u:=u) stk1 (by rw[aX,aH rfl]) (by omega) (fun m hm=>by rw[aX,aD (by omega)];exact h1.fr m (by omega)) hl
 have gg:∀m,m<c1→(m<B∨∀ty cs,sget s1 m≠some (.grow ty cs))→sget s' m=sget s1 m:=fun m hm hg=>by
  rw[ho m (by omega) (by rw[aX,aD (by omega)];exact hg),aX,aD (by omega)]
 have hg1:∀m b,sget s1 m=some b→(∀ty cs,b≠.grow ty cs)→sget s' m=some b:=fun m b hb hne=>by
  rw[gg m (gR fun h=>by rw[h1.fr m h]at hb;cases hb) (.inr fun ty cs h=>by rw[hb]at h;cases h;exact hne _ _ rfl),hb]
 have hSI:SI C K By R4 B s0 c0 sm' (u::st) q' q1 s' c':=⟨hg1 _ _ h1.hK (fun _ _ h=>by cases h),hg1 _ _ h1.hM (fun _ _ h=>by cases h),hg1 _ _ h1.hBy (fun _ _ h=>by cases h),hg1 _ _ h1.hR (fun _ _ h=>by cases h),?_,hst,hfr',by omega,hC.nag⟩
 refine⟨tput (tput T8 98 q') 8 q',s',c',q',?_,⟨?_,?_,?_,?_,?_,?_,?_,?_⟩,?_,hg1 _ _ hn1 (fun _ _ h=>by cases h),hSI⟩
 ·simp only[La7,Ab.abq];unfold tlC tyC tl bW at *;simp only[z0,seval,q0,q5,q8',h11,hn,hB,hf,iU,cB,bZ,dG,hc];rw[←hT8,ha];simp only[z0,seval]
 ·simpa[aE,hT8]using q0
 ·simpa[aE,hT8]using q1'
 ·simpa[aE,hT8]using q4
 ·simpa[aE,hT8]using q5
 ·simp[aE]
 ·simpa[aE,hT8]using q34
 ·simpa[aE,hT8]using q35
 ·simpa[aE,hT8]using q36
 ·simpa[aE,hT8]using h11
 ·intro m m1 m2 m3;rw[gg m (by omega) (.inl (by omega)),h1.old m m1 m2 m3]
structure VO (us:List Nat) (C:LkC) (K:Nat) (s0:St) (c0:Nat) (vs:List Vr):Prop where
 nag:eP C.v=false
 fz:∃w,Sl 6 vrC vs w∧∀s2,(∀m,m<c0→m≠K→m≠C.M→sget s2 m=sget s0 m)→∀k,frz false (k+2) s2 C.v=some w
 len:vs.length<9223372036854775807
 good:∀x∈vs,tyE us (iG us) x.ty=0
def jO(C:LkC)(K:Nat)(r:Lo (Tl×Lk))(f:FR)(s:St)(c:Nat):Prop:=match r with
 | .ok p=>∃s1 c1 q1,f = .ok (.ret (.agg (tlC p.1))) s1 c1∧Cal C K p.2 q1 s c s1 c1
 | .bad a e=>∃s1 c1,f = .ok (.pan (jD a e)) s1 c1∧Bad C K s c s1 c1
theorem Bad.of{C:LkC}{K:Nat}{sm:Lk}{q:D}{s s':St}{c c':Nat}(hA:Aft s c s' c')(hK:sget s K=some (C.blk sm q))(hKc:K<c):Bad C K s c s' c':=⟨hA.le,hA.free,⟨_,by rw[hA.old K hKc,hK];rfl,rfl⟩,fun m hm _ _=>hA.old m hm⟩
theorem Cal.of{C:LkC}{K:Nat}{sm:Lk}{q:D}{s s':St}{c c':Nat}(hA:Aft s c s' c')(hK:sget s K=some (C.blk sm q))(hM:sget s C.M=some (.mp (mpE 0 sm.lm) sm.lm.length))(hKc:K<c)(hMc:C.M<c)(hq:eP q=false):Cal C K sm q s c s' c':=
 ⟨hA.le,by rw[hA.old K hKc,hK],by rw[hA.old _ hMc,hM],fun m hm _ _=>hA.old m hm,hA.free,hq⟩
theorem frz_arg{s:St}{c:Nat}(hfr:mX s c){ts:List Tl}{a:Nat}(ha:sget s a=some (.grow 37 (cZ tlC ts))):∀s2,(∀m,m<c→sget s2 m=sget s m)→∀k,frz false (k+2) s2 (.gs a 0 5 ts.length)=some (argD ts):=by
 intro s2 hs k;have hac:a<c:=gR fun h=>by rw[hfr a h]at ha;cases ha
 rw[rC,hs a hac,ha];simp only[bP,fM];rw[cG (by rw[enc_tl.cells_len];exact aI _),aU,cX (by rw[enc_tl.cells_len];exact aI _),enc_tl.cells_frz];rfl
section
variable (n j:Nat) {C:LkC} {K:Nat} {sm:Lk} {q:D} {s:St} {c:Nat} (hK:sget s K=some (C.blk sm q)) (hM:sget s C.M=some (.mp (mpE 0 sm.lm) sm.lm.length)) (hKc:K<c) (hMc:C.M<c) (hfr:mX s c) (hqn:eP q=false) (y:Nd)
include hK hM hKc hMc hfr hqn
theorem look_num:jO C K (.ok (⟨1,0,C.low,C.low,C.low⟩,sm)) (fn (n+1) (j+2) (.fn 83) [.ptr K 0,.agg (bW y)] s c) s c:=by
 obtain⟨s',c',h1,h2⟩:=f83 n j hK hKc hfr y;exact⟨s',c',q,h1,Cal.of h2 hK hM hKc hMc hqn⟩
theorem look_list:jO C K (.ok (⟨1,1,C.low,C.low,C.low⟩,sm)) (fn (n+1) (j+3) (.fn 84) [.ptr K 0,.agg (bW y)] s c) s c:=by
 obtain⟨s',c',h1,h2⟩:=f84 n j hK hKc hfr y;exact⟨s',c',q,h1,Cal.of h2 hK hM hKc hMc hqn⟩
theorem look_text:jO C K (.ok (⟨2,1,C.low,C.low,C.low⟩,sm)) (fn (n+1) (j+3) (.fn 85) [.ptr K 0,.agg (bW y)] s c) s c:=by
 obtain⟨s',c',h1,h2⟩:=f85 n j hK hKc hfr y;exact⟨s',c',q,h1,Cal.of h2 hK hM hKc hMc hqn⟩
theorem look_name{us:List Nat}{vs:List Vr}(hV:VO us C K s c vs):jO C K (nameM vs y sm) (fn (n+1) (j+3) (.fn 86) [.ptr K 0,.agg (bW y)] s c) s c:=by
 obtain⟨w,hw,hz⟩:=hV.fz;have ho:=ofD_find vs y.name;unfold nameM;cases hf:vs.find? (fun v=>decide (v.name=y.name)) with
 | none=>
  rw[hf]at ho;obtain⟨s',c',h1,h2⟩:=f86 n j hK hKc hfr hV.nag (fun s2 hs=>hz s2 fun m hm _ _=>hs m hm) hw hV.len y ho
  exact⟨s',c',h1,Bad.of h2 hK hKc⟩
 | some v=>
  rw[hf]at ho;obtain⟨s',c',h1,h2⟩:=f86 n j hK hKc hfr hV.nag (fun s2 hs=>hz s2 fun m hm _ _=>hs m hm) hw hV.len y ho
  have hg:=uS (hV.good v (List.mem_of_find?_eq_some hf));refine⟨s',c',q,?_,Cal.of h2 hK hM hKc hMc hqn⟩;show _=FR.ok (.ret (.agg (tyC (tl (toT v.ty))))) s' c';rw[hg.1];exact h1
theorem look_prim{ss:List (List UInt8)}{us:List Nat}(h:Lt ss us C.d C.e){ts:List Tl}{a:Nat}(hq:q = .gs a 0 5 ts.length)(ha:sget s a=some (.grow 37 (cZ tlC ts)))(hl:ts.length=1∨ts.length=2)(hg:∀t∈ts,TG us t)(hp:C.pc<us.length)(hec:sm.ec<us.length):
  jO C K (pP ⟨us,C.low,C.pc,RDl n C.d C.e⟩ y ts sm) (fn (n+13) (j+3) (.fn 87) [.ptr K 0,.agg (bW y)] s c) s c:=by
 obtain⟨ty,w,cc,er,h1,h2,h3⟩:=rd_ok n h y.prim hl hg;have hz:=frz_arg hfr ha;rw[←hq]at hz;unfold pP;simp only[h1];by_cases h0:er=0
 ·subst h0;obtain⟨⟨w',rfl,hw⟩,⟨c',rfl,hc⟩⟩:=h3 rfl;obtain⟨s',c1,e1,e2,e3⟩:=f87 n j h hK hKc hfr hqn hz y hp hec hw hc h2;rw[aD (fun h=>h rfl)]
  by_cases hE:tyE us (iG us) ty=0
  ·rw[aD (fun h=>h hE)]
   rw[aH hE]at e1;have hA:=e2 hE;have hg:=uS hE;have hM2:C.M≠K:=by rintro e;rw[←e,hM]at hK;cases hK
   refine⟨s',c1,q,?_,⟨hA.le,by rw[hA.old K hKc,aO,aH rfl];rfl,by rw[hA.old _ hMc,aO,aD hM2,hM],fun m hm h1 _=>by rw[hA.old m hm,aO,aD h1],hA.free,hqn⟩⟩
   show _=FR.ok (.ret (.agg (tyC (tl (toT ty))))) s' c1;rw[hg.1];exact e1
  ·rw[aH hE];rw[aD hE]at e1;have hA:=e3 hE;exact⟨s',c1,e1,hA.le,hA.free,⟨_,by rw[hA.old K hKc,aO,aH rfl],rfl⟩,fun m hm h1 _=>by rw[hA.old m hm,aO,aD h1]⟩
 ·rw[aH h0];obtain⟨s',c1,e1,h2⟩:=f87e n j h hK hKc hfr hqn hz y h2 h0;exact⟨s',c1,e1,Bad.of h2 hK hKc⟩
end
end
end Zv
namespace Zv
open Go Ab
noncomputable section
theorem vQ(r:R)(f g:AS→R):zbind (zbind r f) g=zbind r fun x=>zbind (f x) g:=by
 cases r with
 | no=>rfl
 | ok o x=>cases o<;>rfl
theorem zC_sq(a b:AC)(cx:Cx)(cl:CL)(k:Nat):zC (.seq a b) cx cl k=fun x=>zbind (zC a cx cl k x) (zC b cx cl k):=rfl
def LaB:AC:=s La1 (s La2 (s La3 (s La4 (s La5 (s La6 (s La7 (s La8 La9)))))))
theorem LaB_4(cx:Cx)(cl:CL)(k:Nat)(x:AS):zC LaB cx cl k x=zbind (zC (.seq La1 (.seq La2 (.seq La3 La4))) cx cl k x) (zC (.seq La5 (.seq La6 (.seq La7 (.seq La8 La9)))) cx cl k):=by
 simp only[LaB,Ab.abq];simp only[zC_sq,vQ]
theorem LaB_5(cx:Cx)(cl:CL)(k:Nat)(x:AS):zC LaB cx cl k x=zbind (zC (.seq La1 (.seq La2 (.seq La3 (.seq La4 La5)))) cx cl k x) fun y=>zbind (zC La6 cx cl k y) fun y=>zbind (zC La7 cx cl k y) (zC (.seq La8 La9) cx cl k):=by
 simp only[LaB,Ab.abq];simp only[zC_sq,vQ]
structure SG (us:List Nat) (sm:Lk):Prop where
 ec:sm.ec<us.length
 lb:LabN us sm.lm
 lk:sm.lk≤2000
theorem gM(n j:Nat){ss:List (List UInt8)}{us:List Nat}(C:LkC)(h:Lt ss us C.d C.e)(hp:C.pc<us.length){K By R4 B c0 L i Kn:Nat}{dx w q8 q:D}{t:Tm}(hT:TI K By R4 dx w L i q8 t)(h11:tget t 11 = .ptr Kn 0){s s0:St}{c:Nat}{y:Nd}(hn:sget s Kn=some (.fix 57 (bW y)))
  {sm:Lk} {st:List Tl} (hS:SI C K By R4 B s0 c0 sm st q8 q s c) (hP:PI C K By R4 B c0) (hg:sm.ec<us.length) (hb:LabN us sm.lm) (R:Int→List Tl→Ty×Int×Int×Int) :
  ∃t' s' c',zC (.seq La8 La9) (cxn (n+1)) (fn (n+1) (j+3)) KK ⟨t,s,c,[],none⟩ = .ok .normal ⟨t',s',c',[],none⟩∧TI K By R4 dx w L i q8 t'∧SI C K By R4 B s0 c0 (if y.kind=6 then sm else sm.mark ⟨us,C.low,C.pc,R⟩ y.site) st q8 q s' c':=by
 obtain⟨q0,q1',q4,q5,q8',q34,q35,q36⟩:=hT;obtain⟨p1,p2,p3,p4,p5,p6⟩:=hP;have hle:=hS.le;unfold bW at hn;by_cases h6:y.kind=6
 ·rw[aH h6];simp only[La8,La9,Ab.abq];have hd:decide (y.kind≠6)=false:=by simp[h6]
  simp only[z0,seval,h11,hn,hd];refine⟨_,_,_,rfl,⟨?_,?_,?_,?_,?_,?_,?_,?_⟩,hS⟩
  ·simpa[aE]using q0
  ·simpa[aE]using q1'
  ·simpa[aE]using q4
  ·simpa[aE]using q5
  ·simpa[aE]using q8'
  ·simpa[aE]using q34
  ·simpa[aE]using q35
  ·simpa[aE]using q36
 ·rw[aD h6];have hd:decide (y.kind≠6)=true:=by simp[h6]
  obtain⟨c1,hc1,h92⟩:=f92 n j h (K:=K) (M:=C.M) (s:=s) (c:=c) hS.hK hS.hM hp hg hb y.site;simp only[La8,La9,Ab.abq];simp only[z0,seval,h11,hn,hd,q0,h92];refine⟨_,_,_,rfl,⟨?_,?_,?_,?_,?_,?_,?_,?_⟩,?_⟩
  ·simpa[aE]using q0
  ·simpa[aE]using q1'
  ·simpa[aE]using q4
  ·simpa[aE]using q5
  ·simpa[aE]using q8'
  ·simpa[aE]using q34
  ·simpa[aE]using q35
  ·simpa[aE]using q36
  ·refine⟨by rw[aO,aD (by omega),hS.hK];rfl,by rw[aO,aH rfl];rfl,by rw[aO,aD (by omega),hS.hBy],by rw[aO,aD (by omega),hS.hR],fun m m1 m2 m3=>by rw[aO,aD m3,hS.old m m1 m2 m3],hS.stk.keep fun m hm _=>by rw[aO,aD (by omega)],fun m hm=>by rw[aO,aD (by omega)];exact hS.fr m (by omega),by omega,hS.nag⟩
end
end Zv
namespace Zv
open Go
noncomputable section
theorem VO.go{us:List Nat}{C:LkC}{K:Nat}{s0 s:St}{c0 c:Nat}{vs:List Vr}(h:VO us C K s0 c0 vs)(hs:∀m,m<c0→m≠K→m≠C.M→sget s m=sget s0 m)(hc:c0≤c):VO us C K s c vs:=by
 obtain⟨w,hw,hz⟩:=h.fz;exact⟨h.nag,⟨w,hw,fun s2 h2=>hz s2 fun m m1 m2 m3=>by rw[h2 m (by omega) m2 m3,hs m m1 m2 m3]⟩,h.len,h.good⟩
theorem gCp(n j:Nat)(C:LkC){K By R4 L i Kn:Nat}{dx w q8:D}{t:Tm}(hT:TI K By R4 dx w L i q8 t)(h11:tget t 11 = .ptr Kn 0){s:St}{c:Nat}{y:Nd}(hn:sget s Kn=some (.fix 57 (bW y)))(hk:1≤y.kind∧y.kind≤6)(hB:sget s By=some (.mp (byE K) 6)){ch:Ch}{s1:St}{c1:Nat}
  (hc:fn n j (.fn (byF y.kind)) [.ptr K 0,.agg (bW y)] s c = .ok (.pan ch) s1 c1):∃t',zC La7 (cxn n) (fn n j) KK ⟨t,s,c,[],none⟩ = .ok (.pan ch) ⟨t',s1,c1,[],none⟩:=by
 obtain⟨q0,q1',q4,q5,q8',q34,q35,q36⟩:=hT;obtain⟨p,hf⟩:=by_find hk K;simp only[La7,Ab.abq];unfold bW at *;simp only[z0,seval,q0,q5,q8',h11,hn,hB,hf,iU,cB,bZ,dG,hc];exact⟨_,rfl⟩
structure CI (us:List Nat) (C:LkC) (K:Nat) (sm:Lk) (vs:List Vr) (ts:List Tl) (s:St) (c:Nat):Prop where
 a:∃a,sget s K=some (C.blk sm (.gs a 0 5 ts.length))∧sget s a=some (.grow 37 (cZ tlC ts))
 hM:sget s C.M=some (.mp (mpE 0 sm.lm) sm.lm.length)
 kc:K<c
 mc:C.M<c
 fr:mX s c
 v:VO us C K s c vs
 l:ts.length=1∨ts.length=2
 g:∀t∈ts,TG us t
def Stp(C:LkC)(K By R4 B c0:Nat)(s0:St)(dx w:D)(L i:Nat)(r:Lo (List Tl×Lk))(z:R):Prop:=match r with
 | .ok p=>∃t s c q8 q,z = .ok .normal ⟨t,s,c,[],none⟩∧TI K By R4 dx w L i q8 t∧SI C K By R4 B s0 c0 p.2 p.1 q8 q s c
 | .bad a e=>∃t s c,z = .ok (.pan (jD a e)) ⟨t,s,c,[],none⟩∧Bad C K s0 c0 s c
theorem node_step(n j:Nat){ss:List (List UInt8)}{us:List Nat}(C:LkC)(h:Lt ss us C.d C.e)(hp:C.pc<us.length){K By R4 B c0:Nat}{s0:St}(hP:PI C K By R4 B c0){x:List Nd}{o:List Nat}{dx w:D}(hx:Sl 7 bW x dx)(hw:Sl 1 jI o w){i:Nat}(hi:i<o.length)(ho:o[i]<x.length)
  {vs:List Vr} (hV:VO us C K s0 c0 vs) {fs:List Fd} {cal:Nat→List Vr→Lk→Lo (Tl×Lk)} {q8 q:D} {t:Tm} (hT:TI K By R4 dx w o.length i q8 t) {s:St} {c:Nat} {sm:Lk} {st:List Tl} (hS:SI C K By R4 B s0 c0 sm st q8 q s c) (hG:SG us sm) (hst:∀u∈st,TG us u) (hsl:st.length<1000)
  (hy:oR x[o[i]]) (hk:1≤x[o[i]].kind∧x[o[i]].kind≤6) (hop:opN x[o[i]]≤st.length)
  (hinv:¬2000<sm.lk+1→∀p,pT ⟨us,C.low,C.pc,RDl n C.d C.e⟩ cal fs vs x[o[i]] (st.take (opN x[o[i]])) sm.tick = .ok p→p.2.ec<us.length∧LabN us p.2.lm)
  (hcall:¬2000<sm.lk+1→x[o[i]].kind=6→∀s c,CI us C K sm.tick vs (st.take (opN x[o[i]])) s c→jO C K (calM ⟨us,C.low,C.pc,RDl n C.d C.e⟩ cal fs x[o[i]] (st.take (opN x[o[i]])) sm.tick) (fn (n+13) (j+3) (.fn 88) [.ptr K 0,.agg (bW x[o[i]])] s c) s c) :
  Stp C K By R4 B c0 s0 dx w o.length i (mF ⟨us,C.low,C.pc,RDl n C.d C.e⟩ cal fs vs x[o[i]] st sm) (zC LaB (cxn (n+13)) (fn (n+13) (j+3)) KK ⟨t,s,c,[],none⟩):=by
 obtain⟨hA1,hA2⟩:=gA (n+13) (j+2) C (c:=c) hx hw hi ho hT hS.hK (by have:=hP.pK;have:=hP.pR;have:=hP.pBy;have:=hP.pB;have:=hS.le;omega) hS.fr hG.lk
 rw[show j+2+1=j+3 from rfl]at hA1 hA2
 generalize x[o[i]]=y at *;unfold mF;by_cases hb:2000<sm.lk+1
 ·rw[aH hb];obtain⟨t',s',c',hz,hB⟩:=hA1 hb;refine⟨t',s',c',?_,by have:=hB.le;have:=hP.pR;have:=hP.pBy;have:=hP.pB;have:=hS.le;omega,hB.fr,hB.hK,fun m m1 m2 m3=>by rw[hB.old m (by have:=hP.pR;have:=hP.pBy;have:=hP.pB;have:=hS.le;omega) m2 m3,hS.old m m1 m2 m3]⟩
  rw[LaB_4];exact congrArg (fun r=>zbind r _) hz
 rw[aD hb];obtain⟨t1,s1,hz1,hT1,h11,hn1,hK1,ho1⟩:=hA2 hb;obtain⟨p1,p2,p3,p4,p5,p6⟩:=hP;have hP:PI C K By R4 B c0:=⟨p1,p2,p3,p4,p5,p6⟩;have hle:=hS.le
 have hS1:SI C K By R4 B s0 c0 sm.tick st q8 .nils s1 (c+1):=⟨hK1,by rw[ho1 C.M (by omega) (by omega),hS.hM];rfl,by rw[ho1 By (by omega) (by omega),hS.hBy],by rw[ho1 R4 (by omega) (by omega),hS.hR],fun m m1 m2 m3=>by rw[ho1 m (by omega) m2,hS.old m m1 m2 m3],hS.stk.keep fun m hm ⟨b,hb⟩=>ho1 m (fun e=>by rw[e,hS.fr c (aI _)]at hb;cases hb) (by omega),fun m hm=>by rw[ho1 m (by omega) (by omega)];exact hS.fr m (by omega),by omega,rfl⟩
 have hgt:sm.tick.ec<us.length:=hG.ec;have hlb:LabN us sm.tick.lm:=hG.lb
 -- the operands
 have hB:∃t2 s2 c2 q2 q2',zC La6 (cxn (n+13)) (fn (n+13) (j+3)) KK ⟨t1,s1,c+1,[],none⟩ = .ok .normal ⟨t2,s2,c2,[],none⟩∧TI K By R4 dx w o.length i q2 t2∧tget t2 11 = .ptr c 0∧sget s2 c=some (.fix 57 (bW y))∧SI C K By R4 B s0 c0 sm.tick (st.drop (opN y)) q2 q2' s2 c2 ∧
   (y.kind=5∨y.kind=6→∃a,q2' = .gs a 0 5 (st.take (opN y)).length∧sget s2 a=some (.grow 37 (cZ tlC (st.take (opN y))))∧((st.take (opN y)).length=1∨(st.take (opN y)).length=2)):=by
  by_cases h56:y.kind=5∨y.kind=6
  ·have hkk:=hy.kp h56;have hop':opN y=y.kids.toNat:=by unfold opN fA;rw[aH h56]
   have hk12:opN y=1∨opN y=2:=by rw[hop'];omega
   have hyk:y.kids=(opN y:Nat):=by rw[hop'];omega
   have hln:(st.take (opN y)).length=opN y:=by rw[dM];omega
   obtain⟨t2,s2,c2,q2,e1,e2,e3,e4,e5,e6,e7,e8,e9⟩:=gB (n+13) (j+2) C hT1 h11 hn1 h56 hk12 hyk hop hsl hS1.stk (by omega) (by omega) (by omega) (by omega) hK1 hS1.fr
   refine⟨t2,s2,c2,q2,_,e1,e2,e3,by rw[e8 c (by omega) (by omega),hn1],⟨e6,by rw[e8 C.M (by omega) (by omega),hS1.hM],by rw[e8 By (by omega) (by omega),hS1.hBy],by rw[e8 R4 (by omega) (by omega),hS1.hR],fun m m1 m2 m3=>by rw[e8 m (by omega) m2,hS1.old m m1 m2 m3],e4,e9,by omega,rfl⟩,fun _=>⟨_,by rw[hln],e7,by rw[hln];exact hk12⟩⟩
  ·have hop':opN y=0:=by unfold opN fA;rw[aD h56];rfl
   obtain⟨t2,e1,e2,e3⟩:=gB0 (n+13) (j+3) (s:=s1) (c:=c+1) hT1 h11 hn1 (fun e=>h56 (.inl e)) (fun e=>h56 (.inr e))
   exact⟨t2,s1,c+1,q8,.nils,e1,e2,e3,hn1,by rw[hop'];exact hS1,fun e=>absurd e h56⟩
 obtain⟨t2,s2,c2,q2,q2',hz2,hT2,h112,hn2,hS2,hargs⟩:=hB;have hkc:K<c2:=by have:=hS2.le;omega
 have hmc:C.M<c2:=by have:=hS2.le;omega
 have hV2:VO us C K s2 c2 vs:=hV.go hS2.old (by have:=hS2.le;omega)
 have hL:jO C K (pT ⟨us,C.low,C.pc,RDl n C.d C.e⟩ cal fs vs y (st.take (opN y)) sm.tick) (fn (n+13) (j+3) (.fn (byF y.kind)) [.ptr K 0,.agg (bW y)] s2 c2) s2 c2:=by
  unfold pT byF;by_cases k1:y.kind=1
  ·rw[aH k1,aH k1];exact look_num (n+12) (j+1) hS2.hK hS2.hM hkc hmc hS2.fr hS2.nag y
  rw[aD k1,aD k1];by_cases k3:y.kind=3
  ·rw[aH k3,aH k3];exact look_list (n+12) j hS2.hK hS2.hM hkc hmc hS2.fr hS2.nag y
  rw[aD k3,aD k3];by_cases k2:y.kind=2
  ·rw[aH k2,aH k2];exact look_text (n+12) j hS2.hK hS2.hM hkc hmc hS2.fr hS2.nag y
  rw[aD k2,aD k2];by_cases k4:y.kind=4
  ·rw[aH k4,aH k4];exact look_name (n+12) j hS2.hK hS2.hM hkc hmc hS2.fr hS2.nag y hV2
  rw[aD k4,aD k4];by_cases k5:y.kind=5
  ·rw[aH k5,aH k5];obtain⟨a,ha1,ha2,ha3⟩:=hargs (.inl k5);exact look_prim n j hS2.hK hS2.hM hkc hmc hS2.fr hS2.nag y h ha1 ha2 ha3 (fun u hu=>hst u (eQ hu)) hp hgt
  rw[aD k5,aD k5];have k6:y.kind=6:=by omega
  obtain⟨a,ha1,ha2,ha3⟩:=hargs (.inr k6);exact hcall hb k6 s2 c2 ⟨⟨a,by rw[←ha1];exact hS2.hK,ha2⟩,hS2.hM,hkc,hmc,hS2.fr,hV2,ha3,fun u hu=>hst u (eQ hu)⟩
 have hdl:(st.drop (opN y)).length<1000:=by rw[fH];omega
 have hcB:B≤c:=hle;cases hr:pT ⟨us,C.low,C.pc,RDl n C.d C.e⟩ cal fs vs y (st.take (opN y)) sm.tick with
 | bad a e=>
  rw[hr]at hL;obtain⟨s3,c3,h3,hB3⟩:=hL;obtain⟨t3,hz3⟩:=gCp (n+13) (j+3) C hT2 h112 hn2 hk hS2.hBy h3
  exact⟨t3,s3,c3,by rw[LaB_5,hz1];exact(congrArg (fun r=>zbind r fun y=>zbind (zC La7 _ _ _ y) (zC (.seq La8 La9) _ _ _)) hz2).trans (congrArg (fun r=>zbind r (zC (.seq La8 La9) _ _ _)) hz3),by have:=hB3.le;have:=hS2.le;omega,hB3.fr,hB3.hK,fun m m1 m2 m3=>by rw[hB3.old m (by have:=hS2.le;omega) m2 m3,hS2.old m m1 m2 m3]⟩
 | ok p=>
  rw[hr]at hL;obtain⟨s3,c3,q3,h3,hC3⟩:=hL;obtain⟨t4,s4,c4,q4,hz4,hT4,h114,hn4,hS4⟩:=gC (n+13) (j+3) C hT2 h112 hn2 hcB hk hS2 hP hdl h3 hC3;obtain⟨hg4,hb4⟩:=hinv hb p hr;obtain⟨t5,s5,c5,hz5,hT5,hS5⟩:=gM (n+12) j C h hp hT4 h114 hn4 hS4 hP hg4 hb4 (RDl n C.d C.e)
  exact⟨t5,s5,c5,q4,q3,by rw[LaB_5,hz1];exact(congrArg (fun r=>zbind r fun y=>zbind (zC La7 _ _ _ y) (zC (.seq La8 La9) _ _ _)) hz2).trans ((congrArg (fun r=>zbind r (zC (.seq La8 La9) _ _ _)) hz4).trans hz5),hT5,hS5⟩
theorem B88_eq:B88=(.seq Lb1 (.seq Lb2 (.seq Lb3 (.seq Lb4 (.seq Lb5 (.seq Lb6 (.seq Lb7 (.seq Lb8 (.seq Lb9 (.seq Lb10 (.seq Lb11 .ret))))))))))):=rfl
structure CF (K:Nat) (y:Nd) (s:St) (c:Nat) (t:Tm) (s1:St) (c1:Nat):Prop where
 t2:tget t 2 = .ptr c 0
 t3:tget t 3 = .ptr (c+1) 0
 t4:tget t 4 = .ptr (c+1+1) 0
 b2:sget s1 c=some (.fix 92 [.ptr K 0])
 b3:sget s1 (c+1)=some (.fix 57 (bW y))
 b4:sget s1 (c+1+1)=some (.fix 37 ty0)
 A:Aft s c s1 c1
 le:c+3≤c1
theorem CF.aft{K:Nat}{y:Nd}{s:St}{c:Nat}{t:Tm}{s1 s2:St}{c1 c2:Nat}(h:CF K y s c t s1 c1)(hA:Aft s1 c1 s2 c2):CF K y s c t s2 c2:=by
 have:=h.le;have:=hA.le;exact⟨h.t2,h.t3,h.t4,by rw[hA.old _ (by omega),h.b2],by rw[hA.old _ (by omega),h.b3],by rw[hA.old _ (by omega),h.b4],h.A.trans hA,by omega⟩
theorem CF.tm{K:Nat}{y:Nd}{s:St}{c:Nat}{t t':Tm}{s1:St}{c1:Nat}(h:CF K y s c t s1 c1)(h2:tget t' 2=tget t 2)(h3:tget t' 3=tget t 3)(h4:tget t' 4=tget t 4):CF K y s c t' s1 c1:=⟨by rw[h2,h.t2],by rw[h3,h.t3],by rw[h4,h.t4],h.b2,h.b3,h.b4,h.A,h.le⟩
theorem cB1(n j:Nat)(C:LkC){K:Nat}{y:Nd}{fs:List Fd}(hf:Sl 3 fdC fs C.f)(hl:fs.length<9223372036854775807){s:St}{c:Nat}{sm:Lk}{q:D}(hK:sget s K=some (C.blk sm q))(hKc:K<c)(hfr:mX s c):
  ∃t s1 c1,zC (.seq Lb1 Lb2) (cxn n) (fn n (j+2)) KK (start [.ptr K 0,.agg (bW y)] s c) = .ok .normal ⟨t,s1,c1,[],none⟩∧CF K y s c t s1 c1∧tget t 5 = .int .i64 (scan (fxP fs y.name) (-1) fs.length 0):=by
 have hA:=(((Aft.refl hfr).add (.fix 92 [.ptr K 0])).add (.fix 57 (bW y))).add (.fix 37 ty0);obtain⟨s1,c1,h128,hA1⟩:=f128 n j hf hl y (K:=c+1) (S:=sadd (sadd (sadd s c (.fix 92 [.ptr K 0])) (c+1) (.fix 57 (bW y))) (c+1+1) (.fix 37 ty0)) (c:=c+1+1+1) (by rw[aX,aD (by omega),aX,aH rfl]) (by omega) hA.free
 have hle:=hA1.le
 have hCF:∀t:Tm,tget t 2 = .ptr c 0→tget t 3 = .ptr (c+1) 0→tget t 4 = .ptr (c+1+1) 0→CF K y s c t s1 c1:=fun t h2 h3 h4=>⟨h2,h3,h4,by rw[hA1.old _ (by omega),aX,aD (by omega),aX,aD (by omega),aX,aH rfl],by rw[hA1.old _ (by omega),aX,aD (by omega),aX,aH rfl],by rw[hA1.old _ (by omega),aX,aH rfl],hA.trans hA1,by omega⟩
 have kc:(K=c)=False:=aL (by omega)
 have kc1:(K=c+1)=False:=aL (by omega)
 have kc2:(K=c+1+1)=False:=aL (by omega)
 have c01:(c=c+1)=False:=aL (by omega)
 have c02:(c=c+1+1)=False:=aL (by omega)
 simp only[Lb1,Lb2,Ab.abq];unfold LkC.blk lrC at hK;unfold ty0 at h128;simp only[z0,seval,show(D.ptr K 0).cells?=some [.ptr K 0]from rfl,hK,kc,kc1,kc2,c01,c02,dR,fG,bY,h128]
 refine⟨_,_,_,rfl,hCF _ ?_ ?_ ?_,?_⟩<;>simp[aE]
theorem cB3(n j:Nat){K:Nat}{y:Nd}{s:St}{c:Nat}{t:Tm}{s1:St}{c1:Nat}(h:CF K y s c t s1 c1){i:Int}(h5:tget t 5 = .int .i64 i):
  (i<0→∃t',zC Lb3 (cxn n) (fn n (j+1)) KK ⟨t,s1,c1,[],none⟩ = .ok (.pan (jD y.site 24)) ⟨t',s1,c1,[],none⟩) ∧
  (¬i<0→∃t',zC Lb3 (cxn n) (fn n (j+1)) KK ⟨t,s1,c1,[],none⟩ = .ok .normal ⟨t',s1,c1,[],none⟩∧CF K y s c t' s1 c1∧tget t' 5 = .int .i64 i):=by
 have b3:=h.b3;unfold bW at b3;refine⟨fun hi=>?_,fun hi=>?_⟩
 ·simp only[Lb3,Ab.abq];simp only[z0,seval,h5,h.t3,b3,bH hi,eX,show((24:Int)=0)=False from aL (by decide)]
  exact⟨_,rfl⟩
 ·simp only[Lb3,Ab.abq];simp only[z0,seval,h5,aK hi];refine⟨_,rfl,h.tm ?_ ?_ ?_,?_⟩
  all_goals simp[aE,h5]
theorem cB4(n j:Nat)(C:LkC){K:Nat}{y:Nd}{fs:List Fd}(hf:Sl 3 fdC fs C.f)(hfo:∀f∈fs,FdOk f){s:St}{c:Nat}{t:Tm}{s1:St}{c1:Nat}(h:CF K y s c t s1 c1){i:Nat}(h5:tget t 5 = .int .i64 (i:Nat))(hi:i<fs.length){sm:Lk}{a k:Nat}(hK:sget s1 K=some (C.blk sm (.gs a 0 5 k)))(hKc:K<c):
  (fs[i].ps.length≠k→∃t' s' c',zC (.seq Lb4 Lb5) (cxn n) (fn n (j+1)) KK ⟨t,s1,c1,[],none⟩ = .ok (.pan (jD y.site 23)) ⟨t',s',c',[],none⟩∧Aft s1 c1 s' c') ∧
  (fs[i].ps.length=k→∃t' s' c',zC (.seq Lb4 Lb5) (cxn n) (fn n (j+1)) KK ⟨t,s1,c1,[],none⟩ = .ok .normal ⟨t',s',c',[],none⟩∧Aft s1 c1 s' c'∧c1<c'∧CF K y s c t' s' c'∧tget t' 5 = .int .i64 (i:Nat)∧tget t' 6 = .ptr c1 0∧sget s' c1=some (.fix 79 (fdC fs[i]))):=by
 have b2:=h.b2;have b3:=h.b3;have hle:=h.le;have hrow:=hf.row hi;have ho:=hfo _ (cA hi);have hps:=ho.p;have np:=hps.nag;have nb':=ho.b.nag;have kc:(K=c1)=False:=aL (by omega)
 have cc:(c=c1)=False:=aL (by omega)
 have cc1:(c+1=c1)=False:=aL (by omega)
 unfold bW at b3;unfold LkC.blk lrC at hK;have hln:lenD false (.gs a 0 5 k)=some k:=rfl;generalize fs[i]=g at *;unfold fdC at *;refine⟨fun hk=>?_,fun hk=>?_⟩
 ·have hd:decide (((g.ps.length:Nat):Int)≠(k:Nat))=true:=bH (by omega)
  simp only[Lb4,Lb5,Ab.abq];simp only[z2,seval,nb,h5,h.t2,h.t3,b2,b3,hK,kc,cc,cc1,dR,hf.ia hi,hrow,np,nb',Bool.or_false,dU,cP,AOp.kd,zop,tks,bV,dO,hps.len,hln,hd,eX,show((23:Int)=0)=False from aL (by decide)]
  exact⟨_,_,_,rfl,(((Aft.refl h.A.free).add _).set (aI _) (by omega) _).mono (by omega)⟩
 ·have hd:decide (((g.ps.length:Nat):Int)≠(k:Nat))=false:=aK (by omega)
  simp only[Lb4,Lb5,Ab.abq];simp only[z2,seval,nb,h5,h.t2,h.t3,b2,b3,hK,kc,cc,cc1,dR,hf.ia hi,hrow,np,nb',Bool.or_false,dU,cP,AOp.kd,zop,tks,bV,dO,hps.len,hln,hd];have hA:∀C',c1+1≤C'→Aft s1 c1 (sset (sadd s1 c1 (.fix 79 [.str [],.nils,.nils])) c1 (.fix 79 [.str g.name,g.pd,g.bd])) C':=fun C' hC=>(((Aft.refl h.A.free).add _).set (aI _) (by omega) _).mono hC
  refine⟨_,_,_,rfl,hA _ ?_,?_,CF.tm (t:=t) (h.aft (hA _ ?_)) ?_ ?_ ?_,?_,?_,?_⟩
  ·omega
  ·omega
  ·omega
  all_goals simp[aE,h5]
def zdf(v:D)(dst:Option Nat)(l:List D)(t:Tm)(s:St)(c:Nat)(d:List (D×List D)):R:=match v with
 | .fn g p q=>.ok .normal ⟨iF dst t .un,s,c,(.fn g p q,l)::d,none⟩
 | _=>.no
theorem zo_df(cx:Cx)(cl:CL)(dst:Option Nat)(g:Option (Nat×Bool))(a:Arg)(l:List Arg)(t:Tm)(s:St)(c:Nat)(d:List (D×List D)):zOp cx cl ⟨dst,.dfr a l,g⟩ ⟨t,s,c,d,none⟩=zdf (a.ev cx.G t) dst (evs l cx.G t) t s c d:=by
 show zo_dfr a l cx cl dst ⟨t,s,c,d,none⟩=_;unfold zo_dfr zdf;simp only;cases a.ev cx.G t<;>rfl
theorem zdf_fn(g:Fn)(p q:List D)(dst:Option Nat)(l:List D)(t:Tm)(s:St)(c:Nat)(d:List (D×List D)):zdf (.fn g p q) dst l t s c d = .ok .normal ⟨iF dst t .un,s,c,(.fn g p q,l)::d,none⟩:=rfl
structure CG (C:LkC) (K c D1 A B:Nat) (g:Fd) (t:Tm) (s1:St) (c1:Nat) (s:St) (k:Nat):Prop where
 t2:tget t 2 = .ptr c 0
 t4:tget t 4 = .ptr (c+1+1) 0
 t6:tget t 6 = .ptr D1 0
 b2:sget s c=some (.fix 92 [.ptr K 0])
 b4:sget s (c+1+1)=some (.fix 37 ty0)
 b6:sget s D1=some (.fix 79 (fdC g))
 bA:sget s A=some (.fix 27 [C.v])
 bB:sget s B=some (.fix 28 [C.f])
 old:∀m,m<c1→m≠K→m≠C.M→sget s m=sget s1 m
 fr:mX s k
 lA:c1≤A∧A<k
 lB:c1≤B∧B<k
theorem cB6(n j:Nat){ss:List (List UInt8)}{us:List Nat}(C:LkC)(h:Lt ss us C.d C.e)(hp:C.pc<us.length)(R:Int→List Tl→Ty×Int×Int×Int){K:Nat}{y:Nd}{fs:List Fd}(hf:Sl 3 fdC fs C.f){s:St}{c:Nat}{t:Tm}{s1:St}{c1 D1:Nat}(hF:CF K y s c t s1 c1){i:Nat}(h5:tget t 5 = .int .i64 (i:Nat))(hi:i<fs.length)(h6:tget t 6 = .ptr D1 0){g:Fd}(b6:sget s1 D1=some (.fix 79 (fdC g)))(hD:c≤D1)
  {sm:Lk} {q:D} (hK:sget s1 K=some (C.blk sm q)) (hM:sget s1 C.M=some (.mp (mpE 0 sm.lm) sm.lm.length)) (hKc:K<c) (hMc:C.M<c) (hec:sm.ec<us.length) (hlb:LabN us sm.lm) (hv:eP C.v=false) (hq:eP q=false) :
  ∃t' s' c' A B fd,zC (.seq Lb6 (.seq Lb7 (.seq Lb8 Lb9))) (cxn (n+1)) (fn (n+1) (j+3)) KK ⟨t,s1,c1,[],none⟩ = .ok .normal ⟨t',s',c',[(.fn (.func 130) [] [.ptr A 0,.ptr B 0,.ptr c 0],[])],none⟩∧CG C K c D1 A B g t' s1 c1 s' c'∧Sl 3 fdC (fs.take i) fd ∧
   sget s' K=some (LkC.blk ⟨C.d,C.e,C.low,C.pc,C.M,.nils,fd⟩ (sm.mark ⟨us,C.low,C.pc,R⟩ y.site) q)∧sget s' C.M=some (.mp (mpE 0 (sm.mark ⟨us,C.low,C.pc,R⟩ y.site).lm) (sm.mark ⟨us,C.low,C.pc,R⟩ y.site).lm.length):=by
 have b2:=hF.b2;have b3:=hF.b3;have b4:=hF.b4;have hle:=hF.le;have hMK:C.M≠K:=by rintro e;rw[←e,hM]at hK;cases hK
 have hDc:D1<c1:=gR fun hh=>by rw[hF.A.free _ hh]at b6;cases b6
 obtain⟨c2,hc2,h92⟩:=f92 n j h (K:=K) (M:=C.M) (s:=s1) (c:=c1) hK hM hp hec hlb y.site;obtain⟨fd,hfd,hsl⟩:=hf.head (Nat.le_of_lt hi) (k:=.i64);have kM:(K=C.M)=False:=aL (fun e=>hMK e.symm)
 have cM:(c=C.M)=False:=aL (by omega)
 have cM1:(c+1=C.M)=False:=aL (by omega)
 obtain⟨s2,hs2⟩:∃s2,s2=sset s1 C.M (.mp (mpE 0 (mkL us sm.lm y.site (J us C.pc sm.ec))) (mkL us sm.lm y.site (J us C.pc sm.ec)).length):=⟨_,rfl⟩
 have g2:∀m,sget s2 m=if m=C.M then some (.mp (mpE 0 (mkL us sm.lm y.site (J us C.pc sm.ec))) (mkL us sm.lm y.site (J us C.pc sm.ec)).length) else sget s1 m:=fun m=>by rw[hs2,aO]
 have eK:sget s2 K=some (C.blk sm q):=by rw[g2,aD (fun e=>hMK e.symm),hK]
 have e2':sget s2 c=some (.fix 92 [.ptr K 0]):=by rw[g2,aD (by omega),b2]
 have fr2:mX s2 c2:=fun m hm=>by rw[g2,aD (by omega)];exact hF.A.free m (by omega)
 have n4:sget s2 (c2+8)=none:=fr2 _ (by omega)
 have n5:sget s2 (c2+9)=none:=fr2 _ (by omega)
 have k1:(K=c2+8)=False:=aL (by omega)
 have k2:(K=c2+9)=False:=aL (by omega)
 have k3:(c=c2+8)=False:=aL (by omega)
 have k4:(c=c2+9)=False:=aL (by omega)
 have k5:(c2=c2+1)=False:=aL (by omega)
 have k6:(c2+1=c2)=False:=aL (by omega)
 have k7:(c=K)=False:=aL (by omega)
 have k8:(c2+8=K)=False:=aL (by omega)
 have k9:(c2+9=K)=False:=aL (by omega)
 have hfn:=hf.nag;have hfn2:=hsl.nag;unfold bW at b3;unfold LkC.blk lrC at eK;simp only[Lb6,Lb7,Lb8,Lb9,Ab.abq];simp only[z0,seval,hF.t2,hF.t3,b2,b3,h92];rw[←hs2]
 simp only[z0,seval,hF.t2,e2',eK,h5,dU,cP,AOp.kd,zop,tks,bV,dO,cU,dR,aV,bU,n4,n5,k1,k2,k3,k4,k5,k6,k7,k8,k9,bS,hv,hq,hfn,hfn2,iN hv,iN hfn,iN hfn2,hfd,zo_df,zdf_fn,bY,fG,show D.nils.cells?=some [D.nils]from rfl,show eP D.nils=false from rfl]
 refine⟨_,_,_,c2+8,c2+9,fd,rfl,⟨?_,?_,?_,?_,?_,?_,?_,?_,?_,?_,by omega,by omega⟩,hsl,?_,?_⟩
 ·simp[aE,hF.t2]
 ·simp[aE,hF.t4]
 ·simp[aE,h6]
 ·simp only[aO,aX];rw[aD (by omega),aD (by omega),aD (by omega),aD (by omega),aD (by omega),aD (by omega),g2,aD (by omega),b2]
 ·simp only[aO,aX];rw[aD (by omega),aD (by omega),aD (by omega),aD (by omega),aD (by omega),aD (by omega),g2,aD (by omega),b4]
 ·simp only[aO,aX];rw[aD (by omega),aD (by omega),aD (by omega),aD (by omega),aD (by omega),aD (by omega),g2,aD (by omega),b6]
 ·simp only[aO,aX];rw[aD (by omega),aD (by omega),aD (by omega),aH trivial]
 ·simp only[aO,aX];rw[aD (by omega),aD (by omega),aH trivial]
 ·intro m m1 m2 m3;simp only[aO,aX];rw[aD m2,aD m2,aD (by omega),aD (by omega),aD (by omega),aD (by omega),g2,aD m3]
 ·intro m hm;have hm':c2+12+14≤m:=hm;simp only[aO,aX];rw[aD (by omega),aD (by omega),aD (by omega),aD (by omega),aD (by omega),aD (by omega)];exact fr2 m (by omega)
 ·rw[aO,aH rfl];rfl
 ·simp only[aO,aX];rw[aD hMK,aD hMK,aD (by omega),aD (by omega),aD (by omega),aD (by omega),g2,aH rfl];rfl
end
end Zv
