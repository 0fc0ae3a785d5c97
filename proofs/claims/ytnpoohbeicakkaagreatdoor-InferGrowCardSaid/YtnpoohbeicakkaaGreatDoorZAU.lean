/- What a look at an expression comes to, az plain functions. Conditions: none. -/
import Derived.Test.YtnpoohbeicakkaaGreatDoorZAT
set_option linter.unusedVariables false
set_option linter.unusedSimpArgs false
set_option maxRecDepth 100000
namespace Zv
open Go
noncomputable section
inductive Lo (α:Type) where
 | ok (a:α)
 | bad (site e:Int)
structure Lk where
 ec:Nat
 lk:Nat
 lm:List (Int×Int)
structure LEn where
 us:List Nat
 low:Nat
 pc:Nat
 R:Int→List Tl→Ty×Int×Int×Int
def Lk.mark(E:LEn)(s:Lk)(x:Int):Lk:=⟨s.ec,s.lk,mkL E.us s.lm x (J E.us E.pc s.ec)⟩
def Lk.tick(s:Lk):Lk:=⟨s.ec,s.lk+1,s.lm⟩
def toT(t:Ty):Tl:=⟨t.kind,t.rank,t.a0.toNat,t.a1.toNat,t.data.toNat⟩
def oW(ps:List (List UInt8))(ts:List Tl):List Vr:=List.zipWith (fun p t=>⟨p,tl t⟩) ps ts
def calM(E:LEn)(cal:Nat→List Vr→Lk→Lo (Tl×Lk))(fs:List Fd)(x:Nd)(ts:List Tl)(s:Lk):Lo (Tl×Lk):=
 match fs.findIdx? (fun f=>decide (f.name=x.name)) with
 | none=>.bad x.site 24
 | some i=>match fs[i]? with
  | none=>.bad 0 0
  | some g=>if g.ps.length≠ts.length then .bad x.site 23 else cal i (oW g.ps ts) (s.mark E x.site)
def uV(E:LEn)(x:Nd)(ts:List Tl)(s:Lk):Lo (Tl×Lk):=
 if(E.R x.prim ts).2.2.2≠0 then .bad x.site (E.R x.prim ts).2.2.2
 else if tyE E.us (gZ E.us) (E.R x.prim ts).1≠0 then .bad x.site (tyE E.us (gZ E.us) (E.R x.prim ts).1)
 else .ok (toT (E.R x.prim ts).1,⟨afN E.us s.ec (E.R x.prim ts).2.1.toNat (E.R x.prim ts).2.2.1.toNat,s.lk,s.lm⟩)
def nameM(vs:List Vr)(x:Nd)(s:Lk):Lo (Tl×Lk):=match vs.find? (fun v=>decide (v.name=x.name)) with
 | none=>.bad x.site 24
 | some v=>.ok (toT v.ty,s)
def rU(E:LEn)(cal:Nat→List Vr→Lk→Lo (Tl×Lk))(fs:List Fd)(vs:List Vr)(x:Nd)(ts:List Tl)(s:Lk):Lo (Tl×Lk):=
 if x.kind=1 then .ok (⟨1,0,E.low,E.low,E.low⟩,s)
 else if x.kind=3 then .ok (⟨1,1,E.low,E.low,E.low⟩,s)
 else if x.kind=2 then .ok (⟨2,1,E.low,E.low,E.low⟩,s)
 else if x.kind=4 then nameM vs x s
 else if x.kind=5 then uV E x ts s
 else calM E cal fs x ts s
def mW(E:LEn)(cal:Nat→List Vr→Lk→Lo (Tl×Lk))(fs:List Fd)(vs:List Vr)(x:Nd)(st:List Tl)(s:Lk):Lo (List Tl×Lk):=
 if 2000<s.lk+1 then .bad x.site 3
 else match rU E cal fs vs x (st.take (opN x)) s.tick with
  | .ok p=>.ok (p.1::st.drop (opN x),if x.kind=6 then p.2 else p.2.mark E x.site)
  | .bad a e=>.bad a e
def kX(E:LEn)(cal:Nat→List Vr→Lk→Lo (Tl×Lk))(fs:List Fd)(vs:List Vr):List Nd→List Tl→Lk→Lo (List Tl×Lk)
 | [],st,s=>.ok (st,s)
 | x::r,st,s=>match mW E cal fs vs x st s with
  | .ok p=>kX E cal fs vs r p.1 p.2
  | .bad a e=>.bad a e
def gL(x:List Nd):List Nd:=(jC x).map fun i=>(x[i]?).getD ⟨0,0,0,[],[],0,0⟩
def uL(E:LEn):Nat→List Fd→List Vr→List Nd→Lk→Lo (Tl×Lk)
 | 0,_,_,_,_=>.bad 0 0
 | f+1,fs,vs,x,s=>
  match kX E (fun i vs' s'=>match fs[i]? with|some g=>uL E f (fs.take i) vs' g.body s'|none=>.bad 0 0) fs vs (gL x) [] s with
  | .ok (t::_,s')=>.ok (t,s')
  | .ok ([],_)=>.bad 0 0
  | .bad a e=>.bad a e
def TG(us:List Nat)(t:Tl):Prop:=t.ok us.length∧KR t.k t.r∧tyE us (gZ us) (tl t)=0
theorem sC{us:List Nat}{t:Ty}(h:tyE us (gZ us) t=0):tl (toT t)=t∧TG us (toT t):=by
 have h0:=h;unfold tyE at h;split at h
 ·cases h
 split at h
 ·cases h
 rename_i h1 h2;have hl:∀{x:Int},rB us.length x=true→(x.toNat:Int)=x∧x.toNat<us.length:=fun {x} hx=>by
  unfold rB at hx;simp only[bE,cI]at hx;omega
 simp only[not_or,Bool.not_eq_false]at h1 h2;have a0:=hl h2.1;have a1:=hl h2.2.1;have a2:=hl h2.2.2;have e:tl (toT t)=t:=by unfold tl toT;simp only[a0.1,a1.1,a2.1]
 refine⟨e,⟨a0.2,a1.2,a2.2⟩,?_,by rw[e];exact h0⟩
 unfold KR toT;simp only;omega
def ruV(x:Option (D×Bool)):Ty×Int×Int×Int:=match x with
 | some (.tup [.agg [.int _ k,.int _ r,.int _ p,.int _ q,.int _ z,.int _ w,.int _ c],.int _ e],_)=>(⟨k,r,p,q,z⟩,w,c,e)
 | _=>(⟨0,0,0,0,0⟩,0,0,1)
def argD(ts:List Tl):D:=.sl false ts.length (ts.map tlC).flatten
def RDl(n:Nat)(d e:D)(p:Int)(ts:List Tl):Ty×Int×Int×Int:=ruV (cl (n+12) 126 [.agg [d,e],.int .i64 p,argD ts])
theorem rd_ok(n:Nat){ss:List (List UInt8)}{us:List Nat}{d e:D}(h:Lt ss us d e)(p:Int){ts:List Tl}(hl:ts.length=1∨ts.length=2)(hg:∀t∈ts,TG us t):
  ∃(t:Ty) (w c er:Int),RDl n d e p ts=(t,w,c,er)∧cl (n+12) 126 [.agg [d,e],.int .i64 p,argD ts]=some (.tup [.agg [.int .i64 t.kind,.int .i64 t.rank,.int .i64 t.a0,.int .i64 t.a1,.int .i64 t.data,.int .i64 w,.int .i64 c],.int .i64 er],true)∧(er=0→Rg us.length w∧Rg us.length c):=by
 have hsl:Sl 5 tlC ts (argD ts):=⟨fun r hr=>by obtain⟨t,_,rfl⟩:=cQ.1 hr;rfl,.inr ⟨false,by rw[fA];rfl⟩⟩
 have hr:RuRes us.length (cl (n+12) 126 [.agg [d,e],.int .i64 p,argD ts]):=by
  match ts,hl with
  | [t],_=>
   obtain⟨h1,h2,h3⟩:=hg t (by simp)
   exact c126_1 n h t h1 h2 h3 p hsl
  | [t,u],_=>
   obtain⟨h1,h2,h3⟩:=hg t (by simp)
   obtain⟨g1,g2,g3⟩:=hg u (by simp)
   exact c126_2 n h t u h1 h2 h3 g1 g2 g3 p hsl
 obtain⟨k,r,p',q,z,w,c,er,h1,h2⟩:=hr;exact⟨⟨k,r,p',q,z⟩,w,c,er,by unfold RDl;rw[h1];rfl,h1,h2⟩
theorem ofD_find(vs:List Vr)(s:List UInt8):ofD vs s=match vs.find? (fun v=>decide (v.name=s)) with
  | none=>.tup [.agg ty0,.int .i64 24]
  | some v=>.tup [.agg (tyC v.ty),.int .i64 0]:=by
 unfold ofD;rcases eR (ofP vs s) (.tup [.agg ty0,.int .i64 24]) vs.length 0 with⟨h1,h2⟩|⟨m,r,_,hm,h3,h4,h5⟩
 ·rw[h2,List.find?_eq_none.2];intro x hx;obtain⟨i,hi,rfl⟩:=eO hx;have:=h1 i (dK _) (by omega)
  rw[ofP,aI hi]at this;simp only at this;split at this
  ·cases this
  ·simpa using by assumption
 ·have hm':m<vs.length:=by omega
  rw[ofP,aI hm']at h3;simp only at h3;split at h3
  case isFalse=>cases h3
  rename_i hn;cases h3;have:vs.find? (fun v=>decide (v.name=s))=some vs[m]:=List.find?_eq_some_iff_getElem.2 ⟨by simpa using hn,m,hm',rfl,fun j hj=>by
   have:=h4 j (dK _) hj;rw[ofP,aI (by omega)]at this
   simp only at this;split at this
   ·cases this
   ·simpa using by assumption⟩
  rw[h5,this]
theorem fx_find(fs:List Fd)(s:List UInt8):scan (fxP fs s) (-1) fs.length 0=match fs.findIdx? (fun f=>decide (f.name=s)) with
  | none=>-1
  | some i=>(i:Int):=by
 rcases eR (fxP fs s) (-1) fs.length 0 with⟨h1,h2⟩|⟨m,r,_,hm,h3,h4,h5⟩
 ·rw[h2,List.findIdx?_eq_none_iff.2];intro x hx;obtain⟨i,hi,rfl⟩:=eO hx;have:=h1 i (dK _) (by omega)
  rw[fxP,aI hi]at this;simp only at this;split at this
  ·cases this
  ·simpa using by assumption
 ·have hm':m<fs.length:=by omega
  rw[fxP,aI hm']at h3;simp only at h3;split at h3
  case isFalse=>cases h3
  rename_i hn;cases h3;have:fs.findIdx? (fun f=>decide (f.name=s))=some m:=List.findIdx?_eq_some_iff_getElem.2 ⟨hm',by simpa using hn,fun j hj=>by
   have:=h4 j (dK _) hj;rw[fxP,aI (by omega)]at this
   simp only at this;split at this
   ·cases this
   ·simpa using by assumption⟩
  rw[h5,this]
theorem B44_eq:B44=(.seq (.reg none [⟨some 4,(.new 37 (.c (.agg [(.int .i64 0),(.int .i64 0),(.int .i64 0),(.int .i64 0),(.int .i64 0)]))),none⟩]) (.seq (.reg none [⟨some 13,.mkm,none⟩,⟨some 14,(.mv (.t 0)),none⟩,⟨some 15,(.mkfn (.func 83) [(.t 14)] []),none⟩,⟨none,(.mup .int (.t 13) (.c (.int .i64 1)) (.t 15)),none⟩,⟨some 16,(.mv (.t 0)),none⟩,⟨some 17,(.mkfn (.func 84) [(.t 16)] []),none⟩,⟨none,(.mup .int (.t 13) (.c (.int .i64 3)) (.t 17)),none⟩,⟨some 18,(.mv (.t 0)),none⟩,⟨some 19,(.mkfn (.func 85) [(.t 18)] []),none⟩,⟨none,(.mup .int (.t 13) (.c (.int .i64 2)) (.t 19)),none⟩,⟨some 20,(.mv (.t 0)),none⟩,⟨some 21,(.mkfn (.func 86) [(.t 20)] []),none⟩,⟨none,(.mup .int (.t 13) (.c (.int .i64 4)) (.t 21)),none⟩,⟨some 22,(.mv (.t 0)),none⟩,⟨some 23,(.mkfn (.func 87) [(.t 22)] []),none⟩,⟨none,(.mup .int (.t 13) (.c (.int .i64 5)) (.t 23)),none⟩,⟨some 24,(.mv (.t 0)),none⟩,⟨some 25,(.mkfn (.func 88) [(.t 24)] []),none⟩,⟨none,(.mup .int (.t 13) (.c (.int .i64 6)) (.t 25)),none⟩,⟨some 26,(.mv (.t 13)),none⟩,⟨some 5,(.mv (.t 26)),none⟩]) (.seq (.reg none [⟨some 28,(.mv (.t 1)),none⟩,⟨some 29,(.call 89 [(.t 28)]),none⟩,⟨some 27,(.mv (.t 29)),none⟩,⟨some 30,(.ext 0 (.t 27)),none⟩,⟨some 31,(.ext 1 (.t 27)),none⟩,⟨some 6,(.mv (.t 30)),none⟩,⟨some 7,(.mv (.t 31)),none⟩]) (.seq (.reg none [⟨some 32,(.mv (.t 7)),none⟩,⟨some 33,(.call 41 [(.c (.int .i64 0)),(.t 32)]),none⟩]) (.seq (.reg none [⟨some 8,(.mv (.c .nils)),none⟩]) (.seq (.seq (.reg none [⟨some 34,(.mv (.t 6)),none⟩,⟨some 35,(.len false (.t 34)),none⟩,⟨some 36,(.mv (.c (.int .i64 0))),none⟩]) (.block 0 (.loop (.seq (.reg none [⟨some 37,(.bin .lss (.t 36) (.t 35)),none⟩]) (.seq (.cond (.t 37) .skip (.exit 0)) (.seq (.block 2 (.seq La1 (.seq La2 (.seq La3 (.seq La4 (.seq La5 (.seq La6 (.seq La7 (.seq La8 La9))))))))) (.reg none [⟨some 106,(.bin .add (.t 36) (.c (.int .i64 1))),none⟩,⟨some 36,(.mv (.t 106)),none⟩]))))))) (.seq (.reg none [⟨some 107,(.mv (.t 8)),none⟩,⟨some 108,(.iaS 5 (.t 107) (.c (.int .i64 0))),none⟩,⟨some 109,(.ld (some 5) (.t 108)),none⟩,⟨none,(.st 5 (.t 4) (.t 109)),none⟩]) .ret))))))):=rfl
structure TI (K By R4:Nat) (dx w:D) (L i:Nat) (q8:D) (t:Tm):Prop where
 q0:tget t 0 = .ptr K 0
 q1:tget t 1=dx
 q4:tget t 4 = .ptr R4 0
 q5:tget t 5 = .mp By
 q8:tget t 8=q8
 q34:tget t 34=w
 q35:tget t 35 = .int .i64 (L:Nat)
 q36:tget t 36 = .int .i64 (i:Nat)
structure LkC where
 d:D
 e:D
 low:Nat
 pc:Nat
 M:Nat
 v:D
 f:D
structure Bad (C:LkC) (K:Nat) (s:St) (c:Nat) (s':St) (c':Nat):Prop where
 le:c≤c'
 fr:∀m,c'≤m→sget s' m=none
 hK:∃cs,sget s' K=some (.fix 96 cs)∧cs.length=14
 old:∀m,m<c→m≠K→m≠C.M→sget s' m=sget s m
def LkC.blk(C:LkC)(s:Lk)(q:D):Blk:=.fix 96 (lrC C.d C.e C.low C.pc s.ec (s.lk:Nat) (.mp C.M) C.v C.f q)
theorem gA(n j:Nat)(C:LkC){K By R4:Nat}{x:List Nd}{o:List Nat}{dx w:D}(hx:Sl 7 bU x dx)(hw:Sl 1 jK o w){i:Nat}(hi:i<o.length)(ho:o[i]<x.length){q8 q:D}{t:Tm}(hT:TI K By R4 dx w o.length i q8 t){s:St}{c:Nat}{sm:Lk}(hK:sget s K=some (C.blk sm q))(hKc:K<c)(hfr:∀m,c≤m→sget s m=none)(hlk:sm.lk≤2000):
  (2000<sm.lk+1→∃t' s' c',zC (.seq La1 (.seq La2 (.seq La3 La4))) (cxn n) (fn n (j+1)) KK ⟨t,s,c,[],none⟩ = .ok (.pan (jB x[o[i]].site 3)) ⟨t',s',c',[],none⟩∧Bad C K s c s' c') ∧
  (¬2000<sm.lk+1→∃t' s',zC (.seq La1 (.seq La2 (.seq La3 (.seq La4 La5)))) (cxn n) (fn n (j+1)) KK ⟨t,s,c,[],none⟩ = .ok .normal ⟨t',s',c+1,[],none⟩∧TI K By R4 dx w o.length i q8 t'∧tget t' 11 = .ptr c 0 ∧
   sget s' c=some (.fix 57 (bU x[o[i]]))∧sget s' K=some (C.blk sm.tick .nils)∧∀m,m≠c→m≠K→sget s' m=sget s m):=by
 obtain⟨q0,q1,q4,q5,q8',q34,q35,q36⟩:=hT;have ia:=hw.ia1 hi (k:=.i64);have at1:=hw.at1 hi;have ix:=hx.ia ho (k:=.i64);have row:=hx.row ho;have kc:(K=c)=False:=aL (by omega)
 have ck:(c=K)=False:=aL (by omega)
 have hinc:=kV (a:=sm.lk) (by omega)
 unfold LkC.blk lrC at *;simp only[jK,bU]at *;refine⟨fun h=>?_,fun h=>?_⟩
 ·have hd:decide ((2000:Int)<((sm.lk+1:Nat):Int))=true:=bD (by omega)
  simp only[La1,La2,La3,La4,Ab.abq];simp only[z2,seval,q0,q1,q34,q36,ia,at1,ix,row,hK,kc,ck,hinc,hd,dP,nb,eY,show((3:Int)=0)=False from aL (by decide)]
  refine⟨_,_,_,rfl,Nat.le_succ _,fun m hm=>?_,⟨_,by rw[aN,aH rfl],rfl⟩,fun m m1 m2 m3=>?_⟩
  ·have hm':c+1≤m:=hm;simp only[aN,aW];rw[aD (by omega),aD (by omega),aD (by omega)];exact hfr m (by omega)
  simp only[aN,aW];rw[aD m2,aD (by omega),aD (by omega)]
 ·have hd:decide ((2000:Int)<((sm.lk+1:Nat):Int))=false:=aK (by omega)
  simp only[La1,La2,La3,La4,La5,Ab.abq];simp only[z2,seval,q0,q1,q34,q36,ia,at1,ix,row,hK,kc,ck,hinc,hd,dP,nb,eY];refine⟨_,_,rfl,⟨?_,?_,?_,?_,?_,?_,?_,?_⟩,?_,?_,?_,?_⟩
  ·simpa[aE]using q0
  ·simpa[aE]using q1
  ·simpa[aE]using q4
  ·simpa[aE]using q5
  ·simpa[aE]using q8'
  ·simpa[aE]using q34
  ·simpa[aE]using q35
  ·simpa[aE]using q36
  ·simp[aE]
  ·simp[aE,ck]
  ·simp[aE,Lk.tick]
  ·intro m h1 h2;simp only[aN,aW,aD h1,aD h2]
theorem enc_tl:EncG 5 tlC:=⟨fun _=>rfl,by decide,fun _=>rfl,fun _ _ _ _=>rfl⟩
def StkD(B:Nat)(s:St)(q:D)(st:List Tl):Prop:=(q = .nils∧st=[])∨∃m ty cs,B≤m∧q = .gs m 0 5 st.length∧sget s m=some (.grow ty cs)∧st.length*5≤cs.length∧cs.take (st.length*5)=cL tlC st.reverse
theorem StkD.keep{B:Nat}{s s':St}{q:D}{st:List Tl}(h:StkD B s q st)(hs:∀m,B≤m→(∃b,sget s m=some b)→sget s' m=sget s m):StkD B s' q st:=by
 rcases h with h|⟨m,ty,cs,h1,h2,h3,h4,h5⟩
 ·exact .inl h
 ·exact .inr ⟨m,ty,cs,h1,h2,by rw[hs m h1 ⟨_,h3⟩,h3],h4,h5⟩
theorem slv_lo{m L r:Nat}(h:r<L):vB 5 (.gs m 0 5 L) (some (.int .i64 (r:Nat))) none none=some (.gs m (r*5) 5 (L-r)):=by
 have hb:uO L (.int .i64 (r:Nat))=some r:=kT (by omega)
 simp only[vB,fT,aB,aO,hb,fG,aS,bK];cases r with
 | zero=>simp
 | succ r=>rw[show Nat.beq (r+1) 0=false from rfl,show Nat.blt (r+1) L=true from bZ h];rfl
theorem slv_hi{m L r:Nat}(h:r≤L):vB 5 (.gs m 0 5 L) none (some (.int .i64 (r:Nat))) none=some (.gs m 0 5 r):=by
 have hb:uO L (.int .i64 (r:Nat))=some r:=kT h;simp only[vB,fT,aB,aO,hb,fG,aS,bK]
theorem part_cells{cs:List D}{a b:List Tl}(h1:(a.length+b.length)*5≤cs.length)(h2:cs.take ((a.length+b.length)*5)=cL tlC (a++b)):(cs.drop (a.length*5)).take (b.length*5)=cL tlC b∧cs.take (a.length*5)=cL tlC a:=by
 rw[rN]at h2;have la:=enc_tl.cells_len a;generalize cL tlC a=x at *;generalize cL tlC b=y at *;have e1:cs.take (a.length*5)=x:=by
  have:=congrArg (List.take (a.length*5)) h2;rw[List.take_take,Nat.min_eq_left (by omega),←la,List.take_left]at this
  rw[←la];exact this
 refine⟨?_,e1⟩;have:=congrArg (List.drop (a.length*5)) h2;rw[List.drop_take,show(a.length+b.length)*5-a.length*5=b.length*5 by omega]at this
 rw[this,←la,List.drop_left]
theorem gB0(n j:Nat){K By R4 L i Kn:Nat}{dx w q8:D}{t:Tm}(hT:TI K By R4 dx w L i q8 t)(h11:tget t 11 = .ptr Kn 0){s:St}{c:Nat}{y:Nd}(hn:sget s Kn=some (.fix 57 (bU y)))(h5:y.kind≠5)(h6:y.kind≠6):
  ∃t',zC La6 (cxn n) (fn n j) KK ⟨t,s,c,[],none⟩ = .ok .normal ⟨t',s,c,[],none⟩∧TI K By R4 dx w L i q8 t'∧tget t' 11 = .ptr Kn 0:=by
 obtain⟨q0,q1,q4,q5,q8',q34,q35,q36⟩:=hT;unfold bU at hn;simp only[La6,Ab.abq];simp only[z2,seval,h11,hn,aK h5,aK h6,nb];refine⟨_,rfl,⟨?_,?_,?_,?_,?_,?_,?_,?_⟩,?_⟩
 ·simpa[aE]using q0
 ·simpa[aE]using q1
 ·simpa[aE]using q4
 ·simpa[aE]using q5
 ·simpa[aE]using q8'
 ·simpa[aE]using q34
 ·simpa[aE]using q35
 ·simpa[aE]using q36
 ·simpa[aE]using h11
theorem gB(n j:Nat)(C:LkC){K By R4 L i Kn:Nat}{dx w q8 q:D}{t:Tm}(hT:TI K By R4 dx w L i q8 t)(h11:tget t 11 = .ptr Kn 0){s:St}{c:Nat}{y:Nd}(hn:sget s Kn=some (.fix 57 (bU y)))(h56:y.kind=5∨y.kind=6)
  {st:List Tl} {k:Nat} (hk:k=1∨k=2) (hyk:y.kids=(k:Nat)) (hkl:k≤st.length) (hL:st.length<1000) {B:Nat} (hS:StkD B s q8 st) (hKB:K<B) (hnB:Kn≠K) (hBc:B≤c) (hnc:Kn<c) {sm:Lk} (hK:sget s K=some (C.blk sm q)) (hfr:mF s c) :
  ∃t' s' c' q',zC La6 (cxn n) (fn n (j+1)) KK ⟨t,s,c,[],none⟩ = .ok .normal ⟨t',s',c',[],none⟩∧TI K By R4 dx w L i q' t'∧tget t' 11 = .ptr Kn 0∧StkD B s' q' (st.drop k)∧c+1<c' ∧
   sget s' K=some (C.blk sm (.gs (c+1) 0 5 k))∧sget s' (c+1)=some (.grow 37 (cL tlC (st.take k)))∧(∀m,m<c→m≠K→sget s' m=sget s m)∧mF s' c':=by
 obtain⟨q0,q1,q4,q5,q8',q34,q35,q36⟩:=hT;rcases hS with⟨_,rfl⟩|⟨m,ty,cs,hm,rfl,hs,hl,hc⟩
 ·simp at hkl;omega
 have hmc:m<c:=gQ fun h=>by rw[hfr m h]at hs;cases hs
 have hsplit:st.reverse=(st.drop k).reverse++(st.take k).reverse:=by rw[←List.reverse_append,List.take_append_drop]
 have hlen:(st.drop k).reverse.length+(st.take k).reverse.length=st.length:=by simp;omega
 have hld:(st.drop k).reverse.length=st.length-k:=by simp
 have hlt:(st.take k).reverse.length=k:=by simp;omega
 rw[hsplit,←hlen]at hc;obtain⟨p1,p2⟩:=part_cells (a:=(st.drop k).reverse) (b:=(st.take k).reverse) (by rw[hlen];exact hl) hc
 rw[hld,hlt]at p1;rw[hld]at p2;have hsub:dJ .i64 ((st.length:Int)-(k:Int))=((st.length-k:Nat):Int):=by rw[gT (by omega) (by omega)];omega
 have lo:=slv_lo (m:=m) (L:=st.length) (r:=st.length-k) (by omega)
 rw[show st.length-(st.length-k)=k by omega]at lo
 have hi:=slv_hi (m:=m) (L:=st.length) (r:=st.length-k) (by omega)
 have hsc:cZ (sadd s c (.fix 0 [])) 5 (.gs m ((st.length-k)*5) 5 k)=some (cL tlC (st.take k).reverse,k):=by
  have e:sget (sadd s c (.fix 0 [])) m=some (.grow ty cs):=by rw[aW,aD (by omega),hs]
  simp only[cZ,e,aB,aO,dX,fG,Bool.true_and,bZ (show(st.length-k)*5+k*5≤cs.length by omega),aS,p1]
 have h90:=f90 n j (p:=.gs m ((st.length-k)*5) 5 k) (by rcases hk with rfl|rfl<;>rfl) hsc hk
 obtain⟨s3,hs3⟩:∃s3,s3=sset (sadd (sadd s c (.fix 0 [])) (c+1) (.grow 37 (cL tlC (st.take k).reverse))) K (C.blk sm (.gs (c+1) 0 5 k)):=⟨_,rfl⟩
 have g3:∀a,sget s3 a=if a=K then some (C.blk sm (.gs (c+1) 0 5 k)) else if a=c+1 then some (.grow 37 (cL tlC (st.take k).reverse)) else if a=c then some (.fix 0 []) else sget s a:=fun a=>by rw[hs3];simp only[aN,aW]
 have h91:∃s4 c4,fn n (j+1) (.fn 91) [.gs (c+1) 0 5 k] s3 (c+1+1) = .ok (.ret (.tup [])) s4 c4∧c+1+1≤c4∧sget s4 (c+1)=some (.grow 37 (cL tlC (st.take k)))∧∀a,a≠c+1→sget s4 a=sget s3 a:=by
  rcases hk with rfl|rfl
  ·refine⟨s3,c+1+1,f91_1 n j s3 _,aJ _,?_,fun _ _=>rfl⟩
   rw[g3,aD (by omega),aH rfl]
   match st,hkl with
   | a::r,_=>rfl
  ·match st,hkl with
   | a::b::r,_=>
    obtain⟨s4,h1,h2,h3⟩:=f91_2 n j (m:=c+1) (t:=b) (u:=a) (s:=s3) (c:=c+1+1) (by rw[g3,aD (by omega),aH rfl];rfl)
    exact⟨s4,_,h1,by omega,by rw[h2];rfl,h3⟩
 obtain⟨s4,c4,h91,hc4,e4,o4⟩:=h91;have k1:(K=c)=False:=aL (by omega)
 have k2:(K=c+1)=False:=aL (by omega)
 have h56':(decide (y.kind=5)||decide (y.kind=6))=true:=by rcases h56 with h|h<;>simp[h]
 have hKn:=hn;unfold LkC.blk lrC at hK hs3;unfold bU at hKn;have hfr4:mF s4 c4:=fun a ha=>by
  rw[o4 a (by omega),g3,aD (by omega),aD (by omega),aD (by omega)];exact hfr a (by omega)
 have res:∀t',(TI K By R4 dx w L i (.gs m 0 5 (st.length-k)) t'∧tget t' 11 = .ptr Kn 0)→zC La6 (cxn n) (fn n (j+1)) KK ⟨t,s,c,[],none⟩ = .ok .normal ⟨t',s4,c4,[],none⟩→∃t' s' c' q',zC La6 (cxn n) (fn n (j+1)) KK ⟨t,s,c,[],none⟩ = .ok .normal ⟨t',s',c',[],none⟩∧TI K By R4 dx w L i q' t'∧tget t' 11 = .ptr Kn 0∧StkD B s' q' (st.drop k)∧c+1<c' ∧
   sget s' K=some (C.blk sm (.gs (c+1) 0 5 k))∧sget s' (c+1)=some (.grow 37 (cL tlC (st.take k)))∧(∀m,m<c→m≠K→sget s' m=sget s m)∧mF s' c':=fun t' ht' hz=>
  ⟨t',s4,c4,_,hz,ht'.1,ht'.2,.inr ⟨m,ty,cs,hm,by rw[fO],by rw[o4 m (by omega),g3,aD (by omega),aD (by omega),aD (by omega),hs],by rw[fO];omega,by rw[fO];exact p2⟩,by omega,
   by rw[o4 K (by omega),g3,aH rfl],e4,fun a ha hne=>by rw[o4 a (by omega),g3,aD hne,aD (by omega),aD (by omega)],hfr4⟩
 have e3:sget s3 K=some (C.blk sm (.gs (c+1) 0 5 k)):=by rw[g3,aH rfl]
 unfold LkC.blk lrC at e3;have hlen8:lenD false (.gs m 0 5 st.length)=some st.length:=rfl;rcases h56 with h5|h6
 ·have hd5:=bD h5;refine res ?t ?_ ?_
  rotate_left 2
  ·simp only[La6,Ab.abq];simp only[z2,seval,q0,q8',h11,hKn,hd5,hyk,hlen8,hsub,lo,h90,k1,k2,hK,dP,nb];rw[←hs3];simp only[z2,seval,q0,e3,h91,hi,q8',dP,nb];rfl
  ·refine⟨⟨?_,?_,?_,?_,?_,?_,?_,?_⟩,?_⟩
   ·simpa[aE]using q0
   ·simpa[aE]using q1
   ·simpa[aE]using q4
   ·simpa[aE]using q5
   ·simp[aE]
   ·simpa[aE]using q34
   ·simpa[aE]using q35
   ·simpa[aE]using q36
   ·simpa[aE]using h11
 ·have hd5:=aK (show ¬y.kind=5 by omega)
  have hd6:=bD h6;refine res ?u ?_ ?_
  rotate_left 2
  ·simp only[La6,Ab.abq];simp only[z2,seval,q0,q8',h11,hKn,hd5,hd6,hyk,hlen8,hsub,lo,h90,k1,k2,hK,dP,nb];rw[←hs3];simp only[z2,seval,q0,e3,h91,hi,q8',dP,nb];rfl
  ·refine⟨⟨?_,?_,?_,?_,?_,?_,?_,?_⟩,?_⟩
   ·simpa[aE]using q0
   ·simpa[aE]using q1
   ·simpa[aE]using q4
   ·simpa[aE]using q5
   ·simp[aE]
   ·simpa[aE]using q34
   ·simpa[aE]using q35
   ·simpa[aE]using q36
   ·simpa[aE]using h11
theorem setAt_mid{α:Type}:∀(pre mid post vs:List α),mid.length=vs.length→eS (pre++(mid++post)) pre.length vs=pre++(vs++post)
 | pre,[],post,[],_=>by simp[eS]
 | _,[],_,_::_,h=>by simp at h
 | _,_::_,_,[],h=>by simp at h
 | pre,c::cs,post,v::vs,h=>by
  have:=setAt_mid (pre++[v]) cs post vs (by simpa using h)
  simp only[eS];rw[show(pre++(c::cs++post)).set pre.length v=(pre++[v])++(cs++post) by simp]
  simpa using this
theorem stk_app{B:Nat}{tm:Tm}{s:St}{c nb:Nat}{dd:List (D×List D)}{r:Option Nat}{q:D}{st:List Tl}{u:Tl}(h:StkD B s q st)(hb:sget s nb=some (.fix 0 (tlC u)))(hB:B≤c)(hfr:mF s c)(hl:st.length<1000):
  ∃q' s' c',nG ⟨tm,s,c,dd,r⟩ 5 40 37 q (.ms nb 0 5 1 1)=some (q',⟨tm,s',c',dd,r⟩)∧StkD B s' q' (u::st)∧c≤c'∧mF s' c'∧∀m,m<c→(m<B∨∀ty cs,sget s m≠some (.grow ty cs))→sget s' m=sget s m:=by
 have hc:cZ s 5 (.ms nb 0 5 1 1)=some (tlC u,1):=by simp only[cZ,hb];rfl
 have hrm:∀k,k≤4294967296→room k 40=true:=fun k hk=>by unfold room;rw[bZ hk];rfl
 have hul:(tlC u).length=5:=rfl;unfold nG;simp only;rw[hc];simp only[aB,aO];rcases h with⟨rfl,rfl⟩|⟨m,ty,cs,hm,rfl,hs,hle,htk⟩
 ·refine⟨.gs c 0 5 1,sadd s c (.grow 37 (tlC u)),c+1,rfl,.inr ⟨c,37,tlC u,hB,rfl,by rw[aW,aH rfl],by simp[hul],rfl⟩,by omega,fun m hm=>by rw[aW,aD (by omega)];exact hfr m (by omega),fun m hm _=>by rw[aW,aD (by omega)]⟩
 ·have hmc:m<c:=gQ fun h=>by rw[hfr m h]at hs;cases hs
  have hun:(tlC u).any eU=false:=rfl;have hcu:cL tlC (u::st).reverse=cL tlC st.reverse++tlC u:=by rw[List.reverse_cons,rN];simp[cL]
  simp only[hs,show Nat.beq 1 0=false from rfl,cF,fG,hun,bR,Bool.and_true,aS,bK]
  by_cases hbig:(st.length+1)*5≤cs.length
  ·rw[bZ hbig,aS];have e0:cs=cs.take (st.length*5)++((cs.drop (st.length*5)).take 5++cs.drop (st.length*5+5)):=by
    rw[←List.drop_drop,List.take_append_drop,List.take_append_drop]
   have l0:(cs.take (st.length*5)).length=st.length*5:=by rw[dG];omega
   have l1:((cs.drop (st.length*5)).take 5).length=(tlC u).length:=by rw[dG,fO,hul];omega
   have hset:eS cs (st.length*5) (tlC u)=cs.take (st.length*5)++(tlC u++cs.drop (st.length*5+5)):=by
    have:=setAt_mid (cs.take (st.length*5)) ((cs.drop (st.length*5)).take 5) (cs.drop (st.length*5+5)) (tlC u) l1;rw[←e0,l0]at this;exact this
   have hst:stB (.grow ty cs) (st.length*5) (tlC u)=some (.grow ty (eS cs (st.length*5) (tlC u))):=by
    simp only[stB,hun,cF,hul,bZ (show st.length*5+5≤cs.length by omega),aS]
   rw[hst];refine⟨_,_,_,rfl,.inr ⟨m,ty,_,hm,rfl,by rw[aN,aH rfl],?_,?_⟩,aJ _,fun a ha=>by rw[aN,aD (by omega)];exact hfr a ha,fun a ha hn=>?_⟩
   ·rw[hset];simp only[dD,l0,hul,fO,aU];omega
   ·rw[hset,htk,hcu,←List.append_assoc,aU];refine List.take_left' ?_;rw[←htk,dD,l0,hul];omega
   ·rw[aN];split
    ·rename_i e;rw[e]at hn;exact hn.elim (by omega) fun hn=>absurd hs (hn _ _)
    ·rfl
  ·have hnb:Nat.ble ((st.length+1)*5) cs.length=false:=by rw[←eM,Nat.ble_eq];exact hbig
   rw[hnb,cF,bZ hle,hrm (st.length+1) (by omega)]
   refine⟨_,_,_,rfl,.inr ⟨c,_,_,hB,rfl,by rw[aW,aH rfl],?_,?_⟩,Nat.le_succ _,fun a ha=>?_,fun a ha hn=>?_⟩
   ·simp only[dD,dG,hul,aU];omega
   ·rw[hcu,htk];refine cW ?_;rw[←htk,dD,dG,hul,aU];omega
   ·have ha':c+1≤a:=ha;rw[aW,aD (by omega),iH]
    split
    ·rfl
    ·exact hfr a (by omega)
   ·rw[aW,aD (by omega),iH]
    split
    ·rename_i e;rw[e]at hn;exact hn.elim (by omega) fun hn=>absurd hs (hn _ _)
    ·rfl
def byE(K:Nat):List rP:=[(.int .i64 1,.fn (.func 83) [.ptr K 0] [],0),(.int .i64 3,.fn (.func 84) [.ptr K 0] [],1),(.int .i64 2,.fn (.func 85) [.ptr K 0] [],2),(.int .i64 4,.fn (.func 86) [.ptr K 0] [],3),(.int .i64 5,.fn (.func 87) [.ptr K 0] [],4),(.int .i64 6,.fn (.func 88) [.ptr K 0] [],5)]
def byF(k:Int):Nat:=if k=1 then 83 else if k=3 then 84 else if k=2 then 85 else if k=4 then 86 else if k=5 then 87 else 88
theorem by_find{k:Int}(h:1≤k∧k≤6)(K:Nat):∃p,mfind .int (.int .i64 k) (byE K) 0=some (some (p,.fn (.func (byF k)) [.ptr K 0] [])):=by
 have:k=1∨k=2∨k=3∨k=4∨k=5∨k=6:=by omega
 rcases this with rfl|rfl|rfl|rfl|rfl|rfl<;>exact⟨_,rfl⟩
structure SI (C:LkC) (K By R4 B:Nat) (s0:St) (c0:Nat) (sm:Lk) (st:List Tl) (q8 q:D) (s:St) (c:Nat):Prop where
 hK:sget s K=some (C.blk sm q)
 hM:sget s C.M=some (.mp (mpE 0 sm.lm) sm.lm.length)
 hBy:sget s By=some (.mp (byE K) 6)
 hR:sget s R4=some (.fix 37 ty0)
 old:∀m,m<c0→m≠K→m≠C.M→sget s m=sget s0 m
 stk:StkD B s q8 st
 fr:mF s c
 le:B≤c
 nag:eU q=false
structure PI (C:LkC) (K By R4 B c0:Nat):Prop where
 pK:K<c0
 pM:C.M<c0
 pKM:K≠C.M
 pR:c0≤R4
 pBy:R4<By
 pB:By<B
structure Cal (C:LkC) (K:Nat) (sm:Lk) (q:D) (s:St) (c:Nat) (s':St) (c':Nat):Prop where
 le:c≤c'
 hK:sget s' K=some (C.blk sm q)
 hM:sget s' C.M=some (.mp (mpE 0 sm.lm) sm.lm.length)
 old:∀m,m<c→m≠K→m≠C.M→sget s' m=sget s m
 fr:mF s' c'
 nag:eU q=false
theorem SI.cal{C:LkC}{K By R4 B c0:Nat}{s0:St}{sm sm':Lk}{st:List Tl}{q8 q q':D}{s s':St}{c c':Nat}(h:SI C K By R4 B s0 c0 sm st q8 q s c)(hP:PI C K By R4 B c0)(g:Cal C K sm' q' s c s' c'):SI C K By R4 B s0 c0 sm' st q8 q' s' c':=by
 obtain⟨p1,p2,p3,p4,p5,p6⟩:=hP;have hle:=h.le;have gle:=g.le;refine⟨g.hK,g.hM,by rw[g.old _ (by omega) (by omega) (by omega),h.hBy],by rw[g.old _ (by omega) (by omega) (by omega),h.hR],fun m h1 h2 h3=>by rw[g.old m (by omega) h2 h3,h.old m h1 h2 h3],h.stk.keep fun m hm hb=>g.old m ?_ (by omega) (by omega),g.fr,by omega,g.nag⟩
 exact gQ fun hc=>by obtain⟨b,hb⟩:=hb;rw[h.fr m hc]at hb;cases hb
theorem gC(n j:Nat)(C:LkC){K By R4 B c0 L i Kn:Nat}{dx w q8 q:D}{t:Tm}(hT:TI K By R4 dx w L i q8 t)(h11:tget t 11 = .ptr Kn 0){s s0:St}{c:Nat}{y:Nd}(hn:sget s Kn=some (.fix 57 (bU y)))(hkn:B≤Kn)(hk:1≤y.kind∧y.kind≤6)
  {sm sm':Lk} {st:List Tl} (hS:SI C K By R4 B s0 c0 sm st q8 q s c) (hP:PI C K By R4 B c0) (hl:st.length<1000) {u:Tl} {s1:St} {c1:Nat} {q1:D} (hc:fn n j (.fn (byF y.kind)) [.ptr K 0,.agg (bU y)] s c = .ok (.ret (.agg (tlC u))) s1 c1) (hC:Cal C K sm' q1 s c s1 c1) :
  ∃t' s' c' q',zC La7 (cxn n) (fn n j) KK ⟨t,s,c,[],none⟩ = .ok .normal ⟨t',s',c',[],none⟩∧TI K By R4 dx w L i q' t'∧tget t' 11 = .ptr Kn 0∧sget s' Kn=some (.fix 57 (bU y))∧SI C K By R4 B s0 c0 sm' (u::st) q' q1 s' c':=by
 obtain⟨q0,q1',q4,q5,q8',q34,q35,q36⟩:=hT;obtain⟨p,hf⟩:=by_find hk K;have hB:=hS.hBy;have h1:=hS.cal hP hC;obtain⟨p1,p2,p3,p4,p5,p6⟩:=hP;have hle:=hS.le;have hle1:=hC.le;have hKnc:Kn<c:=gQ fun h=>by rw[hS.fr _ h]at hn;cases hn
 have hn1:sget s1 Kn=some (.fix 57 (bU y)):=by rw[hC.old _ hKnc (by omega) (by omega),hn]
 have stk1:StkD B (sadd s1 c1 (.fix 0 (tlC u))) q8 st:=h1.stk.keep fun m hm hb=>by
  rw[aW,aD];rintro rfl;obtain⟨b,hb⟩:=hb;rw[h1.fr m (aJ _)]at hb;cases hb
 obtain⟨T8,hT8⟩:∃T8,T8=tput (tput (tput (tput (tput (tput (tput (tput t 90 q8) 91 (.mp By)) 92 (.ptr Kn 0)) 93 (.int .i64 y.kind)) 94 (.fn (.func (byF y.kind)) [.ptr K 0] [])) 95 (.agg (bU y))) 96 (.agg (tlC u))) 97 (.ms c1 0 5 1 1):=⟨_,rfl⟩
 obtain⟨q',s',c',ha,hst,hc',hfr',ho⟩:=stk_app (tm:=T8) (dd:=[]) (r:=none) (nb:=c1) (c:=c1+1) (u:=u) stk1 (by rw[aW,aH rfl]) (by omega) (fun m hm=>by rw[aW,aD (by omega)];exact h1.fr m (by omega)) hl
 have gg:∀m,m<c1→(m<B∨∀ty cs,sget s1 m≠some (.grow ty cs))→sget s' m=sget s1 m:=fun m hm hg=>by
  rw[ho m (by omega) (by rw[aW,aD (by omega)];exact hg),aW,aD (by omega)]
 have hg1:∀m b,sget s1 m=some b→(∀ty cs,b≠.grow ty cs)→sget s' m=some b:=fun m b hb hne=>by
  rw[gg m (gQ fun h=>by rw[h1.fr m h]at hb;cases hb) (.inr fun ty cs h=>by rw[hb]at h;cases h;exact hne _ _ rfl),hb]
 have hSI:SI C K By R4 B s0 c0 sm' (u::st) q' q1 s' c':=⟨hg1 _ _ h1.hK (fun _ _ h=>by cases h),hg1 _ _ h1.hM (fun _ _ h=>by cases h),hg1 _ _ h1.hBy (fun _ _ h=>by cases h),hg1 _ _ h1.hR (fun _ _ h=>by cases h),?_,hst,hfr',by omega,hC.nag⟩
 refine⟨tput (tput T8 98 q') 8 q',s',c',q',?_,⟨?_,?_,?_,?_,?_,?_,?_,?_⟩,?_,hg1 _ _ hn1 (fun _ _ h=>by cases h),hSI⟩
 ·simp only[La7,Ab.abq];unfold tlC tyC tl bU at *;simp only[z0,seval,q0,q5,q8',h11,hn,hB,hf,iV,cD,cA,dB,hc];rw[←hT8,ha];simp only[z0,seval]
 ·simpa[aE,hT8]using q0
 ·simpa[aE,hT8]using q1'
 ·simpa[aE,hT8]using q4
 ·simpa[aE,hT8]using q5
 ·simp[aE]
 ·simpa[aE,hT8]using q34
 ·simpa[aE,hT8]using q35
 ·simpa[aE,hT8]using q36
 ·simpa[aE,hT8]using h11
 ·intro m m1 m2 m3;rw[gg m (by omega) (.inl (by omega)),h1.old m m1 m2 m3]
structure VO (us:List Nat) (C:LkC) (K:Nat) (s0:St) (c0:Nat) (vs:List Vr):Prop where
 nag:eU C.v=false
 fz:∃w,Sl 6 vrC vs w∧∀s2,(∀m,m<c0→m≠K→m≠C.M→sget s2 m=sget s0 m)→∀k,frz false (k+2) s2 C.v=some w
 len:vs.length<9223372036854775807
 good:∀x∈vs,tyE us (gZ us) x.ty=0
def jR(C:LkC)(K:Nat)(r:Lo (Tl×Lk))(f:FR)(s:St)(c:Nat):Prop:=match r with
 | .ok p=>∃s1 c1 q1,f = .ok (.ret (.agg (tlC p.1))) s1 c1∧Cal C K p.2 q1 s c s1 c1
 | .bad a e=>∃s1 c1,f = .ok (.pan (jB a e)) s1 c1∧Bad C K s c s1 c1
theorem Bad.of{C:LkC}{K:Nat}{sm:Lk}{q:D}{s s':St}{c c':Nat}(hA:Aft s c s' c')(hK:sget s K=some (C.blk sm q))(hKc:K<c):Bad C K s c s' c':=⟨hA.le,hA.free,⟨_,by rw[hA.old K hKc,hK];rfl,rfl⟩,fun m hm _ _=>hA.old m hm⟩
theorem Cal.of{C:LkC}{K:Nat}{sm:Lk}{q:D}{s s':St}{c c':Nat}(hA:Aft s c s' c')(hK:sget s K=some (C.blk sm q))(hM:sget s C.M=some (.mp (mpE 0 sm.lm) sm.lm.length))(hKc:K<c)(hMc:C.M<c)(hq:eU q=false):Cal C K sm q s c s' c':=
 ⟨hA.le,by rw[hA.old K hKc,hK],by rw[hA.old _ hMc,hM],fun m hm _ _=>hA.old m hm,hA.free,hq⟩
theorem frz_arg{s:St}{c:Nat}(hfr:mF s c){ts:List Tl}{a:Nat}(ha:sget s a=some (.grow 37 (cL tlC ts))):∀s2,(∀m,m<c→sget s2 m=sget s m)→∀k,frz false (k+2) s2 (.gs a 0 5 ts.length)=some (argD ts):=by
 intro s2 hs k;have hac:a<c:=gQ fun h=>by rw[hfr a h]at ha;cases ha
 rw[rI,hs a hac,ha];simp only[bK,fU];rw[bZ (by rw[enc_tl.cells_len];exact aJ _),aS,cW (by rw[enc_tl.cells_len];exact aJ _),enc_tl.cells_frz];rfl
section
variable (n j:Nat) {C:LkC} {K:Nat} {sm:Lk} {q:D} {s:St} {c:Nat} (hK:sget s K=some (C.blk sm q)) (hM:sget s C.M=some (.mp (mpE 0 sm.lm) sm.lm.length)) (hKc:K<c) (hMc:C.M<c) (hfr:mF s c) (hqn:eU q=false) (y:Nd)
include hK hM hKc hMc hfr hqn
theorem look_num:jR C K (.ok (⟨1,0,C.low,C.low,C.low⟩,sm)) (fn (n+1) (j+2) (.fn 83) [.ptr K 0,.agg (bU y)] s c) s c:=by
 obtain⟨s',c',h1,h2⟩:=f83 n j hK hKc hfr y;exact⟨s',c',q,h1,Cal.of h2 hK hM hKc hMc hqn⟩
theorem look_list:jR C K (.ok (⟨1,1,C.low,C.low,C.low⟩,sm)) (fn (n+1) (j+3) (.fn 84) [.ptr K 0,.agg (bU y)] s c) s c:=by
 obtain⟨s',c',h1,h2⟩:=f84 n j hK hKc hfr y;exact⟨s',c',q,h1,Cal.of h2 hK hM hKc hMc hqn⟩
theorem look_text:jR C K (.ok (⟨2,1,C.low,C.low,C.low⟩,sm)) (fn (n+1) (j+3) (.fn 85) [.ptr K 0,.agg (bU y)] s c) s c:=by
 obtain⟨s',c',h1,h2⟩:=f85 n j hK hKc hfr y;exact⟨s',c',q,h1,Cal.of h2 hK hM hKc hMc hqn⟩
theorem look_name{us:List Nat}{vs:List Vr}(hV:VO us C K s c vs):jR C K (nameM vs y sm) (fn (n+1) (j+3) (.fn 86) [.ptr K 0,.agg (bU y)] s c) s c:=by
 obtain⟨w,hw,hz⟩:=hV.fz;have ho:=ofD_find vs y.name;unfold nameM;cases hf:vs.find? (fun v=>decide (v.name=y.name)) with
 | none=>
  rw[hf]at ho;obtain⟨s',c',h1,h2⟩:=f86 n j hK hKc hfr hV.nag (fun s2 hs=>hz s2 fun m hm _ _=>hs m hm) hw hV.len y ho
  exact⟨s',c',h1,Bad.of h2 hK hKc⟩
 | some v=>
  rw[hf]at ho;obtain⟨s',c',h1,h2⟩:=f86 n j hK hKc hfr hV.nag (fun s2 hs=>hz s2 fun m hm _ _=>hs m hm) hw hV.len y ho
  have hg:=sC (hV.good v (List.mem_of_find?_eq_some hf));refine⟨s',c',q,?_,Cal.of h2 hK hM hKc hMc hqn⟩;show _=FR.ok (.ret (.agg (tyC (tl (toT v.ty))))) s' c';rw[hg.1];exact h1
theorem look_prim{ss:List (List UInt8)}{us:List Nat}(h:Lt ss us C.d C.e){ts:List Tl}{a:Nat}(hq:q = .gs a 0 5 ts.length)(ha:sget s a=some (.grow 37 (cL tlC ts)))(hl:ts.length=1∨ts.length=2)(hg:∀t∈ts,TG us t)(hp:C.pc<us.length)(hec:sm.ec<us.length):
  jR C K (uV ⟨us,C.low,C.pc,RDl n C.d C.e⟩ y ts sm) (fn (n+13) (j+3) (.fn 87) [.ptr K 0,.agg (bU y)] s c) s c:=by
 obtain⟨ty,w,cc,er,h1,h2,h3⟩:=rd_ok n h y.prim hl hg;have hz:=frz_arg hfr ha;rw[←hq]at hz;unfold uV;simp only[h1];by_cases h0:er=0
 ·subst h0;obtain⟨⟨w',rfl,hw⟩,⟨c',rfl,hc⟩⟩:=h3 rfl;obtain⟨s',c1,e1,e2,e3⟩:=f87 n j h hK hKc hfr hqn hz y hp hec hw hc h2;rw[aD (fun h=>h rfl)]
  by_cases hE:tyE us (gZ us) ty=0
  ·rw[aD (fun h=>h hE)]
   rw[aH hE]at e1;have hA:=e2 hE;have hg:=sC hE;have hM2:C.M≠K:=by rintro e;rw[←e,hM]at hK;cases hK
   refine⟨s',c1,q,?_,⟨hA.le,by rw[hA.old K hKc,aN,aH rfl];rfl,by rw[hA.old _ hMc,aN,aD hM2,hM],fun m hm h1 _=>by rw[hA.old m hm,aN,aD h1],hA.free,hqn⟩⟩
   show _=FR.ok (.ret (.agg (tyC (tl (toT ty))))) s' c1;rw[hg.1];exact e1
  ·rw[aH hE];rw[aD hE]at e1;have hA:=e3 hE;exact⟨s',c1,e1,hA.le,hA.free,⟨_,by rw[hA.old K hKc,aN,aH rfl],rfl⟩,fun m hm h1 _=>by rw[hA.old m hm,aN,aD h1]⟩
 ·rw[aH h0];obtain⟨s',c1,e1,h2⟩:=f87e n j h hK hKc hfr hqn hz y h2 h0;exact⟨s',c1,e1,Bad.of h2 hK hKc⟩
end
end
end Zv
namespace Zv
open Go Ab
noncomputable section
theorem vX(r:R)(f g:AS→R):zbind (zbind r f) g=zbind r fun x=>zbind (f x) g:=by
 cases r with
 | no=>rfl
 | ok o x=>cases o<;>rfl
theorem zC_sq(a b:AC)(cx:Cx)(cl:CL)(k:Nat):zC (.seq a b) cx cl k=fun x=>zbind (zC a cx cl k x) (zC b cx cl k):=rfl
def LaB:AC:=s La1 (s La2 (s La3 (s La4 (s La5 (s La6 (s La7 (s La8 La9)))))))
theorem LaB_4(cx:Cx)(cl:CL)(k:Nat)(x:AS):zC LaB cx cl k x=zbind (zC (.seq La1 (.seq La2 (.seq La3 La4))) cx cl k x) (zC (.seq La5 (.seq La6 (.seq La7 (.seq La8 La9)))) cx cl k):=by
 simp only[LaB,Ab.abq];simp only[zC_sq,vX]
theorem LaB_5(cx:Cx)(cl:CL)(k:Nat)(x:AS):zC LaB cx cl k x=zbind (zC (.seq La1 (.seq La2 (.seq La3 (.seq La4 La5)))) cx cl k x) fun y=>zbind (zC La6 cx cl k y) fun y=>zbind (zC La7 cx cl k y) (zC (.seq La8 La9) cx cl k):=by
 simp only[LaB,Ab.abq];simp only[zC_sq,vX]
structure SG (us:List Nat) (sm:Lk):Prop where
 ec:sm.ec<us.length
 lb:LabN us sm.lm
 lk:sm.lk≤2000
theorem gM(n j:Nat){ss:List (List UInt8)}{us:List Nat}(C:LkC)(h:Lt ss us C.d C.e)(hp:C.pc<us.length){K By R4 B c0 L i Kn:Nat}{dx w q8 q:D}{t:Tm}(hT:TI K By R4 dx w L i q8 t)(h11:tget t 11 = .ptr Kn 0){s s0:St}{c:Nat}{y:Nd}(hn:sget s Kn=some (.fix 57 (bU y)))
  {sm:Lk} {st:List Tl} (hS:SI C K By R4 B s0 c0 sm st q8 q s c) (hP:PI C K By R4 B c0) (hg:sm.ec<us.length) (hb:LabN us sm.lm) (R:Int→List Tl→Ty×Int×Int×Int) :
  ∃t' s' c',zC (.seq La8 La9) (cxn (n+1)) (fn (n+1) (j+3)) KK ⟨t,s,c,[],none⟩ = .ok .normal ⟨t',s',c',[],none⟩∧TI K By R4 dx w L i q8 t'∧SI C K By R4 B s0 c0 (if y.kind=6 then sm else sm.mark ⟨us,C.low,C.pc,R⟩ y.site) st q8 q s' c':=by
 obtain⟨q0,q1',q4,q5,q8',q34,q35,q36⟩:=hT;obtain⟨p1,p2,p3,p4,p5,p6⟩:=hP;have hle:=hS.le;unfold bU at hn;by_cases h6:y.kind=6
 ·rw[aH h6];simp only[La8,La9,Ab.abq];have hd:decide (y.kind≠6)=false:=by simp[h6]
  simp only[z0,seval,h11,hn,hd];refine⟨_,_,_,rfl,⟨?_,?_,?_,?_,?_,?_,?_,?_⟩,hS⟩
  ·simpa[aE]using q0
  ·simpa[aE]using q1'
  ·simpa[aE]using q4
  ·simpa[aE]using q5
  ·simpa[aE]using q8'
  ·simpa[aE]using q34
  ·simpa[aE]using q35
  ·simpa[aE]using q36
 ·rw[aD h6];have hd:decide (y.kind≠6)=true:=by simp[h6]
  obtain⟨c1,hc1,h92⟩:=f92 n j h (K:=K) (M:=C.M) (s:=s) (c:=c) hS.hK hS.hM hp hg hb y.site;simp only[La8,La9,Ab.abq];simp only[z0,seval,h11,hn,hd,q0,h92];refine⟨_,_,_,rfl,⟨?_,?_,?_,?_,?_,?_,?_,?_⟩,?_⟩
  ·simpa[aE]using q0
  ·simpa[aE]using q1'
  ·simpa[aE]using q4
  ·simpa[aE]using q5
  ·simpa[aE]using q8'
  ·simpa[aE]using q34
  ·simpa[aE]using q35
  ·simpa[aE]using q36
  ·refine⟨by rw[aN,aD (by omega),hS.hK];rfl,by rw[aN,aH rfl];rfl,by rw[aN,aD (by omega),hS.hBy],by rw[aN,aD (by omega),hS.hR],fun m m1 m2 m3=>by rw[aN,aD m3,hS.old m m1 m2 m3],hS.stk.keep fun m hm _=>by rw[aN,aD (by omega)],fun m hm=>by rw[aN,aD (by omega)];exact hS.fr m (by omega),by omega,hS.nag⟩
end
end Zv
namespace Zv
open Go
noncomputable section
theorem VO.go{us:List Nat}{C:LkC}{K:Nat}{s0 s:St}{c0 c:Nat}{vs:List Vr}(h:VO us C K s0 c0 vs)(hs:∀m,m<c0→m≠K→m≠C.M→sget s m=sget s0 m)(hc:c0≤c):VO us C K s c vs:=by
 obtain⟨w,hw,hz⟩:=h.fz;exact⟨h.nag,⟨w,hw,fun s2 h2=>hz s2 fun m m1 m2 m3=>by rw[h2 m (by omega) m2 m3,hs m m1 m2 m3]⟩,h.len,h.good⟩
theorem gCp(n j:Nat)(C:LkC){K By R4 L i Kn:Nat}{dx w q8:D}{t:Tm}(hT:TI K By R4 dx w L i q8 t)(h11:tget t 11 = .ptr Kn 0){s:St}{c:Nat}{y:Nd}(hn:sget s Kn=some (.fix 57 (bU y)))(hk:1≤y.kind∧y.kind≤6)(hB:sget s By=some (.mp (byE K) 6)){ch:Ch}{s1:St}{c1:Nat}
  (hc:fn n j (.fn (byF y.kind)) [.ptr K 0,.agg (bU y)] s c = .ok (.pan ch) s1 c1):∃t',zC La7 (cxn n) (fn n j) KK ⟨t,s,c,[],none⟩ = .ok (.pan ch) ⟨t',s1,c1,[],none⟩:=by
 obtain⟨q0,q1',q4,q5,q8',q34,q35,q36⟩:=hT;obtain⟨p,hf⟩:=by_find hk K;simp only[La7,Ab.abq];unfold bU at *;simp only[z0,seval,q0,q5,q8',h11,hn,hB,hf,iV,cD,cA,dB,hc];exact⟨_,rfl⟩
structure CI (us:List Nat) (C:LkC) (K:Nat) (sm:Lk) (vs:List Vr) (ts:List Tl) (s:St) (c:Nat):Prop where
 a:∃a,sget s K=some (C.blk sm (.gs a 0 5 ts.length))∧sget s a=some (.grow 37 (cL tlC ts))
 hM:sget s C.M=some (.mp (mpE 0 sm.lm) sm.lm.length)
 kc:K<c
 mc:C.M<c
 fr:mF s c
 v:VO us C K s c vs
 l:ts.length=1∨ts.length=2
 g:∀t∈ts,TG us t
def Stp(C:LkC)(K By R4 B c0:Nat)(s0:St)(dx w:D)(L i:Nat)(r:Lo (List Tl×Lk))(z:R):Prop:=match r with
 | .ok p=>∃t s c q8 q,z = .ok .normal ⟨t,s,c,[],none⟩∧TI K By R4 dx w L i q8 t∧SI C K By R4 B s0 c0 p.2 p.1 q8 q s c
 | .bad a e=>∃t s c,z = .ok (.pan (jB a e)) ⟨t,s,c,[],none⟩∧Bad C K s0 c0 s c
theorem node_step(n j:Nat){ss:List (List UInt8)}{us:List Nat}(C:LkC)(h:Lt ss us C.d C.e)(hp:C.pc<us.length){K By R4 B c0:Nat}{s0:St}(hP:PI C K By R4 B c0){x:List Nd}{o:List Nat}{dx w:D}(hx:Sl 7 bU x dx)(hw:Sl 1 jK o w){i:Nat}(hi:i<o.length)(ho:o[i]<x.length)
  {vs:List Vr} (hV:VO us C K s0 c0 vs) {fs:List Fd} {cal:Nat→List Vr→Lk→Lo (Tl×Lk)} {q8 q:D} {t:Tm} (hT:TI K By R4 dx w o.length i q8 t) {s:St} {c:Nat} {sm:Lk} {st:List Tl} (hS:SI C K By R4 B s0 c0 sm st q8 q s c) (hG:SG us sm) (hst:∀u∈st,TG us u) (hsl:st.length<1000)
  (hy:oU x[o[i]]) (hk:1≤x[o[i]].kind∧x[o[i]].kind≤6) (hop:opN x[o[i]]≤st.length)
  (hinv:¬2000<sm.lk+1→∀p,rU ⟨us,C.low,C.pc,RDl n C.d C.e⟩ cal fs vs x[o[i]] (st.take (opN x[o[i]])) sm.tick = .ok p→p.2.ec<us.length∧LabN us p.2.lm)
  (hcall:¬2000<sm.lk+1→x[o[i]].kind=6→∀s c,CI us C K sm.tick vs (st.take (opN x[o[i]])) s c→jR C K (calM ⟨us,C.low,C.pc,RDl n C.d C.e⟩ cal fs x[o[i]] (st.take (opN x[o[i]])) sm.tick) (fn (n+13) (j+3) (.fn 88) [.ptr K 0,.agg (bU x[o[i]])] s c) s c) :
  Stp C K By R4 B c0 s0 dx w o.length i (mW ⟨us,C.low,C.pc,RDl n C.d C.e⟩ cal fs vs x[o[i]] st sm) (zC LaB (cxn (n+13)) (fn (n+13) (j+3)) KK ⟨t,s,c,[],none⟩):=by
 obtain⟨hA1,hA2⟩:=gA (n+13) (j+2) C (c:=c) hx hw hi ho hT hS.hK (by have:=hP.pK;have:=hP.pR;have:=hP.pBy;have:=hP.pB;have:=hS.le;omega) hS.fr hG.lk
 rw[show j+2+1=j+3 from rfl]at hA1 hA2
 generalize x[o[i]]=y at *;unfold mW;by_cases hb:2000<sm.lk+1
 ·rw[aH hb];obtain⟨t',s',c',hz,hB⟩:=hA1 hb;refine⟨t',s',c',?_,by have:=hB.le;have:=hP.pR;have:=hP.pBy;have:=hP.pB;have:=hS.le;omega,hB.fr,hB.hK,fun m m1 m2 m3=>by rw[hB.old m (by have:=hP.pR;have:=hP.pBy;have:=hP.pB;have:=hS.le;omega) m2 m3,hS.old m m1 m2 m3]⟩
  rw[LaB_4];exact congrArg (fun r=>zbind r _) hz
 rw[aD hb];obtain⟨t1,s1,hz1,hT1,h11,hn1,hK1,ho1⟩:=hA2 hb;obtain⟨p1,p2,p3,p4,p5,p6⟩:=hP;have hP:PI C K By R4 B c0:=⟨p1,p2,p3,p4,p5,p6⟩;have hle:=hS.le
 have hS1:SI C K By R4 B s0 c0 sm.tick st q8 .nils s1 (c+1):=⟨hK1,by rw[ho1 C.M (by omega) (by omega),hS.hM];rfl,by rw[ho1 By (by omega) (by omega),hS.hBy],by rw[ho1 R4 (by omega) (by omega),hS.hR],fun m m1 m2 m3=>by rw[ho1 m (by omega) m2,hS.old m m1 m2 m3],hS.stk.keep fun m hm ⟨b,hb⟩=>ho1 m (fun e=>by rw[e,hS.fr c (aJ _)]at hb;cases hb) (by omega),fun m hm=>by rw[ho1 m (by omega) (by omega)];exact hS.fr m (by omega),by omega,rfl⟩
 have hgt:sm.tick.ec<us.length:=hG.ec;have hlb:LabN us sm.tick.lm:=hG.lb
 -- the operands
 have hB:∃t2 s2 c2 q2 q2',zC La6 (cxn (n+13)) (fn (n+13) (j+3)) KK ⟨t1,s1,c+1,[],none⟩ = .ok .normal ⟨t2,s2,c2,[],none⟩∧TI K By R4 dx w o.length i q2 t2∧tget t2 11 = .ptr c 0∧sget s2 c=some (.fix 57 (bU y))∧SI C K By R4 B s0 c0 sm.tick (st.drop (opN y)) q2 q2' s2 c2 ∧
   (y.kind=5∨y.kind=6→∃a,q2' = .gs a 0 5 (st.take (opN y)).length∧sget s2 a=some (.grow 37 (cL tlC (st.take (opN y))))∧((st.take (opN y)).length=1∨(st.take (opN y)).length=2)):=by
  by_cases h56:y.kind=5∨y.kind=6
  ·have hkk:=hy.kp h56;have hop':opN y=y.kids.toNat:=by unfold opN fJ;rw[aH h56]
   have hk12:opN y=1∨opN y=2:=by rw[hop'];omega
   have hyk:y.kids=(opN y:Nat):=by rw[hop'];omega
   have hln:(st.take (opN y)).length=opN y:=by rw[dG];omega
   obtain⟨t2,s2,c2,q2,e1,e2,e3,e4,e5,e6,e7,e8,e9⟩:=gB (n+13) (j+2) C hT1 h11 hn1 h56 hk12 hyk hop hsl hS1.stk (by omega) (by omega) (by omega) (by omega) hK1 hS1.fr
   refine⟨t2,s2,c2,q2,_,e1,e2,e3,by rw[e8 c (by omega) (by omega),hn1],⟨e6,by rw[e8 C.M (by omega) (by omega),hS1.hM],by rw[e8 By (by omega) (by omega),hS1.hBy],by rw[e8 R4 (by omega) (by omega),hS1.hR],fun m m1 m2 m3=>by rw[e8 m (by omega) m2,hS1.old m m1 m2 m3],e4,e9,by omega,rfl⟩,fun _=>⟨_,by rw[hln],e7,by rw[hln];exact hk12⟩⟩
  ·have hop':opN y=0:=by unfold opN fJ;rw[aD h56];rfl
   obtain⟨t2,e1,e2,e3⟩:=gB0 (n+13) (j+3) (s:=s1) (c:=c+1) hT1 h11 hn1 (fun e=>h56 (.inl e)) (fun e=>h56 (.inr e))
   exact⟨t2,s1,c+1,q8,.nils,e1,e2,e3,hn1,by rw[hop'];exact hS1,fun e=>absurd e h56⟩
 obtain⟨t2,s2,c2,q2,q2',hz2,hT2,h112,hn2,hS2,hargs⟩:=hB;have hkc:K<c2:=by have:=hS2.le;omega
 have hmc:C.M<c2:=by have:=hS2.le;omega
 have hV2:VO us C K s2 c2 vs:=hV.go hS2.old (by have:=hS2.le;omega)
 have hL:jR C K (rU ⟨us,C.low,C.pc,RDl n C.d C.e⟩ cal fs vs y (st.take (opN y)) sm.tick) (fn (n+13) (j+3) (.fn (byF y.kind)) [.ptr K 0,.agg (bU y)] s2 c2) s2 c2:=by
  unfold rU byF;by_cases k1:y.kind=1
  ·rw[aH k1,aH k1];exact look_num (n+12) (j+1) hS2.hK hS2.hM hkc hmc hS2.fr hS2.nag y
  rw[aD k1,aD k1];by_cases k3:y.kind=3
  ·rw[aH k3,aH k3];exact look_list (n+12) j hS2.hK hS2.hM hkc hmc hS2.fr hS2.nag y
  rw[aD k3,aD k3];by_cases k2:y.kind=2
  ·rw[aH k2,aH k2];exact look_text (n+12) j hS2.hK hS2.hM hkc hmc hS2.fr hS2.nag y
  rw[aD k2,aD k2];by_cases k4:y.kind=4
  ·rw[aH k4,aH k4];exact look_name (n+12) j hS2.hK hS2.hM hkc hmc hS2.fr hS2.nag y hV2
  rw[aD k4,aD k4];by_cases k5:y.kind=5
  ·rw[aH k5,aH k5];obtain⟨a,ha1,ha2,ha3⟩:=hargs (.inl k5);exact look_prim n j hS2.hK hS2.hM hkc hmc hS2.fr hS2.nag y h ha1 ha2 ha3 (fun u hu=>hst u (eW hu)) hp hgt
  rw[aD k5,aD k5];have k6:y.kind=6:=by omega
  obtain⟨a,ha1,ha2,ha3⟩:=hargs (.inr k6);exact hcall hb k6 s2 c2 ⟨⟨a,by rw[←ha1];exact hS2.hK,ha2⟩,hS2.hM,hkc,hmc,hS2.fr,hV2,ha3,fun u hu=>hst u (eW hu)⟩
 have hdl:(st.drop (opN y)).length<1000:=by rw[fO];omega
 have hcB:B≤c:=hle;cases hr:rU ⟨us,C.low,C.pc,RDl n C.d C.e⟩ cal fs vs y (st.take (opN y)) sm.tick with
 | bad a e=>
  rw[hr]at hL;obtain⟨s3,c3,h3,hB3⟩:=hL;obtain⟨t3,hz3⟩:=gCp (n+13) (j+3) C hT2 h112 hn2 hk hS2.hBy h3
  exact⟨t3,s3,c3,by rw[LaB_5,hz1];exact(congrArg (fun r=>zbind r fun y=>zbind (zC La7 _ _ _ y) (zC (.seq La8 La9) _ _ _)) hz2).trans (congrArg (fun r=>zbind r (zC (.seq La8 La9) _ _ _)) hz3),by have:=hB3.le;have:=hS2.le;omega,hB3.fr,hB3.hK,fun m m1 m2 m3=>by rw[hB3.old m (by have:=hS2.le;omega) m2 m3,hS2.old m m1 m2 m3]⟩
 | ok p=>
  rw[hr]at hL;obtain⟨s3,c3,q3,h3,hC3⟩:=hL;obtain⟨t4,s4,c4,q4,hz4,hT4,h114,hn4,hS4⟩:=gC (n+13) (j+3) C hT2 h112 hn2 hcB hk hS2 hP hdl h3 hC3;obtain⟨hg4,hb4⟩:=hinv hb p hr;obtain⟨t5,s5,c5,hz5,hT5,hS5⟩:=gM (n+12) j C h hp hT4 h114 hn4 hS4 hP hg4 hb4 (RDl n C.d C.e)
  exact⟨t5,s5,c5,q4,q3,by rw[LaB_5,hz1];exact(congrArg (fun r=>zbind r fun y=>zbind (zC La7 _ _ _ y) (zC (.seq La8 La9) _ _ _)) hz2).trans ((congrArg (fun r=>zbind r (zC (.seq La8 La9) _ _ _)) hz4).trans hz5),hT5,hS5⟩
theorem B88_eq:B88=(.seq Lb1 (.seq Lb2 (.seq Lb3 (.seq Lb4 (.seq Lb5 (.seq Lb6 (.seq Lb7 (.seq Lb8 (.seq Lb9 (.seq Lb10 (.seq Lb11 .ret))))))))))):=rfl
structure CF (K:Nat) (y:Nd) (s:St) (c:Nat) (t:Tm) (s1:St) (c1:Nat):Prop where
 t2:tget t 2 = .ptr c 0
 t3:tget t 3 = .ptr (c+1) 0
 t4:tget t 4 = .ptr (c+1+1) 0
 b2:sget s1 c=some (.fix 92 [.ptr K 0])
 b3:sget s1 (c+1)=some (.fix 57 (bU y))
 b4:sget s1 (c+1+1)=some (.fix 37 ty0)
 A:Aft s c s1 c1
 le:c+3≤c1
theorem CF.aft{K:Nat}{y:Nd}{s:St}{c:Nat}{t:Tm}{s1 s2:St}{c1 c2:Nat}(h:CF K y s c t s1 c1)(hA:Aft s1 c1 s2 c2):CF K y s c t s2 c2:=by
 have:=h.le;have:=hA.le;exact⟨h.t2,h.t3,h.t4,by rw[hA.old _ (by omega),h.b2],by rw[hA.old _ (by omega),h.b3],by rw[hA.old _ (by omega),h.b4],h.A.trans hA,by omega⟩
theorem CF.tm{K:Nat}{y:Nd}{s:St}{c:Nat}{t t':Tm}{s1:St}{c1:Nat}(h:CF K y s c t s1 c1)(h2:tget t' 2=tget t 2)(h3:tget t' 3=tget t 3)(h4:tget t' 4=tget t 4):CF K y s c t' s1 c1:=⟨by rw[h2,h.t2],by rw[h3,h.t3],by rw[h4,h.t4],h.b2,h.b3,h.b4,h.A,h.le⟩
theorem cB1(n j:Nat)(C:LkC){K:Nat}{y:Nd}{fs:List Fd}(hf:Sl 3 fdC fs C.f)(hl:fs.length<9223372036854775807){s:St}{c:Nat}{sm:Lk}{q:D}(hK:sget s K=some (C.blk sm q))(hKc:K<c)(hfr:mF s c):
  ∃t s1 c1,zC (.seq Lb1 Lb2) (cxn n) (fn n (j+2)) KK (start [.ptr K 0,.agg (bU y)] s c) = .ok .normal ⟨t,s1,c1,[],none⟩∧CF K y s c t s1 c1∧tget t 5 = .int .i64 (scan (fxP fs y.name) (-1) fs.length 0):=by
 have hA:=(((Aft.refl hfr).add (.fix 92 [.ptr K 0])).add (.fix 57 (bU y))).add (.fix 37 ty0);obtain⟨s1,c1,h128,hA1⟩:=f128 n j hf hl y (K:=c+1) (S:=sadd (sadd (sadd s c (.fix 92 [.ptr K 0])) (c+1) (.fix 57 (bU y))) (c+1+1) (.fix 37 ty0)) (c:=c+1+1+1) (by rw[aW,aD (by omega),aW,aH rfl]) (by omega) hA.free
 have hle:=hA1.le
 have hCF:∀t:Tm,tget t 2 = .ptr c 0→tget t 3 = .ptr (c+1) 0→tget t 4 = .ptr (c+1+1) 0→CF K y s c t s1 c1:=fun t h2 h3 h4=>⟨h2,h3,h4,by rw[hA1.old _ (by omega),aW,aD (by omega),aW,aD (by omega),aW,aH rfl],by rw[hA1.old _ (by omega),aW,aD (by omega),aW,aH rfl],by rw[hA1.old _ (by omega),aW,aH rfl],hA.trans hA1,by omega⟩
 have kc:(K=c)=False:=aL (by omega)
 have kc1:(K=c+1)=False:=aL (by omega)
 have kc2:(K=c+1+1)=False:=aL (by omega)
 have c01:(c=c+1)=False:=aL (by omega)
 have c02:(c=c+1+1)=False:=aL (by omega)
 simp only[Lb1,Lb2,Ab.abq];unfold LkC.blk lrC at hK;unfold ty0 at h128;simp only[z0,seval,show(D.ptr K 0).cells?=some [.ptr K 0]from rfl,hK,kc,kc1,kc2,c01,c02,dP,eX,bW,h128]
 refine⟨_,_,_,rfl,hCF _ ?_ ?_ ?_,?_⟩<;>simp[aE]
theorem cB3(n j:Nat){K:Nat}{y:Nd}{s:St}{c:Nat}{t:Tm}{s1:St}{c1:Nat}(h:CF K y s c t s1 c1){i:Int}(h5:tget t 5 = .int .i64 i):
  (i<0→∃t',zC Lb3 (cxn n) (fn n (j+1)) KK ⟨t,s1,c1,[],none⟩ = .ok (.pan (jB y.site 24)) ⟨t',s1,c1,[],none⟩) ∧
  (¬i<0→∃t',zC Lb3 (cxn n) (fn n (j+1)) KK ⟨t,s1,c1,[],none⟩ = .ok .normal ⟨t',s1,c1,[],none⟩∧CF K y s c t' s1 c1∧tget t' 5 = .int .i64 i):=by
 have b3:=h.b3;unfold bU at b3;refine⟨fun hi=>?_,fun hi=>?_⟩
 ·simp only[Lb3,Ab.abq];simp only[z0,seval,h5,h.t3,b3,bD hi,eY,show((24:Int)=0)=False from aL (by decide)]
  exact⟨_,rfl⟩
 ·simp only[Lb3,Ab.abq];simp only[z0,seval,h5,aK hi];refine⟨_,rfl,h.tm ?_ ?_ ?_,?_⟩
  all_goals simp[aE,h5]
theorem cB4(n j:Nat)(C:LkC){K:Nat}{y:Nd}{fs:List Fd}(hf:Sl 3 fdC fs C.f)(hfo:∀f∈fs,FdOk f){s:St}{c:Nat}{t:Tm}{s1:St}{c1:Nat}(h:CF K y s c t s1 c1){i:Nat}(h5:tget t 5 = .int .i64 (i:Nat))(hi:i<fs.length){sm:Lk}{a k:Nat}(hK:sget s1 K=some (C.blk sm (.gs a 0 5 k)))(hKc:K<c):
  (fs[i].ps.length≠k→∃t' s' c',zC (.seq Lb4 Lb5) (cxn n) (fn n (j+1)) KK ⟨t,s1,c1,[],none⟩ = .ok (.pan (jB y.site 23)) ⟨t',s',c',[],none⟩∧Aft s1 c1 s' c') ∧
  (fs[i].ps.length=k→∃t' s' c',zC (.seq Lb4 Lb5) (cxn n) (fn n (j+1)) KK ⟨t,s1,c1,[],none⟩ = .ok .normal ⟨t',s',c',[],none⟩∧Aft s1 c1 s' c'∧c1<c'∧CF K y s c t' s' c'∧tget t' 5 = .int .i64 (i:Nat)∧tget t' 6 = .ptr c1 0∧sget s' c1=some (.fix 79 (fdC fs[i]))):=by
 have b2:=h.b2;have b3:=h.b3;have hle:=h.le;have hrow:=hf.row hi;have ho:=hfo _ (cB hi);have hps:=ho.p;have np:=hps.nag;have nb':=ho.b.nag;have kc:(K=c1)=False:=aL (by omega)
 have cc:(c=c1)=False:=aL (by omega)
 have cc1:(c+1=c1)=False:=aL (by omega)
 unfold bU at b3;unfold LkC.blk lrC at hK;have hln:lenD false (.gs a 0 5 k)=some k:=rfl;generalize fs[i]=g at *;unfold fdC at *;refine⟨fun hk=>?_,fun hk=>?_⟩
 ·have hd:decide (((g.ps.length:Nat):Int)≠(k:Nat))=true:=bD (by omega)
  simp only[Lb4,Lb5,Ab.abq];simp only[z2,seval,nb,h5,h.t2,h.t3,b2,b3,hK,kc,cc,cc1,dP,hf.ia hi,hrow,np,nb',Bool.or_false,eG,cX,AOp.kd,zop,tks,cC,dW,hps.len,hln,hd,eY,show((23:Int)=0)=False from aL (by decide)]
  exact⟨_,_,_,rfl,(((Aft.refl h.A.free).add _).set (aJ _) (by omega) _).mono (by omega)⟩
 ·have hd:decide (((g.ps.length:Nat):Int)≠(k:Nat))=false:=aK (by omega)
  simp only[Lb4,Lb5,Ab.abq];simp only[z2,seval,nb,h5,h.t2,h.t3,b2,b3,hK,kc,cc,cc1,dP,hf.ia hi,hrow,np,nb',Bool.or_false,eG,cX,AOp.kd,zop,tks,cC,dW,hps.len,hln,hd];have hA:∀C',c1+1≤C'→Aft s1 c1 (sset (sadd s1 c1 (.fix 79 [.str [],.nils,.nils])) c1 (.fix 79 [.str g.name,g.pd,g.bd])) C':=fun C' hC=>(((Aft.refl h.A.free).add _).set (aJ _) (by omega) _).mono hC
  refine⟨_,_,_,rfl,hA _ ?_,?_,CF.tm (t:=t) (h.aft (hA _ ?_)) ?_ ?_ ?_,?_,?_,?_⟩
  ·omega
  ·omega
  ·omega
  all_goals simp[aE,h5]
def zdf(v:D)(dst:Option Nat)(l:List D)(t:Tm)(s:St)(c:Nat)(d:List (D×List D)):R:=match v with
 | .fn g p q=>.ok .normal ⟨iI dst t .un,s,c,(.fn g p q,l)::d,none⟩
 | _=>.no
theorem zo_df(cx:Cx)(cl:CL)(dst:Option Nat)(g:Option (Nat×Bool))(a:Arg)(l:List Arg)(t:Tm)(s:St)(c:Nat)(d:List (D×List D)):zOp cx cl ⟨dst,.dfr a l,g⟩ ⟨t,s,c,d,none⟩=zdf (a.ev cx.G t) dst (evs l cx.G t) t s c d:=by
 show zo_dfr a l cx cl dst ⟨t,s,c,d,none⟩=_;unfold zo_dfr zdf;simp only;cases a.ev cx.G t<;>rfl
theorem zdf_fn(g:Fn)(p q:List D)(dst:Option Nat)(l:List D)(t:Tm)(s:St)(c:Nat)(d:List (D×List D)):zdf (.fn g p q) dst l t s c d = .ok .normal ⟨iI dst t .un,s,c,(.fn g p q,l)::d,none⟩:=rfl
structure CG (C:LkC) (K c D1 A B:Nat) (g:Fd) (t:Tm) (s1:St) (c1:Nat) (s:St) (k:Nat):Prop where
 t2:tget t 2 = .ptr c 0
 t4:tget t 4 = .ptr (c+1+1) 0
 t6:tget t 6 = .ptr D1 0
 b2:sget s c=some (.fix 92 [.ptr K 0])
 b4:sget s (c+1+1)=some (.fix 37 ty0)
 b6:sget s D1=some (.fix 79 (fdC g))
 bA:sget s A=some (.fix 27 [C.v])
 bB:sget s B=some (.fix 28 [C.f])
 old:∀m,m<c1→m≠K→m≠C.M→sget s m=sget s1 m
 fr:mF s k
 lA:c1≤A∧A<k
 lB:c1≤B∧B<k
theorem cB6(n j:Nat){ss:List (List UInt8)}{us:List Nat}(C:LkC)(h:Lt ss us C.d C.e)(hp:C.pc<us.length)(R:Int→List Tl→Ty×Int×Int×Int){K:Nat}{y:Nd}{fs:List Fd}(hf:Sl 3 fdC fs C.f){s:St}{c:Nat}{t:Tm}{s1:St}{c1 D1:Nat}(hF:CF K y s c t s1 c1){i:Nat}(h5:tget t 5 = .int .i64 (i:Nat))(hi:i<fs.length)(h6:tget t 6 = .ptr D1 0){g:Fd}(b6:sget s1 D1=some (.fix 79 (fdC g)))(hD:c≤D1)
  {sm:Lk} {q:D} (hK:sget s1 K=some (C.blk sm q)) (hM:sget s1 C.M=some (.mp (mpE 0 sm.lm) sm.lm.length)) (hKc:K<c) (hMc:C.M<c) (hec:sm.ec<us.length) (hlb:LabN us sm.lm) (hv:eU C.v=false) (hq:eU q=false) :
  ∃t' s' c' A B fd,zC (.seq Lb6 (.seq Lb7 (.seq Lb8 Lb9))) (cxn (n+1)) (fn (n+1) (j+3)) KK ⟨t,s1,c1,[],none⟩ = .ok .normal ⟨t',s',c',[(.fn (.func 130) [] [.ptr A 0,.ptr B 0,.ptr c 0],[])],none⟩∧CG C K c D1 A B g t' s1 c1 s' c'∧Sl 3 fdC (fs.take i) fd ∧
   sget s' K=some (LkC.blk ⟨C.d,C.e,C.low,C.pc,C.M,.nils,fd⟩ (sm.mark ⟨us,C.low,C.pc,R⟩ y.site) q)∧sget s' C.M=some (.mp (mpE 0 (sm.mark ⟨us,C.low,C.pc,R⟩ y.site).lm) (sm.mark ⟨us,C.low,C.pc,R⟩ y.site).lm.length):=by
 have b2:=hF.b2;have b3:=hF.b3;have b4:=hF.b4;have hle:=hF.le;have hMK:C.M≠K:=by rintro e;rw[←e,hM]at hK;cases hK
 have hDc:D1<c1:=gQ fun hh=>by rw[hF.A.free _ hh]at b6;cases b6
 obtain⟨c2,hc2,h92⟩:=f92 n j h (K:=K) (M:=C.M) (s:=s1) (c:=c1) hK hM hp hec hlb y.site;obtain⟨fd,hfd,hsl⟩:=hf.head (Nat.le_of_lt hi) (k:=.i64);have kM:(K=C.M)=False:=aL (fun e=>hMK e.symm)
 have cM:(c=C.M)=False:=aL (by omega)
 have cM1:(c+1=C.M)=False:=aL (by omega)
 obtain⟨s2,hs2⟩:∃s2,s2=sset s1 C.M (.mp (mpE 0 (mkL us sm.lm y.site (J us C.pc sm.ec))) (mkL us sm.lm y.site (J us C.pc sm.ec)).length):=⟨_,rfl⟩
 have g2:∀m,sget s2 m=if m=C.M then some (.mp (mpE 0 (mkL us sm.lm y.site (J us C.pc sm.ec))) (mkL us sm.lm y.site (J us C.pc sm.ec)).length) else sget s1 m:=fun m=>by rw[hs2,aN]
 have eK:sget s2 K=some (C.blk sm q):=by rw[g2,aD (fun e=>hMK e.symm),hK]
 have e2':sget s2 c=some (.fix 92 [.ptr K 0]):=by rw[g2,aD (by omega),b2]
 have fr2:mF s2 c2:=fun m hm=>by rw[g2,aD (by omega)];exact hF.A.free m (by omega)
 have n4:sget s2 (c2+8)=none:=fr2 _ (by omega)
 have n5:sget s2 (c2+9)=none:=fr2 _ (by omega)
 have k1:(K=c2+8)=False:=aL (by omega)
 have k2:(K=c2+9)=False:=aL (by omega)
 have k3:(c=c2+8)=False:=aL (by omega)
 have k4:(c=c2+9)=False:=aL (by omega)
 have k5:(c2=c2+1)=False:=aL (by omega)
 have k6:(c2+1=c2)=False:=aL (by omega)
 have k7:(c=K)=False:=aL (by omega)
 have k8:(c2+8=K)=False:=aL (by omega)
 have k9:(c2+9=K)=False:=aL (by omega)
 have hfn:=hf.nag;have hfn2:=hsl.nag;unfold bU at b3;unfold LkC.blk lrC at eK;simp only[Lb6,Lb7,Lb8,Lb9,Ab.abq];simp only[z0,seval,hF.t2,hF.t3,b2,b3,h92];rw[←hs2]
 simp only[z0,seval,hF.t2,e2',eK,h5,eG,cX,AOp.kd,zop,tks,cC,dW,cT,dP,aU,bN,n4,n5,k1,k2,k3,k4,k5,k6,k7,k8,k9,bQ,hv,hq,hfn,hfn2,iJ hv,iJ hfn,iJ hfn2,hfd,zo_df,zdf_fn,bW,eX,show D.nils.cells?=some [D.nils]from rfl,show eU D.nils=false from rfl]
 refine⟨_,_,_,c2+8,c2+9,fd,rfl,⟨?_,?_,?_,?_,?_,?_,?_,?_,?_,?_,by omega,by omega⟩,hsl,?_,?_⟩
 ·simp[aE,hF.t2]
 ·simp[aE,hF.t4]
 ·simp[aE,h6]
 ·simp only[aN,aW];rw[aD (by omega),aD (by omega),aD (by omega),aD (by omega),aD (by omega),aD (by omega),g2,aD (by omega),b2]
 ·simp only[aN,aW];rw[aD (by omega),aD (by omega),aD (by omega),aD (by omega),aD (by omega),aD (by omega),g2,aD (by omega),b4]
 ·simp only[aN,aW];rw[aD (by omega),aD (by omega),aD (by omega),aD (by omega),aD (by omega),aD (by omega),g2,aD (by omega),b6]
 ·simp only[aN,aW];rw[aD (by omega),aD (by omega),aD (by omega),aH trivial]
 ·simp only[aN,aW];rw[aD (by omega),aD (by omega),aH trivial]
 ·intro m m1 m2 m3;simp only[aN,aW];rw[aD m2,aD m2,aD (by omega),aD (by omega),aD (by omega),aD (by omega),g2,aD m3]
 ·intro m hm;have hm':c2+12+14≤m:=hm;simp only[aN,aW];rw[aD (by omega),aD (by omega),aD (by omega),aD (by omega),aD (by omega),aD (by omega)];exact fr2 m (by omega)
 ·rw[aN,aH rfl];rfl
 ·simp only[aN,aW];rw[aD hMK,aD hMK,aD (by omega),aD (by omega),aD (by omega),aD (by omega),g2,aH rfl];rfl
theorem rL:EncG 6 vrC:=⟨fun _=>rfl,by decide,fun _=>rfl,fun _ _ _ _=>rfl⟩
theorem pP{ps:List (List UInt8)}{ts:List Tl}(h:ps.length=ts.length):(oW ps ts).length=ts.length:=by unfold oW;rw[List.length_zipWith];omega
theorem zipV_get{ps:List (List UInt8)}{ts:List Tl}(h:ps.length=ts.length){i:Nat}(hi:i<ts.length):(oW ps ts).take (i+1)=(oW ps ts).take i++[⟨ps[i],tl ts[i]⟩]:=by
 rw[List.take_succ_eq_append_getElem (by rw[pP h];exact hi)]
 congr 2
 unfold oW;rw[List.getElem_zipWith]
def LkC.vf(C:LkC)(v f:D):LkC:=⟨C.d,C.e,C.low,C.pc,C.M,v,f⟩
theorem CG.go{C:LkC}{K c D1 A B:Nat}{g:Fd}{t:Tm}{s1:St}{c1:Nat}{s:St}{k:Nat}(h:CG C K c D1 A B g t s1 c1 s k){s':St}{k' kk:Nat}{t':Tm}(hA:A<kk)(hB:B<kk)(hc:c+1+1<c1)(hD:D1<c1)(hK:K<c)(hk:kk≤k')(hs:∀m,m<kk→m≠K→sget s' m=sget s m)(hf:mF s' k')(h2:tget t' 2=tget t 2)(h4:tget t' 4=tget t 4)(h6:tget t' 6=tget t 6)(hDK:D1≠K):CG C K c D1 A B g t' s1 c1 s' k':=by
 have:=h.lA;have:=h.lB;exact⟨by rw[h2,h.t2],by rw[h4,h.t4],by rw[h6,h.t6],by rw[hs c (by omega) (by omega),h.b2],by rw[hs _ (by omega) (by omega),h.b4],by rw[hs _ (by omega) hDK,h.b6],by rw[hs A (by omega) (by omega),h.bA],by rw[hs B (by omega) (by omega),h.bB],fun m m1 m2 m3=>by rw[hs m (by omega) m2,h.old m m1 m2 m3],hf,by omega,by omega⟩
theorem cB10(n j:Nat)(C:LkC){K c D1 A B:Nat}{g:Fd}{t:Tm}{s1:St}{c1:Nat}{s:St}{k:Nat}(h:CG C K c D1 A B g t s1 c1 s k)(hc:c+1+1<c1)(hD:D1<c1)(hKc:K<c)(hMc:C.M<c)(hDc:c≤D1){f:D}{sm:Lk}{a:Nat}{ts:List Tl}
  (hK:sget s K=some ((C.vf .nils f).blk sm (.gs a 0 5 ts.length))) (ha:sget s a=some (.grow 37 (cL tlC ts))) (hl:ts.length<1000) (hg:Sl 1 iC g.ps g.pd) (hgl:g.ps.length=ts.length) (hne:ts≠[]) (hMs:sget s C.M=some (.mp (mpE 0 sm.lm) sm.lm.length)) (dd:List (D×List D)) :
  ∃t' s' k' V,zC Lb10 (cxn n) (fn n j) KK ⟨t,s,k,dd,none⟩ = .ok .normal ⟨t',s',k',dd,none⟩∧CG C K c D1 A B g t' s1 c1 s' k'∧sget s' K=some ((C.vf (.gs V 0 6 ts.length) f).blk sm (.gs a 0 5 ts.length))∧(∃ty,sget s' V=some (.grow ty (cL vrC (oW g.ps ts))))∧k≤V∧V<k'∧sget s' C.M=some (.mp (mpE 0 sm.lm) sm.lm.length):=by
 have hak:a<k:=gQ fun hh=>by rw[h.fr _ hh]at ha;cases ha
 have hlA:=h.lA;have hlB:=h.lB;have haK:a≠K:=by rintro rfl;rw[hK]at ha;cases ha
 have hb2:=h.b2;have hKM:C.M≠K:=by rintro e;rw[←e,hMs]at hK;cases hK
 unfold LkC.blk lrC LkC.vf at *;simp only[Lb10,Ab.abq];simp only[z0,seval,h.t2,hb2,hK,dP,show lenD false (.gs a 0 5 ts.length)=some ts.length from rfl]
 generalize hz:zloop KK _ _=rl
 refine zrange rl hz ts.length (fQ (by omega)) (by omega) (fun i t' s' k'=>∃v,CG C K c D1 A B g t' s1 c1 s' k'∧k≤k'∧sget s' K=some (.fix 96 [C.d,C.e,.int .i64 1,.int .i64 0,.int .i64 (C.low:Nat),.int .i64 (C.low:Nat),.int .i64 (C.low:Nat),.int .i64 (C.pc:Nat),.int .i64 (sm.ec:Nat),.int .i64 (sm.lk:Nat),.mp C.M,v,f,.gs a 0 5 ts.length])∧lG 6 vrC k s' v ((oW g.ps ts).take i)∧sget s' a=some (.grow 37 (cL tlC ts))∧sget s' C.M=some (.mp (mpE 0 sm.lm) sm.lm.length)∧tget t' 69 = .gs a 0 5 ts.length) (by decide) (by simp[aE]) (by simp[aE]) ?_ ?_ ?_
 ·refine⟨.nils,CG.go h hlA.2 hlB.2 hc hD hKc (aJ _) (fun _ _ _=>rfl) h.fr ?_ ?_ ?_ (by omega),aJ _,hK,.inl ⟨rfl,by simp⟩,ha,hMs,?_⟩
  all_goals simp[aE]
 ·rintro i t' s' k' hi ⟨v,h',hkk,hK',hv,ha',hM',q69⟩ hti htn;have hlA':=h'.lA;have ia:kE 5 (.gs a 0 5 ts.length) (.int .i64 (i:Nat))=some (.ptr a (i*5)):=by
   simp only[kE,fM hi,aO,fG,aS,bK]
  have row1:decide (i*5+5≤(cL tlC ts).length)=true:=bD (by rw[enc_tl.cells_len];omega)
  have row2:List.take 5 (List.drop (i*5) (cL tlC ts))=tlC ts[i]:=(mM (w:=5) (rows:=ts.map tlC) (i:=i) (r:=tlC ts[i]) (fun r hr=>by obtain⟨u,_,rfl⟩:=cQ.1 hr;rfl) (by rw[gX,aI hi];rfl)).1
  have ig:=hg.ia1 (i:=i) (by omega) (k:=.i64)
  have ag:=hg.at1 (i:=i) (by omega)
  have hnv:=hv.nag;have b2:=h'.b2;have b6:=h'.b6;have n1:(c=k')=False:=aL (by omega)
  have n2:(a=k')=False:=aL (by omega)
  have n3:(K=k')=False:=aL (by omega)
  have n4:(D1=k')=False:=aL (by omega)
  have n5:(k'+1+12=k')=False:=aL (by omega)
  have n6:sget s' (k'+1+12)=none:=h'.fr _ (by omega)
  unfold fdC at b6;simp only[iC]at ag;unfold tlC tyC tl at row2;rw[show cL (fun t=>[.int .i64 t.k,.int .i64 t.r,.int .i64 (t.x:Nat),.int .i64 (t.y:Nat),.int .i64 (t.z:Nat)]) ts=cL tlC ts from rfl]at row2
  simp only[z0,seval,q69,hti,htn,ia,ha',row1,row2,n1,n2,n3,n4,h'.t2,h'.t6,b2,b6,hK',eG,cX,AOp.kd,zop,tks,cC,dW,cT,dP,aU,bN,ig,ag,n5,n6,bQ];generalize hA:nG _ 6 56 55 v _=Z
  obtain⟨S,hS⟩:∃S,S=sadd (sset (sadd s' k' (.fix 37 [.int .i64 0,.int .i64 0,.int .i64 0,.int .i64 0,.int .i64 0])) k' (.fix 37 [.int .i64 ts[i].k,.int .i64 ts[i].r,.int .i64 (ts[i].x:Nat),.int .i64 (ts[i].y:Nat),.int .i64 (ts[i].z:Nat)])) (k'+1+12) (.fix 0 [.str g.ps[i],.int .i64 ts[i].k,.int .i64 ts[i].r,.int .i64 (ts[i].x:Nat),.int .i64 (ts[i].y:Nat),.int .i64 (ts[i].z:Nat)]):=⟨_,rfl⟩
  have gS:∀m,m<k'→sget S m=sget s' m:=fun m hm=>by rw[hS];simp only[aN,aW];rw[aD (by omega),aD (by omega),aD (by omega)]
  rw[←hS]at hA;obtain⟨v',s2,k2,hZ,hv2,hk2,ho2,hf2⟩:=wZ rL (B:=k) (l:=(oW g.ps ts).take i) (l':=[⟨g.ps[i],tl ts[i]⟩]) (by decide) hA (hv.keep fun m b hm hb=>by rw[gS m (gQ fun hh=>by rw[h'.fr m hh]at hb;cases hb),hb]) (by simp only[cZ,hS,aW,aH];rfl) (by simp only[dG,List.length_singleton];omega) (by show k≤k'+1+17;omega) (fun m hm=>by
   have hm':k'+1+17≤m:=hm;show sget S m=none;rw[hS];simp only[aN,aW];rw[aD (by omega),aD (by omega),aD (by omega)];exact h'.fr m (by omega))
  have hk2':k'+1+17≤k2:=hk2;have ho':∀m,m<k→sget s2 m=sget s' m:=fun m hm=>by rw[ho2 m hm];exact gS m (by omega)
  subst hZ;rw[←zipV_get hgl hi]at hv2;have f1:sget s2 c=some (.fix 92 [.ptr K 0]):=by rw[ho' c (by omega),b2]
  have f2:=ho' K (by omega)
  rw[hK']at f2;have hnv2:=hv2.nag;have f3:sget S c=some (.fix 92 [.ptr K 0]):=by rw[gS c (by omega),b2]
  have f4:sget S K=_:=(gS K (by omega)).trans hK'
  have pc:=h'.t2;have n7:(c=k'+1+12)=False:=aL (by omega)
  have n8:(K=k'+1+12)=False:=aL (by omega)
  simp only[z0,seval,n1,n3,n7,n8,b2,hK',pc,f1,f2,f3,f4,hti,htn,q69,dP,AOp.kd,zop,tks,cC,dW,hnv2,iJ hnv2];refine⟨trivial,trivial,trivial,.inr (.inr trivial),nofun,nofun,v',?_,by omega,rfl,?_,?_,?_,trivial⟩
  ·refine CG.go h' hlA.2 hlB.2 hc hD hKc (by omega) (fun m m1 m2=>by rw[aN,aD m2,ho' m m1]) (fun m hm=>by rw[aN,aD (by omega)];exact hf2 m hm) ?_ ?_ ?_ (by omega)
   all_goals simp[aE]
  ·exact hv2.keep fun m b hm hb=>by rw[aN,aD (by omega),hb]
  ·rw[aD haK,ho' a hak,ha']
  ·rw[aD hKM,ho' C.M (by omega),hM']
 ·rintro t' s' k' ⟨v,h',hkk,hK',hv,ha',hM',q69⟩ hti htn;rw[show ts.length=(oW g.ps ts).length from(pP hgl).symm,List.take_length]at hv
  have hzl:=pP hgl;rcases hv with⟨_,e⟩|⟨m,_,_,_,e⟩|⟨V,ty,hV,rfl,hs,_⟩
  ·rw[e]at hzl;exact absurd (List.length_eq_zero_iff.1 hzl.symm) hne
  ·rw[e]at hzl;exact absurd (List.length_eq_zero_iff.1 hzl.symm) hne
  ·rw[hzl]at hK';have hVk:V<k':=gQ fun hh=>by rw[h'.fr _ hh]at hs;cases hs
   simp only[z0,seval];refine⟨_,s',k',V,rfl,CG.go h' hlA.2 hlB.2 hc hD hKc (by omega) (fun _ _ _=>rfl) h'.fr ?_ ?_ ?_ (by omega),hK',⟨ty,hs⟩,hV,hVk,hM'⟩
   all_goals simp[aE]
end
end Zv
