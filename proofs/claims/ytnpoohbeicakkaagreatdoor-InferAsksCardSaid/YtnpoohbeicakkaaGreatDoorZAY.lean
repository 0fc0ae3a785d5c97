/- infer.Look: the labels become sites, in their order. Conditions: none. -/
import Derived.Test.YtnpoohbeicakkaaGreatDoorZAX
set_option linter.unusedSimpArgs false
set_option linter.unusedVariables false
set_option maxRecDepth 100000
set_option linter.unusedSectionVars false
namespace Zv
open Go
noncomputable section
def oH(e:vI):Int×Int:=match e with|(.int _ a,.int _ b,_)=>(a,b)|_=>(0,0)
theorem pairM_mpE:∀(l:List (Int×Int)) (k:Nat),(mpE k l).map oH=l
 | [],_=>rfl
 | p::r,k=>by simp only[mpE,bS,pairM_mpE r];rfl
theorem mpE_form:∀(l:List (Int×Int)) (k:Nat),∀e∈mpE k l,e=(.int .i64 (oH e).1,.int .i64 (oH e).2,e.2.2)
 | [],_,e,h=>by simp[mpE]at h
 | p::r,k,e,h=>by
  simp only[mpE,cH]at h;rcases h with rfl|h
  ·rfl
  ·exact mpE_form r (k+1) e h
theorem born_filter:∀{es:List vI} {e:vI},(borns es).Nodup→e∈es→∃r,(es.filter fun x=>Nat.beq x.2.2 e.2.2)=e::r
 | [],e,_,h=>by simp at h
 | x::l,e,hn,h=>by
  simp only[borns,bS,List.nodup_cons]at hn;rcases cH.1 h with rfl|h
  ·simp_all
  ·have An:x.2.2≠e.2.2:=fun h'=>hn.1 (by grind)
   obtain⟨r,hr⟩:=born_filter hn.2 h
   simp_all
theorem en2_frz(p:Bool)(k:Nat)(s:St):∀(l:List (Int×Int)),(en2 l).mapM (frz p (k+1) s)=some (en2 l)
 | []=>rfl
 | q::r=>by simp only[en2,List.mapM_cons,en2_frz p k s r];rfl
theorem enc_site:sH 2 kI:=⟨fun _=>rfl,by decide,fun _=>rfl,fun _ _ _ _=>rfl⟩
theorem wJ:∀l:List (Int×Int),cV kI l=en2 l
 | []=>rfl
 | p::r=>by
  have:=wJ r;unfold cV at this ⊢;rw[bS,dO,this];rfl
theorem sort_row{L:List (Int×Int)}{s:St}{c ty:Nat}(hs:sget s c=some (.grow ty (en2 L)))(hn:(L.map Prod.fst).Nodup)(hl:L.length<10000):sortSt s c 0 L.length=some (sset s c (.grow ty (en2 (fA L)))):=by
 unfold sortSt;rw[hs];simp only[eR,gQ];rw[cS (by grind [jU]),en2_row]
 simp only;rw[aS ⟨hn,trivial,by omega⟩]
 have Sd:(en2 L).length=(en2 (fA L)).length:=by rw[jU,jU,(gL L).length_eq]
 have:stB (.grow ty (en2 L)) 0 (en2 (fA L))=some (.grow ty (en2 (fA L))):=by
  simp only[stB,en2_nag,cO,bM,Sd,Nat.ble_self_eq_true,bG];have:=rC [] (en2 L) (en2 (fA L)) Sd;simpa using this
 grind
theorem zend13_ret(n:Nat){t:Tm}{s:St}{c:Nat}{A:AF}:zbody (dfn n MM) A (.ok .ret ⟨t,s,c,D13,none⟩)=match results A ⟨t,s,c,D13,none⟩ with|some d=>.ok (.ret d) s c|none=>.no:=by
 have h1:dfn n MM 40 [.ptr 2 0,.ptr 3 0] none s c=_:=caughtN n 4095 2 3 s c;show pU (dfn n MM) A none ⟨t,s,c,D13,none⟩=_;unfold pU D13
 grind [zDs,settle,results,fn]
def lookR(p:Tl×Lk):D:=.tup [.agg [.int .i64 p.1.k,.int .i64 p.1.r,.int .i64 (p.1.x:Nat),.int .i64 (p.1.y:Nat),.int .i64 (p.1.z:Nat),.int .i64 (p.2.ec:Nat),.sl false p.2.lm.length (en2 (fA p.2.lm)),.int .i64 (p.2.lk:Nat)],.int .i64 0,.int .i64 0]
theorem t13(n:Nat)(C:LkC)(hM:C.M=5){p:Tl×Lk}(hk:(p.2.lm.map Prod.fst).Nodup)(zU:p.2.lm.length<10000)(An:p.2.lm≠[]){t:Tm}{s:St}{c:Nat}(h:LG C p t s c):
  oA (bC (cxn (n+1)) (fn (n+1) 4096) KK T13 ⟨t,s,c,D13,none⟩) (zL (n+1) (lookR p)):=by
 obtain⟨q,hq⟩:=h.q;obtain⟨W,t15,sW,hW7,hWc⟩:=h.w;have hm:=h.m;obtain⟨z,s3⟩:=h.lf.s3;unfold LkC.blk lrC at hq;rw[hM]at hq;simp only[T13,Ab.abq];rw[W_seq1 (by rfl) (by rfl)]
 simp only[Lk11,cI];simp only[z0,seval,pT];rw[W_seq (by rfl)]
 simp only[Lk12,cI];rw[W_seq1 (by rfl) (by rfl)]
 simp only[z0,seval,h.t14,hq,hm,pT];rw[W_block (by rfl)]
 have Gh:(mpE 0 p.2.lm).length=p.2.lm.length:=mpE_len p.2.lm 0;have Ac:=h.lf.le;have hn5:(5:Nat)≠c:=by omega
 refine bmap (es:=mpE 0 p.2.lm) (c0:=p.2.lm.length) (nI:=c) (nM:=5) (by rfl) (by rw[Gh];exact dY (by omega)) (mpE_lt p.2.lm) (mpE_nodup p.2.lm)
  (fun done t' s' c'=>c+1≤c'∧kA s' c'∧(∀m,m<c→sget s' m=sget s m)∧(∃v,tget t' 16=v∧jT 2 kI (c+1) s' v (done.map oH))∧tget t' 8 = .ptr 1 0∧tget t' 9 = .ptr 2 0∧tget t' 10 = .ptr 3 0∧tget t' 14 = .ptr 6 0∧tget t' 15 = .ptr W 0) (by decide) (by simp[aA]) (by simp only[aA];grind) (by simp[aA]) (by omega) ⟨aK _,fun m hm=>by rw[aZ,aG (by omega)];exact h.lf.fr m (by omega),fun m hm=>by grind [aZ],⟨.nils,by simp[aA],.inl ⟨rfl,rfl⟩⟩,?_,?_,?_,?_,?_⟩ ?_ ?_
 ·simp[aA,h.lf.t8]
 ·simp[aA,h.lf.t9]
 ·simp[aA,h.lf.t10]
 ·simp[aA,h.t14]
 ·simp[aA,t15]
 ·rintro done e t' s' c' ⟨Bw,Ha,Gk,⟨v,Pz,hv⟩,q8,q9,q10,Lj,Rc⟩ he Bv Es Fx Ag Nt Rt;rw[Gh]at Fx;obtain⟨rr,hf⟩:=born_filter (mpE_nodup p.2.lm) he;have Wc:=mpE_form p.2.lm 0 e he;have Fk:(borns (done++[e])).getLast?=some e.2.2:=by simp[borns]
  have hI2:∀{b:Blk},sget (sset s' c b) 5=some (.mp (mpE 0 p.2.lm) p.2.lm.length):=by intro b;rw[aU,aG hn5];exact Nt
  have Gz:((mpE 0 p.2.lm).filter fun x=>Nat.beq x.2.2 e.2.2)=(.int .i64 (oH e).1,.int .i64 (oH e).2,e.2.2)::rr:=by rw[hf];exact congrArg (· :: rr) Wc
  have hbd:(fun x:vI=>Nat.beq x.2.2 e.2.2)=fun x=>decide (x.2.2=e.2.2):=by funext x;rw[fF];simp[Nat.beq_eq]
  rw[hbd]at Gz;have Jb:(c=c')=False:=aL (by omega)
  simp only[z1,seval,Ag,Pz,hI2,Fk,Gz];generalize hA:iS _ 2 16 50 v _=Z;obtain⟨S,hS⟩:∃S,S=sadd (sset s' c (.mit (some 5) p.2.lm.length (borns (done++[e])) p.2.lm.length)) c' (.fix 0 [.int .i64 (oH e).1,.int .i64 (oH e).2]):=⟨_,rfl⟩
  have gS:∀m,m≠c→m≠c'→sget S m=sget s' m:=fun m h1 h2=>by grind [aZ,aU]
  rw[←hS]at hA;obtain⟨v',s2,k2,hZ,hv2,Bn,ho2,hf3⟩:=lR enc_site (B:=c+1) (l:=done.map oH) (l':=[oH e]) (by decide) hA (hv.keep fun m b hm hb=>by rw[gS m (by omega) (fun e=>by rw[e,Ha c' (aK _)]at hb;cases hb),hb]) (by simp only[cP,hS,aZ,aS];rfl) (by grind) (by grind) (fun m hm=>by
   have Ei:c'+1≤m:=hm;show sget S m=none;rw[gS m (by omega) (by omega)];exact Ha m (by omega))
  have Sf:c'+1≤k2:=Bn;subst hZ;simp only[z1,seval];have g5:sget s2 5=some (.mp (mpE 0 p.2.lm) p.2.lm.length):=by rw[ho2 5 (by omega)];show sget S 5=_;rw[gS 5 (by omega) (by omega),Nt]
  have gc:sget s2 c=some (.mit (some 5) p.2.lm.length (borns (done++[e])) p.2.lm.length):=by rw[ho2 c (by omega)];show sget S c=_;rw[hS,aZ,aG (by omega),aU,aS rfl]
  refine⟨trivial,trivial,Ag,g5,gc,by omega,hf3,fun m hm=>?_,⟨v',rfl,by grind⟩,q8,q9,q10,Lj,Rc⟩
  grind
 ·rintro done t' s' c' ⟨Bw,Ha,Gk,⟨v,Pz,hv⟩,q8,q9,q10,Lj,Rc⟩ Md Ag Nt;have hL:(done.map oH).Perm p.2.lm:=by have:=Md.map oH;rwa [pairM_mpE]at this
  have Pe:(done.map oH).length=p.2.lm.length:=hL.length_eq;have Bn:((done.map oH).map Prod.fst).Nodup:=(hL.map Prod.fst).nodup_iff.2 hk;have Tu:fA (done.map oH)=fA p.2.lm:=asc_unique (nD Bn) (nD hk) ((gL _).trans (hL.trans (gL p.2.lm).symm));have hd0:done.map oH≠[]:=by intro e;rw[e]at Pe;exact An (List.length_eq_zero_iff.1 Pe.symm)
  rcases hv with⟨_,e⟩|⟨m,_,_,_,e⟩|⟨V,ty,hV,rfl,hs,_⟩
  ·grind
  ·grind
  rw[wJ]at hs;have Ol:=sort_row hs Bn (by omega)
  rw[Tu,Pe]at Ol;rw[Pe]at Pz;obtain⟨k,Nw⟩:∃k,p.2.lm.length=k+1:=⟨p.2.lm.length-1,by cases hl:p.2.lm with
   | nil=>grind
   | cons a r=>simp⟩
  have Ys:V<c':=eC fun hh=>by rw[Ha V hh]at hs;cases hs
  simp only[fU,↓reduceIte,pT];rw[W_plain (by rfl)]
  unfold zL;simp only[Lk13,Lk14,cI];rw[Nw]at Pz Ol;have h6:sget s' 6=_:=(Gk 6 (by omega)).trans hq
  have h1:sget s' 1=_:=(Gk 1 (by omega)).trans h.lf.s1
  have h2:sget s' 2=_:=(Gk 2 (by omega)).trans h.lf.s2
  have h3:sget s' 3=_:=(Gk 3 (by omega)).trans s3
  have hW:sget s' W=_:=(Gk W hWc).trans sW;unfold zl0 at h1;unfold tlC tyC tl at hW;have v1:(1=V)=False:=aL (by omega)
  have v2:(2=V)=False:=aL (by omega)
  have v3:(3=V)=False:=aL (by omega)
  have v6:(6=V)=False:=aL (by omega)
  have vW:(W=V)=False:=aL (by omega)
  have w1:(1=W)=False:=aL (by omega)
  have w2:(W=1)=False:=aL (by omega)
  have w3:(W=2)=False:=aL (by omega)
  have w4:(W=3)=False:=aL (by omega)
  simp only[z0,seval,Pz,fn_spec (f:=45) (g:=spSort 46) rfl rfl,spSort,own2,Ol,q8,q9,q10,Lj,Rc,h6,h1,h2,h3,hW,v1,v2,v3,v6,vW,w2,dR,cN,AOp.kd,zop,tks,bP,dP,aO,aX];rw[zend13_ret];generalize Yt:sset (sset (sset _ _ _) _ _) _ _=S9;have u1:(V=1)=False:=aL (by omega)
  have u2:(V=2)=False:=aL (by omega)
  have u3:(V=3)=False:=aL (by omega)
  have hSV:sget S9 V=some (.grow ty (en2 (fA p.2.lm))):=by rw[←Yt];simp only[z0,seval,u1,u2,u3]
  have Hd:sget S9 1=some (.fix 40 [.int .i64 p.1.k,.int .i64 p.1.r,.int .i64 (p.1.x:Nat),.int .i64 (p.1.y:Nat),.int .i64 (p.1.z:Nat),.int .i64 (p.2.ec:Nat),.gs V 0 2 (k+1),.int .i64 (p.2.lk:Nat)]):=by rw[←Yt];simp only[z0,seval]
  have Bu:sget S9 2=some (.fix 4 [.int .i64 0]):=by rw[←Yt];simp only[z0,seval]
  have hS3:sget S9 3=some (.fix 41 [.int .i64 0]):=by rw[←Yt];simp only[z0,seval]
  simp only[z0,seval,A13,q8,q9,q10,Hd,Bu,hS3];have Mc:(en2 (fA p.2.lm)).length=2*(k+1):=by rw[jU,(gL p.2.lm).length_eq,Nw]
  have Bi:∀j,frz true (j+2) S9 (.gs V 0 2 (k+1))=some (.sl false (k+1) (en2 (fA p.2.lm))):=fun j=>by
   grind [lP,bO,cS,en2_frz]
  have Pk:frz true 20 S9 (.tup [.agg [.int .i64 p.1.k,.int .i64 p.1.r,.int .i64 (p.1.x:Nat),.int .i64 (p.1.y:Nat),.int .i64 (p.1.z:Nat),.int .i64 (p.2.ec:Nat),.gs V 0 2 (k+1),.int .i64 (p.2.lk:Nat)],.int .i64 0,.int .i64 0])=some (lookR p):=by
   rw[show(20:Nat)=16+2+1+1 from rfl]
   unfold lookR;rw[Nw];simp only[aJ,Bi,bE,bR]
  grind [pout]
theorem exD_form(l:List Nd):∃x y,exD l=e2 x y:=by
 unfold exD;split
 ·grind
 split
 ·grind
 rcases eX (iZ l) (scan (jW l) (mL l) l.length 0) l.length 0 with⟨_,h2⟩|⟨j,r,_,_,h3,_,h4⟩
 ·grind [eX,jW,mL,g2,g3]
 grind [iZ]
theorem exE_ok{l:List Nd}(h:exE l=0):XOk l:=by
 obtain⟨x,y,e⟩:=exD_form l;rw[exE_eq e]at h;exact⟨x,by rw[e,h]⟩
structure EnvG (us:List Nat) (vs:List Vr) (fs:List Fd):Prop where
 vl:vs.length≤32
 fl:fs.length≤16
 vt:∀x∈vs,tyE us (gY us) x.ty=0
 vn:∀(i:Nat) (h:i<vs.length),gF vs[i].name=true∧vs[i].name∉(vs.take i).map Vr.name
 fb:∀g∈fs,XOk g.body
theorem env_ok{us:List Nat}{vs:List Vr}{fs:List Fd}(h:envE us vs fs=0):EnvG us vs fs:=by
 unfold envE at h;split at h
 ·cases h
 rename_i hl;have nm:∀{s:List UInt8} {L:List (List UInt8)},lC s L=0→gF s=true∧s∉L:=fun {s L} hs=>by
  grind [lC]
 rcases eX (vP us vs) (scan (dfP vs fs) 0 fs.length 0) vs.length 0 with⟨h1,h2⟩|⟨j,r,_,hj,h3,_,h4⟩
 ·rw[h2]at h;have hv:∀(i:Nat) (hi:i<vs.length),tyE us (gY us) vs[i].ty=0∧gF vs[i].name=true∧vs[i].name∉(vs.take i).map Vr.name:=fun i hi=>by
   grind [vP,aI]
  rcases eX (dfP vs fs) 0 fs.length 0 with⟨g1,g2⟩|⟨j,r,_,hj,g3,_,g4⟩
  ·refine⟨by omega,by omega,fun x hx=>?_,fun i hi=>(hv i hi).2,fun g hg=>?_⟩
   all_goals grind [eV,g1,dfP,aI,defE,exE_ok]
  grind [dfP,aI,g3,absurd,Option.some.inj]
 grind [vP,aI,absurd,Option.some.inj]
def lookD(n:Nat)(d e:D)(us:List Nat)(low:Nat)(vs:List Vr)(fs:List Fd)(pc ec:Int)(x:List Nd):D:=
 if ¬((0≤pc∧pc<us.length)∧0≤ec∧ec<us.length) then .tup [.agg zl0,.int .i64 0,.int .i64 7]
 else if exE x≠0 then .tup [.agg zl0,.int .i64 0,.int .i64 (exE x)]
 else match tN ⟨us,low,pc.toNat,RDl n d e⟩ (fs.length+1) fs vs x ⟨ec.toNat,0,[]⟩ with
  | .ok p=>lookR p
  | .bad a b=>.tup [.agg zl0,.int .i64 a,.int .i64 b]
section
variable (n:Nat) {ss:List (List UInt8)} {us:List Nat} {d e v f dx:D} {vs:List Vr} {fs:List Fd} {x:List Nd} (pc ec:Int)
theorem c13e(hd:Sl 1 fM ss d)(he:Sl 1 u8C us e)(hE:mZ vs fs v f){er:Int}(Bq:cl n 22 [.agg [d,e,v,f]]=some (.int .i64 er,true))(h0:er≠0):cl (n+1) 13 [.agg [d,e,v,f],.int .i64 pc,.int .i64 ec,dx]=some (.tup [.agg zl0,.int .i64 0,.int .i64 er],true):=by
 refine qL (A:=A13) rfl rfl (n+1) _ rfl fun r hr=>?_
 refine(W_h13 (Q:=zL (n+1) (.tup [.agg zl0,.int .i64 0,.int .i64 er])) ?_) r hr;obtain⟨t,s,c,hz,hL⟩:=h13_env n (dx:=dx) pc ec ⟨hd.nag,hd.fz⟩ ⟨he.nag,he.fz⟩ ⟨hE.v.nag,hE.v.fz⟩ ⟨hE.f.nag,hE.f.fz⟩ Bq h0;rw[hz];exact vC (n+1) 0 er hL
theorem c13(h:Lt ss us d e)(hE:mZ vs fs v f)(Ea:envE us vs fs=0){low:Nat}(Ao:gY us=low)(Sd:low<us.length)(Be:∀i,i<us.length→(uM us low).testBit i=true)(hx:Sl 7 bK x dx)(hxl:x.length<4294967296)(hN:x.length≤400→NdOk x):
  cl (n+13) 13 [.agg [d,e,v,f],.int .i64 pc,.int .i64 ec,dx]=some (lookD n d e us low vs fs pc ec x,true):=by
 have Bq:=c22 n h.d h.e h.u h.s h.c hE;rw[Ea]at Bq;have hG:=env_ok Ea;have Hw:=c42 (n+1) hx hxl hN;have Ew:=c43 (n+5) h.d h.e h.u h.s h.c h.l h.h1 h.h8;obtain⟨b,hb,Cj,Bb,_⟩:=rI h.c;rw[Bb]at Ew;have hbl:b=low:=by rw[Ao]at Cj;omega
 rw[hbl]at Ew;obtain⟨xa,xe,hxD⟩:=exD_form x;rw[hxD]at Hw;have Ls:=exE_eq hxD;unfold lookD;by_cases hr:¬((0≤pc∧pc<us.length)∧0≤ec∧ec<us.length)
 ·rw[aS hr];refine qL (A:=A13) rfl rfl (n+13) _ rfl fun r Bk=>?_
  refine(W_h13 (Q:=zL (n+13) (.tup [.agg zl0,.int .i64 0,.int .i64 7])) ?_) r Bk;obtain⟨t,s,c,hz,hL⟩:=h13_rng (n+12) (dx:=dx) pc ec h hE Bq hr;rw[hz];exact vC (n+13) 0 7 hL
 rw[aG hr];obtain⟨⟨p1,p2⟩,p3,p4⟩:=Decidable.not_not.1 hr;obtain⟨pc,rfl⟩:∃k:Nat,pc=k:=⟨pc.toNat,by omega⟩
 obtain⟨ec,rfl⟩:∃k:Nat,ec=k:=⟨ec.toNat,by omega⟩
 rw[cQ,cQ];by_cases h0:exE x≠0
 ·rw[aS h0];refine qL (A:=A13) rfl rfl (n+13) _ rfl fun r Bk=>?_
  refine(W_h13 (Q:=zL (n+13) (.tup [.agg zl0,.int .i64 0,.int .i64 (exE x)])) ?_) r Bk;rw[Ls]at h0 ⊢;obtain⟨t,s,c,hz,hL⟩:=h13_exp (n+12) pc ec h hE Bq (by omega) (by omega) hx Hw h0
  rw[hz];exact vC (n+13) 0 xe hL
 rw[aG h0];have Jj:exE x=0:=Decidable.not_not.1 h0;have Fj:=exE_ok Jj;rw[Ls]at Jj;rw[Jj]at Hw;obtain⟨g1,g2,g3,g5,g6,gf⟩:=S44_get d e v f low pc ec;have hEO:EOk (EC n us ⟨d,e,low,pc,5,v,f⟩) ss d e:=⟨h,Ao,Sd,Be,by show pc<us.length;omega,fun p ts hl hg h0=>by
  obtain⟨t,w,c,er,e1,e2,e3⟩:=rd_ok n h p hl hg
  simp_all [EC]⟩
 have Zx:=Fj.ex.le;have Eb:∀g∈fs,FdOk g:=hE.fo
 have Kr:SG us (⟨ec,0,[]⟩:Lk):=⟨by show ec<us.length;omega,nofun,dM _⟩
 have Bj:=hG.fl;have Uh:=f44 n (M:=5) (fs.length+1) 4096 (by omega) v f hEO fs (by omega) (by omega) hE.f Eb hG.fb vs x dx hx (hN Zx) Fj ⟨ec,0,[]⟩ .nils (S44 d e v f low pc ec) 7 6 Kr ⟨hE.v.nag,⟨v,hE.v,fun s2 _ k=>hE.v.fz (k+1) s2⟩,hE.vl,hG.vt⟩ g6 rfl g5 (by decide) (by decide) gf
 change jY _ 6 (tN ⟨us,low,pc,RDl n d e⟩ (fs.length+1) fs vs x ⟨ec,0,[]⟩) _ _ _ at Uh;generalize Cb:tN ⟨us,low,pc,RDl n d e⟩ (fs.length+1) fs vs x ⟨ec,0,[]⟩=r2 at Uh ⊢;have Av:=h13_ok (n+12) pc ec h hE Bq (by omega) (by omega) hx Hw Ew Uh
 cases r2 with
 | bad a b=>
  refine qL (A:=A13) rfl rfl (n+13) _ rfl fun r Bk=>?_
  refine(W_h13 (Q:=zL (n+13) (.tup [.agg zl0,.int .i64 a,.int .i64 b])) ?_) r Bk;obtain⟨t,s,c,hz,hL⟩:=Av;rw[hz];exact vC (n+13) a b hL
 | ok p=>
  refine qL (A:=A13) rfl rfl (n+13) _ rfl fun r Bk=>?_
  refine(W_h13 (Q:=zL (n+13) (lookR p)) ?_) r Bk;obtain⟨t,s,c,hz,hL⟩:=Av;rw[hz];have hgb:∀g∈fs,wU g.body:=fun g hg=>(hG.fb g hg).ex
  have Kg:=tM (yE _) vB (fs.length+1) fs hgb vs x _ p Fj.ex (vB ⟨ec,0,[]⟩ ⟨List.nodup_nil,aK _⟩) Cb;have An:=tM (ne_pres _) (fun _ _=>trivial) (fs.length+1) fs hgb vs x _ p Fj.ex trivial Cb
  have hlk2:=(yD hEO (fs.length+1) fs hgb).2 vs x _ p Fj.ex hG.vt Kr Cb;exact t13 (n+12) _ rfl Kg.1 (by have:=Kg.2;have:=hlk2.2.lk;omega) An hL
end
section
variable (n:Nat) {ss:List (List UInt8)} {us:List Nat} {d e:D} (h:Lt ss us d e) {a b:Nat} (ha:a<us.length) (hb:b<us.length)
include h ha hb
end
inductive All2 {α:Type} (T:α→α→Prop):List α→List α→Prop
 | nil:All2 T [] []
 | cons {a b:α} {l m:List α}:T a b→All2 T l m→All2 T (a::l) (b::m)
theorem All2.len{α:Type}{T:α→α→Prop}:∀{l m:List α},All2 T l m→l.length=m.length
 | _,_,.nil=>rfl
 | _,_,.cons _ h=>by simp[h.len]
theorem All2.take{α:Type}{T:α→α→Prop}:∀{l m:List α},All2 T l m→∀n,All2 T (l.take n) (m.take n)∧All2 T (l.drop n) (m.drop n)
 | _,_,.nil,n=>by simp only[List.take_nil,List.drop_nil];exact⟨.nil,.nil⟩
 | _,_,.cons h h',0=>⟨.nil,.cons h h'⟩
 | _,_,.cons h h',n+1=>⟨.cons h (h'.take n).1,(h'.take n).2⟩
theorem toT_tl(t:Tl):toT (tl t)=t:=by cases t;simp[toT,tl]
structure Rel2 (E F:LEn) (T:Tl→Tl→Prop) (S S':Lk→Lk→Prop):Prop where
 tick:∀s t,S s t→s.lk=t.lk∧S' s.tick t.tick
 mark:∀s t x,S' s t→S (s.mark E x) (t.mark F x)
 num:∀k r:Int,(k=1∨k=2)→(r=0∨r=1)→T ⟨k,r,E.low,E.low,E.low⟩ ⟨k,r,F.low,F.low,F.low⟩
 prim:∀x ts us s t p,All2 T ts us→(ts.length=1∨ts.length=2)→S' s t→vN E x ts s = .ok p→∃q,vN F x us t = .ok q∧T p.1 q.1∧S' p.2 q.2
section
variable {E F:LEn} {T:Tl→Tl→Prop} {S S':Lk→Lk→Prop} (h:Rel2 E F T S S')
include h
end
section
variable {ss:List (List UInt8)} {us:List Nat} {d e:D} (h:Lt ss us d e)
include h
end
section
variable {ss:List (List UInt8)} {us:List Nat} {d e:D} (h:Lt ss us d e)
include h
theorem J_assoc{a b c:Nat}(ha:a<us.length)(hb:b<us.length)(hc:c<us.length):J us (J us a b) c=J us a (J us b c):=by
 have h1:=(h.j ha hb).2;have h2:=(h.j hb hc).2;refine u_inj h (h.j h1 hc).2 (h.j ha h2).2 ?_;rw[jm h h1 hc,jm h ha hb,jm h ha h2,jm h hb hc,Nat.and_assoc]
theorem J_low{a low:Nat}(ha:a<us.length)(hl:low<us.length)(hb:∀i,i<us.length→(uM us low).testBit i=true):J us a low=a∧J us low a=a:=by
 have h1:=h.j ha hl;have h2:=h.j hl ha;exact⟨xZ (ord_lt h) h1.2 ha (J_le h ha hl (le_refl h ha) (hb a ha)) (le_J h ha hl).1,xZ (ord_lt h) h2.2 ha (J_le h hl ha (hb a ha) (le_refl h ha)) (le_J h hl ha).2⟩
end
section
variable {ss:List (List UInt8)} {us:List Nat} {d e:D} (h:Lt ss us d e) {bot:Nat} (hb:bot<us.length) (hl:∀i,i<us.length→(uM us bot).testBit i=true)
include h hb hl
theorem jF2{x y:Nat}(hx:x<us.length):jF us bot [x,y]=J us x y:=by
 show J us (J us bot x) y=_;rw[(J_low h hx hb hl).2]
end
def gX(us:List Nat)(bot f:Nat)(a b:Tl):Nat×Nat×Nat×Nat×Nat:=
 let D:=J us a.z b.z;let C:=J us (J us a.x a.y) (J us b.x b.y)
 if f=216 then(a.x,a.y,D,D,C) else if f=217 then(a.x,a.y,D,bot,C) else if f=218 then(bot,bot,C,bot,C) else if f=219 then(C,0,D,bot,C)
 else if f=220 then(a.y,a.x,D,bot,C) else if f=221 then(a.z,a.z,D,a.z,J us C a.z) else if f=222 then(a.x,a.y,D,C,C) else if f=223 then(a.x,a.y,C,bot,C)
 else if f=224 then(J us a.z (J us b.x b.y),0,D,bot,C) else if f=225 then(a.z,a.z,D,J us a.z (J us b.x b.y),J us C a.z) else if f=226 then(J us a.x b.x,J us a.y b.y,D,C,C)
 else if f=227 then(b.x,b.y,D,J us (J us a.x a.y) b.z,C) else if f=228 then(J us a.z (J us b.x b.y),0,D,C,C)
 else if f=229 then((exJ us a b).1,(exJ us a b).2,D,if a.r=b.r∧0<a.r then C else bot,C) else((exJ us a b).1,(exJ us a b).2,D,D,C)
section
variable (n:Nat) {ss:List (List UInt8)} {us:List Nat} {d e:D} (h:Lt ss us d e) {bot:Nat} (hb:bot<us.length) (hl:∀i,i<us.length→(uM us bot).testBit i=true) {a b:Tl} (ha:a.ok us.length) (Ad:b.ok us.length)
include h hb hl ha Ad
theorem gX_ok:∀f∈ruF,cl (n+6) f [.agg (lkC d e (tl a) (tl b) bot)]=some (ruQ (gX us bot f a b),true):=by
 have Hn:=(h.j ha.1 ha.2.1).2;have Ee:=(h.j Ad.1 Ad.2.1).2;have hC:=(h.j Hn Ee).2;have j1:=jF2 h hb hl (y:=b.z) ha.2.2;have j2:=jF2 h hb hl (y:=a.y) ha.1;have j3:=jF2 h hb hl (y:=b.y) Ad.1;have j4:cJ us bot a b=J us (J us a.x a.y) (J us b.x b.y):=by unfold cJ sJ;rw[j2,j3,jF2 h hb hl Hn]
 have j5:=jF2 h hb hl (y:=J us b.x b.y) ha.2.2;have j6:=jF2 h hb hl (y:=a.z) hC;have j7:=jF2 h hb hl (y:=b.x) ha.1;have j8:=jF2 h hb hl (y:=b.y) ha.2.1;have j9:=jF2 h hb hl (y:=b.z) Hn;have J':∀{g g':Nat×Nat×Nat×Nat×Nat} {x:Option (D×Bool)},x=some (ruQ g,true)→g=g'→x=some (ruQ g',true):=fun h1 h2=>h2▸h1
 have Xr:∀m,cl (m+5) 229 [.agg (lkC d e (tl a) (tl b) bot)]=some (ruQ (gX us bot 229 a b),true):=fun m=>by
  by_cases e1:b.r<a.r
  ·refine J' ((xt m h a b hb ha Ad).1 e1) ?_;show(_:Nat×_)=((exJ us a b).1,(exJ us a b).2,_,_,_);rw[j1,j4,exJ,aS e1,aG (fun hh=>by omega)]
  ·by_cases e2:a.r<b.r
   ·refine J' ((xt m h a b hb ha Ad).2.1 e1 e2) ?_;show(_:Nat×_)=((exJ us a b).1,(exJ us a b).2,_,_,_);rw[j1,j4,exJ,aG e1,aS e2,aG (fun hh=>by omega)]
   ·by_cases e3:0<a.r
    ·refine J' ((xt m h a b hb ha Ad).2.2.1 e1 e2 e3) ?_;show(_:Nat×_)=((exJ us a b).1,(exJ us a b).2,_,_,_);rw[j1,j4,j7,j8,exJ,aG e1,aG e2,aS ⟨by omega,e3⟩]
    ·refine J' ((xt m h a b hb ha Ad).2.2.2 e1 e2 e3) ?_;show(_:Nat×_)=((exJ us a b).1,(exJ us a b).2,_,_,_);rw[j1,j4,j7,j8,exJ,aG e1,aG e2,aG (fun hh=>e3 hh.2)]
 intro f hf;simp only[ruF,cH,List.not_mem_nil,or_false]at hf;rcases hf with rfl|rfl|rfl|rfl|rfl|rfl|rfl|rfl|rfl|rfl|rfl|rfl|rfl|rfl|rfl
 ·exact J' ((xs (n+1) h a b hb ha Ad).1) (by rw[j1,j4];rfl)
 ·exact J' ((xs (n+1) h a b hb ha Ad).2.1) (by rw[j1,j4];rfl)
 ·exact J' ((xs (n+1) h a b hb ha Ad).2.2.1) (by rw[j4];rfl)
 ·exact J' ((xs (n+1) h a b hb ha Ad).2.2.2.1) (by rw[j1,j4];rfl)
 ·exact J' ((xs (n+1) h a b hb ha Ad).2.2.2.2.1) (by rw[j1,j4];rfl)
 ·exact J' ((xs (n+1) h a b hb ha Ad).2.2.2.2.2.2.2.2.2.2.2) (by rw[j1,j4,j6];rfl)
 ·exact J' ((xs (n+1) h a b hb ha Ad).2.2.2.2.2.1) (by rw[j1,j4];rfl)
 ·exact J' ((xs (n+1) h a b hb ha Ad).2.2.2.2.2.2.1) (by rw[j4];rfl)
 ·exact J' ((xs (n+1) h a b hb ha Ad).2.2.2.2.2.2.2.1) (by rw[j1,j4,j3,j5];rfl)
 ·exact J' (x225 n h a b hb ha Ad) (by rw[j1,j4,j3,j5,j6];rfl)
 ·exact J' ((xs (n+1) h a b hb ha Ad).2.2.2.2.2.2.2.2.1) (by rw[j1,j4,j7,j8];rfl)
 ·exact J' ((xs (n+1) h a b hb ha Ad).2.2.2.2.2.2.2.2.2.1) (by rw[j1,j4,j2,j9];rfl)
 ·exact J' ((xs (n+1) h a b hb ha Ad).2.2.2.2.2.2.2.2.2.2.1) (by rw[j1,j4,j3,j5];rfl)
 ·exact Xr (n+1)
 ·exact J' (x230 n h a b hb ha Ad (Xr n)) (by rw[j1];rfl)
end
variable {i bot:Nat} {us:List Nat} {ss:List (List UInt8)} {d e:D} {ts:List Tl}
def fI:List Nat:=[216,216,217,218,219,217,220,221,216,222,222,223,216,217]++List.replicate 5 230++List.replicate 13 229++[224,224,221,225,226,227,217,228]
theorem tabI:((List.range 40).all fun i=>match tabR[i+1]? with|some (.fn (.func f) [] [])=>Nat.beq f (fI.getD i 0)|_=>false)=true:=by kernel_rfl
theorem tab_is{f:Nat}(hi:i<40)(hf:tabR[i+1]?=some (.fn (.func f) [] [])):f=fI.getD i 0:=by
 have:=iH tabI (List.mem_range.2 hi);rw[hf]at this;exact bH this
theorem fI_ru(hi:i<40):fI.getD i 0∈ruF:=by
 have:((List.range 40).all fun i=>ruF.contains (fI.getD i 0))=true:=by decide
 exact List.contains_iff_mem.1 (iH this (List.mem_range.2 hi))
def r1I(i:Nat):Bool:=[4,7,32,33,34,39].contains i
def RkE(r:Int)(g l:Nat×Nat×Nat×Nat×Nat):Prop:=(0<r→g.1=l.1)∧(1<r→g.2.1=l.2.1)∧g.2.2=l.2.2
theorem cmpX{a b:Tl}(hz:J us a.z b.z=a.z∨14≤i){r:Int}(hi:i<40)(hr:r1I i=true→r≤1):RkE r (gX us bot (fI.getD i 0) a b) (lbR us bot ((i+1:Nat):Int) a b):=by
 have hm:i∈List.range 40:=List.mem_range.2 hi;have e40:List.range 40=[0,1,2,3,4,5,6,7,8,9,10,11,12,13,14,15,16,17,18,19,20,21,22,23,24,25,26,27,28,29,30,31,32,33,34,35,36,37,38,39]:=by decide
 rw[e40]at hm;have bad:∀{g l:Nat×Nat×Nat×Nat×Nat},r≤1→g.1=l.1→g.2.2=l.2.2→RkE r g l:=fun h0 h1 h2=>⟨fun _=>h1,fun h=>absurd h0 (by omega),h2⟩
 by_cases h7:i=7
 ·subst h7;have Gw:J us a.z b.z=a.z:=by omega
  refine bad (hr rfl) ?_ ?_
  ·show a.z=J us a.z b.z;rw[Gw]
  ·show(J us a.z b.z,a.z,J us (J us (J us a.x a.y) (J us b.x b.y)) a.z)=(J us a.z b.z,J us a.z b.z,J us (J us (J us a.x a.y) (J us b.x b.y)) (J us a.z b.z));rw[Gw]
 ·simp only[cH,List.not_mem_nil,or_false]at hm;rcases hm with rfl|rfl|rfl|rfl|rfl|rfl|rfl|rfl|rfl|rfl|rfl|rfl|rfl|rfl|rfl|rfl|rfl|rfl|rfl|rfl|rfl|rfl|rfl|rfl|rfl|rfl|rfl|rfl|rfl|rfl|rfl|rfl|rfl|rfl|rfl|rfl|rfl|rfl|rfl|rfl
  all_goals first|exact absurd rfl h7|exact⟨fun _=>rfl,fun _=>rfl,rfl⟩|exact bad (hr rfl) rfl rfl
structure GX (us:List Nat) (r:Int) (g:Nat×Nat×Nat×Nat×Nat):Prop where
 i1:g.1<us.length
 i2:g.2.1<us.length
 i3:g.2.2.1<us.length
 i4:g.2.2.2.1<us.length
 i5:g.2.2.2.2<us.length
 l1:0<r→Le us g.1 g.2.2.1
 l2:1<r→Le us g.2.1 g.2.2.1
theorem goodX(h:Lt ss us d e)(hb:bot<us.length)(hl:∀i,i<us.length→(uM us bot).testBit i=true){a b:Tl}(ha:a.ok us.length)(Ad:b.ok us.length)(P:PF us bot a b a b):
  ∀f∈ruF,∀r:Int,(f=219∨f=224∨f=228→r≤1)→GX us r (gX us bot f a b):=by
 have Hn:=(h.j ha.1 ha.2.1).2;have Ee:=(h.j Ad.1 Ad.2.1).2;have hC:=(h.j Hn Ee).2;have hD:=(h.j ha.2.2 Ad.2.2).2;have j1:=jF2 h hb hl (y:=b.z) ha.2.2;have j2:=jF2 h hb hl (y:=a.y) ha.1;have j3:=jF2 h hb hl (y:=b.y) Ad.1;have j4:cJ us bot a b=J us (J us a.x a.y) (J us b.x b.y):=by unfold cJ sJ;rw[j2,j3,jF2 h hb hl Hn]
 have j5:=jF2 h hb hl (y:=J us b.x b.y) ha.2.2;have j7:=jF2 h hb hl (y:=b.x) ha.1;have j8:=jF2 h hb hl (y:=b.y) ha.2.1;have lx:=P.lx;have ly:=P.ly;have lz:=P.lz;have lc:=P.lc;have ls:=P.ls;have kx:=P.kx;have ky:=P.ky;have mx:=P.mx;have my:=P.my;have cx:=P.cx;have cy:=P.cy;have bc:=P.bc;rw[j1]at lx ly lz mx my;rw[j1,j4]at lc;rw[j1,j3,j5]at ls;rw[j1,j7]at kx;rw[j1,j8]at ky;rw[j4]at cx cy bc
 have hS:=(h.j ha.2.2 Ee).2;have hCz:=(h.j hC ha.2.2).2;have Qd:=(h.j ha.1 Ad.1).2;have hyy:=(h.j ha.2.1 Ad.2.1).2;have Ae:=(h.j Hn Ad.2.2).2;have h0:0<us.length:=by omega
 have Gg:(exJ us a b).1<us.length∧(exJ us a b).2<us.length∧Le us (exJ us a b).1 (J us a.z b.z)∧Le us (exJ us a b).2 (J us a.z b.z):=by
  unfold exJ;split
  ·exact⟨ha.1,ha.2.1,lx,ly⟩
  ·split
   ·exact⟨Ad.1,Ad.2.1,mx,my⟩
   ·exact⟨Qd,hyy,kx,ky⟩
 have hif:(if a.r=b.r∧0<a.r then J us (J us a.x a.y) (J us b.x b.y) else bot)<us.length:=by split<;>assumption
 intro f hf r hr;have no:∀{p:Prop},r≤1→1<r→p:=fun h1 h2=>absurd h1 (by omega)
 simp only[ruF,cH,List.not_mem_nil,or_false]at hf;rcases hf with rfl|rfl|rfl|rfl|rfl|rfl|rfl|rfl|rfl|rfl|rfl|rfl|rfl|rfl|rfl
 ·exact⟨ha.1,ha.2.1,hD,hD,hC,fun _=>lx,fun _=>ly⟩
 ·exact⟨ha.1,ha.2.1,hD,hb,hC,fun _=>lx,fun _=>ly⟩
 ·exact⟨hb,hb,hC,hb,hC,fun _=>bc,fun _=>bc⟩
 ·exact⟨hC,h0,hD,hb,hC,fun _=>lc,no (hr (.inl rfl))⟩
 ·exact⟨ha.2.1,ha.1,hD,hb,hC,fun _=>ly,fun _=>lx⟩
 ·exact⟨ha.2.2,ha.2.2,hD,ha.2.2,hCz,fun _=>lz,fun _=>lz⟩
 ·exact⟨ha.1,ha.2.1,hD,hC,hC,fun _=>lx,fun _=>ly⟩
 ·exact⟨ha.1,ha.2.1,hC,hb,hC,fun _=>cx,fun _=>cy⟩
 ·exact⟨hS,h0,hD,hb,hC,fun _=>ls,no (hr (.inr (.inl rfl)))⟩
 ·exact⟨ha.2.2,ha.2.2,hD,hS,hCz,fun _=>lz,fun _=>lz⟩
 ·exact⟨Qd,hyy,hD,hC,hC,fun _=>kx,fun _=>ky⟩
 ·exact⟨Ad.1,Ad.2.1,hD,Ae,hC,fun _=>mx,fun _=>my⟩
 ·exact⟨hS,h0,hD,hC,hC,fun _=>ls,no (hr (.inr (.inr rfl)))⟩
 ·exact⟨Gg.1,Gg.2.1,hD,hif,hC,fun _=>Gg.2.2.1,fun _=>Gg.2.2.2⟩
 ·exact⟨Gg.1,Gg.2.1,hD,hD,hC,fun _=>Gg.2.2.1,fun _=>Gg.2.2.2⟩
def okF(i:Nat)(f:Int×Int×Int):Bool:=decide (f.2.2≠0)||((decide (f.1=1)||decide (f.1=2))&&(decide (0≤f.2.1)&&(decide (f.2.1≤2)&&(!(r1I i)||decide (f.2.1≤1)))))
theorem okF1:((List.range 14).all fun i=>kr.all fun p=>okF i (rP i [p]))=true:=by kernel_rfl
theorem okF2:((List.range 26).all fun i=>kr.all fun p=>kr.all fun q=>okF (i+14) (rP (i+14) [p,q]))=true:=by kernel_rfl
theorem okF_ex(hi:i<40){K:List (Int×Int)}(hl:K.length=arN i)(hK:∀p∈K,KR p.1 p.2)(h0:(rP i K).2.2=0):((rP i K).1=1∨(rP i K).1=2)∧0≤(rP i K).2.1∧(rP i K).2.1≤2∧(r1I i=true→(rP i K).2.1≤1):=by
 have h:okF i (rP i K)=true:=by
  rcases K_cases hl hK with⟨Aq,p,hp,rfl⟩|⟨Aq,p,q,hp,hq,rfl⟩
  ·exact iH (iH okF1 (List.mem_range.2 Aq)) hp
  ·obtain⟨k,rfl⟩:∃k,i=k+14:=⟨i-14,by omega⟩
   exact iH (iH (iH okF2 (List.mem_range.2 (show k<26 by omega))) hp) hq
 unfold okF at h;simp only[Bool.or_eq_true,bW,bZ,Bool.not_eq_true']at h;rcases h with h|⟨h1,h2,h3,h4⟩
 ·exact absurd h0 h
 ·exact⟨h1,h2,h3,fun h5=>by rcases h4 with h4|h4;(rw[h5]at h4;cases h4);exact h4⟩
theorem tg_gd{low:Nat}(hl:gY us=(low:Nat))(hb:∀i,i<us.length→(uM us low).testBit i=true){t:Tl}(h:TG us t):Gd us t:=gd_of hl hb h.1 h.2.2
def ruT(bot:Nat)(k r er:Int)(g:Nat×Nat×Nat×Nat×Nat):Ty×Int×Int×Int:=
 if er=0 then(tl ⟨k,r,if r≤0 then bot else g.1,if r≤1 then bot else g.2.1,g.2.2.1⟩,(g.2.2.2.1:Nat),(g.2.2.2.2:Nat),0) else(⟨0,0,0,0,0⟩,0,0,er)
theorem ruV_R(bot:Nat)(k r er:Int)(g:Nat×Nat×Nat×Nat×Nat):ruV (some (ruR bot k r er g,true))=ruT bot k r er g:=by
 unfold ruR ruT;split<;>rfl
def kiK(ts:List Tl):List (Int×Int):=ts.map fun t=>(t.k,t.r)
theorem kiK_len(ts:List Tl):(kiK ts).length=ts.length:=dB ..
theorem c178(n:Nat)(p:Int)(hl:ts.length=1∨ts.length=2)(hg:∀t∈ts,TG us t):cl (n+5) 178 [.int .i64 p,yZ ts]=some (.int .i64 (nG p (kiK ts)).2.2,true):=by
 have hK:∀p∈kiK ts,KR p.1 p.2:=fun p hp=>by obtain⟨t,ht,rfl⟩:=cY.1 hp;exact(hg t ht).2.1
 have Fy:=c235x (n) p (K:=kiK ts) (by rw[kiK_len];omega) hK
 rw[kG 178 A178 B178,B178];unfold fitD at Fy;have Fe:((0:Nat):Int)=0:=rfl;have Dt:((1:Nat):Int)=1:=rfl;have El:((2:Nat):Int)=2:=rfl
 match ts,hl with
 | [t],_=>
  generalize hF:nG p (kiK [t])=F at *;simp only[kiK,kD,rD,bS,dU,aO,aX,bM]at Fy;unfold yZ;simp only[bS,dU,dO,List.flatten_nil,tlC,tyC,tl,dG,aO,aX,bM]
  simp only[z0,seval,eA,appN,lenD,iJ,aO,aX,Dt,show bX .i64 1=1 from rfl,show iF 1 (.int .i64 0)=some 0 from rfl,zun,dR,cN,AOp.kd,zop,tks,bP,dC,dX,cB,lP,aF 235,aJ,Fy,A178]
  rfl
 | [t,u],_=>
  generalize hF:nG p (kiK [t,u])=F at *;simp only[kiK,kD,rD,bS,dU,aO,aX,bM]at Fy;unfold yZ;simp only[bS,dU,dO,List.flatten_nil,tlC,tyC,tl,cA,cK,dG,aO,aX,bM]
  simp only[z0,seval,eA,Nat.one_mul,appN,lenD,iJ,appG,apG_eq,hU,aO,aX,El,show bX .i64 1=1 from rfl,show iF 2 (.int .i64 0)=some 0 from rfl,show iF 2 (.int .i64 1)=some 1 from rfl,show bX .i64 2=2 from rfl,zun,dR,cN,AOp.kd,zop,tks,bP,dC,dX,cB,lP,aF 235,aJ,Fy,A178]
  rfl
def tsB(bot:Nat):List Tl→Tl
 | [_,u]=>u
 | _=>⟨0,0,bot,bot,bot⟩
def tsA:List Tl→Tl
 | t::_=>t
 | _=>⟨0,0,0,0,0⟩
set_option maxHeartbeats 2000000 in
theorem c179(n:Nat)(h:Lt ss us d e)(hb:bot<us.length)(Ao:gY us=(bot:Nat))(p:Int)(hl:ts.length=1∨ts.length=2)(hg:∀t∈ts,TG us t) 
  (hr:(nG p (kiK ts)).2.1=0∨(nG p (kiK ts)).2.1=1∨(nG p (kiK ts)).2.1=2) :
  cl (n+6) 179 [.agg [d,e],.int .i64 p,yZ ts]=some (.agg [.int .i64 (nG p (kiK ts)).1,.int .i64 (nG p (kiK ts)).2.1,.int .i64 (if(nG p (kiK ts)).2.1≤0 then bot else(lbR us bot p (tsA ts) (tsB bot ts)).1:Nat),.int .i64 (if(nG p (kiK ts)).2.1≤1 then bot else(lbR us bot p (tsA ts) (tsB bot ts)).2.1:Nat),.int .i64 ((lbR us bot p (tsA ts) (tsB bot ts)).2.2.1:Nat),.int .i64 ((lbR us bot p (tsA ts) (tsB bot ts)).2.2.2.1:Nat),.int .i64 ((lbR us bot p (tsA ts) (tsB bot ts)).2.2.2.2:Nat)],true):=by
 have hK:∀p∈kiK ts,KR p.1 p.2:=fun p hp=>by obtain⟨t,ht,rfl⟩:=cY.1 hp;exact(hg t ht).2.1
 have Fy:=c235x (n+1) p (K:=kiK ts) (by rw[kiK_len];omega) hK
 have Bf:=c100 (n+5) h.d h.e h.u (by omega) (by have:=h.l;have:=h.h8;omega)
 rw[Ao]at Bf;rw[nY 179 A179 B179,B179];unfold fitD at Fy;have Fe:((0:Nat):Int)=0:=rfl;have Dt:((1:Nat):Int)=1:=rfl;have El:((2:Nat):Int)=2:=rfl
 match ts,hl with
 | [t],_=>
  generalize hF:nG p (kiK [t])=F at *;obtain⟨k',r',er⟩:=F;simp only[kiK,kD,rD,bS,dU,aO,aX,bM]at Fy;have Jx:=c236 (n) h hb p (a:=t) (b:=(⟨0,0,bot,bot,bot⟩:Tl)) (hg t (by simp)).1 ⟨hb,hb,hb⟩
  simp only[tsA,tsB];generalize lbR us bot p t (⟨0,0,bot,bot,bot⟩:Tl)=L at *;obtain⟨L1,L2,L3,L4,L5⟩:=L;unfold yZ;unfold ruQ ruD at Jx;simp only[bS,dU,dO,List.flatten_nil,tlC,tyC,tl,dG,aO,aX,bM]at Jx ⊢;simp only at hr
  rcases hr with rfl|rfl|rfl<;>simp only[z0,seval,eA,Nat.one_mul,appN,lenD,iJ,aO,aX,Dt,show bX .i64 1=1 from rfl,show bX .i64 2=2 from rfl,show iF 1 (.int .i64 0)=some 0 from rfl,show iF 2 (.int .i64 0)=some 0 from rfl,show iF 2 (.int .i64 1)=some 1 from rfl,zun,dR,cN,AOp.kd,zop,tks,bP,dC,dX,cB,lP,h.d.fz,h.e.fz,aF 235,aF 100,aF 236,aJ,Fy,Bf,Jx,A179]
  all_goals rfl
 | [t,u],_=>
  generalize hF:nG p (kiK [t,u])=F at *;obtain⟨k',r',er⟩:=F;simp only[kiK,kD,rD,bS,dU,aO,aX,bM]at Fy;have Jx:=c236 (n) h hb p (a:=t) (b:=u) (hg t (by simp)).1 (hg u (by simp)).1
  simp only[tsA,tsB];generalize lbR us bot p t u=L at *;obtain⟨L1,L2,L3,L4,L5⟩:=L;unfold yZ;unfold ruQ ruD at Jx;simp only[bS,dU,dO,List.flatten_nil,tlC,tyC,tl,cA,cK,dG,aO,aX,bM]at Jx ⊢;simp only at hr
  rcases hr with rfl|rfl|rfl<;>simp only[z0,seval,eA,Nat.one_mul,appN,lenD,iJ,aO,aX,El,show bX .i64 1=1 from rfl,show bX .i64 2=2 from rfl,show iF 2 (.int .i64 0)=some 0 from rfl,show iF 2 (.int .i64 1)=some 1 from rfl,zun,dR,cN,AOp.kd,zop,tks,bP,dC,dX,cB,lP,h.d.fz,h.e.fz,aF 235,aF 100,aF 236,aJ,Fy,Bf,Jx,appG,apG_eq,hU,A179]
  all_goals rfl
theorem ruQ_inj{g g':Nat×Nat×Nat×Nat×Nat}(h:(some (ruQ g,true):Option (D×Bool))=some (ruQ g',true)):g=g':=by
 unfold ruQ ruD at h
 grind
def resT(bot:Nat)(k r:Int)(L:Nat×Nat×Nat×Nat×Nat):Tl:=⟨k,r,if r≤0 then bot else L.1,if r≤1 then bot else L.2.1,L.2.2.1⟩
theorem rule_core(n:Nat)(h:Lt ss us d e)(hb:bot<us.length)(Ao:gY us=(bot:Nat))(hl:∀i,i<us.length→(uM us bot).testBit i=true)(p:Int){K:List (Int×Int)}(hK:∀p∈K,KR p.1 p.2)(hKl:K.length=1∨K.length=2) 
  {k r er ra rb:Int} {g:Tl→Tl→Nat×Nat×Nat×Nat×Nat} (hX:RuX n us d e bot p K k r er ra rb g) {a b:Tl} (ha:a.ok us.length) (Ad:b.ok us.length) (Ld:a.r=ra) (Qs:b.r=rb) (P:PF us bot a b a b) (hz:K.length=1→b.z=bot) :
  (k,r,er)=nG p K∧(er=0→(r=0∨r=1∨r=2)∧ruT bot k r er (g a b)=(tl (resT bot k r (lbR us bot p a b)),(((lbR us bot p a b).2.2.2.1:Nat):Int),(((lbR us bot p a b).2.2.2.2:Nat):Int),0)∧TG us (resT bot k r (lbR us bot p a b))∧(lbR us bot p a b).2.2.2.1<us.length∧(lbR us bot p a b).2.2.2.2<us.length):=by
 obtain⟨h1,h2⟩:=hX;have hF:(k,r,er)=nG p K:=by
  have:=c166x (n+7) p (K:=K) (by omega) hK
  rw[h1]at this;unfold fitD at this;simp only[aD,eO,D.tup.injEq,List.cons.injEq,D.int.injEq,and_true,true_and]at this;obtain⟨e1,e2,e3⟩:=this;rw[e1,e2,e3]
 refine⟨hF,fun h0=>?_⟩
 subst h0;obtain⟨hr,i,f,hi,rfl,htab,hg⟩:=h2 rfl;have hf:=tab_is hi htab;have zX:=fI_ru hi;rw[←hf]at zX;have hgX:g a b=gX us bot f a b:=by
  have a1:=hg a b Ld Qs ha Ad;have a2:=gX_ok (n+5) h hb hl ha Ad f zX;exact ruQ_inj (a1.symm.trans a2)
 have hFL:nG ((i+1:Nat):Int) K=rP i K∧K.length=arN i:=by
  unfold nG at hF ⊢;rw[aG (by omega),cQ,Nat.add_sub_cancel]at hF ⊢
  by_cases hm:K.length=arN i
  ·grind
  ·grind
 have hFi:(k,r,(0:Int))=rP i K:=hF.trans hFL.1;have Av:=okF_ex hi hFL.2 hK (by rw[←hFi])
 rw[←hFi]at Av;obtain⟨k12,r0,r2,r1⟩:=Av;simp only at k12 r0 r2 r1;have hZ:J us a.z b.z=a.z∨14≤i:=by
  by_cases Aq:i<14
  ·have:K.length=1:=by rw[hFL.2];unfold arN;rw[aS Aq]
   rw[hz this];exact .inl (J_low h ha.2.2 hb hl).1
  ·omega
 have hC:=cmpX (us:=us) (bot:=bot) (a:=a) (b:=b) hZ (r:=r) hi r1;rw[←hf]at hC;have Bl:f=219∨f=224∨f=228→r≤1:=fun hh=>r1 (by
  have:((List.range 40).all fun i=>!(Nat.beq (fI.getD i 0) 219||(Nat.beq (fI.getD i 0) 224||Nat.beq (fI.getD i 0) 228))||r1I i)=true:=by decide
  have:=iH this (List.mem_range.2 hi);rw[←hf]at this;rcases hh with rfl|rfl|rfl<;>simpa using this)
 have hG:=goodX h hb hl ha Ad P f zX r Bl;rw[hgX];generalize gX us bot f a b=G at *;generalize lbR us bot ((i+1:Nat):Int) a b=L at *;obtain⟨c1,c2,c3⟩:=hC;have Zc:G.2.2.1=L.2.2.1:=by rw[c3]
 have c32:G.2.2.2.1=L.2.2.2.1:=by rw[c3]
 have c33:G.2.2.2.2=L.2.2.2.2:=by rw[c3]
 have e1:(if r≤0 then bot else G.1)=(if r≤0 then bot else L.1):=by
  split
  ·rfl
  ·omega
 have e2:(if r≤1 then bot else G.2.1)=(if r≤1 then bot else L.2.1):=by
  split
  ·rfl
  ·omega
 refine⟨by omega,?_,?_,by rw[←c32];exact hG.i4,by rw[←c33];exact hG.i5⟩
 ·grind [ruT,resT,e2]
 ·have Av:(resT bot k r L).ok us.length:=by
   unfold resT;rw[←e1,←e2,←Zc];refine⟨?_,?_,hG.i3⟩
   ·show(if r≤0 then bot else G.1)<_
    split;exact hb;exact hG.i1
   ·show(if r≤1 then bot else G.2.1)<_
    split;exact hb;exact hG.i2
  refine⟨Av,⟨k12,r0,r2⟩,?_⟩;rw[Ao,tyE_iff];refine⟨k12,⟨r0,r2⟩,Av,fun hh=>?_,fun hh=>?_,fun hh=>?_,fun hh=>?_⟩
  ·exact aS (show r≤0 from Int.le_of_eq hh)
  ·exact aS (show r≤1 from hh)
  ·show Le us (if r≤0 then bot else L.1) L.2.2.1
   rw[←e1,←Zc,aG (by have:1≤r:=hh;omega)];exact hG.l1 (by have:1≤r:=hh;omega)
  ·show Le us (if r≤1 then bot else L.2.1) L.2.2.1
   rw[←e2,←Zc,aG (by have:r=2:=hh;omega)];exact hG.l2 (by have:r=2:=hh;omega)
theorem rule_same(n:Nat)(h:Lt ss us d e){low:Nat}(Ao:low<us.length)(hl:gY us=(low:Nat))(hb:∀i,i<us.length→(uM us low).testBit i=true)(p:Int)(hn:ts.length=1∨ts.length=2)(hg:∀t∈ts,TG us t):
  ((nG p (kiK ts)).2.2≠0→(RDl n d e p ts).2.2.2=(nG p (kiK ts)).2.2)∧((nG p (kiK ts)).2.2=0→∃(T:Tl) (w c:Nat),RDl n d e p ts=(tl T,(w:Int),(c:Int),0)∧TG us T∧w<us.length∧c<us.length∧∀m,cl (m+6) 179 [.agg [d,e],.int .i64 p,yZ ts]=some (.agg [.int .i64 T.k,.int .i64 T.r,.int .i64 (T.x:Nat),.int .i64 (T.y:Nat),.int .i64 (T.z:Nat),.int .i64 (w:Nat),.int .i64 (c:Nat)],true)):=by
 obtain⟨b,Cj,Bb,Cd,_⟩:=rI h.c;have:b=low:=by rw[hl]at Bb;omega
 subst this;have Km:∀ts:List Tl,Sl 5 tlC ts (yZ ts):=fun ts=>⟨fun r hr=>by obtain⟨t,_,rfl⟩:=cY.1 hr;rfl,.inr ⟨false,by rw[dB];rfl⟩⟩
 have g0:Gd us ⟨0,0,b,b,b⟩:=⟨⟨Ao,Ao,Ao⟩,hb _ Ao,hb _ Ao⟩;have hK:∀p∈kiK ts,KR p.1 p.2:=fun p hp=>by obtain⟨t,ht,rfl⟩:=cY.1 hp;exact(hg t ht).2.1
 have key:∃(k r er:Int) (g:Nat×Nat×Nat×Nat×Nat),RDl n d e p ts=ruT b k r er g∧(k,r,er)=nG p (kiK ts)∧(er=0→(r=0∨r=1∨r=2)∧ruT b k r er g=(tl (resT b k r (lbR us b p (tsA ts) (tsB b ts))),(((lbR us b p (tsA ts) (tsB b ts)).2.2.2.1:Nat):Int),(((lbR us b p (tsA ts) (tsB b ts)).2.2.2.2:Nat):Int),0)∧TG us (resT b k r (lbR us b p (tsA ts) (tsB b ts)))∧(lbR us b p (tsA ts) (tsB b ts)).2.2.2.1<us.length∧(lbR us b p (tsA ts) (tsB b ts)).2.2.2.2<us.length):=by
  match ts,hn with
  | [t],_=>
   have ht:=hg t (by simp)
   obtain⟨k,r,er,g,_,hX,hq⟩:=m126x_1 n h Ao Cd p ht.2.1;have a1:=hq t _ rfl rfl ht.1 ht.2.2 (Km [t]);have P:=pf h Ao hb (tg_gd hl hb ht) g0 (tg_gd hl hb ht) g0 ⟨rfl,rfl,le_refl h ht.1.1,le_refl h ht.1.2.1,le_refl h ht.1.2.2⟩ ⟨rfl,rfl,hb _ Ao,hb _ Ao,hb _ Ao⟩;obtain⟨r1,r2⟩:=rule_core n h Ao hl hb p hK (.inl rfl) hX ht.1 ⟨Ao,Ao,Ao⟩ rfl rfl P fun _=>rfl
   exact⟨k,r,er,g t ⟨0,0,b,b,b⟩,by grind [RDl,ruV_R],r1,r2⟩
  | [t,u],_=>
   have ht:=hg t (by simp)
   have hu:=hg u (by simp)
   obtain⟨k,r,er,g,_,hX,hq⟩:=m126x_2 n h Ao Cd p ht.2.1 hu.2.1;have a1:=hq t u _ rfl rfl rfl rfl ht.1 hu.1 ht.2.2 hu.2.2 (Km [t,u]);have P:=pf h Ao hb (tg_gd hl hb ht) (tg_gd hl hb hu) (tg_gd hl hb ht) (tg_gd hl hb hu) ⟨rfl,rfl,le_refl h ht.1.1,le_refl h ht.1.2.1,le_refl h ht.1.2.2⟩ ⟨rfl,rfl,le_refl h hu.1.1,le_refl h hu.1.2.1,le_refl h hu.1.2.2⟩
   obtain⟨r1,r2⟩:=rule_core n h Ao hl hb p hK (.inr rfl) hX ht.1 hu.1 rfl rfl P fun h1=>absurd (show 2=1 from h1) (by decide)
   exact⟨k,r,er,g t u,by grind [RDl,ruV_R],r1,r2⟩
 obtain⟨k,r,er,g,e1,e2,e3⟩:=key;rw[←e2];refine⟨fun h0=>?_,fun h0=>?_⟩
 ·grind [ruT]
 ·have h0':er=0:=h0;obtain⟨r3,r4,r5,r6,r7⟩:=e3 h0';refine⟨_,_,_,e1.trans r4,r5,r6,r7,fun m=>?_⟩
  have:=c179 m h Ao hl p hn hg (by grind)
  rw[←e2]at this;exact this
def z5:List D:=[.int .i64 0,.int .i64 0,.int .i64 0,.int .i64 0,.int .i64 0]
def LkR(C:RC)(K:Nat)(r:Lo (Tl×Lk))(f:FR)(s:St)(c:Nat):Prop:=match r with
 | .ok p=>∃s' c',f = .ok (.ret (.tup [.agg (tlC p.1),.int .i64 0,.int .i64 0])) s' c'∧Af K s c s' c'∧RSt C K p.2 s'
 | .bad a e=>∃s' c',f = .ok (.ret (.tup [.agg z5,.int .i64 a,.int .i64 e])) s' c'∧Af K s c s' c'∧e≠0
structure SK (us:List Nat) (sm:Lk):Prop where
 ec:sm.ec<us.length
 lb:wT us sm.lm
 nd:(sm.lm.map Prod.fst).Nodup
 ln:sm.lm.length<1000000
theorem B151_z(cx:Cx)(cl:CL)(k:Nat)(x:AS):zC B151 cx cl k x=zbind (zC (.seq No1.b (.seq No2.b No3.b)) cx cl k x) fun x=>zbind (zC No4.b cx cl k x) fun x=>zC (.seq No5.b (.seq No6.b (.seq No7.b .ret))) cx cl k x:=by
 simp_all [B151,Ab.abq,xA,qF]
structure NA (K:Nat) (x:Nd) (s:St) (c:Nat) (t:Tm) (s1:St) (c1:Nat):Prop where
 af:Af K s c s1 c1
 hc:c+17≤c1
 t0:tget t 0 = .ptr K 0
 t8:tget t 8 = .ptr c 0
 t10:tget t 10 = .ptr (c+1) 0
 t11:tget t 11 = .int .i64 0
 t12:tget t 12 = .int .i64 0
 t13:tget t 13 = .ptr (c+16) 0
 s8:sget s1 c=some (.fix 57 (bK x))
 s10:sget s1 (c+1)=some (.fix 37 z5)
section
variable (n j:Nat) {ss:List (List UInt8)} {us:List Nat} {C:RC} (h:Lt ss us C.d C.e) (hp:C.pc<us.length) {K:Nat} {sm:Lk} {s:St} {c:Nat} (Al:K<c) (zX:kA s c)
include Al zX
theorem nP(hK:RSt C K sm s){v f q:D}{x:Nd}(hv:eG v=false)(hf:eG f=false)(hq:eG q=false):
  ∃t1 s1,zC (.seq No1.b (.seq No2.b No3.b)) (cxn (n+8)) (fn (n+8) (j+3)) KK (start [.ptr K 0,v,f,.agg (bK x),q] s c) = .ok .normal ⟨t1,s1,c+18,[],none⟩∧NA K x s c t1 s1 (c+18)∧RSt C K sm s1∧tget t1 1=v∧tget t1 2=f∧tget t1 4=q∧tget t1 14 = .int .i64 0∧sget s1 (c+16)=some (.fix 37 (tlC ⟨1,0,C.low,C.low,C.low⟩)):=by
 unfold bK;simp only[No1,No2,No3,cI];obtain⟨q0,hq0,hs⟩:=hK;have Hs:=hq0;unfold RC.blk at Hs;have k0:(K=c)=False:=aL (by omega)
 have k1:(K=c+1)=False:=aL (by omega)
 have k2:(c+15=c)=False:=aL (by omega)
 have k3:(c+1+1+14=c)=False:=aL (by omega)
 have k5:(c=c+1+1+14)=False:=aL (by omega)
 have k4:sget s (c+1+1+14)=none:=zX _ (by omega)
 simp only[z0,seval,Hs,k0,k1,k2,k3,k4,dR,cN,AOp.kd,zop,tks,dC,dP,aO,aX,cB];refine⟨_,_,rfl,?_,⟨q0,?_,hs⟩,?_,?_,?_,?_,?_⟩
 ·refine⟨((((((Af.refl zX).add _).add _).up (c2:=c+1+1+14) (by omega)).add _).set (.inl (by omega)) (by omega) _).up (by omega),by omega,?_,?_,?_,?_,?_,?_,?_,?_⟩
  all_goals simp[aA,z5,bK,k5]
 ·grind [aU,aZ]
 all_goals simp[aA,tlC,tyC,tl]
omit zX in
include h hp in
theorem nF{t:Tm}{s1:St}{c1:Nat}{x:Nd}(hN:NA K x s c t s1 c1){er:Int}(Aq:tget t 14 = .int .i64 er):
  (er≠0→LkR C K (.bad x.site er) (zbody (dfn (n+8) (j+3)) A151 (zC (.seq No5.b (.seq No6.b (.seq No7.b .ret))) (cxn (n+8)) (fn (n+8) (j+3)) KK ⟨t,s1,c1,[],none⟩)) s c) ∧
  (∀(Bx:Lk) (T:Tl) (R:Int→List Tl→Ty×Int×Int×Int),er=0→RSt C K Bx s1→SK us Bx→sget s1 (c+16)=some (.fix 37 (tlC T))→LkR C K (.ok (T,Bx.mark ⟨us,C.low,C.pc,R⟩ x.site)) (zbody (dfn (n+8) (j+3)) A151 (zC (.seq No5.b (.seq No6.b (.seq No7.b .ret))) (cxn (n+8)) (fn (n+8) (j+3)) KK ⟨t,s1,c1,[],none⟩)) s c):=by
 have hc:=hN.hc;have s8:=hN.s8;have s10:=hN.s10;unfold bK at s8;unfold z5 at s10;have k1:(c=c+1)=False:=aL (by omega)
 have k2:(c+1=c)=False:=aL (by omega)
 have k3:(c+16=c+1)=False:=aL (by omega)
 refine⟨fun he=>?_,fun Bx T R he hR hS hT=>?_⟩
 ·simp only[No5,cI];simp only[z0,seval,hN.t8,hN.t10,Aq,aH he,s8,s10,dR,cN,AOp.kd,zop,tks,bP,aO,aX,k1,A151];refine⟨_,_,rfl,(hN.af.set (.inl (by omega)) (by omega) _).up (by omega),he⟩
 ·subst he;obtain⟨s2,c2,h182,hA,hR2⟩:=f182 (n+6) j h hp hR (by omega) hN.af.free hS.ec hS.nd hS.lb hS.ln x.site
  have Ac:=hA.le;have Hx:sget s2 (c+1)=some (.fix 37 [.int .i64 0,.int .i64 0,.int .i64 0,.int .i64 0,.int .i64 0]):=by rw[hA.old _ (by omega) (by omega)];exact s10
  have g16:sget s2 (c+16)=some (.fix 37 (tlC T)):=by rw[hA.old _ (by omega) (by omega)];exact hT
  unfold tlC tyC tl at g16;simp only[No5,No6,No7,cI];simp only[z0,seval,hN.t0,hN.t8,hN.t10,hN.t13,Aq,show decide ((0:Int)≠0)=false from rfl,s8,h182,Hx,g16,A151]
  refine⟨_,_,rfl,(hN.af.trans hA).set (.inl (by omega)) (by omega) _,?_⟩
  obtain⟨q2,Qi,Az⟩:=hR2;exact⟨q2,by rw[aU,aG (by omega)];exact Qi,Az⟩
structure VR (us:List Nat) (K c:Nat) (s:St) (v:D) (vs:List Vr):Prop where
 nag:eG v=false
 fz:∃w,Sl 6 vrC vs w∧∀s2,(∀m,m<c→m≠K→sget s2 m=sget s m)→∀k,frz false (k+2) s2 v=some w
 len:vs.length<9223372036854775807
 good:∀x∈vs,tyE us (gY us) x.ty=0
def NSr(C:RC)(us:List Nat)(K:Nat)(x:Nd)(s:St)(c:Nat)(r:Lo (Tl×Lk))(z:R):Prop:=match r with
 | .ok p=>∃t s1 c1,z = .ok .normal ⟨t,s1,c1,[],none⟩∧NA K x s c t s1 c1∧tget t 14 = .int .i64 0∧RSt C K p.2 s1∧SK us p.2∧sget s1 (c+16)=some (.fix 37 (tlC p.1))
 | .bad a e=>a=x.site∧e≠0∧∃t s1 c1,z = .ok .normal ⟨t,s1,c1,[],none⟩∧NA K x s c t s1 c1∧tget t 14 = .int .i64 e
section
variable {t:Tm} {s1:St} {c1:Nat} {x:Nd} (hN:NA K x s c t s1 c1) (Aq:tget t 14 = .int .i64 0) (hR:RSt C K sm s1) (hS:SK us sm) (hT:sget s1 (c+16)=some (.fix 37 (tlC ⟨1,0,C.low,C.low,C.low⟩)))
include hN Aq hR hS hT
omit zX in
theorem nS_leaf(hk:x.kind=1∨x.kind=2∨x.kind=3):NSr C us K x s c (.ok (if x.kind=1 then⟨1,0,C.low,C.low,C.low⟩else if x.kind=3 then⟨1,1,C.low,C.low,C.low⟩ else⟨2,1,C.low,C.low,C.low⟩,sm)) (zC No4.b (cxn (n+8)) (fn (n+8) (j+3)) KK ⟨t,s1,c1,[],none⟩):=by
 have hc:=hN.hc;have s8:=hN.s8;unfold bK at s8;have Fm:=hT;unfold tlC tyC tl at Fm;have k1:(c=c+16)=False:=aL (by omega)
 have k2:(c+1=c+16)=False:=aL (by omega)
 have kK:(K=c+16)=False:=aL (by omega)
 obtain⟨q0,hq0,hs⟩:=hR;simp only[No4,cI];rcases hk with hk|hk|hk
 ·simp only[z0,seval,hN.t8,hN.t13,s8,Fm,hk];refine⟨_,_,_,rfl,⟨hN.af,hc,?_,?_,?_,?_,?_,?_,hN.s8,hN.s10⟩,?_,⟨q0,hq0,hs⟩,hS,hT⟩
  all_goals simp[aA,hN.t0,hN.t8,hN.t10,hN.t11,hN.t12,hN.t13,Aq]
 ·simp only[z0,seval,hN.t8,hN.t13,s8,Fm,hk];refine⟨_,_,_,rfl,⟨(hN.af.set (.inl (by omega)) (by omega) _).set (.inl (by omega)) (by omega) _,hc,?_,?_,?_,?_,?_,?_,?_,?_⟩,?_,⟨q0,?_,hs⟩,hS,?_⟩
  all_goals simp[aA,hN.t0,hN.t8,hN.t10,hN.t11,hN.t12,hN.t13,Aq,kK,hN.s8,hN.s10,hq0,tlC,tyC,tl]
 ·simp only[z0,seval,hN.t8,hN.t13,s8,Fm,hk];refine⟨_,_,_,rfl,⟨hN.af.set (.inl (by omega)) (by omega) _,hc,?_,?_,?_,?_,?_,?_,?_,?_⟩,?_,⟨q0,?_,hs⟩,hS,?_⟩
  all_goals simp[aA,hN.t0,hN.t8,hN.t10,hN.t11,hN.t12,hN.t13,Aq,kK,hN.s8,hN.s10,hq0,tlC,tyC,tl]
omit zX in
theorem nS_name(hk:x.kind=4){v:D}{vs:List Vr}(hv:VR us K c s v vs)(h1:tget t 1=v):NSr C us K x s c (nameM vs x sm) (zC No4.b (cxn (n+8)) (fn (n+8) (j+3)) KK ⟨t,s1,c1,[],none⟩):=by
 have hc:=hN.hc;have s8:=hN.s8;unfold bK at s8;have Fm:=hT;unfold tlC tyC tl at Fm;have k1:(c=c+16)=False:=aL (by omega)
 have k2:(c+1=c+16)=False:=aL (by omega)
 have kK:(K=c+16)=False:=aL (by omega)
 obtain⟨q0,hq0,hs⟩:=hR;obtain⟨w,hw,Bi⟩:=hv.fz;have fz:=fun k=>Bi s1 hN.af.old k
 have Wz:=c58 (n+7) hw hv.len (d:=.nils) (e:=.nils) (f:=.nils) rfl rfl rfl x.name;rw[ofD_find]at Wz;unfold nameM;simp only[No4,cI];cases hf:vs.find? (fun v=>decide (v.name=x.name)) with
 | none=>
  rw[hf]at Wz;simp only[z0,seval,hN.t8,hN.t13,s8,Fm,hk,h1,hY hv.nag,aF 58,aJ,fz 17,show((20:Nat))=17+3 from rfl,Wz,ty0]
  refine⟨rfl,by decide,_,_,_,rfl,⟨hN.af.set (.inl (by omega)) (by omega) _,hc,?_,?_,?_,?_,?_,?_,?_,?_⟩,?_⟩
  all_goals simp[aA,hN.t0,hN.t8,hN.t10,hN.t11,hN.t12,hN.t13,hN.s8,hN.s10]
 | some y=>
  rw[hf]at Wz;have hy:=hv.good y (List.mem_of_find?_eq_some hf);have ht:=(tl_toT hy).1;have Wy:=Wz;unfold tyC at Wy;simp only[z0,seval,hN.t8,hN.t13,s8,Fm,hk,h1,hY hv.nag,aF 58,aJ,fz 17,show((20:Nat))=17+3 from rfl,Wy]
  refine⟨_,_,_,rfl,⟨hN.af.set (.inl (by omega)) (by omega) _,hc,?_,?_,?_,?_,?_,?_,?_,?_⟩,?_,⟨q0,?_,hs⟩,hS,?_⟩
  all_goals simp[aA,hN.t0,hN.t8,hN.t10,hN.t11,hN.t12,hN.t13,kK,hN.s8,hN.s10,hq0,tlC,ht,tyC]
set_option maxHeartbeats 2000000 in
omit zX in
include h hp in
theorem nS_prim(hk:x.kind=5)(m:Nat)(Ao:C.low<us.length)(hl:gY us=(C.low:Nat))(hb:∀i,i<us.length→(uM us C.low).testBit i=true){q:D}{ts:List Tl}(hq:eG q=false)(Bi:∀s2,(∀m,m<c→m≠K→sget s2 m=sget s m)→∀k,frz false (k+2) s2 q=some (yZ ts))(h4:tget t 4=q)(hn:ts.length=1∨ts.length=2)(hg:∀t∈ts,TG us t):
  NSr C us K x s c (vN ⟨us,C.low,C.pc,RDl m C.d C.e⟩ x ts sm) (zC No4.b (cxn (n+8)) (fn (n+8) (j+3)) KK ⟨t,s1,c1,[],none⟩):=by
 have hc:=hN.hc;have s8:=hN.s8;unfold bK at s8;have Fm:=hT;unfold tlC tyC tl at Fm;have k1:(c=c+16)=False:=aL (by omega)
 have k2:(c+1=c+16)=False:=aL (by omega)
 have kK:(K=c+16)=False:=aL (by omega)
 obtain⟨q0,hq0,hs⟩:=hR;have fz:=fun k=>Bi s1 hN.af.old k
 have Xe:=c178 (n+2) x.prim hn hg;obtain⟨r1,r2⟩:=rule_same m h Ao hl hb x.prim hn hg;unfold vN;simp only[No4,cI];by_cases h0:(nG x.prim (kiK ts)).2.2=0
 ·obtain⟨T,w,cc,e1,e2,e3,e4,e5⟩:=r2 h0;have h179:=e5 (n+1);have fr:∀k,sget s1 (c1+k)=none:=fun k=>hN.af.free _ (by omega)
  have z1:∀k,(K=c1+k)=False:=fun k=>aL (by omega)
  have z2:∀k,(c+16=c1+k)=False:=fun k=>aL (by omega)
  have z3:∀k,(c=c1+k)=False:=fun k=>aL (by omega)
  have z4:∀k,(c+1=c1+k)=False:=fun k=>aL (by omega)
  have Hs:=hq0;unfold RC.blk at Hs;have e1':RDl m C.d C.e x.prim ts=(tl T,(w:Int),(cc:Int),0):=e1;simp only[e1',dJ,aM,iV,e2.2.2,toT_tl,cQ];have jw:=(h.j e3 e4).2;have jec:=(h.j hS.ec jw).2;have ja:afN us sm.ec w cc=J us sm.ec (J us w cc):=J_assoc h hS.ec e3 e4
  have Xd:∀(b1 b2:Blk) (c' a b:Nat),a<us.length→b<us.length→fn (n+8) (j+3) (.fn 180) [.ptr K 0,.int .i64 (a:Nat),.int .i64 (b:Nat)] (sset (sadd s1 (c1+8) b1) (c1+8) b2) c' = .ok (.ret (.int .i64 (J us a b:Nat))) (sset (sadd s1 (c1+8) b1) (c1+8) b2) c':=fun b1 b2 c' a b ha hb=>f180 (n+7) (j+1) h (by rw[aU,aG (by omega),aZ,aG (by omega)];exact hq0) ha hb
  have g1:=fun b1 b2 c'=>Xd b1 b2 c' _ _ e3 e4
  have g2:=fun b1 b2 c'=>Xd b1 b2 c' _ _ hS.ec jw
  have z5:∀k,(c1+k=c+16)=False:=fun k=>aL (by omega)
  have z6:∀k,(c1+k=K)=False:=fun k=>aL (by omega)
  have kK2:(c+16=K)=False:=aL (by omega)
  rw[ja];simp only[z0,seval,hN.t0,hN.t8,hN.t13,s8,Fm,hk,h4,aF 178,aF 179,aJ,fz 18,show((20:Nat))=18+2 from rfl,Xe,h0,h.d.fz,h.e.fz,Hs,dP,dR,cN,AOp.kd,zop,tks,bP,dC,h179,fr,z1,z2,kK,cB,aO,aX,g1,g2]
  have zK:(c=K)=False:=aL (by omega)
  have zK1:(c+1=K)=False:=aL (by omega)
  refine⟨_,_,_,rfl,⟨(((((hN.af.up (c2:=c1+8) (by omega)).add _).set (.inl (by omega)) (by omega) _).set (.inl (by omega)) (by omega) _).set (.inr rfl) (by omega) _).up (by omega),by omega,?_,?_,?_,?_,?_,?_,?_,?_⟩,?_,⟨q0,?_,hs⟩,⟨jec,hS.lb,hS.nd,hS.ln⟩,?_⟩
  all_goals simp[aA,hN.t0,hN.t8,hN.t10,hN.t11,hN.t12,hN.t13,kK2,zK,zK1,z3,hN.s8,hN.s10,tlC,tyC,tl,RC.blk]
 ·rw[aS (by grind)]
  have e1:(LEn.R ⟨us,C.low,C.pc,RDl m C.d C.e⟩ x.prim ts).2.2.2=(nG x.prim (kiK ts)).2.2:=r1 h0;rw[e1];simp only[z0,seval,hN.t8,s8,hk,h4,aF 178,aJ,fz 18,show((20:Nat))=18+2 from rfl,Xe,aE h0]
  refine⟨rfl,h0,_,_,_,rfl,⟨hN.af,hc,?_,?_,?_,?_,?_,?_,?_,?_⟩,?_⟩
  all_goals simp[aA,hN.t0,hN.t8,hN.t10,hN.t11,hN.t12,hN.t13,hN.s8,hN.s10]
end
end
structure CA (C:RC) (K:Nat) (f q:D) (y:Nd) (sm:Lk) (s:St) (c:Nat) (t:Tm) (s1:St) (c1:Nat):Prop where
 af:Af K s c s1 c1
 hc:c+2≤c1
 t0:tget t 0 = .ptr K 0
 t1:tget t 1=f
 t3:tget t 3=q
 t6:tget t 6 = .ptr c 0
 t8:tget t 8 = .ptr (c+1) 0
 t9:tget t 9 = .int .i64 0
 t10:tget t 10 = .int .i64 0
 s6:sget s1 c=some (.fix 57 (bK y))
 s8:sget s1 (c+1)=some (.fix 37 z5)
 st:RSt C K sm s1
theorem ix_none{fs:List Fd}{s:List UInt8}(h:∀i (hi:i<fs.length),fs[i].name≠s):fs.findIdx? (fun f=>decide (f.name=s))=none:=by
 grind [List.findIdx?_eq_none_iff,eV,aE]
theorem ix_some{fs:List Fd}{s:List UInt8}{i:Nat}(hi:i<fs.length)(h:∀j (hj:j<i),fs[j].name≠s)(h2:fs[i].name=s):fs.findIdx? (fun f=>decide (f.name=s))=some i:=by
 grind [List.findIdx?_eq_some_iff_getElem,aH]
section
variable (n j:Nat) {ss:List (List UInt8)} {us:List Nat} {C:RC} (h:Lt ss us C.d C.e) (hp:C.pc<us.length) {K:Nat} {sm:Lk} {s:St} {c:Nat} (Al:K<c) (zX:kA s c)
include h hp Al zX
theorem f181(R:Int→List Tl→Ty×Int×Int×Int){f:D}{fs:List Fd}(hf:Sl 3 fdC fs f)(Bj:fs.length<1000)(Eb:∀g∈fs,FdOk g){y:Nd}{ts:List Tl}{a ty:Nat}(hK:RSt C K sm s)(hS:SK us sm)(ha:sget s a=some (.grow ty (cV tlC ts)))(Lg:a≠K)(Ph:a<c)(hn:ts.length=1∨ts.length=2)(hg:∀t∈ts,TG us t)
  {cal:Nat→List Vr→Lk→Lo (Tl×Lk)} (Aw:∀i (hi:i<fs.length) (v' fd:D),Sl 3 fdC (fs.take i) fd→∀(Ep:List Vr) (s':St) (c':Nat),VR us K c' s' v' Ep→RSt C K (sm.mark ⟨us,C.low,C.pc,R⟩ y.site) s'→K<c'→kA s' c'→LkR C K (cal i Ep (sm.mark ⟨us,C.low,C.pc,R⟩ y.site)) (fn (n+8) (j+3) (.fn 101) [.ptr K 0,v',fd,fs[i].bd] s' c') s' c') :
  LkR C K (wN ⟨us,C.low,C.pc,R⟩ cal fs y ts sm) (fn (n+8) (j+4) (.fn 181) [.ptr K 0,f,.agg (bK y),.gs a 0 5 ts.length] s c) s c:=by
 rw[iG (A:=A181) rfl rfl rfl rfl (n+8) (j+3) _ s c rfl,show A181.body=B181 from rfl,B181]
 simp only[Qc1,cI];have k1:(c=c+1)=False:=aL (by omega)
 have k2:(c+1=c)=False:=aL (by omega)
 unfold bK;simp only[z0,seval];generalize hz:zloop KK _ _=rl;refine zfor rl hz fs.length (dY (by omega)) (by omega) (fun i t s1 c1=>CA C K f (.gs a 0 5 ts.length) y sm s c t s1 c1∧∀j (hj:j<fs.length),j<i→fs[j].name≠y.name) (by simp[aA]) ?_ ?_
 ·refine⟨⟨((Af.refl zX).add _).add _,by omega,?_,?_,?_,?_,?_,?_,?_,?_,?_,?_⟩,fun j hj h=>absurd h (by omega)⟩
  all_goals first|(obtain⟨q0,hq0,hs⟩:=hK;exact⟨q0,by grind [aZ],hs⟩)|simp[aA,z5,bK]
 ·rintro i t s1 c1 hi ⟨hA,Dl⟩ Cr;have El:=hA.hc;obtain⟨q0,hq0,Ie⟩:=hA.st;have s6:=hA.s6;unfold bK at s6;have s8:=hA.s8;unfold z5 at s8;by_cases zQ:i<fs.length
  ·have Jq:=Eb _ (bQ zQ);have g0:=hf.cell zQ (show 0<3 by omega)
   have g1:=hf.cell zQ (show 1<3 by omega)
   have g2:=hf.cell zQ (show 2<3 by omega)
   by_cases e:fs[i].name=y.name
   ·have hd:∀Fs:Decidable (fs[i].name=y.name),@decide _ Fs=true:=fun _=>aH e
    have hM:wN ⟨us,C.low,C.pc,R⟩ cal fs y ts sm=if fs[i].ps.length≠ts.length then .bad y.site 23 else cal i (nU fs[i].ps ts) (sm.mark ⟨us,C.low,C.pc,R⟩ y.site):=by
     unfold wN;rw[ix_some zQ (fun j hj=>Dl j (by omega) hj) e]
     simp only[aI zQ]
    rw[hM];by_cases zU:fs[i].ps.length=ts.length
    ·rw[aG (fun h=>h zU)]
     obtain⟨s2,c2,h182,hA2,hR2⟩:=f182 (n+6) j h hp hA.st (c:=c1+8) (by omega) (fun m hm=>hA.af.free m (by omega)) hS.ec hS.nd hS.lb hS.ln y.site
     have Gn:=hA2.le;have Pa:=Jq.p;obtain⟨fd,hfd1,hfd2⟩:=hf.head (j:=i) hi (k:=.i64);have g6:sget s2 c=_:=(hA2.old c (by omega) (by omega)).trans s6
     have g8:sget s2 (c+1)=_:=(hA2.old (c+1) (by omega) (by omega)).trans s8
     have ga:sget s2 a=_:=(hA2.old a (by omega) Lg).trans ((hA.af.old a Ph Lg).trans ha)
     simp only[Cp1,Cp2,Cp3,Cp4,Cp5,cI];simp only[z2,seval,aO,aX,hd,hA.t0,hA.t1,hA.t3,hA.t6,Cr,hf.len,dH zQ,hf.ia zQ,fdC,g0,g1,s6,dR,cN,AOp.kd,zop,tks,Pa.len,show lenD false (.gs a 0 5 ts.length)=some ts.length from rfl,zU,show ∀Fs:Decidable ((ts.length:Int)≠(ts.length:Nat)),@decide _ Fs=false from fun _=>aE (fun h=>h rfl),h182]
     generalize Bz:zloop KK _ _=rl2
     refine zfor rl2 Bz ts.length (dY (by omega)) (by omega) (fun k t' s' c'=>∃v,Af K s2 c2 s' c'∧sget s' K=sget s2 K∧jT 6 vrC c2 s' v ((nU fs[i].ps ts).take k)∧tget t' 0 = .ptr K 0∧tget t' 1=f∧tget t' 3 = .gs a 0 5 ts.length∧tget t' 6 = .ptr c 0∧tget t' 8 = .ptr (c+1) 0∧tget t' 9 = .int .i64 0∧tget t' 10 = .int .i64 0∧tget t' 11 = .int .i64 (i:Nat)∧tget t' 12=v) (by simp[aA]) ?_ ?_
     ·refine⟨.nils,.refl hA2.free,rfl,.inl ⟨rfl,by simp⟩,?_,?_,?_,?_,?_,?_,?_,?_,?_⟩
      all_goals simp[aA,hA.t0,hA.t1,hA.t3,hA.t6,hA.t8,hA.t9,hA.t10,Cr]
     ·rintro k t' s' c' hki ⟨v,Gu,hK3,hv,Ya,Nr,Iw,Xx,Gi,Zk,Rd,Og,Ll⟩ Oe;have Oy:=Gu.le;by_cases Ek:k<ts.length
      ·have gaf:sget s' a=some (.grow ty (cV tlC ts)):=(Gu.old a (by omega) Lg).trans ga
       have ia:iJ 5 (.gs a 0 5 ts.length) (.int .i64 (k:Nat))=some (.ptr a (k*5)):=by
        simp only[iJ,fB Ek,bE,eQ,bG,bM]
       have Jg:List.take 5 (List.drop (k*5) (cV tlC ts))=tlC ts[k]:=(lE (w:=5) (rows:=ts.map tlC) (i:=k) (r:=tlC ts[k]) (fun r hr=>by obtain⟨u,_,rfl⟩:=cY.1 hr;rfl) (by grind)).1
       have ig:=Pa.ia1 (i:=k) (by omega) (k:=.i64)
       have ag:=Pa.at1 (i:=k) (by omega)
       have hnv:=hv.nag;have n6:sget s' (c'+14)=none:=Gu.free _ (by omega)
       have n2:(a=c'+14)=False:=aL (by omega)
       simp only[fM]at ag;unfold tlC tyC tl at Jg;rw[show cV (fun t=>[.int .i64 t.k,.int .i64 t.r,.int .i64 (t.x:Nat),.int .i64 (t.y:Nat),.int .i64 (t.z:Nat)]) ts=cV tlC ts from rfl]at Jg
       have row:cX (cV tlC ts) (k*5) (some 5)=some (.agg [.int .i64 ts[k].k,.int .i64 ts[k].r,.int .i64 (ts[k].x:Nat),.int .i64 (ts[k].y:Nat),.int .i64 (ts[k].z:Nat)]):=by
        simp only[cX];rw[bO (by rw[qC.cells_len];omega),bG,Jg]
       simp only[z2,seval,aO,aX,Nr,Iw,Og,Ll,Oe,show lenD false (.gs a 0 5 ts.length)=some ts.length from rfl,dH Ek,hf.ia zQ,fdC,g1,ia,gaf,row,ig,ag,dR,cN,AOp.kd,zop,tks,dC,n6,cB]
       generalize hA:iS _ 6 56 55 v _=Z;obtain⟨S,hS⟩:∃S,S=sadd s' (c'+14) (.fix 0 [.str fs[i].ps[k],.int .i64 ts[k].k,.int .i64 ts[k].r,.int .i64 (ts[k].x:Nat),.int .i64 (ts[k].y:Nat),.int .i64 (ts[k].z:Nat)]):=⟨_,rfl⟩
       have gS:∀m,m<c'→sget S m=sget s' m:=fun m hm=>by grind [aZ]
       rw[←hS]at hA;obtain⟨v',s4,c4,hZ,hv2,Bn,ho2,Gz⟩:=lR enc_vr (B:=c2) (l:=(nU fs[i].ps ts).take k) (l':=[⟨fs[i].ps[k],tl ts[k]⟩]) (by decide) hA (hv.keep fun m b hm hb=>by rw[gS m (eC fun hh=>by rw[Gu.free m hh]at hb;cases hb),hb]) (by simp only[cP,hS,aZ,aS];rfl) (by grind) (by grind) (fun m hm=>by
        have Ei:c'+17≤m:=hm;show sget S m=none;rw[hS,aZ,aG (by omega)];exact Gu.free m (by omega))
       have Sf:c'+17≤c4:=Bn;subst hZ;rw[←zipV_get zU Ek]at hv2;simp only[z2,seval,AOp.kd,zop,tks];refine⟨Ek,trivial,trivial,?_,v',⟨by omega,fun m hm hmk=>by rw[ho2 m hm,gS m (by omega)];exact Gu.old m hm hmk,Gz⟩,by grind,hv2,?_,?_,?_,?_,?_,?_,?_,?_,?_⟩
       all_goals simp[Ya,Nr,Iw,Xx,Gi,Zk,Rd,Og,Oe]
      ·have e2:k=ts.length:=by omega
       subst e2;rw[cS (by grind [oO])]at hv
       have Ji:=oO zU;have Hk:nU fs[i].ps ts≠[]:=fun hh=>by grind
       rcases hv with⟨_,hh⟩|⟨_,_,_,_,hh⟩|⟨V,ty,hV,rfl,hVs,_⟩
       ·grind
       ·grind
       have Ys:V<c':=eC fun hh=>by rw[Gu.free V hh]at hVs;cases hVs
       have Wq:VO us (LkC.vf ⟨C.d,C.e,C.low,C.pc,K,.nils,f⟩ (.gs V 0 6 ts.length) f) K s' c' (nU fs[i].ps ts):=vo_zip (C:=⟨C.d,C.e,C.low,C.pc,K,.nils,f⟩) hVs zU (by omega) Ys (by omega) (by grind) hg
       have hVR:∀c3,c'≤c3→VR us K c3 s' (.gs V 0 6 ts.length) (nU fs[i].ps ts):=fun c3 h3=>⟨rfl,by
        obtain⟨w,h1,h2⟩:=Wq.fz;exact⟨w,h1,fun s2 Az k=>h2 s2 (fun m hm Ow _=>Az m (by omega) Ow) k⟩,Wq.len,Wq.good⟩
       obtain⟨q2,Qi,Az⟩:=hR2;have hRS:RSt C K (sm.mark ⟨us,C.low,C.pc,R⟩ y.site) s':=⟨q2,hK3.trans Qi,Az⟩;have gc:sget s' c=_:=(Gu.old c (by omega) (by omega)).trans g6
       have gc1:sget s' (c+1)=_:=(Gu.old (c+1) (by omega) (by omega)).trans g8
       rw[Ji]at Ll;simp only[Cp6,cI];have Bo:=Aw i zQ (.gs V 0 6 ts.length) fd hfd2 (nU fs[i].ps ts) s' (c'+17) (hVR _ (by omega)) hRS (by omega) (fun m hm=>Gu.free m (by omega))
       cases Hc:cal i (nU fs[i].ps ts) (sm.mark ⟨us,C.low,C.pc,R⟩ y.site) with
       | bad b1 b2=>
        rw[Hc]at Bo;obtain⟨s4,c4,Fh,hA4,Bb⟩:=Bo;have Ox:=hA4.le;have gd1:sget s4 (c+1)=_:=(hA4.old (c+1) (by omega) (by omega)).trans gc1
        unfold z5 at Fh;simp only[z2,seval,aO,aX,Ya,Nr,Iw,Gi,Og,Ll,Oe,show lenD false (.gs a 0 5 ts.length)=some ts.length from rfl,gG (aK ts.length),hf.ia zQ,fdC,g2,hfd1,dR,cN,AOp.kd,zop,tks,Fh,gd1,A181]
        exact⟨_,_,rfl,((hA.af.up (c2:=c1+8) (by omega)).trans (hA2.trans ((Gu.up (c2:=c'+17) (by omega)).trans hA4))).set (.inl (by omega)) (by omega) _,Bb⟩
       | ok p=>
        rw[Hc]at Bo;obtain⟨s4,c4,Fh,hA4,q5,hq5,hs5⟩:=Bo;have Ox:=hA4.le;have gd1:sget s4 (c+1)=_:=(hA4.old (c+1) (by omega) (by omega)).trans gc1
        unfold tlC tyC tl at Fh;simp only[z2,seval,aO,aX,Ya,Nr,Iw,Gi,Og,Ll,Oe,show lenD false (.gs a 0 5 ts.length)=some ts.length from rfl,gG (aK ts.length),hf.ia zQ,fdC,g2,hfd1,dR,cN,AOp.kd,zop,tks,Fh,gd1,A181]
        exact⟨_,_,rfl,((hA.af.up (c2:=c1+8) (by omega)).trans (hA2.trans ((Gu.up (c2:=c'+17) (by omega)).trans hA4))).set (.inl (by omega)) (by omega) _,q5,by grind [aU],hs5⟩
    ·rw[aS zU];have Kf:∀Fs:Decidable ((fs[i].ps.length:Int)≠(ts.length:Nat)),@decide _ Fs=true:=fun _=>aH (by omega)
     simp only[Cp1,Cp2,cI];simp only[z2,seval,hd,Kf,hA.t1,hA.t3,hA.t6,hA.t8,Cr,hf.len,dH zQ,hf.ia zQ,fdC,g0,g1,s6,s8,k1,dR,cN,AOp.kd,zop,tks,bP,Jq.p.len,show lenD false (.gs a 0 5 ts.length)=some ts.length from rfl,A181]
     exact⟨_,_,rfl,(hA.af.set (.inl (by omega)) (by omega) _).up (by omega),by decide⟩
   ·simp only[Cp1,cI];have hd:∀Fs:Decidable (fs[i].name=y.name),@decide _ Fs=false:=fun _=>aE e
    simp only[z2,seval,hd,hA.t1,hA.t6,Cr,hf.len,dH zQ,hf.ia zQ,fdC,g0,s6,dR,cN,AOp.kd,zop,tks];refine⟨zQ,trivial,trivial,?_,⟨hA.af.up (by omega),by omega,?_,?_,?_,?_,?_,?_,?_,hA.s6,hA.s8,hA.st⟩,fun j hj Qo=>?_⟩
    ·grind
    ·simp[aA,hA.t0]
    ·simp[aA,hA.t1]
    ·simp[aA,hA.t3]
    ·simp[aA,hA.t6]
    ·simp[aA,hA.t8]
    ·simp[aA,hA.t9]
    ·simp[aA,hA.t10]
    grind
  ·have e1:i=fs.length:=by omega
   subst e1;have hM:wN ⟨us,C.low,C.pc,R⟩ cal fs y ts sm = .bad y.site 24:=by
    unfold wN;rw[ix_none fun j hj=>Dl j hj hj]
   rw[hM];simp only[Qc3,cI];simp only[z2,seval,hA.t1,hA.t6,hA.t8,Cr,hf.len,gG (aK fs.length),s6,s8,k1,dR,cN,AOp.kd,zop,tks,bP,A181];exact⟨_,_,rfl,(hA.af.set (.inl (by omega)) (by omega) _).up (by omega),by decide⟩
end
def vO(E:LEn)(cal:Nat→List Vr→Lk→Lo (Tl×Lk))(fs:List Fd)(vs:List Vr)(x:Nd)(ts:List Tl)(sm:Lk):Lo (Tl×Lk):=match mY E cal fs vs x ts sm with
 | .ok p=>.ok (p.1,if x.kind=6 then p.2 else p.2.mark E x.site)
 | .bad a e=>.bad a e
theorem zb_ok(y:AS)(f:AS→R):zbind (.ok .normal y) f=f y:=rfl
section
variable (n j:Nat) {ss:List (List UInt8)} {us:List Nat} {C:RC} (h:Lt ss us C.d C.e) (hp:C.pc<us.length) (Ao:C.low<us.length) (hl:gY us=(C.low:Nat)) (hb:∀i,i<us.length→(uM us C.low).testBit i=true) {K:Nat} {sm:Lk} {s:St} {c:Nat} (Al:K<c) (zX:kA s c)
include h hp Ao hl hb Al zX
theorem f151(m:Nat){v f:D}{vs:List Vr}{fs:List Fd}(hv:VR us K c s v vs)(hf:Sl 3 fdC fs f)(Bj:fs.length<1000)(Eb:∀g∈fs,FdOk g)(hK:RSt C K sm s)(hS:SK us sm){x:Nd}(hk:1≤x.kind∧x.kind≤6){q:D}(hq:eG q=false){ts:List Tl}
  (Di:x.kind=5∨x.kind=6→(ts.length=1∨ts.length=2)∧(∀t∈ts,TG us t)∧∃a ty,q = .gs a 0 5 ts.length∧sget s a=some (.grow ty (cV tlC ts))∧a≠K∧a<c)
  {cal:Nat→List Vr→Lk→Lo (Tl×Lk)} (Aw:∀i (hi:i<fs.length) (v' fd:D),Sl 3 fdC (fs.take i) fd→∀(Ep:List Vr) (s':St) (c':Nat),VR us K c' s' v' Ep→RSt C K (sm.mark ⟨us,C.low,C.pc,RDl m C.d C.e⟩ x.site) s'→K<c'→kA s' c'→LkR C K (cal i Ep (sm.mark ⟨us,C.low,C.pc,RDl m C.d C.e⟩ x.site)) (fn (n+8) (j+3) (.fn 101) [.ptr K 0,v',fd,fs[i].bd] s' c') s' c') :
  LkR C K (vO ⟨us,C.low,C.pc,RDl m C.d C.e⟩ cal fs vs x ts sm) (fn (n+8) (j+5) (.fn 151) [.ptr K 0,v,f,.agg (bK x),q] s c) s c:=by
 rw[iG (A:=A151) rfl rfl rfl rfl (n+8) (j+4) _ s c rfl,show A151.body=B151 from rfl,B151_z]
 obtain⟨t1,s1,hz,hN,hR1,e1,e2,e4,e14,hT⟩:=nP n (j+1) Al zX hK hv.nag hf.nag hq (x:=x);rw[hz,zb_ok]
 have Bm:∀{r:Lo (Tl×Lk)} {z:R},NSr C us K x s c r z→LkR C K (match r with | .ok p=>.ok (p.1,p.2.mark ⟨us,C.low,C.pc,RDl m C.d C.e⟩ x.site) | .bad a e=>.bad a e) (zbody (dfn (n+8) (j+4)) A151 (zbind z fun x=>zC (.seq No5.b (.seq No6.b (.seq No7.b .ret))) (cxn (n+8)) (fn (n+8) (j+4)) KK x)) s c:=fun {r z} hr=>by
  cases r with
  | ok p=>
   obtain⟨t,s2,c2,rfl,hN2,Aq,hR2,Bu,Uf⟩:=hr;rw[zb_ok];exact(nF n (j+1) h hp Al hN2 Aq).2 p.2 p.1 _ rfl hR2 Bu Uf
  | bad a e=>
   obtain⟨rfl,he,t,s2,c2,rfl,hN2,Aq⟩:=hr;rw[zb_ok];exact(nF n (j+1) h hp Al hN2 Aq).1 he
 have k6:x.kind≠6→vO ⟨us,C.low,C.pc,RDl m C.d C.e⟩ cal fs vs x ts sm=match mY ⟨us,C.low,C.pc,RDl m C.d C.e⟩ cal fs vs x ts sm with | .ok p=>.ok (p.1,p.2.mark ⟨us,C.low,C.pc,RDl m C.d C.e⟩ x.site) | .bad a e=>.bad a e:=fun h6=>by
  grind [vO]
 have Sp:x.kind=1∨x.kind=2∨x.kind=3∨x.kind=4∨x.kind=5∨x.kind=6:=by omega
 rcases Sp with hk1|hk1|hk1|hk1|hk1|hk1
 ·grind [nS_leaf,mY]
 ·grind [nS_leaf,mY]
 ·grind [nS_leaf,mY]
 ·grind [nS_name,mY]
 ·rw[k6 (by omega)]
  obtain⟨hn,hg,a,ty,rfl,ha,Lg,Ph⟩:=Di (.inl hk1);have:=Bm (nS_prim n (j+1) h hp Al hN e14 hR1 hS hT hk1 m Ao hl hb rfl (fun s2 Az k=>by
   rw[lP,Az a Ph Lg,ha];simp only[bM,gQ];rw[bO (by rw[qC.cells_len];exact aK _),bG,cS (by rw[qC.cells_len];exact aK _),qC.cells_frz];rfl) e4 hn hg)
  grind [mY]
 ·obtain⟨hn,hg,a,ty,rfl,ha,Lg,Ph⟩:=Di (.inr hk1);have Kr:mY ⟨us,C.low,C.pc,RDl m C.d C.e⟩ cal fs vs x ts sm=wN ⟨us,C.low,C.pc,RDl m C.d C.e⟩ cal fs x ts sm:=by
   unfold mY;rw[aG (by omega),aG (by omega),aG (by omega),aG (by omega),aG (by omega)]
  have hc:=hN.hc;have s8:=hN.s8;have s10:=hN.s10;have Es:bK x=[.int .i64 6,.int .i64 x.prim,.int .i64 x.kids,.str x.name,.str x.text,.int .i64 x.n,.int .i64 x.site]:=by rw[←hk1];rfl
  rw[Es]at s8;unfold z5 at s10;have Ue:sget s1 a=_:=(hN.af.old a Ph Lg).trans ha;have Bo:=f181 n (j+0) h hp (by omega) hN.af.free (RDl m C.d C.e) hf Bj Eb (y:=x) hR1 hS Ue Lg (by omega) hn hg (cal:=cal) fun i hi v' fd h1 Ep s' c' h2 h3 h4 h5=>Aw i hi v' fd h1 Ep s' c' h2 h3 h4 h5
  rw[Es]at Bo;unfold vO;simp only[No4,cI];rw[Kr];cases Hc:wN ⟨us,C.low,C.pc,RDl m C.d C.e⟩ cal fs x ts sm with
  | bad b1 b2=>
   rw[Hc]at Bo;obtain⟨s4,c4,h181,hA4,Bb⟩:=Bo;have Ox:=hA4.le;have Hx:sget s4 (c+1)=_:=(hA4.old (c+1) (by omega) (by omega)).trans s10
   unfold z5 at h181;simp only[z0,seval,hN.t0,hN.t8,hN.t10,s8,e2,e4,h181,Hx,A151];exact⟨_,_,rfl,(hN.af.trans hA4).set (.inl (by omega)) (by omega) _,Bb⟩
  | ok p=>
   rw[Hc]at Bo;obtain⟨s4,c4,h181,hA4,q5,hq5,hs5⟩:=Bo;have Ox:=hA4.le;have Hx:sget s4 (c+1)=_:=(hA4.old (c+1) (by omega) (by omega)).trans s10
   unfold tlC tyC tl at h181;simp only[z0,seval,hN.t0,hN.t8,hN.t10,s8,e2,e4,h181,Hx,A151];exact⟨_,_,rfl,(hN.af.trans hA4).set (.inl (by omega)) (by omega) _,q5,by grind [aU],by grind⟩
end
end
end Zv
