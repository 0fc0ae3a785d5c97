/- infer.Look: the labels become sites, in their order. Conditions: none. -/
import Derived.Test.YtnpoohbeicakkaaGreatDoorZAV
set_option linter.unusedVariables false
set_option linter.unusedSimpArgs false
set_option maxRecDepth 100000
namespace Zv
open Go
noncomputable section
def nE(e:rJ):Int×Int:=match e with|(.int _ a,.int _ b,_)=>(a,b)|_=>(0,0)
theorem pairM_mpE:∀(l:List (Int×Int)) (k:Nat),(mpE k l).map nE=l
 | [],_=>rfl
 | p::r,k=>by simp only[mpE,bY,pairM_mpE r];rfl
theorem mpE_form:∀(l:List (Int×Int)) (k:Nat),∀e∈mpE k l,e=(.int .i64 (nE e).1,.int .i64 (nE e).2,e.2.2)
 | [],_,e,h=>by simp[mpE]at h
 | p::r,k,e,h=>by
  simp only[mpE,bN]at h;rcases h with rfl|h
  ·rfl
  ·exact mpE_form r (k+1) e h
theorem born_filter:∀{es:List rJ} {e:rJ},(borns es).Nodup→e∈es→∃r,(es.filter fun x=>Nat.beq x.2.2 e.2.2)=e::r
 | [],e,_,h=>by simp at h
 | x::l,e,hn,h=>by
  simp only[borns,bY,List.nodup_cons]at hn;rcases bN.1 h with rfl|h
  ·exact⟨_,by rw[List.filter_cons,fF];rfl⟩
  ·have hne:x.2.2≠e.2.2:=fun h'=>hn.1 (by rw[h'];exact List.mem_map_of_mem h)
   obtain⟨r,hr⟩:=born_filter hn.2 h;exact⟨r,by rw[List.filter_cons,iZ hne];exact hr⟩
theorem en2_frz(p:Bool)(k:Nat)(s:St):∀(l:List (Int×Int)),(en2 l).mapM (frz p (k+1) s)=some (en2 l)
 | []=>rfl
 | q::r=>by simp only[en2,List.mapM_cons,en2_frz p k s r];rfl
theorem enc_site:EncG 2 siteC:=⟨fun _=>rfl,by decide,fun _=>rfl,fun _ _ _ _=>rfl⟩
theorem vE:∀l:List (Int×Int),cZ siteC l=en2 l
 | []=>rfl
 | p::r=>by
  have:=vE r;unfold cZ at this ⊢;rw[bY,eH,this];rfl
theorem sort_row{L:List (Int×Int)}{s:St}{c ty:Nat}(hs:sget s c=some (.grow ty (en2 L)))(hn:(L.map Prod.fst).Nodup)(hl:L.length<10000):sortSt s c 0 L.length=some (sset s c (.grow ty (en2 (fO L)))):=by
 unfold sortSt;rw[hs];simp only[dX,fM];rw[cX (by rw[nS];exact aI _),en2_row]
 simp only;rw[aH ⟨hn,trivial,by omega⟩]
 have hll:(en2 L).length=(en2 (fO L)).length:=by rw[nS,nS,(iY L).length_eq]
 have:stB (.grow ty (en2 L)) 0 (en2 (fO L))=some (.grow ty (en2 (fO L))):=by
  simp only[stB,en2_nag,cD,bP,hll,Nat.ble_self_eq_true,aU];have:=qU [] (en2 L) (en2 (fO L)) hll;simpa using this
 rw[this];rfl
theorem zend13_ret(n:Nat){t:Tm}{s:St}{c:Nat}{A:AF}:zbody (dfn n MM) A (.ok .ret ⟨t,s,c,D13,none⟩)=match results A ⟨t,s,c,D13,none⟩ with|some d=>.ok (.ret d) s c|none=>.no:=by
 have h1:dfn n MM 40 [.ptr 2 0,.ptr 3 0] none s c=_:=caughtN n 4095 2 3 s c;show oU (dfn n MM) A none ⟨t,s,c,D13,none⟩=_;unfold oU D13;simp only[zDs,bZ,dG,h1,settle];cases results A ⟨t,s,c,[(.fn (.func 40) [] [],[.ptr 2 0,.ptr 3 0])],none⟩<;>rfl
def lookR(p:Tl×Lk):D:=.tup [.agg [.int .i64 p.1.k,.int .i64 p.1.r,.int .i64 (p.1.x:Nat),.int .i64 (p.1.y:Nat),.int .i64 (p.1.z:Nat),.int .i64 (p.2.ec:Nat),.sl false p.2.lm.length (en2 (fO p.2.lm)),.int .i64 (p.2.lk:Nat)],.int .i64 0,.int .i64 0]
theorem t13(n:Nat)(C:LkC)(hM:C.M=5){p:Tl×Lk}(hk:(p.2.lm.map Prod.fst).Nodup)(hlen:p.2.lm.length<10000)(hne:p.2.lm≠[]){t:Tm}{s:St}{c:Nat}(h:LG C p t s c):
  mY (bC (cxn (n+1)) (fn (n+1) 4096) KK T13 ⟨t,s,c,D13,none⟩) (xR (n+1) (lookR p)):=by
 obtain⟨q,hq⟩:=h.q;obtain⟨W,t15,sW,hW7,hWc⟩:=h.w;have hm:=h.m;obtain⟨z,s3⟩:=h.lf.s3;unfold LkC.blk lrC at hq;rw[hM]at hq;simp only[T13,Ab.abq];rw[W_seq1 (by rfl) (by rfl)]
 simp only[Lk11,Ab.abq];simp only[z0,seval,oS];rw[W_seq (by rfl)]
 simp only[Lk12,Ab.abq];rw[W_seq1 (by rfl) (by rfl)]
 simp only[z0,seval,h.t14,hq,hm,dR,oS];rw[W_block (by rfl)]
 have hel:(mpE 0 p.2.lm).length=p.2.lm.length:=mpE_len p.2.lm 0;have hle:=h.lf.le;have hn5:(5:Nat)≠c:=by omega
 refine bmap (es:=mpE 0 p.2.lm) (c0:=p.2.lm.length) (nI:=c) (nM:=5) (by rfl) (by rw[hel];exact fI (by omega)) (mpE_lt p.2.lm) (mpE_nodup p.2.lm)
  (fun done t' s' c'=>c+1≤c'∧mX s' c'∧(∀m,m<c→sget s' m=sget s m)∧(∃v,tget t' 16=v∧mA 2 siteC (c+1) s' v (done.map nE))∧tget t' 8 = .ptr 1 0∧tget t' 9 = .ptr 2 0∧tget t' 10 = .ptr 3 0∧tget t' 14 = .ptr 6 0∧tget t' 15 = .ptr W 0) (by decide) (by simp[aE]) (by simp only[aE];rw[aD hn5];exact hm) (by simp[aE]) (by omega) ⟨aI _,fun m hm=>by rw[aX,aD (by omega)];exact h.lf.fr m (by omega),fun m hm=>by rw[aX,aD (by omega)],⟨.nils,by simp[aE],.inl ⟨rfl,rfl⟩⟩,?_,?_,?_,?_,?_⟩ ?_ ?_
 ·simp[aE,h.lf.t8]
 ·simp[aE,h.lf.t9]
 ·simp[aE,h.lf.t10]
 ·simp[aE,h.t14]
 ·simp[aE,t15]
 ·rintro done e t' s' c' ⟨hc',hf',ho',⟨v,q16,hv⟩,q8,q9,q10,q14,q15⟩ he hsub hnd hd1 hti hsM hsI;rw[hel]at hd1;obtain⟨rr,hf⟩:=born_filter (mpE_nodup p.2.lm) he;have hform:=mpE_form p.2.lm 0 e he;have hgl:(borns (done++[e])).getLast?=some e.2.2:=by simp[borns]
  have hI2:∀{b:Blk},sget (sset s' c b) 5=some (.mp (mpE 0 p.2.lm) p.2.lm.length):=by intro b;rw[aO,aD hn5];exact hsM
  have hf2:((mpE 0 p.2.lm).filter fun x=>Nat.beq x.2.2 e.2.2)=(.int .i64 (nE e).1,.int .i64 (nE e).2,e.2.2)::rr:=by rw[hf];exact congrArg (· :: rr) hform
  have hbd:(fun x:rJ=>Nat.beq x.2.2 e.2.2)=fun x=>decide (x.2.2=e.2.2):=by funext x;rw[dA];simp[Nat.beq_eq]
  rw[hbd]at hf2;have hcc:(c=c')=False:=aL (by omega)
  simp only[z1,seval,hti,q16,hsM,hsI,hI2,hgl,hf2,fF,show(c=5)=False from aL (by omega),show(5=c)=False from aL (by omega),show(5=c')=False from aL (by omega),hcc]
  generalize hA:nT _ 2 16 50 v _=Z;obtain⟨S,hS⟩:∃S,S=sadd (sset s' c (.mit (some 5) p.2.lm.length (borns (done++[e])) p.2.lm.length)) c' (.fix 0 [.int .i64 (nE e).1,.int .i64 (nE e).2]):=⟨_,rfl⟩
  have gS:∀m,m≠c→m≠c'→sget S m=sget s' m:=fun m h1 h2=>by rw[hS,aX,aD h2,aO,aD h1]
  rw[←hS]at hA;obtain⟨v',s2,k2,hZ,hv2,hk2,ho2,hf3⟩:=own_appG enc_site (B:=c+1) (l:=done.map nE) (l':=[nE e]) (by decide) hA (hv.keep fun m b hm hb=>by rw[gS m (by omega) (fun e=>by rw[e,hf' c' (aI _)]at hb;cases hb),hb]) (by simp only[dC,hS,aX,aH];rfl) (by simp only[gP,List.length_singleton];omega) (by show c+1≤c'+1;omega) (fun m hm=>by
   have hm':c'+1≤m:=hm;show sget S m=none;rw[gS m (by omega) (by omega)];exact hf' m (by omega))
  have hk2':c'+1≤k2:=hk2;subst hZ;simp only[z1,seval];have g5:sget s2 5=some (.mp (mpE 0 p.2.lm) p.2.lm.length):=by rw[ho2 5 (by omega)];show sget S 5=_;rw[gS 5 (by omega) (by omega),hsM]
  have gc:sget s2 c=some (.mit (some 5) p.2.lm.length (borns (done++[e])) p.2.lm.length):=by rw[ho2 c (by omega)];show sget S c=_;rw[hS,aX,aD (by omega),aO,aH rfl]
  refine⟨trivial,trivial,hti,g5,gc,by omega,hf3,fun m hm=>?_,⟨v',rfl,by rw[List.map_append];exact hv2⟩,q8,q9,q10,q14,q15⟩
  rw[ho2 m (by omega)];show sget S m=_;rw[gS m (by omega) (by omega),ho' m hm]
 ·rintro done t' s' c' ⟨hc',hf',ho',⟨v,q16,hv⟩,q8,q9,q10,q14,q15⟩ hperm hti hsM;have hL:(done.map nE).Perm p.2.lm:=by have:=hperm.map nE;rwa [pairM_mpE]at this
  have hdl:(done.map nE).length=p.2.lm.length:=hL.length_eq;have hk2:((done.map nE).map Prod.fst).Nodup:=(hL.map Prod.fst).nodup_iff.2 hk;have hsp:fO (done.map nE)=fO p.2.lm:=asc_unique (tO hk2) (tO hk) ((iY _).trans (hL.trans (iY p.2.lm).symm));have hd0:done.map nE≠[]:=by intro e;rw[e]at hdl;exact hne (List.length_eq_zero_iff.1 hdl.symm)
  rcases hv with⟨_,e⟩|⟨m,_,_,_,e⟩|⟨V,ty,hV,rfl,hs,_⟩
  ·exact absurd e hd0
  ·exact absurd e hd0
  rw[vE]at hs;have hss:=sort_row hs hk2 (by omega)
  rw[hsp,hdl]at hss;rw[hdl]at q16;obtain⟨k,hkk⟩:∃k,p.2.lm.length=k+1:=⟨p.2.lm.length-1,by cases hl:p.2.lm with
   | nil=>exact absurd hl hne
   | cons a r=>simp⟩
  have hVc:V<c':=gR fun hh=>by rw[hf' V hh]at hs;cases hs
  simp only[eY,↓reduceIte,oS];rw[W_plain (by rfl)]
  unfold Lk13 Lk14 xR;rw[hkk]at q16 hss;have h6:sget s' 6=_:=(ho' 6 (by omega)).trans hq
  have h1:sget s' 1=_:=(ho' 1 (by omega)).trans h.lf.s1
  have h2:sget s' 2=_:=(ho' 2 (by omega)).trans h.lf.s2
  have h3:sget s' 3=_:=(ho' 3 (by omega)).trans s3
  have hW:sget s' W=_:=(ho' W hWc).trans sW;unfold zl0 at h1;unfold tlC tyC tl at hW;have v1:(1=V)=False:=aL (by omega)
  have v2:(2=V)=False:=aL (by omega)
  have v3:(3=V)=False:=aL (by omega)
  have v6:(6=V)=False:=aL (by omega)
  have vW:(W=V)=False:=aL (by omega)
  have w1:(1=W)=False:=aL (by omega)
  have w2:(W=1)=False:=aL (by omega)
  have w3:(W=2)=False:=aL (by omega)
  have w4:(W=3)=False:=aL (by omega)
  simp only[z0,seval,q16,fn_spec (f:=45) (g:=spSort 46) rfl rfl,spSort,own2,hss,q8,q9,q10,q14,q15,h6,h1,h2,h3,hW,v1,v2,v3,v6,vW,w1,w2,w3,w4,dU,cP,AOp.kd,zop,tks,bV,dO,dR,aV,bU];rw[zend13_ret];generalize hS9:sset (sset (sset _ _ _) _ _) _ _=S9;have u1:(V=1)=False:=aL (by omega)
  have u2:(V=2)=False:=aL (by omega)
  have u3:(V=3)=False:=aL (by omega)
  have hSV:sget S9 V=some (.grow ty (en2 (fO p.2.lm))):=by rw[←hS9];simp only[z0,seval,u1,u2,u3]
  have hS1:sget S9 1=some (.fix 40 [.int .i64 p.1.k,.int .i64 p.1.r,.int .i64 (p.1.x:Nat),.int .i64 (p.1.y:Nat),.int .i64 (p.1.z:Nat),.int .i64 (p.2.ec:Nat),.gs V 0 2 (k+1),.int .i64 (p.2.lk:Nat)]):=by rw[←hS9];simp only[z0,seval]
  have hS2:sget S9 2=some (.fix 4 [.int .i64 0]):=by rw[←hS9];simp only[z0,seval]
  have hS3:sget S9 3=some (.fix 41 [.int .i64 0]):=by rw[←hS9];simp only[z0,seval]
  simp only[z0,seval,A13,q8,q9,q10,hS1,hS2,hS3];have hpl:(en2 (fO p.2.lm)).length=2*(k+1):=by rw[nS,(iY p.2.lm).length_eq,hkk]
  have hfz:∀j,frz true (j+2) S9 (.gs V 0 2 (k+1))=some (.sl false (k+1) (en2 (fO p.2.lm))):=fun j=>by
   rw[rC,hSV];simp only[bP,fM];rw[cG (by rw[hpl];omega),aU,cX (by rw[hpl];omega),en2_frz]
   rfl
  have h20:frz true 20 S9 (.tup [.agg [.int .i64 p.1.k,.int .i64 p.1.r,.int .i64 (p.1.x:Nat),.int .i64 (p.1.y:Nat),.int .i64 (p.1.z:Nat),.int .i64 (p.2.ec:Nat),.gs V 0 2 (k+1),.int .i64 (p.2.lk:Nat)],.int .i64 0,.int .i64 0])=some (lookR p):=by
   rw[show(20:Nat)=16+2+1+1 from rfl]
   unfold lookR;rw[hkk];simp only[aQ,hfz,aN,bO]
  unfold pout;simp only[h20]
theorem exD_form(l:List Nd):∃x y,exD l=e2 x y:=by
 unfold exD;split
 ·exact⟨_,_,rfl⟩
 split
 ·exact⟨_,_,rfl⟩
 rcases eV (jQ l) (scan (kI l) (nD l) l.length 0) l.length 0 with⟨_,h2⟩|⟨j,r,_,_,h3,_,h4⟩
 ·rw[h2];rcases eV (kI l) (nD l) l.length 0 with⟨_,g2⟩|⟨j,r,_,_,g3,_,g4⟩
  ·rw[g2];unfold nD
   repeat' split
   all_goals exact⟨_,_,rfl⟩
  ·rw[g4];unfold kI at g3
   repeat' split at g3
   all_goals first|(cases g3;exact⟨_,_,rfl⟩)|cases g3
 ·rw[h4];unfold jQ at h3
  repeat' split at h3
  all_goals first|(cases h3;exact⟨_,_,rfl⟩)|cases h3
theorem exE_ok{l:List Nd}(h:exE l=0):XOk l:=by
 obtain⟨x,y,e⟩:=exD_form l;rw[exE_eq e]at h;exact⟨x,by rw[e,h]⟩
structure EnvG (us:List Nat) (vs:List Vr) (fs:List Fd):Prop where
 vl:vs.length≤32
 fl:fs.length≤16
 vt:∀x∈vs,tyE us (iG us) x.ty=0
 vn:∀(i:Nat) (h:i<vs.length),iQ vs[i].name=true∧vs[i].name∉(vs.take i).map Vr.name
 fb:∀g∈fs,XOk g.body
theorem env_ok{us:List Nat}{vs:List Vr}{fs:List Fd}(h:envE us vs fs=0):EnvG us vs fs:=by
 unfold envE at h;split at h
 ·cases h
 rename_i hl;have nm:∀{s:List UInt8} {L:List (List UInt8)},oC s L=0→iQ s=true∧s∉L:=fun {s L} hs=>by
  unfold oC at hs;split at hs
  ·rename_i h1;split at hs
   ·cases hs
   ·exact⟨h1,by assumption⟩
  ·cases hs
 rcases eV (vP us vs) (scan (dfP vs fs) 0 fs.length 0) vs.length 0 with⟨h1,h2⟩|⟨j,r,_,hj,h3,_,h4⟩
 ·rw[h2]at h;have hv:∀(i:Nat) (hi:i<vs.length),tyE us (iG us) vs[i].ty=0∧iQ vs[i].name=true∧vs[i].name∉(vs.take i).map Vr.name:=fun i hi=>by
   have:=h1 i (dD _) (by omega)
   rw[vP,aJ hi]at this;simp only at this;split at this
   ·rename_i hn;split at this
    ·exact⟨by assumption,nm hn⟩
    ·cases this
   ·cases this
  rcases eV (dfP vs fs) 0 fs.length 0 with⟨g1,g2⟩|⟨j,r,_,hj,g3,_,g4⟩
  ·refine⟨by omega,by omega,fun x hx=>?_,fun i hi=>(hv i hi).2,fun g hg=>?_⟩
   ·obtain⟨i,hi,rfl⟩:=fB hx;exact(hv i hi).1
   ·obtain⟨i,hi,rfl⟩:=fB hg;have:=g1 i (dD _) (by omega)
    rw[dfP,aJ hi]at this;simp only at this;split at this
    ·split at this
     ·rename_i hd;unfold defE at hd;split at hd
      ·split at hd
       ·split at hd
        ·cases hd
        ·exact exE_ok hd
       ·cases hd
      ·cases hd
     ·cases this
    ·cases this
  ·rw[g4]at h;subst h;have hj':j<fs.length:=by omega
   rw[dfP,aJ hj']at g3;simp only at g3;split at g3
   ·split at g3
    ·cases g3
    ·rename_i hne;exact absurd (Option.some.inj g3) hne
   ·rename_i hne;exact absurd (Option.some.inj g3) hne
 ·rw[h4]at h;subst h;have hj':j<vs.length:=by omega
  rw[vP,aJ hj']at h3;simp only at h3;split at h3
  ·split at h3
   ·cases h3
   ·rename_i hne;exact absurd (Option.some.inj h3) hne
  ·rename_i hne;exact absurd (Option.some.inj h3) hne
def lookD(n:Nat)(d e:D)(us:List Nat)(low:Nat)(vs:List Vr)(fs:List Fd)(pc ec:Int)(x:List Nd):D:=
 if ¬((0≤pc∧pc<us.length)∧0≤ec∧ec<us.length) then .tup [.agg zl0,.int .i64 0,.int .i64 7]
 else if exE x≠0 then .tup [.agg zl0,.int .i64 0,.int .i64 (exE x)]
 else match sO ⟨us,low,pc.toNat,RDl n d e⟩ (fs.length+1) fs vs x ⟨ec.toNat,0,[]⟩ with
  | .ok p=>lookR p
  | .bad a b=>.tup [.agg zl0,.int .i64 a,.int .i64 b]
section
variable (n:Nat) {ss:List (List UInt8)} {us:List Nat} {d e v f dx:D} {vs:List Vr} {fs:List Fd} {x:List Nd} (pc ec:Int)
theorem c13e(hd:Sl 1 hY ss d)(he:Sl 1 u8C us e)(hE:uQ vs fs v f){er:Int}(h22:cl n 22 [.agg [d,e,v,f]]=some (.int .i64 er,true))(h0:er≠0):cl (n+1) 13 [.agg [d,e,v,f],.int .i64 pc,.int .i64 ec,dx]=some (.tup [.agg zl0,.int .i64 0,.int .i64 er],true):=by
 refine pV (A:=A13) rfl rfl (n+1) _ rfl fun r hr=>?_
 refine(W_h13 (Q:=xR (n+1) (.tup [.agg zl0,.int .i64 0,.int .i64 er])) ?_) r hr;obtain⟨t,s,c,hz,hL⟩:=h13_env n (dx:=dx) pc ec ⟨hd.nag,hd.fz⟩ ⟨he.nag,he.fz⟩ ⟨hE.v.nag,hE.v.fz⟩ ⟨hE.f.nag,hE.f.fz⟩ h22 h0;rw[hz];exact tZ (n+1) 0 er hL
theorem c13(h:Lt ss us d e)(hE:uQ vs fs v f)(henv:envE us vs fs=0){low:Nat}(hlow:iG us=low)(hll:low<us.length)(hlb:∀i,i<us.length→(uM us low).testBit i=true)(hx:Sl 7 bW x dx)(hxl:x.length<4294967296)(hN:x.length≤400→NdOk x):
  cl (n+13) 13 [.agg [d,e,v,f],.int .i64 pc,.int .i64 ec,dx]=some (lookD n d e us low vs fs pc ec x,true):=by
 have h22:=c22 n h.d h.e h.u h.s h.c hE;rw[henv]at h22;have hG:=env_ok henv;have h42:=c42 (n+1) hx hxl hN;have h43:=c43 (n+5) h.d h.e h.u h.s h.c h.l h.h1 h.h8;obtain⟨b,hb,hb1,hb2,_⟩:=wR h.c;rw[hb2]at h43;have hbl:b=low:=by rw[hlow]at hb1;omega
 rw[hbl]at h43;obtain⟨xa,xe,hxD⟩:=exD_form x;rw[hxD]at h42;have hxe:=exE_eq hxD;unfold lookD;by_cases hr:¬((0≤pc∧pc<us.length)∧0≤ec∧ec<us.length)
 ·rw[aH hr];refine pV (A:=A13) rfl rfl (n+13) _ rfl fun r hr'=>?_
  refine(W_h13 (Q:=xR (n+13) (.tup [.agg zl0,.int .i64 0,.int .i64 7])) ?_) r hr';obtain⟨t,s,c,hz,hL⟩:=h13_rng (n+12) (dx:=dx) pc ec h hE h22 hr;rw[hz];exact tZ (n+13) 0 7 hL
 rw[aD hr];obtain⟨⟨p1,p2⟩,p3,p4⟩:=Decidable.not_not.1 hr;obtain⟨pc,rfl⟩:∃k:Nat,pc=k:=⟨pc.toNat,by omega⟩
 obtain⟨ec,rfl⟩:∃k:Nat,ec=k:=⟨ec.toNat,by omega⟩
 rw[cW,cW];by_cases h0:exE x≠0
 ·rw[aH h0];refine pV (A:=A13) rfl rfl (n+13) _ rfl fun r hr'=>?_
  refine(W_h13 (Q:=xR (n+13) (.tup [.agg zl0,.int .i64 0,.int .i64 (exE x)])) ?_) r hr';rw[hxe]at h0 ⊢;obtain⟨t,s,c,hz,hL⟩:=h13_exp (n+12) pc ec h hE h22 (by omega) (by omega) hx h42 h0
  rw[hz];exact tZ (n+13) 0 xe hL
 rw[aD h0];have hx0:exE x=0:=Decidable.not_not.1 h0;have hxo:=exE_ok hx0;rw[hxe]at hx0;rw[hx0]at h42;obtain⟨g1,g2,g3,g5,g6,gf⟩:=S44_get d e v f low pc ec;have hEO:EOk (EC n us ⟨d,e,low,pc,5,v,f⟩) ss d e:=⟨h,hlow,hll,hlb,by show pc<us.length;omega,fun p ts hl hg h0=>by
  obtain⟨t,w,c,er,e1,e2,e3⟩:=rd_ok n h p hl hg;have e1':(EC n us ⟨d,e,low,pc,5,v,f⟩).R p ts=(t,w,c,er):=e1;rw[e1']at h0 ⊢;exact e3 h0⟩
 have hxle:=hxo.ex.le;have hfo:∀g∈fs,FdOk g:=hE.fo
 have hlk:SG us (⟨ec,0,[]⟩:Lk):=⟨by show ec<us.length;omega,nofun,dD _⟩
 have hfl:=hG.fl;have h44:=f44 n (M:=5) (fs.length+1) 4096 (by omega) v f hEO fs (by omega) (by omega) hE.f hfo hG.fb vs x dx hx (hN hxle) hxo ⟨ec,0,[]⟩ .nils (S44 d e v f low pc ec) 7 6 hlk ⟨hE.v.nag,⟨v,hE.v,fun s2 _ k=>hE.v.fz (k+1) s2⟩,hE.vl,hG.vt⟩ g6 rfl g5 (by decide) (by decide) gf
 change jO _ 6 (sO ⟨us,low,pc,RDl n d e⟩ (fs.length+1) fs vs x ⟨ec,0,[]⟩) _ _ _ at h44;generalize hr2:sO ⟨us,low,pc,RDl n d e⟩ (fs.length+1) fs vs x ⟨ec,0,[]⟩=r2 at h44 ⊢;have hok:=h13_ok (n+12) pc ec h hE h22 (by omega) (by omega) hx h42 h43 h44
 cases r2 with
 | bad a b=>
  refine pV (A:=A13) rfl rfl (n+13) _ rfl fun r hr'=>?_
  refine(W_h13 (Q:=xR (n+13) (.tup [.agg zl0,.int .i64 a,.int .i64 b])) ?_) r hr';obtain⟨t,s,c,hz,hL⟩:=hok;rw[hz];exact tZ (n+13) a b hL
 | ok p=>
  refine pV (A:=A13) rfl rfl (n+13) _ rfl fun r hr'=>?_
  refine(W_h13 (Q:=xR (n+13) (lookR p)) ?_) r hr';obtain⟨t,s,c,hz,hL⟩:=hok;rw[hz];have hgb:∀g∈fs,rK g.body:=fun g hg=>(hG.fb g hg).ex
  have hkp:=wT (kp_pres _) kp_tick (fs.length+1) fs hgb vs x _ p hxo.ex (kp_tick ⟨ec,0,[]⟩ ⟨List.nodup_nil,aI _⟩) hr2;have hne:=wT (ne_pres _) (fun _ _=>trivial) (fs.length+1) fs hgb vs x _ p hxo.ex trivial hr2
  have hlk2:=(wU hEO (fs.length+1) fs hgb).2 vs x _ p hxo.ex hG.vt hlk hr2;exact t13 (n+12) _ rfl hkp.1 (by have:=hkp.2;have:=hlk2.2.lk;omega) hne hL
end
section
variable (n:Nat) {ss:List (List UInt8)} {us:List Nat} {d e:D} (h:Lt ss us d e) {a b:Nat} (ha:a<us.length) (hb:b<us.length)
include h ha hb
theorem c50:cl (n+4) 50 [.agg [d,e],.int .i64 (a:Nat),.int .i64 (b:Nat)]=some (.int .i64 0,true):=by
 rw[cN (A:=A50) rfl (n+4) _ rfl,show A50.body=B50 from rfl]
 simp only[B50,Ab.abq];have h54:=c54 n h.d h.e h.u h.s;rw[h.c]at h54;unfold e2 at h54;have ld:=h.d.len;rw[←h.l]at ld;have p1:decide (((a:Nat):Int)<0)=false:=aK (by omega)
 have p2:decide (((us.length:Nat):Int)≤(a:Nat))=false:=aK (by omega)
 have p3:decide (((b:Nat):Int)<0)=false:=aK (by omega)
 have p4:decide (((us.length:Nat):Int)≤(b:Nat))=false:=aK (by omega)
 simp only[z0,seval,h.d.nag,h.e.nag,h.d.fz,h.e.fz,aF (f:=54) rfl,aQ,h54,ld,p1,p2,p3,p4,aR,A50];rfl
theorem c53:cl (n+2) 53 [.agg [d,e],.int .i64 (a:Nat),.int .i64 (b:Nat)]=some (.int .i64 (J us a b:Nat),true):=by
 rw[cN (A:=A53) rfl (n+2) _ rfl,show A53.body=B53 from rfl]
 simp only[B53,Ab.abq];have h52:=c52 (n+1) h.e h.u (by have:=h.h8;have:=h.l;omega) ha hb
 rw[(h.j ha hb).1]at h52;simp only[z0,seval,h.d.nag,h.e.nag,h.d.fz,h.e.fz,aF (f:=52) rfl,aQ,h52,A53];rfl
theorem c17:cl (n+5) 17 [.agg [d,e],.int .i64 (a:Nat),.int .i64 (b:Nat)]=some (e2 (J us a b:Nat) 0,true):=by
 rw[cN (A:=A17) rfl (n+5) _ rfl,show A17.body=B17 from rfl]
 simp only[B17,Ab.abq];have h50:=c50 n h ha hb;have h53:=c53 (n+2) h ha hb;simp only[z0,seval,h.d.nag,h.e.nag,h.d.fz,h.e.fz,aF (f:=50) rfl,aF (f:=53) rfl,aQ,h50,h53,show decide ((0:Int)≠0)=false from rfl,A17]
 rfl
theorem c19:cl (n+5) 19 [.agg [d,e],.int .i64 (a:Nat),.int .i64 (b:Nat)]=some (.tup [.bool ((uM us a).testBit b),.int .i64 0],true):=by
 rw[cN (A:=A19) rfl (n+5) _ rfl,show A19.body=B19 from rfl]
 simp only[B19,Ab.abq];have h50:=c50 n h ha hb;have h56:=c56 (n+4) (d:=d) h.d.nag h.e h.u ha b;simp only[z0,seval,h.d.nag,h.e.nag,h.d.fz,h.e.fz,aF (f:=50) rfl,aF (f:=56) rfl,aQ,h50,h56,aR,A19];rfl
end
theorem c18(n:Nat){ss:List (List UInt8)}{us:List Nat}{d e:D}(h:Lt ss us d e){t:Ty}(ht:tyE us (iG us) t=0):cl (n+4) 18 [.agg [d,e],.agg (tyC t)]=some (.int .i64 0,true):=by
 rw[cN (A:=A18) rfl (n+4) _ rfl,show A18.body=B18 from rfl]
 simp only[B18,Ab.abq];have h54:=c54 n h.d h.e h.u h.s;rw[h.c]at h54;unfold e2 at h54;have h55:=c55 (n+1) h.d h.e h.u h.l (by have:=h.h1;have:=h.l;omega) (by have:=h.h8;have:=h.l;omega) t
 rw[ht]at h55;unfold tyC at *;simp only[z0,seval,h.d.nag,h.e.nag,h.d.fz,h.e.fz,aF (f:=54) rfl,aF (f:=55) rfl,aQ,h54,h55,show decide ((0:Int)≠0)=false from rfl,A18]
 rfl
inductive oK {α:Type} (T:α→α→Prop):List α→List α→Prop
 | nil:oK T [] []
 | cons {a b:α} {l m:List α}:T a b→oK T l m→oK T (a::l) (b::m)
theorem oK.len{α:Type}{T:α→α→Prop}:∀{l m:List α},oK T l m→l.length=m.length
 | _,_,.nil=>rfl
 | _,_,.cons _ h=>by simp[h.len]
theorem oK.take{α:Type}{T:α→α→Prop}:∀{l m:List α},oK T l m→∀n,oK T (l.take n) (m.take n)∧oK T (l.drop n) (m.drop n)
 | _,_,.nil,n=>by simp only[List.take_nil,List.drop_nil];exact⟨.nil,.nil⟩
 | _,_,.cons h h',0=>⟨.nil,.cons h h'⟩
 | _,_,.cons h h',n+1=>⟨.cons h (h'.take n).1,(h'.take n).2⟩
def VRl(T:Tl→Tl→Prop)(a b:Vr):Prop:=a.name=b.name∧T (toT a.ty) (toT b.ty)
theorem toT_tl(t:Tl):toT (tl t)=t:=by cases t;simp[toT,tl]
theorem zip_rel{T:Tl→Tl→Prop}:∀{ts us:List Tl} (ps:List (List UInt8)),oK T ts us→oK (VRl T) (oT ps ts) (oT ps us)
 | _,_,[],_=>.nil
 | _,_,_::_,.nil=>.nil
 | _,_,_::ps,.cons h h'=>.cons ⟨rfl,by rw[toT_tl,toT_tl];exact h⟩ (zip_rel ps h')
theorem vfd_rel{T:Tl→Tl→Prop}(s:List UInt8):∀{vs ws:List Vr},oK (VRl T) vs ws→match vs.find? (fun v=>decide (v.name=s)) with
  | none=>True
  | some a=>∃b,ws.find? (fun v=>decide (v.name=s))=some b∧VRl T a b
 | _,_,.nil=>trivial
 | a::l,b::m,.cons h h'=>by
  have ih:=vfd_rel s h';rw[List.find?_cons,List.find?_cons,←h.1];cases hd:decide (a.name=s) with
  | true=>exact⟨b,rfl,h⟩
  | false=>exact ih
structure Rel2 (E F:LEn) (T:Tl→Tl→Prop) (S S':Lk→Lk→Prop):Prop where
 tick:∀s t,S s t→s.lk=t.lk∧S' s.tick t.tick
 mark:∀s t x,S' s t→S (s.mark E x) (t.mark F x)
 num:∀k r:Int,(k=1∨k=2)→(r=0∨r=1)→T ⟨k,r,E.low,E.low,E.low⟩ ⟨k,r,F.low,F.low,F.low⟩
 prim:∀x ts us s t p,oK T ts us→(ts.length=1∨ts.length=2)→S' s t→pP E x ts s = .ok p→∃q,pP F x us t = .ok q∧T p.1 q.1∧S' p.2 q.2
def Ok2{α:Type}(R:α→α→Prop)(a b:Lo α):Prop:=∀p,a = .ok p→∃q,b = .ok q∧R p q
section
variable {E F:LEn} {T:Tl→Tl→Prop} {S S':Lk→Lk→Prop} (h:Rel2 E F T S S')
include h
def CalR(T:Tl→Tl→Prop)(S:Lk→Lk→Prop)(c c':Nat→List Vr→Lk→Lo (Tl×Lk)):Prop:=∀i vs ws s t,oK (VRl T) vs ws→S s t→Ok2 (fun p q=>T p.1 q.1∧S p.2 q.2) (c i vs s) (c' i ws t)
theorem node_rel{c c':Nat→List Vr→Lk→Lo (Tl×Lk)}(hc:CalR T S c c'){fs:List Fd}{vs ws:List Vr}(hv:oK (VRl T) vs ws){x:Nd}(hx:oR x)(hk:1≤x.kind∧x.kind≤6){st su:List Tl}(hst:oK T st su)(hop:opN x≤st.length){s t:Lk}(hl:s.lk=t.lk)(hs:S' s.tick t.tick):
  Ok2 (fun p q=>oK T p.1 q.1∧p.1.length=st.length-opN x+1∧S p.2 q.2) (mF E c fs vs x st s) (mF F c' fs ws x su t):=by
 intro p hp;unfold mF at hp ⊢;rw[←hl];split at hp
 ·cases hp
 rename_i hb;rw[aD hb];obtain⟨h1,h2⟩:=hst.take (opN x);have hargs:x.kind=5∨x.kind=6→(st.take (opN x)).length=1∨(st.take (opN x)).length=2:=fun h56=>by
  have hkk:=hx.kp h56;have:opN x=x.kids.toNat:=by unfold opN fA;rw[aH h56]
  rw[dM];omega
 generalize st.take (opN x)=ts at *;generalize su.take (opN x)=us at *;cases hq:pT E c fs vs x ts s.tick with
 | bad a e=>rw[hq]at hp;cases hp
 | ok q=>
  rw[hq]at hp;cases hp;have key:∃q',pT F c' fs ws x us t.tick = .ok q'∧T q.1 q'.1∧(if x.kind=6 then S q.2 q'.2 else S' q.2 q'.2):=by
   unfold pT at hq ⊢;by_cases k1:x.kind=1
   ·rw[aH k1]at hq ⊢;cases hq;exact⟨_,rfl,h.num 1 0 (.inl rfl) (.inl rfl),by rw[aD (by omega)];exact hs⟩
   rw[aD k1]at hq ⊢;by_cases k3:x.kind=3
   ·rw[aH k3]at hq ⊢;cases hq;exact⟨_,rfl,h.num 1 1 (.inl rfl) (.inr rfl),by rw[aD (by omega)];exact hs⟩
   rw[aD k3]at hq ⊢;by_cases k2:x.kind=2
   ·rw[aH k2]at hq ⊢;cases hq;exact⟨_,rfl,h.num 2 1 (.inr rfl) (.inr rfl),by rw[aD (by omega)];exact hs⟩
   rw[aD k2]at hq ⊢;by_cases k4:x.kind=4
   ·rw[aH k4]at hq ⊢;have hf:=vfd_rel x.name hv;unfold nameM at hq ⊢;split at hq
    ·cases hq
    ·rename_i a ha;cases hq;rw[ha]at hf;obtain⟨b,hb,hab⟩:=hf;rw[hb];exact⟨_,rfl,hab.2,by rw[aD (by omega)];exact hs⟩
   rw[aD k4]at hq ⊢;by_cases k5:x.kind=5
   ·rw[aH k5]at hq ⊢;obtain⟨q',g1,g2,g3⟩:=h.prim x ts us _ _ q h1 (hargs (.inl k5)) hs hq;exact⟨q',g1,g2,by rw[aD (by omega)];exact g3⟩
   rw[aD k5]at hq ⊢;have k6:x.kind=6:=by omega
   unfold calM at hq ⊢;cases hfi:fs.findIdx? (fun f=>decide (f.name=x.name)) with
   | none=>rw[hfi]at hq;cases hq
   | some i=>
    rw[hfi]at hq;simp only at hq ⊢;cases hg:fs[i]? with
    | none=>rw[hg]at hq;cases hq
    | some g=>
     rw[hg]at hq;simp only at hq ⊢;rw[←h1.len];split at hq
     ·cases hq
     rename_i hps;rw[aD hps];obtain⟨q',g1,g2,g3⟩:=hc i _ _ _ _ (zip_rel g.ps h1) (h.mark _ _ x.site hs) q hq;exact⟨q',g1,g2,by rw[aH k6];exact g3⟩
  obtain⟨q',g1,g2,g3⟩:=key;rw[g1];refine⟨_,rfl,.cons g2 h2,by simp,?_⟩
  show S (if x.kind=6 then q.2 else q.2.mark E x.site) (if x.kind=6 then q'.2 else q'.2.mark F x.site)
  by_cases k6:x.kind=6
  ·rw[aH k6,aH k6];rw[aH k6]at g3;exact g3
  ·rw[aD k6,aD k6];rw[aD k6]at g3;exact h.mark _ _ _ g3
theorem run_rel{c c':Nat→List Vr→Lk→Lo (Tl×Lk)}(hc:CalR T S c c'){fs:List Fd}{vs ws:List Vr}(hv:oK (VRl T) vs ws):∀(l:List Nd) (st su:List Tl) (s t:Lk) (b:Nat),(∀x∈l,oR x∧1≤x.kind∧x.kind≤6)→pW l st.length b→oK T st su→(l≠[]∧s.lk=t.lk∧S' s.tick t.tick∨S s t) →
  Ok2 (fun p q=>oK T p.1 q.1∧p.1.length=b∧S p.2 q.2) (kL E c fs vs l st s) (kL F c' fs ws l su t)
 | [],st,su,s,t,b,_,hS,hst,hs=>fun p hp=>by
  cases hp;rcases hs with⟨hn,_⟩|hs
  ·exact absurd rfl hn
  ·exact⟨_,rfl,hst,hS,hs⟩
 | x::r,st,su,s,t,b,hx,hS,hst,hs=>fun p hp=>by
  rw[kL]at hp ⊢;obtain⟨h1,h2⟩:=hx x (bL ..);have hs':s.lk=t.lk∧S' s.tick t.tick:=hs.elim (fun h=>h.2) (h.tick s t)
  cases hq:mF E c fs vs x st s with
  | bad a e=>rw[hq]at hp;cases hp
  | ok q=>
   rw[hq]at hp;obtain⟨q',g1,g2,g3,g4⟩:=node_rel h hc hv h1 h2 hst hS.1 hs'.1 hs'.2 q hq;rw[g1];exact run_rel hc hv r q.1 q'.1 q.2 q'.2 b (fun y hy=>hx y (bJ _ hy)) (by rw[g3];exact hS.2) g2 (.inr g4) p hp
theorem lok_rel:∀(f:Nat) (fs:List Fd),(∀g∈fs,rK g.body)→∀(vs ws:List Vr) (x:List Nd) (s t:Lk),oK (VRl T) vs ws→rK x→s.lk=t.lk→S' s.tick t.tick→Ok2 (fun p q=>T p.1 q.1∧S p.2 q.2) (sO E f fs vs x s) (sO F f fs ws x t)
 | 0,_,_,_,_,_,_,_,_,_,_,_=>fun p hp=>by cases hp
 | f+1,fs,hf,vs,ws,x,s,t,hv,hx,hl,hs=>fun p hp=>by
  rw[tW]at hp ⊢;have hc:CalR T S (pO E f fs) (pO F f fs):=fun i vs ws s t hv hs=>by
   unfold pO;cases hg:fs[i]? with
   | none=>exact fun p hp=>by cases hp
   | some g=>
    obtain⟨hi,rfl⟩:=cH.1 hg;have:=h.tick s t hs;exact lok_rel f (fs.take i) (fun g hg=>hf g (eQ hg)) vs ws _ s t hv (hf _ (cA hi)) this.1 this.2
  cases hr:kL E (pO E f fs) fs vs (fY x) [] s with
  | bad a e=>rw[hr]at hp;cases hp
  | ok q=>
   obtain⟨q',g1,g2,g3,g4⟩:=run_rel h hc hv (fY x) [] [] s t 1 (pS hx) (mH hx) .nil (.inl ⟨nodes_ne hx,hl,hs⟩) q hr;rw[hr]at hp;rw[g1];obtain⟨st,sm⟩:=q;obtain⟨su,sn⟩:=q'
   match st,su,g2,g3 with
   | [u],[v],.cons g5 _,_=>cases hp;exact⟨_,rfl,g5,g4⟩
end
def Le(us:List Nat)(a b:Nat):Prop:=(uM us a).testBit b=true
section
variable {ss:List (List UInt8)} {us:List Nat} {d e:D} (h:Lt ss us d e)
include h
theorem ord_lt:∀a,a<us.length→kN us.length (uM us) a=true:=by
 obtain⟨h1,_,h3⟩:=CHK_ord h.c;rw[h1];exact h3
theorem jm{a b:Nat}(ha:a<us.length)(hb:b<us.length):uM us (J us a b)=uM us a&&&uM us b:=by
 have hj:=(h.j ha hb).1;unfold kC at hj;rcases eV (lR (uM us) a b) (-1) us.length 0 with⟨_,h2⟩|⟨m,r,_,_,h3,_,h4⟩
 ·rw[h2]at hj;omega
 ·rw[h4]at hj;unfold lR at h3;cases hb:Nat.beq (uM us m) (uM us a&&&uM us b) with
  | false=>rw[hb]at h3;cases h3
  | true=>
   rw[hb]at h3;have:(m:Int)=r:=Option.some.inj h3;rw[←aS hb,show m=J us a b by omega]
theorem le_refl{a:Nat}(ha:a<us.length):Le us a a:=(sI (ord_lt h) ha).1
theorem le_trans{a b c:Nat}(ha:a<us.length)(hb:b<us.length)(hc:c<us.length)(h1:Le us a b)(h2:Le us b c):Le us a c:=ord_trans (ord_lt h) ha hb hc h1 h2
theorem le_J{a b:Nat}(ha:a<us.length)(hb:b<us.length):Le us a (J us a b)∧Le us b (J us a b):=by
 have hj:=(h.j ha hb).2;have:=le_refl h hj;unfold Le at this ⊢;rw[jm h ha hb,Nat.testBit_and,bK]at this;exact this
theorem J_le{a b c:Nat}(ha:a<us.length)(hb:b<us.length)(h1:Le us a c)(h2:Le us b c):Le us (J us a b) c:=by
 unfold Le at *;rw[jm h ha hb,Nat.testBit_and,h1,h2];rfl
theorem J_mono{a b c:Nat}(ha:a<us.length)(hb:b<us.length)(hc:c<us.length)(hbc:Le us b c):Le us (J us a b) (J us a c):=
 J_le h ha hb (le_J h ha hc).1 (le_trans h hb hc (h.j ha hc).2 hbc (le_J h ha hc).2)
theorem le_af{a w c:Nat}(ha:a<us.length)(hw:w<us.length)(hc:c<us.length):Le us a (afN us a w c)∧afN us a w c<us.length:=
 ⟨le_trans h ha (h.j ha hw).2 (h.j (h.j ha hw).2 hc).2 (le_J h ha hw).1 (le_J h (h.j ha hw).2 hc).1,(h.j (h.j ha hw).2 hc).2⟩
end
theorem setM_mem2:∀{l:List (Int×Int)} {x:Int} {n:Nat} {q:Nat×Int} {v:Int} {p:Int×Int},rR l x n=some q→p∈setM l (q.1-n) v→p∈l∨(p=(x,v)∧(x,q.2)∈l)
 | [],_,_,_,_,_,h,_=>by cases h
 | r::l,x,n,q,v,p,h,hp=>by
  unfold rR at h;split at h
  ·rename_i e;cases h;rw[Nat.sub_self]at hp;rcases bN.1 hp with rfl|hp
   ·exact .inr ⟨by rw[e],by rw[e];exact bL ..⟩
   ·exact .inl (bJ _ hp)
  ·have hle:∀{l:List (Int×Int)} {x:Int} {n:Nat} {q:Nat×Int},rR l x n=some q→n≤q.1:=fun {l}=>by
    induction l with
    | nil=>intro x n q h;cases h
    | cons a l ih=>
     intro x n q h;unfold rR at h;split at h
     ·cases h;exact aI _
     ·have:=ih h;omega
   have:=hle h;rw[show q.1-n=(q.1-(n+1))+1 by omega]at hp
   rcases bN.1 hp with rfl|hp
   ·exact .inl (bL ..)
   ·rcases setM_mem2 h hp with h1|⟨h1,h2⟩
    ·exact .inl (bJ _ h1)
    ·exact .inr ⟨h1,bJ _ h2⟩
theorem mkL_mem{us:List Nat}{lm:List (Int×Int)}{x:Int}{now:Nat}{p:Int×Int}(hp:p∈mkL us lm x now):p∈lm∨p=(x,(now:Int))∨∃o,(x,o)∈lm∧p=(x,((J us now o.toNat:Nat):Int)):=by
 unfold mkL at hp;cases hq:rR lm x 0 with
 | none=>
  rw[hq]at hp;rcases List.mem_append.1 hp with hp|hp
  ·exact .inl hp
  ·exact .inr (.inl (dJ.1 hp))
 | some q=>
  rw[hq]at hp;rcases setM_mem2 hq hp with h1|⟨h1,h2⟩
  ·exact .inl h1
  ·exact .inr (.inr ⟨_,h2,h1⟩)
def EqG(us:List Nat)(a b:Tl):Prop:=a=b∧TG us a
theorem eqG_all{us:List Nat}:∀{l m:List Tl},oK (EqG us) l m→l=m∧∀t∈l,TG us t
 | _,_,.nil=>⟨rfl,nofun⟩
 | a::_,_,.cons h h'=>by
  obtain⟨rfl,h1⟩:=h;obtain⟨rfl,h2⟩:=eqG_all h';exact⟨rfl,fun t ht=>(bN.1 ht).elim (fun e=>e▸h1) (h2 t)⟩
def BH(us:List Nat)(pc ec:Nat)(s:Lk):Prop:=s.ec<us.length∧Le us ec s.ec∧∀p∈s.lm,∃k:Nat,p.2=k∧k<us.length∧Le us (J us pc ec) k∧Le us k (J us pc s.ec)
theorem prim_ok{E:LEn}{ss:List (List UInt8)}{d e:D}(h:EOk E ss d e){x:Nd}{ts:List Tl}{s:Lk}{p:Tl×Lk}(hl:ts.length=1∨ts.length=2)(hg:∀t∈ts,TG E.us t)(hp:pP E x ts s = .ok p):
  TG E.us p.1∧∃w c:Nat,w<E.us.length∧c<E.us.length∧(∀s',pP E x ts s' = .ok (p.1,⟨afN E.us s'.ec w c,s'.lk,s'.lm⟩)):=by
 unfold pP at hp;split at hp
 ·cases hp
 split at hp
 ·cases hp
 rename_i h0 hE;obtain⟨⟨w,hw,hw2⟩,⟨c,hc,hc2⟩⟩:=h.R x.prim ts hl hg (Decidable.not_not.1 h0);cases hp;refine⟨(uS (Decidable.not_not.1 hE)).2,w,c,hw2,hc2,fun s'=>?_⟩
 unfold pP;rw[aD h0,aD hE,hw,hc,cW,cW]
theorem beh_rel{E:LEn}{ss:List (List UInt8)}{d e:D}(h:EOk E ss d e){ec:Nat}(hec:ec<E.us.length):Rel2 E E (EqG E.us) (fun s t=>s=t∧BH E.us E.pc ec s) (fun s t=>s=t∧BH E.us E.pc ec s) where
 tick s t:=by rintro⟨rfl,hb⟩;exact⟨rfl,rfl,hb⟩
 num k r hk hr:=⟨rfl,h.tg hk hr⟩
 mark s t x:=by
  rintro⟨rfl,h1,h2,h3⟩;refine⟨rfl,h1,h2,fun p hp=>?_⟩
  have hj:=h.lt.j h.pc h1;have hj0:=h.lt.j h.pc hec;have hm:=J_mono h.lt h.pc hec h1 h2;rcases mkL_mem hp with hp|rfl|⟨o,ho,rfl⟩
  ·exact h3 p hp
  ·exact⟨_,rfl,hj.2,hm,le_refl h.lt hj.2⟩
  ·obtain⟨k,hk,hk2,hk3,hk4⟩:=h3 _ ho;have hk:o=(k:Int):=hk;subst hk;rw[cW];have hjk:=h.lt.j hj.2 hk2;exact⟨_,rfl,hjk.2,le_trans h.lt hj0.2 hj.2 hjk.2 hm (le_J h.lt hj.2 hk2).1,J_le h.lt hj.2 hk2 (le_refl h.lt hj.2) hk4⟩
 prim x ts us s t p:=by
  intro hT hl;rintro⟨rfl,h1,h2,h3⟩ hp;obtain⟨rfl,hg⟩:=eqG_all hT;obtain⟨g1,w,c,hw,hc,hs⟩:=prim_ok h hl hg hp;have hp2:=hs s;rw[hp]at hp2;have e2:p.2=⟨afN E.us s.ec w c,s.lk,s.lm⟩:=by
   have:=congrArg (fun r=>match r with|Lo.ok p=>p.2|_=>s) hp2
   exact this
  refine⟨p,hp,⟨rfl,g1⟩,rfl,?_⟩;rw[e2];obtain⟨a1,a2⟩:=le_af h.lt h1 hw hc;refine⟨a2,le_trans h.lt hec h1 a2 h2 a1,fun q hq=>?_⟩
  obtain⟨k,hk,hk2,hk3,hk4⟩:=h3 q hq;exact⟨k,hk,hk2,hk3,le_trans h.lt hk2 (h.lt.j h.pc h1).2 (h.lt.j h.pc a2).2 hk4 (J_mono h.lt h.pc h1 a2 a1)⟩
def Bd{α:Type}(r:Lo α):Prop:=∀a e,r = .bad a e→e≠0
theorem node_bad{E:LEn}{cal:Nat→List Vr→Lk→Lo (Tl×Lk)}{fs:List Fd}(hc:∀i vs s,i<fs.length→(∀v∈vs,tyE E.us (iG E.us) v.ty=0)→SG E.us s→Bd (cal i vs s)){ss:List (List UInt8)}{d e:D}(h:EOk E ss d e){vs:List Vr}{x:Nd}{st:List Tl}{s:Lk}(hg:∀t∈st,TG E.us t)(hs:SG E.us s):Bd (mF E cal fs vs x st s):=by
 intro a b hp;unfold mF at hp;split at hp
 ·cases hp;decide
 rename_i hb;split at hp
 ·cases hp
 rename_i a' b' hq;cases hp;unfold pT at hq;split at hq
 ·cases hq
 split at hq
 ·cases hq
 split at hq
 ·cases hq
 split at hq
 ·unfold nameM at hq;split at hq
  ·cases hq;decide
  ·cases hq
 split at hq
 ·unfold pP at hq;split at hq
  ·cases hq;assumption
  split at hq
  ·cases hq;assumption
  ·cases hq
 ·unfold calM at hq;split at hq
  ·cases hq;decide
  rename_i i hi;obtain⟨hil,_⟩:=List.findIdx?_eq_some_iff_getElem.1 hi;rw[aJ hil]at hq;simp only at hq;split at hq
  ·cases hq;decide
  rename_i hps;refine hc _ _ _ hil (fun v hv=>?_) ((show SG E.us s.tick from⟨hs.ec,hs.lb,by show s.lk+1≤2000;omega⟩).mark h _) _ _ hq
  obtain⟨k,hk,rfl⟩:=fB hv;have hgl:=Decidable.not_not.1 hps;have hk':k<(st.take (opN x)).length:=by rw[pL hgl]at hk;exact hk
  have e:(oT fs[i].ps (st.take (opN x)))[k]=⟨fs[i].ps[k],tl (st.take (opN x))[k]⟩:=List.getElem_zipWith;rw[e];exact(hg _ (eQ (cA hk'))).2.2
theorem run_bad{E:LEn}{cal:Nat→List Vr→Lk→Lo (Tl×Lk)}{fs:List Fd}(hc:∀i vs s,i<fs.length→(∀v∈vs,tyE E.us (iG E.us) v.ty=0)→SG E.us s→Bd (cal i vs s)){ss:List (List UInt8)}{d e:D}(h:EOk E ss d e)(hco:CalOk E cal){vs:List Vr}(hv:∀v∈vs,tyE E.us (iG E.us) v.ty=0):∀(l:List Nd) (st:List Tl) (s:Lk) (b:Nat),(∀x∈l,oR x∧1≤x.kind∧x.kind≤6)→pW l st.length b→(∀t∈st,TG E.us t)→SG E.us s→Bd (kL E cal fs vs l st s)
 | [],_,_,_,_,_,_,_=>fun _ _ hp=>by cases hp
 | x::r,st,s,b,hx,hS,hg,hs=>fun a e' hp=>by
  rw[kL]at hp;cases hq:mF E cal fs vs x st s with
  | bad a' e2=>rw[hq]at hp;cases hp;exact node_bad hc h hg hs _ _ hq
  | ok q=>
   rw[hq]at hp;obtain⟨h1,h2⟩:=hx x (bL ..);obtain⟨g1,g2,g3⟩:=node_inv h hco hv h1 hS.1 h2 hg hs hq;exact run_bad hc h hco hv r q.1 q.2 b (fun y hy=>hx y (bJ _ hy)) (by rw[g3];exact hS.2) g1 g2 a e' hp
theorem lok_bad{E:LEn}{ss:List (List UInt8)}{d e:D}(h:EOk E ss d e):∀(f:Nat) (fs:List Fd),fs.length<f→(∀g∈fs,rK g.body)→∀(vs:List Vr) (x:List Nd) (s:Lk),rK x→(∀v∈vs,tyE E.us (iG E.us) v.ty=0)→SG E.us s→Bd (sO E f fs vs x s)
 | 0,fs,hl,_,_,_,_,_,_,_=>by omega
 | f+1,fs,hl,hf,vs,x,s,hx,hv,hs=>fun a b hp=>by
  rw[tW]at hp;have hco:=(wU h f fs hf).1;have hc:∀i vs s,i<fs.length→(∀v∈vs,tyE E.us (iG E.us) v.ty=0)→SG E.us s→Bd (pO E f fs i vs s):=fun i vs s hi hv hs=>by
   unfold pO;rw[aJ hi];exact lok_bad h f (fs.take i) (by rw[dM];omega) (fun g hg=>hf g (eQ hg)) vs _ s (hf _ (cA hi)) hv hs
  cases hr:kL E (pO E f fs) fs vs (fY x) [] s with
  | bad a' e'=>rw[hr]at hp;cases hp;exact run_bad hc h hco hv (fY x) [] s 1 (pS hx) (mH hx) nofun hs _ _ hr
  | ok q=>
   obtain⟨_,_,g3⟩:=run_inv h hco hv (fY x) [] s q 1 (pS hx) (mH hx) nofun hs hr;rw[hr]at hp;obtain⟨st,sm⟩:=q
   match st,g3 with
   | [t],_=>cases hp
def nmN(s:List UInt8):Nd:=⟨4,0,0,s,[],0,7⟩
theorem nm_ex{s:List UInt8}(hs:iQ s=true):exD [nmN s]=e2 0 0:=by
 have hw:kT (nmN s)=0:=by
  unfold kT nmN surB;simp only[hs];have:cntI []=0:=rfl;simp[this]
 have hl:∀j,kI [nmN s] j=none:=fun j=>by
  unfold kI;split
  ·rename_i x hx;cases j with
   | zero=>cases hx;rw[aD (by rintro⟨h,_⟩;cases h)]
   | succ j=>cases hx
  ·rfl
 have hwp:∀j,jQ [nmN s] j=none:=fun j=>by
  unfold jQ;split
  ·rename_i x hx;cases j with
   | zero=>cases hx;rw[aH hw]
   | succ j=>cases hx
  ·rfl
 unfold exD;rw[aD (by simp),aD (by simp),gN fun j _=>hwp j,gN fun j _=>hl j]
 have he:eN [nmN s] 0=1:=by
  rw[eN_eq (by simp)]
  simp[nmN,fA]
 unfold nD;rw[he,aD (by simp),aD (by simp)]
 have hd:dN [nmN s] 0≤24:=by
  unfold dN;simp[dQ,kidsL,nmN,fA]
 rw[aD (by omega)]
theorem nm_nodes(s:List UInt8):fY [nmN s]=[nmN s]:=by
 unfold fY jC chN;simp[chF]
theorem nm_look{E:LEn}{fs:List Fd}{vs:List Vr}{i:Nat}(hi:i<vs.length)(hn:vs[i].name∉(vs.take i).map Vr.name)(f ec:Nat):sO E (f+1) fs vs [nmN vs[i].name] ⟨ec,0,[]⟩ = .ok (toT vs[i].ty,⟨ec,1,[(7,(J E.us E.pc ec:Nat))]⟩):=by
 have hf:vs.find? (fun v=>decide (v.name=vs[i].name))=some vs[i]:=List.find?_eq_some_iff_getElem.2 ⟨by simp,i,hi,rfl,fun j hj=>by
  have:vs[j].name≠vs[i].name:=fun e=>hn (by rw[←e];exact cR.2 ⟨vs[j],List.mem_take_iff_getElem.2 ⟨j,by omega,rfl⟩,rfl⟩)
  simpa using this⟩
 rw[tW,nm_nodes,kL,mF];rw[aD (show ¬2000<0+1 by decide)]
 have hk:(nmN vs[i].name).kind=4:=rfl;unfold pT;rw[aD (by omega),aD (by omega),aD (by omega),aH hk]
 unfold nameM;rw[show(nmN vs[i].name).name=vs[i].name from rfl,hf]
 rfl
theorem latD_cases(n:Nat)(u:Nat→Nat):rS n u=e2 0 0∨∃a:Int,rS n u=e2 a 4:=by
 unfold rS;rcases eV (wV n u) (e2 0 0) n 0 with⟨_,h⟩|⟨m,r,_,h2,h3,_,h5⟩
 ·exact .inl h
 ·rw[h5];unfold wV at h3;cases hb:latB n u m<;>rw[hb]at h3
  ·cases h3;exact .inr ⟨m,rfl⟩
  ·cases h3
theorem CHK_cases(ss:List (List UInt8))(us:List Nat):(CHK ss us=e2 0 0∧us.length=ss.length∧1≤ss.length∧ss.length≤8∧(∀a,a<ss.length→kN ss.length (uM us) a=true))∨∃a er:Int,CHK ss us=e2 a er∧er≠0:=by
 unfold CHK;rcases lT ss with⟨h1,h2⟩|⟨h1,a,er,h2,h3⟩
 ·rw[aH h1];have hn:=kV.1 h1;by_cases hl:us.length=ss.length
  ·rw[aH hl];unfold ordD;rcases eV (pE ss.length (uM us)) (rS ss.length (uM us)) ss.length 0 with⟨hb,h⟩|⟨m,r,_,h2,h3,_,h5⟩
   ·rw[h];rcases latD_cases ss.length (uM us) with h'|⟨a,h'⟩
    ·refine .inl ⟨h',hl,hn.1.1,hn.1.2,fun a ha=>?_⟩
     have:=hb a (by omega) (by omega)
     unfold pE at this;cases ho:kN ss.length (uM us) a
     ·rw[ho]at this;cases this
     ·rfl
    ·exact .inr ⟨a,4,h',by decide⟩
   ·rw[h5];unfold pE at h3;cases hb:kN ss.length (uM us) m<;>rw[hb]at h3
    ·cases h3;exact .inr ⟨_,_,rfl,by decide⟩
    ·cases h3
  ·rw[aD hl];exact .inr ⟨_,_,rfl,by decide⟩
 ·rw[aD (by rw[h1];decide)];exact .inr ⟨a,er,h2,h3⟩
structure FdIn (f:Fd):Prop where
 p:Sl 1 hY f.ps f.pd
 b:Sl 7 bW f.body f.bd
structure FdSm (f:Fd):Prop where
 nm:f.name.length≤100
 pl:f.ps.length≤4
 b:NotLong f.body
 pn:∀s∈f.ps,s.length≤100
def NotLarge(ss:List (List UInt8))(us:List Nat)(vs:List Vr)(fs:List Fd):Prop:=vK ss us=false∧vs.length≤40∧fs.length≤20∧(∀x∈vs,x.name.length≤100)∧∀x∈fs,FdSm x
def Out10(n:Nat)(ss:List (List UInt8))(us:List Nat)(vs:List Vr)(fs:List Fd)(r:R):Prop:=∃b,pout (zbody (dfn n MM) A10 r)=some (.bool b,true)∧(b=false→NotLarge ss us vs fs)
theorem B10_eq:B10=(.seq (.reg none [⟨(some 1),(.new 30 (.t 0)),none⟩,⟨(some 2),(.mv (.c (.bool false))),none⟩]) (.seq (.seq (.reg none [⟨(some 3),(.mv (.c (.int .i64 0))),none⟩]) (.block 0 (.loop (.seq (.seq (.reg none [⟨(some 7),(.mv (.t 3)),none⟩,⟨(some 8),(.fa 2 (.t 1)),none⟩,⟨(some 9),(.ld none (.t 8)),none⟩,⟨(some 10),(.len false (.t 9)),none⟩,⟨(some 11),(.bin .lss (.t 7) (.t 10)),none⟩,⟨(some 12),(.mv (.t 11)),none⟩,⟨(some 13),(.mv (.t 3)),(some (12,true))⟩,⟨(some 14),(.bin .lss (.t 13) (.c (.int .i64 50))),(some (12,true))⟩,⟨(some 15),(.pick (.t 12) (.t 14) (.c (.bool false))),none⟩]) (.cond (.t 15) .skip (.exit 0))) (.seq (.block 2 (.seq (.reg none [⟨(some 18),(.fa 2 (.t 1)),none⟩,⟨(some 19),(.ld none (.t 18)),none⟩,⟨(some 20),(.mv (.t 3)),none⟩,⟨(some 21),(.iaS 6 (.t 19) (.t 20)),none⟩,⟨(some 22),(.fa 0 (.t 21)),none⟩,⟨(some 23),(.ld none (.t 22)),none⟩,⟨(some 24),(.len true (.t 23)),none⟩,⟨(some 25),(.bin .gtr (.t 24) (.c (.int .i64 100))),none⟩]) (.cond (.t 25) (.seq (.reg none [⟨(some 2),(.mv (.c (.bool true))),none⟩]) .ret) .skip))) (.reg none [⟨(some 16),(.mv (.t 3)),none⟩,⟨(some 17),(.bin .add (.t 16) (.c (.int .i64 1))),none⟩,⟨(some 3),(.mv (.t 17)),none⟩])))))) W10)):=rfl
theorem out10{n:Nat}{ss:List (List UInt8)}{us:List Nat}{vs:List Vr}{fs:List Fd}{t:Tm}{s:St}{c:Nat}(h:tget t 2 = .bool true):Out10 n ss us vs fs (.ok .ret ⟨t,s,c,[],none⟩):=
 ⟨true,by simp only[z2,seval,A10,h];rfl,nofun⟩
theorem Z10_ok(n:Nat){ss:List (List UInt8)}{us:List Nat}{d e v f:D}{vs:List Vr}{fs:List Fd}(hd:Sl 1 hY ss d)(he:Sl 1 u8C us e)(hv:Sl 6 vrC vs v)(hf:Sl 3 fdC fs f){t:Tm}{s:St}{c:Nat}(s0:sget s 0=some (.fix 30 [d,e,v,f]))(q1:tget t 1 = .ptr 0 0)
  (hvn:vs.length≤50→∀x∈vs,x.name.length≤100) (hfn:fs.length≤30→∀x∈fs,FdSm x):Out10 (n+1) ss us vs fs (zC Z10 (cxn (n+1)) (fn (n+1) 4096) KK ⟨t,s,c,[],none⟩):=by
 simp only[Z10,Ab.abq];have h28:=c28 n hd he;have htk:dH [d,e,v,f] 0 (some 2)=some (.agg [d,e]):=rfl;cases hL:vK ss us
 ·rw[hL]at h28;by_cases h40:40<vs.length
  ·have k1:decide ((40:Int)<(vs.length:Nat))=true:=dT (by omega)
   simp only[z2,seval,s0,q1,htk,aF (f:=28) rfl,aQ,hd.fz,he.fz,h28,hv.len,k1,nb];exact out10 (by simp[aE])
  ·have k1:decide ((40:Int)<(vs.length:Nat))=false:=dF (by omega)
   by_cases h20:20<fs.length
   ·have k2:decide ((20:Int)<(fs.length:Nat))=true:=dT (by omega)
    simp only[z2,seval,s0,q1,htk,aF (f:=28) rfl,aQ,hd.fz,he.fz,h28,hv.len,hf.len,k1,k2,nb];exact out10 (by simp[aE])
   ·have k2:decide ((20:Int)<(fs.length:Nat))=false:=dF (by omega)
    simp only[z2,seval,s0,q1,htk,aF (f:=28) rfl,aQ,hd.fz,he.fz,h28,hv.len,hf.len,k1,k2,nb];exact⟨false,by simp only[z2,seval,A10];rfl,fun _=>⟨hL,by omega,by omega,hvn (by omega),hfn (by omega)⟩⟩
 ·rw[hL]at h28;simp only[z2,seval,s0,q1,htk,aF (f:=28) rfl,aQ,hd.fz,he.fz,h28,nb];exact out10 (by simp[aE])
theorem W10_ok(n:Nat){ss:List (List UInt8)}{us:List Nat}{d e v f:D}{vs:List Vr}{fs:List Fd}(hd:Sl 1 hY ss d)(he:Sl 1 u8C us e)(hv:Sl 6 vrC vs v)(hf:Sl 3 fdC fs f)(hfs:∀x∈fs,FdIn x){t:Tm}{s:St}{c:Nat}(s0:sget s 0=some (.fix 30 [d,e,v,f]))(hc:1≤c)(q1:tget t 1 = .ptr 0 0)
  (hvn:vs.length≤50→∀x∈vs,x.name.length≤100):Out10 (n+1) ss us vs fs (zC W10 (cxn (n+1)) (fn (n+1) 4096) KK ⟨t,s,c,[],none⟩):=by
 simp only[W10,Ab.abq];simp only[z2,seval];generalize hz:zloop KK _ _=rl;have hN:min fs.length 30≤30:=Nat.min_le_right _ _;refine zfor rl hz (min fs.length 30) (fI (by omega)) (by omega) (fun i t s c=>sget s 0=some (.fix 30 [d,e,v,f])∧1≤c∧tget t 1 = .ptr 0 0∧∀j,j<i→∀h:j<fs.length,FdSm fs[j]) (by simp[aE]) ⟨s0,hc,by simp[aE,q1],nofun⟩ ?_
 clear hz s0 hc q1;rintro i t s c hi ⟨s0,hc,q1,hn⟩ q4;by_cases hlt:i<fs.length
 ·by_cases h30:i<30
  ·have k1:decide ((i:Int)<30)=true:=dT (by omega)
   have hrow:=hf.row hlt;have hx:=hfs _ (cA hlt);have hpn:=hx.p.nag;have hbn:=hx.b.nag;have f0:(0=c)=False:=aL (by omega)
   have htk:∀a b c:D,dH [a,b,c] 0 (some 3)=some (.agg [a,b,c]):=fun _ _ _=>rfl
   obtain⟨b,h11,hb⟩:=c11 n hx.b;by_cases e1:100<fs[i].name.length
   ·have k2:decide ((100:Int)<(fs[i].name.length:Nat))=true:=dT (by omega)
    simp only[z2,seval,s0,f0,q1,q4,hf.len,eD hlt,k1,hf.ia hlt,hrow,fdC,htk,hpn,hbn,k2,nb];exact out10 (by simp[aE])
   ·have k2:decide ((100:Int)<(fs[i].name.length:Nat))=false:=dF (by omega)
    by_cases e2:4<fs[i].ps.length
    ·have k3:decide ((4:Int)<(fs[i].ps.length:Nat))=true:=dT (by omega)
     simp only[z2,seval,s0,f0,q1,q4,hf.len,eD hlt,k1,hf.ia hlt,hrow,fdC,htk,hpn,hbn,k2,hx.p.len,k3,nb];exact out10 (by simp[aE])
    ·have k3:decide ((4:Int)<(fs[i].ps.length:Nat))=false:=dF (by omega)
     cases b
     ·have hB:=hb rfl;have hp:=hx.p;have hlen:=hp.len;simp only[z2,seval,s0,f0,q1,q4,hf.len,eD hlt,k1,hf.ia hlt,hrow,fdC,htk,hpn,hbn,k2,hlen,k3,aF (f:=11) rfl,aQ,hx.b.fz,h11,nb];generalize hS:sset (sadd s c _) c _=S;generalize hz:zloop KK _ _=rl2;have sc:sget S c=some (.fix 79 [.str fs[i].name,fs[i].pd,fs[i].bd]):=by rw[←hS];simp[aE]
      have s0':sget S 0=some (.fix 30 [d,e,v,f]):=by rw[←hS];simp only[aE,f0,gF];exact s0
      refine zfor rl2 hz fs[i].ps.length (fI (by omega)) (by omega) (fun k t s' c'=>s'=S∧c'=c+1∧tget t 1 = .ptr 0 0∧tget t 4 = .int .i64 (i:Nat)∧tget t 5 = .ptr c 0∧∀j,j<k→∀h:j<fs[i].ps.length,fs[i].ps[j].length≤100) (by simp[aE]) ⟨rfl,rfl,by simp[aE,q1],by simp[aE,q4],by simp[aE],nofun⟩ ?_
      clear hz q4 hS;rintro k t s' c' hk ⟨rfl,rfl,q1,q4,q5,hn2⟩ q6;by_cases hkl:k<fs[i].ps.length
      ·by_cases e3:100<fs[i].ps[k].length
       ·have k4:decide ((100:Int)<(fs[i].ps[k].length:Nat))=true:=dT (by omega)
        simp only[z2,seval,sc,q1,q4,q5,q6,hlen,eD hkl,hp.ia1 hkl,hp.at1 hkl,hY,k4,nb];exact out10 (by simp[aE])
       ·have k4:decide ((100:Int)<(fs[i].ps[k].length:Nat))=false:=dF (by omega)
        simp only[z2,seval,sc,q1,q4,q5,q6,hlen,eD hkl,hp.ia1 hkl,hp.at1 hkl,hY,k4,nb];refine⟨hkl,trivial,trivial,trivial,trivial,trivial,trivial,trivial,trivial,fun j hj h=>?_⟩
        rcases dB.1 hj with h'|rfl
        ·exact hn2 j h' h
        ·omega
      ·have e1':k=fs[i].ps.length:=by omega
       subst e1';simp only[z2,seval,sc,s0',q1,q4,q5,q6,hlen,jY (aI fs[i].ps.length),nb];refine⟨by omega,trivial,trivial,trivial,trivial,by first|trivial|omega,trivial,fun j hj h=>?_⟩
       rcases dB.1 hj with h'|rfl
       ·exact hn j h' h
       ·exact⟨by omega,by omega,hB,fun y hy=>by
         obtain⟨m,hm,rfl⟩:=fB hy;exact hn2 m hm hm⟩
     ·simp only[z2,seval,s0,f0,q1,q4,hf.len,eD hlt,k1,hf.ia hlt,hrow,fdC,htk,hpn,hbn,k2,hx.p.len,k3,aF (f:=11) rfl,aQ,hx.b.fz,h11,nb];exact out10 (by simp[aE])
  ·have k1:decide ((i:Int)<30)=false:=dF (by omega)
   simp only[z2,seval,s0,q1,q4,hf.len,eD hlt,k1,nb];exact Z10_ok n hd he hv hf s0 (by simp[aE,q1]) hvn fun h=>absurd h (by omega)
 ·have e1:i=fs.length:=by omega
  subst e1;simp only[z2,seval,s0,q1,q4,hf.len,jY (aI fs.length),nb];exact Z10_ok n hd he hv hf s0 (by simp[aE,q1]) hvn fun h x hx=>by
   obtain⟨j,hj,rfl⟩:=fB hx;exact hn j hj hj
theorem c10(n:Nat){ss:List (List UInt8)}{us:List Nat}{d e v f:D}{vs:List Vr}{fs:List Fd}(hd:Sl 1 hY ss d)(he:Sl 1 u8C us e)(hv:Sl 6 vrC vs v)(hf:Sl 3 fdC fs f)(hfs:∀x∈fs,FdIn x):∃b,cl (n+1) 10 [.agg [d,e,v,f]]=some (.bool b,true)∧(b=false→NotLarge ss us vs fs):=by
 rw[cN (A:=A10) rfl (n+1) _ rfl,show A10.body=B10 from rfl]
 show Out10 (n+1) ss us vs fs _;rw[B10_eq];simp only[z2,seval,hd.nag,he.nag,hv.nag,hf.nag];generalize hz:zloop KK _ _=rl;have hN:min vs.length 50≤50:=Nat.min_le_right _ _
 refine zfor rl hz (min vs.length 50) (fI (by omega)) (by omega) (fun i t s c=>sget s 0=some (.fix 30 [d,e,v,f])∧1≤c∧tget t 1 = .ptr 0 0∧∀j,j<i→∀h:j<vs.length,vs[j].name.length≤100) (by simp[aE]) ⟨by simp[aE],by decide,by simp[aE],nofun⟩ ?_
 clear hz;rintro i t s c hi ⟨s0,hc,q1,hn⟩ q3;by_cases hgo:i<vs.length∧i<50
 ·obtain⟨hlt,h50⟩:=hgo;have k1:decide ((i:Int)<50)=true:=dT (by omega)
  have g0:=hv.cell hlt (show 0<6 by omega)
  by_cases e1:100<vs[i].name.length
  ·have k2:decide ((100:Int)<(vs[i].name.length:Nat))=true:=dT (by omega)
   simp only[z2,seval,s0,q1,q3,hv.len,eD hlt,k1,hv.ia hlt,g0,vrC,k2,nb];exact out10 (by simp[aE])
  ·have k2:decide ((100:Int)<(vs[i].name.length:Nat))=false:=dF (by omega)
   simp only[z2,seval,s0,q1,q3,hv.len,eD hlt,k1,hv.ia hlt,g0,vrC,k2,nb];refine⟨by omega,trivial,trivial,trivial,trivial,hc,trivial,fun j hj h=>?_⟩
   rcases dB.1 hj with h'|rfl
   ·exact hn j h' h
   ·omega
 ·have hvn:vs.length≤50→∀x∈vs,x.name.length≤100:=fun h x hx=>by
   obtain⟨j,hj,rfl⟩:=fB hx;exact hn j (by omega) hj
  by_cases hlt:i<vs.length
  ·have k1:decide ((i:Int)<50)=false:=dF (by omega)
   simp only[z2,seval,s0,q1,q3,hv.len,eD hlt,k1,nb];exact W10_ok n hd he hv hf hfs s0 hc (by simp[aE,q1]) hvn
  ·simp only[z2,seval,s0,q1,q3,hv.len,jY (Nat.le_of_not_lt hlt),nb];exact W10_ok n hd he hv hf hfs s0 hc (by simp[aE,q1]) hvn
theorem B5_eq:B5=(.seq Bh1 (.seq Bh2 (.seq Bh3 (.seq Bh4 (.seq Bh5 (.seq Bh6 (.seq Bh7 (.seq Bh8 (.seq Bh9 (.seq Bh10 .ret)))))))))):=rfl
theorem k12(n j:Nat)(s:St)(c:Nat):fn n (j+1) (.fn 12) [] s c = .ok (.ret (.bool true)) s c:=fn_known (f:=12) rfl rfl rfl rfl rfl n j c
theorem sites_sl(lm:List (Int×Int)):Sl 2 siteC (fO lm) (.sl false lm.length (en2 (fO lm))):=by
 refine⟨fun r hr=>by obtain⟨k,_,rfl⟩:=cR.1 hr;rfl,.inr ⟨false,?_⟩⟩
 rw[gP,(iY lm).length_eq,←vE];rfl
structure In22 (ss:List (List UInt8)) (us:List Nat) (d e v f dx:D) (vs:List Vr) (fs:List Fd) (x:List Nd):Prop where
 hd:Sl 1 hY ss d
 he:Sl 1 u8C us e
 hu:iL us
 hs:pX ss
 hE:uQ vs fs v f
 hx:Sl 7 bW x dx
 hxl:x.length<4294967296
 hxn:x.length≤400→NdOk x
theorem in22{ss:List (List UInt8)}{us:List Nat}{d e v f dx:D}{vs:List Vr}{fs:List Fd}{x:List Nd}(hd:Sl 1 hY ss d)(he:Sl 1 u8C us e)(hu:iL us)(hv:Sl 6 vrC vs v)(hf:Sl 3 fdC fs f)(hfs:∀x∈fs,FdIn x)(hx:Sl 7 bW x dx)(h:NotLarge ss us vs fs)(hl:NotLong x):In22 ss us d e v f dx vs fs x:=by
 obtain⟨hL,h40,h20,hvn,hfn⟩:=h;refine⟨hd,he,hu,?_,⟨hv,hf,by omega,by omega,fun x hx=>by have:=hvn x hx;omega,fun x hx=>?_⟩,hx,by have:=hl.1;omega,fun h y hy=>by have:=hl.2 h y hy;omega⟩
 ·unfold vK at hL;simp only[Bool.or_eq_false_iff,cE,List.any_eq_false,List.mem_range]at hL;obtain⟨h1,h2,_⟩:=hL;intro s hs;obtain⟨i,hi,rfl⟩:=List.mem_iff_getElem.1 hs;have:=h1 i (by omega)
  rw[jV hi,cI]at this;omega
 ·have h:=hfn x hx;have hi:=hfs x hx;have hb:=h.b;exact⟨by have:=h.nm;omega,hi.p,hi.b,fun s hs=>by have:=h.pn s hs;omega,by have:=h.pl;omega,by have:=hb.1;omega,fun hl y hy=>by have:=hb.2 hl y hy;omega⟩
theorem look_cases(n:Nat){ss:List (List UInt8)}{us:List Nat}{d e v f dx:D}{vs:List Vr}{fs:List Fd}{x:List Nd}(h:In22 ss us d e v f dx vs fs x)(pc ec:Int):
  (∃a er:Int,er≠0∧cl (n+13) 13 [.agg [d,e,v,f],.int .i64 pc,.int .i64 ec,dx]=some (.tup [.agg zl0,.int .i64 a,.int .i64 er],true)) ∨
  ∃(low p q:Nat) (r:Tl×Lk),pc=p∧ec=q∧EOk ⟨us,low,p,RDl n d e⟩ ss d e∧q<us.length∧EnvG us vs fs∧envE us vs fs=0∧XOk x∧sO ⟨us,low,p,RDl n d e⟩ (fs.length+1) fs vs x ⟨q,0,[]⟩ = .ok r∧cl (n+13) 13 [.agg [d,e,v,f],.int .i64 pc,.int .i64 ec,dx]=some (lookR r,true):=by
 rcases CHK_cases ss us with⟨hC,hul,h1,h8,_⟩|⟨x',er,hC,hne⟩
 case inr=>exact .inl ⟨0,er,hne,c13e (n+12) pc ec h.hd h.he h.hE (c22e n h.hd h.he h.hu h.hs hC hne h.hE) hne⟩
 have hL:Lt ss us d e:=⟨h.hd,h.he,h.hu,h.hs,hC,hul,h1,h8⟩;have h22:=c22 n h.hd h.he h.hu h.hs hC h.hE;by_cases h0:envE us vs fs=0
 case neg=>exact .inl ⟨0,_,h0,c13e (n+12) pc ec h.hd h.he h.hE h22 h0⟩
 obtain⟨low,hl1,hl2,_,hl4⟩:=wR hC;rw[←hul]at hl1 hl4;have hc:=c13 n pc ec hL h.hE h0 hl2 hl1 hl4 h.hx h.hxl h.hxn;have hG:=env_ok h0;unfold lookD at hc;by_cases hr:¬((0≤pc∧pc<us.length)∧0≤ec∧ec<us.length)
 ·rw[aH hr]at hc;exact .inl ⟨0,7,by decide,hc⟩
 rw[aD hr]at hc;by_cases hx0:exE x≠0
 ·rw[aH hx0]at hc;exact .inl ⟨0,_,hx0,hc⟩
 rw[aD hx0]at hc;obtain⟨⟨p1,p2⟩,p3,p4⟩:=Decidable.not_not.1 hr;have hXO:=exE_ok (Decidable.not_not.1 hx0);have hE:EOk ⟨us,low,pc.toNat,RDl n d e⟩ ss d e:=⟨hL,hl2,hl1,hl4,by show pc.toNat<us.length;omega,fun p ts hl hg h0=>by
  obtain⟨t,w,c,er,e1,e2,e3⟩:=rd_ok n hL p hl hg;have e1':(⟨us,low,pc.toNat,RDl n d e⟩:LEn).R p ts=(t,w,c,er):=e1;rw[e1']at h0 ⊢;exact e3 h0⟩
 cases hr2:sO ⟨us,low,pc.toNat,RDl n d e⟩ (fs.length+1) fs vs x ⟨ec.toNat,0,[]⟩ with
 | bad a b=>
  rw[hr2]at hc;exact .inl ⟨a,b,lok_bad hE (fs.length+1) fs (Nat.lt_succ_self _) (fun g hg=>(hG.fb g hg).ex) vs x ⟨ec.toNat,0,[]⟩ hXO.ex hG.vt ⟨by show ec.toNat<us.length;omega,nofun,dD _⟩ a b hr2,hc⟩
 | ok r=>
  rw[hr2]at hc;exact .inr ⟨low,pc.toNat,ec.toNat,r,by omega,by omega,hE,by omega,hG,h0,hXO,hr2,hc⟩
theorem eqTs_c{off:Nat}{sz:Option Nat}{t:ET}{r:List (Nat×Option Nat×ET)}{xs:List D}{a:D}(h1:dH xs off sz=some a)(h3:eqT t a a=some true):uD ((off,sz,t)::r) xs xs=uD r xs xs:=by
 rw[uD,h1];simp only[h3];rfl
theorem eqT_i(a:Int):eqT .int (.int .i64 a) (.int .i64 a)=some true:=by
 rw[eqT,aH rfl,show(a==a)=true by simp]
theorem cmp5(a b c d e:Int):pI (.ty (.parts [(0,none,.int),(1,none,.int),(2,some 2,.parts [(0,none,.int),(1,none,.int)]),(4,none,.int)])) (.agg [.int .i64 a,.int .i64 b,.int .i64 c,.int .i64 d,.int .i64 e]) (.agg [.int .i64 a,.int .i64 b,.int .i64 c,.int .i64 d,.int .i64 e])=some true:=by
 rw[pI,eqT];rw[eqTs_c (a:=.int .i64 a) rfl (eqT_i a),eqTs_c (a:=.int .i64 b) rfl (eqT_i b),eqTs_c (a:=.agg [.int .i64 c,.int .i64 d]) rfl,eqTs_c (a:=.int .i64 e) rfl (eqT_i e)]
 ·rw[uD]
 ·rw[eqT,eqTs_c (a:=.int .i64 c) rfl (eqT_i c),eqTs_c (a:=.int .i64 d) rfl (eqT_i d),uD]
structure IB (d e v f dx ds:D) (p q:Nat) (J1 J0:Nat) (k r a b c' ec lk:Int) (t:Tm) (s:St) (c:Nat):Prop where
 s0:sget s 0=some (.fix 30 [d,e,v,f])
 s1:sget s 1=some (.fix 31 [.int .i64 (p:Nat),.int .i64 (q:Nat)])
 s2:sget s 2=some (.fix 40 [.int .i64 k,.int .i64 r,.int .i64 a,.int .i64 b,.int .i64 c',.int .i64 ec,ds,.int .i64 lk])
 fr:mX s c
 hc:3≤c
 t2:tget t 2=dx
 t3:tget t 3 = .ptr 0 0
 t4:tget t 4 = .ptr 1 0
 t7:tget t 7 = .ptr 2 0
 t10:tget t 10 = .int .i64 (J1:Nat)
 t11:tget t 11 = .int .i64 (J0:Nat)
theorem IB.tm{d e v f dx ds:D}{p q:Nat}{J1 J0:Nat}{k r a b c' ec lk:Int}{t t':Tm}{s:St}{c c2:Nat}(h:IB d e v f dx ds p q J1 J0 k r a b c' ec lk t s c)(hc:c≤c2)(ht:∀i,i=2∨i=3∨i=4∨i=7∨i=10∨i=11→tget t' i=tget t i):IB d e v f dx ds p q J1 J0 k r a b c' ec lk t' s c2:=
 ⟨h.s0,h.s1,h.s2,fun m hm=>h.fr m (by omega),by have:=h.hc;omega,by rw[ht 2 (by simp),h.t2],by rw[ht 3 (by simp),h.t3],by rw[ht 4 (by simp),h.t4],by rw[ht 7 (by simp),h.t7],by rw[ht 10 (by simp),h.t10],by rw[ht 11 (by simp),h.t11]⟩
theorem c5(n:Nat){ss:List (List UInt8)}{us:List Nat}{d e v f dx:D}{vs:List Vr}{fs:List Fd}{x:List Nd}(hd:Sl 1 hY ss d)(he:Sl 1 u8C us e)(hu:iL us)(hv:Sl 6 vrC vs v)(hf:Sl 3 fdC fs f)(hfs:∀x∈fs,FdIn x)(hx:Sl 7 bW x dx)(pc ec:Int):
  cl (n+14) 5 [.agg [d,e,v,f],.agg [.int .i64 pc,.int .i64 ec],dx]=some (.bool true,true):=by
 rw[cN (A:=A5) rfl (n+14) _ rfl,show A5.body=B5 from rfl,B5_eq]
 have htk:dH [d,e,v,f] 0 (some 4)=some (.agg [d,e,v,f]):=rfl;obtain⟨b,h10,hb⟩:=c10 (n+12) hd he hv hf hfs;cases b
 case true=>
  simp only[Bh1,Bh2,Ab.abq];simp only[z2,seval,hd.nag,he.nag,hv.nag,hf.nag,htk,aF (f:=10) rfl,aQ,hd.fz,he.fz,hv.fz,hf.fz,h10,k12,A5];rfl
 obtain⟨b,h11,hb'⟩:=c11 (n+13) hx;cases b
 case true=>
  simp only[Bh1,Bh2,Ab.abq];simp only[z2,seval,hd.nag,he.nag,hv.nag,hf.nag,htk,aF (f:=10) rfl,aF (f:=11) rfl,aQ,hd.fz,he.fz,hv.fz,hf.fz,hx.fz,h10,h11,k12,A5];rfl
 have hI:=in22 hd he hu hv hf hfs hx (hb rfl) (hb' rfl);rcases look_cases n hI pc ec with⟨a,er,h0,h13⟩|⟨low,p,q,r,rfl,rfl,hE,hq,hG,hev,hX,hr,h13⟩
 ·simp only[Bh1,Bh2,Bh3,Bh4,Ab.abq];unfold zl0 at h13;simp only[z0,seval,hd.nag,he.nag,hv.nag,hf.nag,aF (f:=10) rfl,aF (f:=11) rfl,aF (f:=13) rfl,aQ,hd.fz,he.fz,hv.fz,hf.fz,hx.fz,h10,h11,h13,k12,i20,eB,dI,bH h0,A5];rfl
 have hp:p<us.length:=hE.pc;have hL:Lt ss us d e:=hE.lt;have hgb:∀g∈fs,rK g.body:=fun g hg=>(hG.fb g hg).ex
 have hvs:∀l:List Vr,(∀v∈l,tyE us (iG us) v.ty=0)→oK (VRl (EqG us)) l l:=fun l=>by
  induction l with
  | nil=>exact fun _=>.nil
  | cons a l ih=>exact fun hl=>.cons ⟨rfl,rfl,(uS (hl a (bL ..))).2⟩ (ih fun v hv=>hl v (bJ _ hv))
 obtain⟨r',hr',⟨hT,hTG⟩,hrr,hec,hle,hlab⟩:=lok_rel (beh_rel hE hq) (fs.length+1) fs hgb vs vs x ⟨q,0,[]⟩ ⟨q,0,[]⟩ (hvs vs hG.vt) hX.ex rfl ⟨rfl,hq,le_refl hL hq,fun _ h=>(List.not_mem_nil h).elim⟩ r hr
 have hj1:=(hL.j hp hec).2;have hj0:=(hL.j hp hq).2;have h17:=c17 (n+8) hL hp hec;have h17b:=c17 (n+8) hL hp hq;have h18:=c18 (n+9) hL hTG.2.2;have hsl:=sites_sl r.2.lm;have hll:(fO r.2.lm).length=r.2.lm.length:=(iY r.2.lm).length_eq;have hlk:=(wU hE (fs.length+1) fs hgb).2 vs x _ r hX.ex hG.vt (show SG us ⟨q,0,[]⟩ from⟨hq,fun _ h=>(List.not_mem_nil h).elim,dD _⟩) hr
 have hkp:=wT (kp_pres _) kp_tick (fs.length+1) fs hgb vs x _ r hX.ex (kp_tick ⟨q,0,[]⟩ ⟨List.nodup_nil,aI _⟩) hr;have hlen:r.2.lm.length<10000:=by have:=hkp.2;have:=hlk.2.lk;omega
 have hlab':∀(i:Nat) (hi:i<(fO r.2.lm).length),∃k:Nat,(fO r.2.lm)[i].2=k∧k<us.length∧Le us (J us p q) k∧Le us k (J us p r.2.ec):=fun i hi=>hlab _ ((iY r.2.lm).mem_iff.1 (cA hi))
 unfold lookR at h13;unfold e2 at h17 h17b;unfold tyC tl at h18;generalize hds:D.sl false r.2.lm.length (en2 (fO r.2.lm))=ds at *;have hdn:=hsl.nag;simp only[Bh1,Bh2,Bh3,Bh4,Bh5,Bh6,Bh7,Bh8,Ab.abq]
 simp only[z0,seval,hd.nag,he.nag,hv.nag,hf.nag,hdn,aF (f:=10) rfl,aF (f:=11) rfl,aF (f:=13) rfl,aF (f:=17) rfl,aF (f:=18) rfl,aQ,hd.fz,he.fz,hv.fz,hf.fz,hx.fz,h10,h11,h13,h17,h17b,h18,i20,eB,dI,show decide ((0:Int)≠0)=false from rfl,Bool.or_false,Bool.or_true,aU,show D.flat (.tup [.agg [.int .i64 r.1.k,.int .i64 r.1.r,.int .i64 (r.1.x:Nat),.int .i64 (r.1.y:Nat),.int .i64 (r.1.z:Nat),.int .i64 (r.2.ec:Nat),ds,.int .i64 (r.2.lk:Nat)],.int .i64 0,.int .i64 0])=D.flat ds from by simp[D.flat,D.flats]]
 generalize hz:zloop KK _ _=rl
 refine zfor rl hz (fO r.2.lm).length (fI (by omega)) (by omega) (fun i t s c=>IB d e v f dx ds p q (J us p r.2.ec) (J us p q) r.1.k r.1.r (r.1.x:Nat) (r.1.y:Nat) (r.1.z:Nat) (r.2.ec:Nat) (r.2.lk:Nat) t s c) (by simp[aE]) ⟨by simp[aE],by simp[aE],by simp[aE],fun m hm=>?_,aI _,by simp[aE],by simp[aE],by simp[aE],by simp[aE],by simp[aE],by simp[aE]⟩ ?_
 ·simp only[aO,aX];rw[aD (by omega),aD (by omega),aD (by omega),aD (by omega)];exact dW m
 rintro i t s c hi hB hti;by_cases hlt:i<(fO r.2.lm).length
 ·obtain⟨k,hk,hk1,hk2,hk3⟩:=hlab' i hlt;have h19:=c19 (n+8) hL hk1 hj1;have h19b:=c19 (n+8) hL hj0 hk1;rw[show(uM us k).testBit (J us p r.2.ec)=true from hk3]at h19
  rw[show(uM us (J us p q)).testBit k=true from hk2]at h19b
  have ia:=hsl.ia hlt (k:=.i64);have at1:=hsl.cell hlt (show 1<2 by decide)
  have hat:(siteC (fO r.2.lm)[i])[1]?=some (.int .i64 (k:Nat)):=by unfold siteC;rw[hk];rfl
  rw[hat]at at1;simp only[z0,seval,hti,hB.t3,hB.t7,hB.t10,hB.t11,hB.s0,hB.s2,hsl.len,eD hlt,ia,at1,hd.nag,he.nag,aF (f:=19) rfl,aQ,hd.fz,he.fz,h19,h19b,dU,cP,AOp.kd,zop,tks,bV,dO,show decide ((0:Int)≠0)=false from rfl,aV,bU]
  exact⟨hlt,trivial,trivial,trivial,hB.tm (by omega) (by rintro i (rfl|rfl|rfl|rfl|rfl|rfl)<;>simp[aE])⟩
 have hie:i=(fO r.2.lm).length:=by omega
 subst hie;simp only[z0,seval,hti,hB.t7,hB.s2,hsl.len,jY (aI (fO r.2.lm).length)];simp only[Bh9,Ab.abq];simp only[z0,seval];generalize hz2:zloop KK _ _=rl2
 refine zfor rl2 hz2 vs.length (fI (by have:=hG.vl;omega)) (by have:=hG.vl;omega) (fun i t s c=>IB d e v f dx ds p q (J us p r.2.ec) (J us p q) r.1.k r.1.r (r.1.x:Nat) (r.1.y:Nat) (r.1.z:Nat) (r.2.ec:Nat) (r.2.lk:Nat) t s c) (by simp[aE]) (hB.tm (aI _) (by rintro i (rfl|rfl|rfl|rfl|rfl|rfl)<;>simp[aE])) ?_
 rintro i t s c hi hB hti;by_cases hlt:i<vs.length
 ·obtain⟨hn1,hn2⟩:=hG.vn i hlt;have hvt:=hG.vt _ (cA hlt)
  have hres:cl (n+13) 13 [.agg [d,e,v,f],.int .i64 (p:Nat),.int .i64 (q:Nat),.sl true 1 (bW (nmN vs[i].name))]=some (.tup [.agg [.int .i64 vs[i].ty.kind,.int .i64 vs[i].ty.rank,.int .i64 vs[i].ty.a0,.int .i64 vs[i].ty.a1,.int .i64 vs[i].ty.data,.int .i64 (q:Nat),.sl false 1 [.int .i64 7,.int .i64 (J us p q:Nat)],.int .i64 1],.int .i64 0,.int .i64 0],true):=by
   have sl1:Sl 7 bW [nmN vs[i].name] (.sl true 1 (bW (nmN vs[i].name))):=⟨fun r hr=>by rw[dJ.1 hr];rfl,.inr ⟨true,rfl⟩⟩
   have hname:=hI.hE.vn _ (cA hlt);have hc:=c13 n (p:Nat) (q:Nat) hL hI.hE hev hE.low hE.ll hE.lb sl1 (by simp) (fun _ y hy=>by rw[dJ.1 hy];exact⟨hname,by show(0:Nat)<4294967296;decide⟩)
   have hex:exE [nmN vs[i].name]=0:=exE_eq (nm_ex hn1);unfold lookD at hc;rw[aD (by omega),hex,aD (by decide),cW,cW]at hc
   have hnl:=nm_look (E:=⟨us,low,p,RDl n d e⟩) (fs:=fs) hlt hn2 fs.length q;rw[show(⟨us,(⟨us,low,p,RDl n d e⟩:LEn).low,p,RDl n d e⟩:LEn)=⟨us,low,p,RDl n d e⟩from rfl,hnl]at hc
   rw[hc];have ht:=(uS hvt).1;unfold tl at ht;generalize vs[i].ty=ty at *;rw[←ht];rfl
  have htk5:∀a b c d e:Int,dH [.int .i64 a,.int .i64 b,.int .i64 c,.int .i64 d,.int .i64 e] 0 (some 5)=some (.agg [.int .i64 a,.int .i64 b,.int .i64 c,.int .i64 d,.int .i64 e]):=fun _ _ _ _ _=>rfl
  have htk8:∀a b c d e f g h:D,dH [a,b,c,d,e,f,g,h] 0 (some 5)=some (.agg [a,b,c,d,e]):=fun _ _ _ _ _ _ _ _=>rfl
  have hia:=hv.ia hlt (k:=.i64);have hc0:(vs.map vrC).flatten[i*6]?=some (.str vs[i].name):=hv.cell0 hlt (show 0<6 by decide)
  have hty:=var_ty hv hlt;have n12:sget s (c+12)=none:=hB.fr _ (by omega)
  have c3:=hB.hc;have n18:sget s (c+18)=none:=hB.fr _ (by omega)
  have zq6:(c+6=c)=False:=aL (by omega)
  have zq0:(0=c+12)=False:=aL (by omega)
  have zq1:(1=c+12)=False:=aL (by omega)
  have zq2:(0=c+18)=False:=aL (by omega)
  have z3:(1=c+18)=False:=aL (by omega)
  unfold bW nmN at hres;generalize vs[i].ty=ty at *;unfold tyC at hty
  simp only[z2,seval,hti,hB.t2,hB.t3,hB.t4,hB.t11,hB.s0,hB.s1,hv.len,eD hlt,htk,htk5,htk8,hia,hc0,hty,hd.nag,he.nag,hv.nag,hf.nag,i20,eB,dI,dU,cP,AOp.kd,zop,tks,bV,dO,cU,eR,n12,n18,zq6,zq0,zq1,zq2,z3,show ∀a b l,eP (.sl a b l)=false from fun _ _ _=>rfl,show kE 2 (.sl false 1 [.int .i64 7,.int .i64 (J us p q:Nat)]) (.int .i64 0)=some (.iptr [.int .i64 7,.int .i64 (J us p q:Nat)] 0) from rfl,show dH [.int .i64 7,.int .i64 (J us p q:Nat)] 0 (some 2)=some (.agg [.int .i64 7,.int .i64 (J us p q:Nat)]) from rfl,show lenD false (.sl false 1 [.int .i64 7,.int .i64 (J us p q:Nat)])=some 1 from rfl,show((1:Nat):Int)=1 from rfl,show decide ((0:Int)≠0)=false from rfl,show decide ((1:Int)≠1)=false from rfl,show decide (((q:Nat):Int)≠(q:Nat))=false from by simp,bS,aV,bU,aF (f:=13) rfl,aQ,hd.fz,he.fz,hv.fz,hf.fz,iI,hres,Nat.add_zero,show decide (1*7≤7)=true from rfl,cmp5,cmp2,aR,Bool.and_self]
  refine⟨hlt,trivial,trivial,trivial,?_⟩
  have hB':IB d e v f dx ds p q (J us p r.2.ec) (J us p q) r.1.k r.1.r (r.1.x:Nat) (r.1.y:Nat) (r.1.z:Nat) (r.2.ec:Nat) (r.2.lk:Nat) t (sset (sadd (sadd s (c+12) (.fix 0 [.int .i64 4,.int .i64 0,.int .i64 0,.str vs[i].name,.str [],.int .i64 0,.int .i64 7])) (c+18) (.fix 40 [.int .i64 0,.int .i64 0,.int .i64 0,.int .i64 0,.int .i64 0,.int .i64 0,.nils,.int .i64 0])) (c+18) (.fix 40 [.int .i64 ty.kind,.int .i64 ty.rank,.int .i64 ty.a0,.int .i64 ty.a1,.int .i64 ty.data,.int .i64 (q:Nat),.sl false 1 [.int .i64 7,.int .i64 (J us p q:Nat)],.int .i64 1])) (c+22+40):=by
   have o:∀(b1 b2 b3:Blk) m,m<c→sget (sset (sadd (sadd s (c+12) b1) (c+18) b2) (c+18) b3) m=sget s m:=fun b1 b2 b3 m hm=>by rw[aO,aD (by omega),aX,aD (by omega),aX,aD (by omega)]
   exact⟨by rw[o _ _ _ 0 (by omega),hB.s0],by rw[o _ _ _ 1 (by omega),hB.s1],by rw[o _ _ _ 2 (by omega),hB.s2],fun m hm=>by rw[aO,aD (by omega),aX,aD (by omega),aX,aD (by omega)];exact hB.fr m (by omega),by omega,hB.t2,hB.t3,hB.t4,hB.t7,hB.t10,hB.t11⟩
  exact hB'.tm (aI _) (by rintro i (rfl|rfl|rfl|rfl|rfl|rfl)<;>simp[aE])
 ·have hie:i=vs.length:=by omega
  subst hie;simp only[Bh10,Ab.abq];simp only[z0,seval,hti,hB.t3,hB.s0,hv.len,jY (aI vs.length),k12,A5];rfl
end
end Zv
