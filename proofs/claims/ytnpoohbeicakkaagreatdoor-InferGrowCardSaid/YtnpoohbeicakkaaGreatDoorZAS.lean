/- What functions come to: trees grow, the operands of a node. Conditions: none. -/
import Derived.Test.YtnpoohbeicakkaaGreatDoorZAR
set_option linter.unusedVariables false
set_option linter.unusedSimpArgs false
set_option maxRecDepth 100000
namespace Zv
open Go
noncomputable section
theorem YB_no(n:Nat){L at_:Nat}{t:Tm}{s:St}{c:Nat}(hL:L≤400)(hat:L≤at_)(q4:tget t 4 = .int .i64 (L:Nat))(q9:tget t 9 = .int .i64 (at_:Nat)):
  ∃t',zC YB (cxn (n+1)) (fn (n+1) 4096) KK ⟨t,s,c,[],none⟩ = .ok (.exit 12) ⟨t',s,c,[],none⟩∧tget t' 3 = .bool true∧∀k,k=0∨k=2∨k=4∨k=8∨k=9→tget t' k=tget t k:=by
 simp only[YB,Ab.abq];have hge:decide ((L:Int)≤(at_:Nat))=true:=dT (by omega)
 simp only[z2,seval,q4,q9,hge];refine⟨_,rfl,by simp[aE],?_⟩
 rintro k (rfl|rfl|rfl|rfl|rfl)<;>simp[aE]
theorem YN_ok(n:Nat){l:List Nd}{d:D}(hg:jS l)(hl:l.length≤400){i c0:Nat}(hi:i<l.length){fK fN:Nat→D}{t:Tm}{s:St}{c:Nat}{b0:Bool}{m:Nat}(hm:fJ l[i]=(m:Int))(hm2:m=1∨m=2)
  (hS:GS l.length (eF l (i+1)) (upF (dFn l (i+1)) i (.int .i64 ((0:Nat):Int))) (upF fK i .nils) fN s) (h11:11≤c0) (hc0:c0≤c) (hfr:∀m,c≤m→sget s m=none)
  (q0:tget t 0=d) (q2:tget t 2 = .ptr 0 0) (q3:tget t 3 = .bool b0) (q4:tget t 4 = .int .i64 (l.length:Nat)) (q8:tget t 8 = .int .i64 (i:Nat)) (q9:tget t 9 = .int .i64 ((i+1:Nat):Int)) (q82:tget t 82 = .int .i64 (m:Nat)) (q83:tget t 83 = .int .i64 0) :
  ∃t' s' c' q' b,mG 12 (zC YN (cxn (n+1)) (fn (n+1) 4096) KK ⟨t,s,c,[],none⟩) = .ok .normal ⟨t',s',c',[],none⟩∧GS l.length (eF l (i+1)) (upF (dFn l (i+1)) i (.int .i64 ((gD l i-1:Nat):Int))) (upF fK i q') fN s'∧lG 1 jK c0 s' q' (gK l i)∧c≤c'∧(∀m,c'≤m→sget s' m=none)∧(∀m,11≤m→m<c0→sget s' m=sget s m) ∧
   tget t' 9 = .int .i64 (gE l i:Nat)∧tget t' 3 = .bool b∧∀k,k=0∨k=2∨k=4∨k=8→tget t' k=tget t k:=by
 have n3:¬l[i].kind=3:=by
  intro k;unfold fJ at hm;rw[aD (by omega)]at hm;omega
 have hE:=gE_eq hg hi;rw[aD n3]at hE;have hK:=gK_eq hi;have hD:=gD_eq hi;simp only[YN,Ab.abq];by_cases h1:i+1<l.length
 ·obtain⟨t1,s1,c1,qq1,r1,hS1,hO1,hc1,hfr1,hs1,e9,hk1⟩:=YB_ok n hl (d:=d) (t:=tput t 84 (.bool true)) hS (.inl ⟨rfl,rfl⟩) h11 hc0 hfr (show i<i+1 by omega) h1 (by simp) (by decide) (by simp[aE,q0]) (by simp[aE,q2]) (by simp[aE,q4]) (by simp[aE,q8]) (by simp[aE,q9])
  have f0:tget t1 0=d:=by rw[hk1 0 (.inl rfl)];simp[aE,q0]
  have f2:tget t1 2 = .ptr 0 0:=by rw[hk1 2 (by simp)];simp[aE,q2]
  have f3:tget t1 3 = .bool b0:=by rw[hk1 3 (by simp)];simp[aE,q3]
  have f4:tget t1 4 = .int .i64 (l.length:Nat):=by rw[hk1 4 (by simp)];simp[aE,q4]
  have f8:tget t1 8 = .int .i64 (i:Nat):=by rw[hk1 8 (by simp)];simp[aE,q8]
  have f82:tget t1 82 = .int .i64 (m:Nat):=by rw[hk1 82 (by simp)];simp[aE,q82]
  have f83:tget t1 83 = .int .i64 0:=by rw[hk1 83 (by simp)];simp[aE,q83]
  clear hk1;rcases hm2 with rfl|rfl
  ·have hm':fJ l[i]=1:=hm;rw[aH hm',aH h1]at hE hK;rw[hK]at hD;simp only[z2,seval,zun,q82,q83,r1,f82,f83,show((1:Nat):Int)=1 from rfl,show dJ .i64 1=1 from rfl,Int.reduceLT,Int.reduceAdd]
   refine⟨_,_,_,qq1,b0,rfl,?_,by rw[hK];exact hO1,hc1,hfr1,hs1,?_,?_,?_⟩
   ·rw[hD];exact hS1
   ·simp[aE,e9,hE]
   ·simp[aE,f3]
   ·rintro k (rfl|rfl|rfl|rfl)<;>simp[aE,f0,f2,f4,f8,q0,q2,q4,q8]
  ·have hm':fJ l[i]=2:=hm;rw[hm',aD (by decide),aH rfl,aH h1]at hE hK
   by_cases h2:gE l (i+1)<l.length
   ·rw[aH h2]at hE hK;rw[hK]at hD;have hle:=gD_le l.length (i+1) h1 (by omega)
    obtain⟨t2,s2,c2,qq2,r2,hS2,hO2,hc2,hfr2,hs2,e92,hk2⟩:=YB_ok n hl (d:=d) (t:=tput (tput (tput t1 120 (.int .i64 1)) 83 (.int .i64 1)) 84 (.bool true)) hS1 hO1 h11 (by omega) hfr1 (by have:=gE_gt h1;omega) h2 (by simp) (by omega) (by simp[aE,f0]) (by simp[aE,f2]) (by simp[aE,f4]) (by simp[aE,f8]) (by simp[aE,e9])
    have k0:tget t2 0=d:=by rw[hk2 0 (.inl rfl)];simp[aE,f0]
    have k2:tget t2 2 = .ptr 0 0:=by rw[hk2 2 (by simp)];simp[aE,f2]
    have k3:tget t2 3 = .bool b0:=by rw[hk2 3 (by simp)];simp[aE,f3]
    have k4:tget t2 4 = .int .i64 (l.length:Nat):=by rw[hk2 4 (by simp)];simp[aE,f4]
    have k8:tget t2 8 = .int .i64 (i:Nat):=by rw[hk2 8 (by simp)];simp[aE,f8]
    have k82:tget t2 82 = .int .i64 ((2:Nat):Int):=by rw[hk2 82 (by simp)];simp[aE,f82]
    have k83:tget t2 83 = .int .i64 1:=by rw[hk2 83 (by simp)];simp[aE]
    simp only[z2,seval,zun,q82,q83,r1,f82,f83,r2,k82,k83,show((2:Nat):Int)=2 from rfl,show dJ .i64 1=1 from rfl,show dJ .i64 2=2 from rfl,Int.reduceLT,Int.reduceAdd]
    refine⟨_,_,_,qq2,b0,rfl,?_,by rw[hK];exact hO2,by omega,hfr2,fun m h1 h2=>(hs2 m h1 h2).trans (hs1 m h1 h2),?_,?_,?_⟩
    ·rw[hD];exact hS2
    ·simp[aE,e92,hE]
    ·simp[aE,k3]
    ·rintro k (rfl|rfl|rfl|rfl)<;>simp[aE,k0,k2,k4,k8,q0,q2,q4,q8]
   ·rw[aD h2]at hE hK;rw[hK]at hD;obtain⟨t2,r2,e3,hk2⟩:=YB_no n (t:=tput (tput (tput t1 120 (.int .i64 1)) 83 (.int .i64 1)) 84 (.bool true)) (s:=s1) (c:=c1) hl (at_:=gE l (i+1)) (by omega) (by simp[aE,f4]) (by simp[aE,e9])
    simp only[z2,seval,zun,q82,q83,r1,f82,f83,r2,show((2:Nat):Int)=2 from rfl,show dJ .i64 1=1 from rfl,show dJ .i64 2=2 from rfl,Int.reduceLT,Int.reduceAdd]
    refine⟨_,_,_,qq1,true,rfl,?_,by rw[hK];exact hO1,by omega,hfr1,hs1,?_,e3,?_⟩
    ·rw[hD];exact hS1
    ·rw[hk2 9 (by simp)];simp[aE,e9,hE]
    ·rintro k (rfl|rfl|rfl|rfl)
     ·rw[hk2 0 (by simp)];simp[aE,f0,q0]
     ·rw[hk2 2 (by simp)];simp[aE,f2,q2]
     ·rw[hk2 4 (by simp)];simp[aE,f4,q4]
     ·rw[hk2 8 (by simp)];simp[aE,f8,q8]
 ·obtain⟨t2,r2,e3,hk2⟩:=YB_no n (t:=tput t 84 (.bool true)) (s:=s) (c:=c) hl (at_:=i+1) (by omega) (by simp[aE,q4]) (by simp[aE,q9])
  have hE':gE l i=i+1:=by
   rw[hE];rcases hm2 with rfl|rfl
   ·rw[aH (show fJ l[i]=1 from hm),aD h1]
   ·rw[show fJ l[i]=2 from hm,aD (by decide),aH rfl,aD h1]
  have hK':gK l i=[]:=by
   rw[hK];rcases hm2 with rfl|rfl
   ·rw[aH (show fJ l[i]=1 from hm),aD h1]
   ·rw[show fJ l[i]=2 from hm,aD (by decide),aH rfl,aD h1]
  rw[hK']at hD;have hlt:decide ((0:Int)<(m:Nat))=true:=dT (by omega)
  simp only[z2,seval,zun,q82,q83,r2,hlt];refine⟨_,_,_,.nils,true,rfl,?_,by rw[hK'];exact .inl ⟨rfl,rfl⟩,aJ _,hfr,fun _ _ _=>rfl,?_,e3,?_⟩
  ·rw[hD];exact hS
  ·rw[hk2 9 (by simp)];simp[aE,q9,hE']
  ·rintro k (rfl|rfl|rfl|rfl)
   ·rw[hk2 0 (by simp)];simp[aE]
   ·rw[hk2 2 (by simp)];simp[aE]
   ·rw[hk2 4 (by simp)];simp[aE]
   ·rw[hk2 8 (by simp)];simp[aE]
theorem lG.base{α:Type}{w:Nat}{e:α→List D}{B B':Nat}{s:St}{q:D}{l:List α}(h:lG w e B s q l)(hB:B'≤B):lG w e B' s q l:=by
 rcases h with h|⟨m,h1,h2⟩|⟨m,ty,h1,h2⟩
 ·exact .inl h
 ·exact .inr (.inl ⟨m,fW hB h1,h2⟩)
 ·exact .inr (.inr ⟨m,ty,fW hB h1,h2⟩)
theorem upF_same(f:Nat→D)(i:Nat)(v:D)(h:f i=v):upF f i v=f:=by
 funext j;unfold upF;split
 ·rename_i e;rw[e,h]
 ·rfl
theorem eF_up(l:List Nd)(i:Nat):upF (eF l (i+1)) i (.int .i64 (gE l i:Nat))=eF l i:=by
 funext j;unfold upF eF
 by_cases e:j=i
 ·subst e;rw[aH rfl,aH (aJ _)]
 ·rw[aD e];by_cases h:i≤j
  ·rw[aH h,aH (by omega)]
  ·rw[aD h,aD (by omega)]
theorem dF_up(l:List Nd)(i:Nat):upF (dFn l (i+1)) i (.int .i64 (gD l i:Nat))=dFn l i:=by
 funext j;unfold upF dFn
 by_cases e:j=i
 ·subst e;rw[aH rfl,aH (aJ _)]
 ·rw[aD e];by_cases h:i≤j
  ·rw[aH h,aH (by omega)]
  ·rw[aD h,aD (by omega)]
theorem isK_many{x:Nd}(h:oU x):isK x=decide (fJ x=1∨fJ x=2)∧(isK x=true→fJ x=x.kids):=by
 unfold isK fJ;by_cases k:x.kind=5∨x.kind=6
 ·have:=h.kp k;rw[aH k];refine⟨?_,fun _=>rfl⟩
  rw[bD this];rcases k with k|k<;>simp[k]
 ·rw[aD k];have k5:¬x.kind=5:=fun e=>k (.inl e)
  have k6:¬x.kind=6:=fun e=>k (.inr e)
  simp[k5,k6]
theorem YT_ok(n:Nat){l:List Nd}(hl:l.length≤400){i e0 cur:Nat}(hi:i<l.length){fE fD fK fN:Nat→D}{t:Tm}{s:St}{c:Nat}(hS:GS l.length fE (upF fD i (.int .i64 (cur:Nat))) fK fN s)(hcur:cur≤1000)
  (q2:tget t 2 = .ptr 0 0) (q8:tget t 8 = .int .i64 (i:Nat)) (q9:tget t 9 = .int .i64 (e0:Nat)) :
  ∃t',zC YT (cxn (n+1)) (fn (n+1) 4096) KK ⟨t,s,c,[],none⟩ = .ok .normal ⟨t',sset (sset s 2 (.fix 0 (rg l.length (upF fE i (.int .i64 (e0:Nat)))))) 4 (.fix 0 (rg l.length (upF fD i (.int .i64 ((cur+1:Nat):Int))))),c,[],none⟩∧∀k,k=0∨k=2∨k=3∨k=4∨k=8→tget t' k=tget t k:=by
 simp only[YT,Ab.abq];have x0:=hS.b0;have x2:=hS.be;have x4:=hS.bd;have z4:(rg l.length (upF fD i (.int .i64 (cur:Nat))))[i]?=some (.int .i64 (cur:Nat)):=by rw[vE (by omega)];unfold upF;rw[aH rfl]
 have w:dJ .i64 ((cur:Int)+1)=((cur+1:Nat):Int):=kV (by omega)
 have hst:∀v,(rg l.length fE).set i v=rg l.length (upF fE i v):=fun v=>rg_set _ _ _ _
 simp only[z2,seval,q2,q8,q9,x0,x2,x4,ia_ms hi,z4,w,hst,rg_upd,rg_len,show i+1≤l.length from hi]
 refine⟨_,rfl,?_⟩;rintro k (rfl|rfl|rfl|rfl|rfl)<;>simp[aE]
theorem YI_ok(n:Nat){l:List Nd}{d:D}(hd:Sl 7 bU l d)(hg:jS l)(hl:l.length≤400){i:Nat}(hi:i<l.length){fK fN:Nat→D}{t:Tm}{s:St}{c:Nat}{b0:Bool}
  (hS:GS l.length (eF l (i+1)) (dFn l (i+1)) fK fN s) (hK:fK i = .nils) (hc:11≤c) (hfr:∀m,c≤m→sget s m=none)
  (q0:tget t 0=d) (q2:tget t 2 = .ptr 0 0) (q3:tget t 3 = .bool b0) (q4:tget t 4 = .int .i64 (l.length:Nat)) (q8:tget t 8 = .int .i64 (i:Nat)) :
  ∃t' s' c' q' b,zC YI (cxn (n+1)) (fn (n+1) 4096) KK ⟨t,s,c,[],none⟩ = .ok .normal ⟨t',s',c',[],none⟩∧GS l.length (eF l i) (dFn l i) (upF fK i q') fN s'∧lG 1 jK 11 s' q' (gK l i)∧c≤c'∧(∀m,c'≤m→sget s' m=none)∧(∀m,11≤m→m<c→sget s' m=sget s m) ∧
   tget t' 3 = .bool b∧∀k,k=0∨k=2∨k=4∨k=8→tget t' k=tget t k:=by
 simp only[YI,Ab.abq];have w0:dJ .i64 ((i:Int)+1)=((i+1:Nat):Int):=kV (by omega)
 have g0:=hd.cell hi (show 0<7 by omega)
 have g2:=hd.cell hi (show 2<7 by omega)
 have zq0:(bU l[i])[0]?=some (.int .i64 l[i].kind):=rfl;have zq2:(bU l[i])[2]?=some (.int .i64 l[i].kids):=rfl;rw[zq0]at g0;rw[zq2]at g2;have hrow:=hd.row hi;have h123:=c123 n l[i];have hfz:∀st x,frz false 20 st (.agg (bU x))=some (.agg (bU x)):=fun _ _=>rfl
 have hmf:∀st,[D.agg (bU l[i])].mapM (frz false 20 st)=some [D.agg (bU l[i])]:=fun _=>rfl
 have hl7:(bU (gG l[i])).length=7:=rfl;have hna:(bU (gG l[i])).any eU=false:=rfl;have hset:eS [.int .i64 0,.int .i64 0,.int .i64 0,.str [],.str [],.int .i64 0,.int .i64 0] 0 (bU (gG l[i]))=bU (gG l[i]):=rfl;obtain⟨hi1,hi2⟩:=isK_many (hg.nd i hi);have hS0:GS l.length (eF l (i+1)) (upF (dFn l (i+1)) i (.int .i64 ((0:Nat):Int))) (upF fK i .nils) fN s:=by
  rw[upF_same _ _ _ (by unfold dFn;rw[aD (by omega)];rfl),upF_same _ _ _ hK];exact hS
 have hgd:=gD_le l.length i hi (by omega)
 have hgp:1≤gD l i:=by rw[gD_eq hi];omega
 have fin:∀(t1:Tm) (s1:St) (c1:Nat) (q':D) (b:Bool),GS l.length (eF l (i+1)) (upF (dFn l (i+1)) i (.int .i64 ((gD l i-1:Nat):Int))) (upF fK i q') fN s1→lG 1 jK 11 s1 q' (gK l i)→c≤c1→(∀m,c1≤m→sget s1 m=none)→(∀m,11≤m→m<c→sget s1 m=sget s m) →
   tget t1 9 = .int .i64 (gE l i:Nat)→tget t1 3 = .bool b→(∀k,k=0∨k=2∨k=4∨k=8→tget t1 k=tget t k) →
   ∃t' s' c' q' b,mG 10 (zC YT (cxn (n+1)) (fn (n+1) 4096) KK ⟨t1,s1,c1,[],none⟩) = .ok .normal ⟨t',s',c',[],none⟩∧GS l.length (eF l i) (dFn l i) (upF fK i q') fN s'∧lG 1 jK 11 s' q' (gK l i)∧c≤c'∧(∀m,c'≤m→sget s' m=none)∧(∀m,11≤m→m<c→sget s' m=sget s m) ∧
    tget t' 3 = .bool b∧∀k,k=0∨k=2∨k=4∨k=8→tget t' k=tget t k:=by
  intro t1 s1 c1 q' b h1 h2 h4 h5 h6 h7 h8 h9;obtain⟨t2,r2,hk⟩:=YT_ok n (c:=c1) hl hi h1 (by omega) ((h9 2 (by simp)).trans q2) ((h9 8 (by simp)).trans q8) h7
  rw[show gD l i-1+1=gD l i by omega,eF_up,dF_up]at r2
  rw[r2];refine⟨t2,_,c1,q',b,rfl,(h1.setE _).setD _,h2.keep fun m b hm hb=>?_,h4,fun m hm=>?_,fun m ha hb=>?_,(hk 3 (by simp)).trans h8,?_⟩
  ·rw[aN,aD (by omega),aN,aD (by omega)];exact hb
  ·rw[aN,aD (by omega),aN,aD (by omega)];exact h5 m hm
  ·rw[aN,aD (by omega),aN,aD (by omega)];exact h6 m ha hb
  ·rintro k (rfl|rfl|rfl|rfl)
   ·rw[hk 0 (by simp),h9 0 (by simp)]
   ·rw[hk 2 (by simp),h9 2 (by simp)]
   ·rw[hk 4 (by simp),h9 4 (by simp)]
   ·rw[hk 8 (by simp),h9 8 (by simp)]
 have hK0:isK l[i]=false→gK l i=[]:=fun hk=>by
  have:¬(fJ l[i]=1∨fJ l[i]=2):=by rw[←bX,←hi1];exact hk
  rw[gK_eq hi,aD (fun e=>this (.inl e)),aD (fun e=>this (.inr e))]
 have hfr1:∀(x y:Blk) (m:Nat),c+1≤m→sget (sset (sadd s c x) c y) m=none:=fun x y m hm=>by rw[aN,aD (by omega),aW,aD (by omega)];exact hfr m (by omega)
 have hsm:∀(x y:Blk) (m:Nat),m<c→sget (sset (sadd s c x) c y) m=sget s m:=fun x y m hm=>by rw[aN,aD (by omega),aW,aD (by omega)]
 by_cases h3:l[i].kind=3
 ·obtain⟨k0,k4⟩:=(hg.nd i hi).k3 h3;have hE:=gE_eq hg hi;rw[aH h3]at hE;have wk:dJ .i64 (((i+1:Nat):Int)+l[i].kids)=((i+1+l[i].kids.toNat:Nat):Int):=by rw[gT (by omega) (by omega)];omega
  have hk:isK l[i]=false:=by unfold isK;rw[h3];rfl
  have hK':=hK0 hk;have hD:=gD_eq hi;rw[hK']at hD;rw[hk]at h123;simp only[z2,seval,q0,q2,q3,q4,q8,w0,hd.ia hi,g0,g2,bD h3,wk,hrow,hmf,aF (f:=123) rfl,aQ,h123,hl7,hna,hset,bJ];refine fin _ _ _ .nils b0 ?_ (by rw[hK'];exact .inl ⟨rfl,rfl⟩) (by omega) (hfr1 _ _) (fun m _ hm=>hsm _ _ m hm) (by simp[aE,hE]) (by simp[aE,q3]) ?_
  ·rw[hD];exact hS0.add fun m hm=>hsm _ _ m (by omega)
  ·rintro k (rfl|rfl|rfl|rfl)<;>simp[aE]
 ·have hE:=gE_eq hg hi;rw[aD h3]at hE;cases hk:isK l[i]
  ·have hK':=hK0 hk;have hD:=gD_eq hi;rw[hK']at hD;rw[hk]at h123;have:¬(fJ l[i]=1∨fJ l[i]=2):=by rw[←bX,←hi1];exact hk
   rw[aD (fun e=>this (.inl e)),aD (fun e=>this (.inr e))]at hE
   simp only[z2,seval,q0,q2,q3,q4,q8,w0,hd.ia hi,g0,g2,aK h3,hrow,hmf,aF (f:=123) rfl,aQ,h123,hl7,hna,hset,bJ];refine fin _ _ _ .nils b0 ?_ (by rw[hK'];exact .inl ⟨rfl,rfl⟩) (by omega) (hfr1 _ _) (fun m _ hm=>hsm _ _ m hm) (by simp[aE,hE]) (by simp[aE,q3]) ?_
   ·rw[hD];exact hS0.add fun m hm=>hsm _ _ m (by omega)
   ·rintro k (rfl|rfl|rfl|rfl)<;>simp[aE]
  ·have hm:fJ l[i]=1∨fJ l[i]=2:=of_decide_eq_true (hi1.symm.trans hk);obtain⟨m,hmm,hm2⟩:∃m:Nat,fJ l[i]=(m:Int)∧(m=1∨m=2):=by
    rcases hm with h|h
    ·exact⟨1,h,.inl rfl⟩
    ·exact⟨2,h,.inr rfl⟩
   have hkm:l[i].kids=(m:Int):=(hi2 hk).symm.trans hmm;rw[hkm]at g2;rw[hk]at h123;simp only[z2,seval,q0,q2,q3,q4,q8,w0,hd.ia hi,g0,g2,aK h3,hrow,hmf,aF (f:=123) rfl,aQ,h123,hl7,hna,hset,bJ];generalize hT:tput (tput _ 82 _) 83 _=T
   obtain⟨t1,s1,c1,q',b,r1,k1,k2,k3,k4,k5,k6,k7,k8⟩:=YN_ok n (d:=d) hg hl hi (t:=T) (c:=c+1) (c0:=c+1) (b0:=b0) (m:=m) hmm hm2 (hS0.add fun m hm=>hsm (.fix 57 [.int .i64 0,.int .i64 0,.int .i64 0,.str [],.str [],.int .i64 0,.int .i64 0]) (.fix 57 (bU (gG l[i]))) m (by omega)) (by omega) (aJ _) (hfr1 _ _)
    (by rw[←hT];simp[aE,q0]) (by rw[←hT];simp[aE,q2]) (by rw[←hT];simp[aE,q3]) (by rw[←hT];simp[aE,q4]) (by rw[←hT];simp[aE,q8]) (by rw[←hT];simp[aE]) (by rw[←hT];simp[aE]) (by rw[←hT];simp[aE])
   rw[r1];refine fin t1 s1 c1 q' b k1 (k2.base (by omega)) (by omega) k4 (fun m h1 h2=>(k5 m h1 (by omega)).trans (hsm _ _ m h2)) k6 k7 ?_
   rintro k (rfl|rfl|rfl|rfl)
   ·rw[k8 0 (by simp),←hT];simp[aE]
   ·rw[k8 2 (by simp),←hT];simp[aE]
   ·rw[k8 4 (by simp),←hT];simp[aE]
   ·rw[k8 8 (by simp),←hT];simp[aE]
theorem Y1_ok(n:Nat){l:List Nd}{d:D}(hd:Sl 7 bU l d)(hg:jS l)(hl:l.length≤400){fN:Nat→D}{t:Tm}{s:St}{c:Nat}
  (hS:GS l.length (eF l l.length) (dFn l l.length) (fun _=>.nils) fN s) (hc:11≤c) (hfr:∀m,c≤m→sget s m=none)
  (q0:tget t 0=d) (q2:tget t 2 = .ptr 0 0) (q3:tget t 3 = .bool false) (q4:tget t 4 = .int .i64 (l.length:Nat)) :
  ∃t' s' c' fK b,zC Y1 (cxn (n+1)) (fn (n+1) 4096) KK ⟨t,s,c,[],none⟩ = .ok .ret ⟨t',s',c',[],none⟩∧GS l.length (eF l 0) (dFn l 0) fK fN s'∧(∀j,j<l.length→lG 1 jK 11 s' (fK j) (gK l j))∧tget t' 2 = .ptr 0 0∧tget t' 3 = .bool b:=by
 simp only[Y1,Ab.abq];have w0:dJ .i64 ((l.length:Int)-1)=(l.length:Int)-1:=gT (by omega) (by omega)
 simp only[z2,↓reduceIte,Nat.reduceEqDiff,Nat.reduceAdd,Nat.reduceLeDiff,reduceCtorEq,q4,w0];generalize hz:zloop KK _ _=rl
 refine zwhile rl hz l.length (fQ (by omega)) (fun r z=>∃t s c fK b,z=⟨t,s,c,[],none⟩∧GS l.length (eF l (l.length-r)) (dFn l (l.length-r)) fK fN s∧(∀j,j<l.length-r→fK j = .nils)∧(∀j,l.length-r≤j→j<l.length→lG 1 jK 11 s (fK j) (gK l j))∧11≤c∧(∀m,c≤m→sget s m=none)∧tget t 0=d∧tget t 2 = .ptr 0 0∧tget t 3 = .bool b∧tget t 4 = .int .i64 (l.length:Nat)∧tget t 8 = .int .i64 ((l.length:Int)-1-r))
  ⟨_,_,_,_,_,rfl,hS,fun _ _=>rfl,fun j h1 h2=>by omega,hc,hfr,by simp[aE,q0],by simp[aE,q2],by simp[aE,q3];rfl,by simp[aE,q4],by simp[aE]⟩ ?_
 clear q0 q2 q3 q4 hS hc hfr hz;rintro r z hr ⟨t,s,c,fK,b,rfl,hS,hnil,hown,hc,hfr,q0,q2,q3,q4,q8⟩;by_cases hlt:r<l.length
 ·obtain⟨i,hi⟩:∃i,i=l.length-1-r:=⟨_,rfl⟩
  have e8:(l.length:Int)-1-r=(i:Nat):=by omega
  have e1:l.length-r=i+1:=by omega
  have hge:decide ((0:Int)≤(i:Nat))=true:=dT (by omega)
  rw[e1]at hS hnil hown;rw[e8]at q8;obtain⟨t1,s1,c1,q',b1,r1,hS1,hO1,hc1,hfr1,hsm,k3,hk⟩:=YI_ok n (d:=d) hd hg hl (i:=i) (by omega) (t:=tput (tput t 50 (.int .i64 (i:Nat))) 51 (.bool true)) (b0:=b) hS (hnil i (Nat.lt_succ_self i)) hc hfr (by simp[aE,q0]) (by simp[aE,q2]) (by simp[aE,q3]) (by simp[aE,q4]) (by simp[aE,q8])
  have k0:tget t1 0=d:=by rw[hk 0 (by simp)];simp[aE,q0]
  have k2:tget t1 2 = .ptr 0 0:=by rw[hk 2 (by simp)];simp[aE,q2]
  have k4:tget t1 4 = .int .i64 (l.length:Nat):=by rw[hk 4 (by simp)];simp[aE,q4]
  have k8:tget t1 8 = .int .i64 (i:Nat):=by rw[hk 8 (by simp)];simp[aE,q8]
  have w1:dJ .i64 ((i:Int)-1)=(l.length:Int)-1-((r+1:Nat):Int):=by rw[gT (by omega) (by omega)];omega
  simp only[z2,↓reduceIte,Nat.reduceEqDiff,Nat.reduceAdd,Nat.reduceLeDiff,reduceCtorEq,q8,hge,r1,k8,w1];refine⟨hlt,_,_,_,upF fK i q',b1,rfl,?_,fun j hj=>?_,fun j h1 h2=>?_,by omega,hfr1,by simp[aE,k0],by simp[aE,k2],by simp[aE,k3],by simp[aE,k4],by simp[aE]⟩
  ·rw[show l.length-(r+1)=i by omega];exact hS1
  ·unfold upF;rw[aD (by omega)];exact hnil j (by omega)
  ·unfold upF;by_cases e:j=i
   ·rw[aH e,e];exact hO1
   ·rw[aD e];refine(hown j (by omega) h2).keep fun m b hm hb=>?_
    rw[hsm m hm (gQ fun h=>by rw[hfr m h]at hb;cases hb)];exact hb
 ·have e:r=l.length:=by omega
  subst e;rw[Nat.sub_self]at hS hown;have hge:decide ((0:Int)≤(l.length:Int)-1-(l.length:Int))=false:=dF (by omega)
  have x0:=hS.b0;have htk:dE [.ms 2 0 1 l.length l.length,.ms 4 0 1 l.length l.length,.ms 6 0 1 l.length l.length,.ms 8 0 1 l.length l.length] 0 (some 4)=some (.agg [.ms 2 0 1 l.length l.length,.ms 4 0 1 l.length l.length,.ms 6 0 1 l.length l.length,.ms 8 0 1 l.length l.length]):=rfl;simp only[Y2,Ab.abq]
  simp only[z2,↓reduceIte,Nat.reduceEqDiff,Nat.reduceAdd,Nat.reduceLeDiff,reduceCtorEq,q2,q3,q8,hge,x0,htk];refine⟨_,_,_,fK,b,rfl,?_,fun j hj=>(hown j (dK _) hj).keep fun m b hm hb=>?_,by simp[aE,q2],by simp[aE]⟩
  ·exact⟨by rw[aN,aH rfl],by rw[aN,aD (by decide)];exact hS.be,by rw[aN,aD (by decide)];exact hS.bd,by rw[aN,aD (by decide)];exact hS.bk,by rw[aN,aD (by decide)];exact hS.bn⟩
  ·rw[aN,aD (by omega)];exact hb
theorem mapM_rg{g:D→Option D}{f h:Nat→D}(n:Nat)(hg:∀j,j<n→g (f j)=some (h j)):(rg n f).mapM g=some (rg n h):=by
 induction n with
 | zero=>rfl
 | succ n ih=>
  have e:∀f:Nat→D,rg (n+1) f=rg n f++[f n]:=fun f=>by unfold rg;rw[List.range_succ,List.map_append];rfl
  rw[e,e,List.mapM_append,ih fun j hj=>hg j (by omega)]
  simp[hg n (Nat.lt_succ_self n)]
theorem frz_rg{p:Bool}{k L m:Nat}{s:St}{f h:Nat→D}(hs:sget s m=some (.fix 0 (rg L f)))(hg:∀j,j<L→frz p k s (f j)=some (h j)):frz p (k+1) s (.ms m 0 1 L L)=some (.sl true L (rg L h)):=by
 rw[iQ,hs];simp only[bK,dL,rg_len,fU,fG];rw[bZ (aJ _),aS,cW (by rw[rg_len];exact aJ _),mapM_rg L hg];rfl
theorem c122(n:Nat){l:List Nd}{d:D}(hd:Sl 7 bU l d)(hg:jS l)(hl:l.length≤400):∃(fR:Nat→D) (b:Bool),cl (n+1) 122 [d]=some (.tup [.agg [.sl true l.length (rg l.length (eF l 0)),.sl true l.length (rg l.length (dFn l 0)),.sl true l.length (rg l.length fR),.sl true l.length (rg l.length (mD (nbB l l.length)))],.bool b],true)∧∀j,j<l.length→Sl 1 jK (gK l j) (fR j):=by
 rw[cK (A:=A122) rfl (n+1) _ rfl,show A122.body=B122 from rfl,B122_eq]
 have hc:∀b:Nat,b≤24→(0≤(l.length:Int)∧(l.length:Int)≤l.length∧(b:Int)*(l.length:Int)≤1099511627776∧(l.length:Int)≤4294967296):=fun b h2=>by
  have:(b:Int)*(l.length:Int)≤24*400:=Int.mul_le_mul (by omega) (by omega) (by omega) (by omega)
  exact⟨by omega,by omega,by omega,by omega⟩
 have htk:∀a b c d:D,[a,b,c,d].any eU=false→dE [a,b,c,d] 0 (some 4)=some (.agg [a,b,c,d]):=fun a b c d h=>rfl
 simp only[z2,↓reduceIte,Nat.reduceEqDiff,Nat.reduceAdd,Nat.reduceLeDiff,reduceCtorEq,hd.len,eG,cX,AOp.kd,zop,tks,cC,dW,cT,eq_true (hc 8 (by decide)),eq_true (hc 24 (by decide)),eq_true (hc 1 (by decide)),rep_rg,cU,dU,bQ]
 simp only[aU,bN,Nat.reduceAdd];generalize hT:tput (tput _ 21 _) 22 _=T;generalize hS:sset _ 0 _=S;obtain⟨t1,s1,c1,r1,hS1,hc1,hfr1,k0,k2,k3,k4⟩:=Y0_ok n hd hg hl (t:=T) (s:=S) (c:=11) (fE:=eF l l.length) (fD:=dFn l l.length) (fK:=fun _=>.nils)
  (by
   rw[←hS];have z:∀(f:Nat→D),(∀j,j<l.length→f j = .int .i64 0)→rg l.length (fun _=>.int .i64 0)=rg l.length f:=fun f h=>rg_congr fun j hj=>(h j hj).symm
   have zE:=z (eF l l.length) fun j hj=>aD (by omega)
   have zD:=z (dFn l l.length) fun j hj=>aD (by omega)
   exact⟨by simp[aE],by simp[aE,zE],by simp[aE,zD],by simp[aE],by simp[aE];rfl⟩)
  (by decide) (fun m hm=>by rw[←hS];simp only[aE,dU];rw[aD (by omega),aD (by omega),aD (by omega),aD (by omega),aD (by omega),aD (by omega)])
  (by rw[←hT];simp[aE]) (by rw[←hT];simp[aE]) (by rw[←hT];simp[aE]) (by rw[←hT];simp[aE])
 obtain⟨t2,s2,c2,fK,b,r2,hS2,hO,j2,j3⟩:=Y1_ok n hd hg hl hS1 hc1 hfr1 k0 k2 k3 k4;have hr:∀j,∃r,j<l.length→(∀k,frz true (k+2) s2 (fK j)=some r)∧Sl 1 jK (gK l j) r:=fun j=>by
  by_cases hj:j<l.length
  ·obtain⟨r,h1,h2⟩:=(hO j hj).fz uI true;exact⟨r,fun _=>⟨h1,h2⟩⟩
  ·exact⟨.nils,fun h=>absurd h hj⟩
 refine⟨fun j=>Classical.choose (hr j),b,?_,fun j hj=>(Classical.choose_spec (hr j) hj).2⟩
 have x0:=hS2.b0;have htk4:dE [.ms 2 0 1 l.length l.length,.ms 4 0 1 l.length l.length,.ms 6 0 1 l.length l.length,.ms 8 0 1 l.length l.length] 0 (some 4)=some (.agg [.ms 2 0 1 l.length l.length,.ms 4 0 1 l.length l.length,.ms 6 0 1 l.length l.length,.ms 8 0 1 l.length l.length]):=rfl
 have e1:frz true 18 s2 (.ms 2 0 1 l.length l.length)=some (.sl true l.length (rg l.length (eF l 0))):=frz_rg hS2.be fun j _=>by unfold eF;split<;>rfl
 have e2:frz true 18 s2 (.ms 4 0 1 l.length l.length)=some (.sl true l.length (rg l.length (dFn l 0))):=frz_rg hS2.bd fun j _=>by unfold dFn;split<;>rfl
 have e3:frz true 18 s2 (.ms 6 0 1 l.length l.length)=some (.sl true l.length (rg l.length fun j=>Classical.choose (hr j))):=frz_rg hS2.bk fun j hj=>(Classical.choose_spec (hr j) hj).1 15
 have e4:frz true 18 s2 (.ms 8 0 1 l.length l.length)=some (.sl true l.length (rg l.length (mD (nbB l l.length)))):=frz_rg hS2.bn fun j _=>rfl
 rw[r1];simp only[z2,↓reduceIte,Nat.reduceEqDiff,Nat.reduceAdd,Nat.reduceLeDiff,reduceCtorEq,r2,j2,j3,x0,htk4,A122];have frz_agg:∀(k:Nat) (cs:List D),frz true (k+1) s2 (.agg cs)=(cs.mapM (frz true k s2)).map .agg:=fun _ _=>rfl
 have frz_tup:∀(k:Nat) (cs:List D),frz true (k+1) s2 (.tup cs)=(cs.mapM (frz true k s2)).map .tup:=fun _ _=>rfl
 have frz_bool:∀(k:Nat) (b:Bool),frz true (k+1) s2 (.bool b)=some (.bool b):=fun _ _=>rfl
 unfold pout;simp only[frz_tup 19,frz_agg 18,frz_bool 18,List.mapM_cons,List.mapM_nil,e1,e2,e3,e4,Option.pure_def,aB,aO,bJ]
def itE(l:List Nd):Nat→Nat→Nat
 | 0,a=>a
 | k+1,a=>itE l k (eN l a)
theorem itE_add(l:List Nd)(k:Nat):∀m a,itE l (m+k) a=itE l k (itE l m a)
 | 0,a=>by rw[bK];rfl
 | m+1,a=>by rw[Nat.add_right_comm,itE,itE];exact itE_add l k m _
theorem itE_out(l:List Nd):∀k a,l.length≤a→itE l (k+1) a=l.length+1
 | 0,a,h=>by rw[itE,itE,eN_ge h]
 | k+1,a,h=>by rw[itE,eN_ge h];exact itE_out l k _ (Nat.le_succ _)
def opN(x:Nd):Nat:=(fJ x).toNat
def nxN(l:List Nd)(i:Nat):Nat:=match l[i]? with
 | some x=>if x.kind=3 then i+1+x.kids.toNat else i+1
 | none=>i+1
theorem op_step{l:List Nd}(hg:jS l){i k:Nat}(h:i<l.length):itE l (k+1) i=itE l (opN l[i]+k) (nxN l i):=by
 rw[itE,itE_add,eN_eq h];unfold nxN opN;rw[aI h];simp only;by_cases k3:l[i].kind=3
 ·have hm:fJ l[i]=0:=by unfold fJ;rw[aD (by omega)]
  rw[aH k3,aH k3,hm];rfl
 ·rw[aD k3,aD k3];rcases oE (hg.nd i h) with hm|hm|hm<;>rw[hm]
  ·rfl
  ·rfl
  ·rw[aD (by decide),aH rfl]
   show itE l k _=itE l k (eN l (eN l (i+1)));split
   ·rfl
   ·have:=eN_le hg (i+1);rw[eN_ge (i:=eN l (i+1)) (by omega),show eN l (i+1)=l.length+1 by omega]
theorem nx_le{l:List Nd}(hg:jS l){i:Nat}(h:i<l.length):i<nxN l i∧nxN l i≤l.length:=by
 unfold nxN;rw[aI h];simp only;split
 ·rename_i k3;have:=hg.ls i h k3;omega
 ·omega
theorem nx_eq{l:List Nd}{i:Nat}(h:i<l.length):nxN l i=if l[i].kind=3 then i+1+l[i].kids.toNat else i+1:=by
 unfold nxN;rw[aI h]
theorem B79_eq:B79=(.seq (.reg none [⟨(some 2),(.new 135 (.c (.agg [.nils,.nils,.nils,.nils]))),none⟩,⟨(some 3),(.mv (.c (.int .i64 0))),none⟩,⟨(some 4),(.mv (.c (.int .i64 0))),none⟩]) (.seq (.block 0 (.seq (.reg none [⟨(some 15),(.mv (.t 0)),none⟩,⟨(some 16),(.len false (.t 15)),none⟩,⟨(some 17),(.bin .eql (.t 16) (.c (.int .i64 0))),none⟩,⟨(some 14),(.mv (.t 17)),none⟩]) (.cond (.t 14) (.seq (.reg none [⟨(some 18),(.bld [.nils,.nils,.nils,.nils] []),none⟩,⟨none,(.st 4 (.t 2) (.t 18)),none⟩,⟨(some 3),(.mv (.c (.int .i64 0))),none⟩,⟨(some 4),(.mv (.c (.int .i64 6))),none⟩]) .ret) (.seq (.reg none [⟨(some 20),(.mv (.t 0)),none⟩,⟨(some 21),(.len false (.t 20)),none⟩,⟨(some 22),(.bin .gtr (.t 21) (.c (.int .i64 400))),none⟩,⟨(some 19),(.mv (.t 22)),none⟩]) (.cond (.t 19) (.seq (.reg none [⟨(some 23),(.bld [.nils,.nils,.nils,.nils] []),none⟩,⟨none,(.st 4 (.t 2) (.t 23)),none⟩,⟨(some 3),(.mv (.c (.int .i64 0))),none⟩,⟨(some 4),(.mv (.c (.int .i64 3))),none⟩]) .ret) .skip))))) (.seq (.seq (.reg none [⟨(some 24),(.mv (.t 0)),none⟩,⟨(some 25),(.len false (.t 24)),none⟩,⟨(some 26),(.mv (.c (.int .i64 0))),none⟩]) (.block 2 (.loop (.seq (.reg none [⟨(some 27),(.bin .lss (.t 26) (.t 25)),none⟩]) (.seq (.cond (.t 27) .skip (.exit 2)) (.seq (.block 4 (.seq (.reg none [⟨(some 28),(.mv (.t 26)),none⟩,⟨(some 29),(.iaS 7 (.t 24) (.t 26)),none⟩,⟨(some 30),(.ld (some 7) (.t 29)),none⟩,⟨(some 6),(.new 57 (.c (.agg [(.int .i64 0),(.int .i64 0),(.int .i64 0),(.str []),(.str []),(.int .i64 0),(.int .i64 0)]))),none⟩,⟨(some 5),(.mv (.t 28)),none⟩,⟨none,(.st 7 (.t 6) (.t 30)),none⟩]) (.seq (.reg none [⟨(some 31),(.ld (some 7) (.t 6)),none⟩,⟨(some 32),(.call 119 [(.t 31)]),none⟩,⟨(some 7),(.mv (.t 32)),none⟩]) (.seq (.reg none [⟨(some 33),(.mv (.t 7)),none⟩,⟨(some 34),(.bin .neq (.t 33) (.c (.int .i64 0))),none⟩]) (.cond (.t 34) (.seq (.reg none [⟨(some 35),(.bld [.nils,.nils,.nils,.nils] []),none⟩,⟨(some 36),(.mv (.t 5)),none⟩,⟨(some 37),(.mv (.t 7)),none⟩,⟨none,(.st 4 (.t 2) (.t 35)),none⟩,⟨(some 3),(.mv (.t 36)),none⟩,⟨(some 4),(.mv (.t 37)),none⟩]) .ret) .skip))))) (.reg none [⟨(some 38),(.bin .add (.t 26) (.c (.int .i64 1))),none⟩,⟨(some 26),(.mv (.t 38)),none⟩]))))))) U79))):=rfl
def TreeOk(l:List Nd)(T:D):Prop:=∃fR:Nat→D,T = .agg [.sl true l.length (rg l.length (eF l 0)),.sl true l.length (rg l.length (dFn l 0)),.sl true l.length (rg l.length fR),.sl true l.length (rg l.length (mD (nbB l l.length)))]∧∀j,j<l.length→Sl 1 jK (gK l j) (fR j)
def Out79(n:Nat)(l:List Nd)(r:R)(q:D):Prop:=∃T x y f,q=e2 x y∧pout (zbody (dfn n MM) A79 r)=some (.tup [T,.int .i64 x,.int .i64 y],f)∧(y=0→TreeOk l T)
theorem W79_ok(n:Nat){l:List Nd}{d:D}(hd:Sl 7 bU l d)(hg:jS l)(h1:0<l.length)(h4:l.length≤400){t:Tm}{s:St}{c:Nat}{T:D}{cs:List D}(hT:T = .agg cs)(hok:TreeOk l T){op ap:Nat}(s0:sget s 0=some (.fix 135 cs))(q0:tget t 0=d)(q2:tget t 2 = .ptr 0 0)(q10:tget t 10 = .int .i64 (op:Nat))(q11:tget t 11 = .int .i64 (ap:Nat))
  (h:(0<op∧ap=l.length∧eN l 0=l.length+1)∨(op=0∧eN l 0=ap∧ap≤l.length)):Out79 n l (zC W79 (cxn n) (fn n 4096) KK ⟨t,s,c,[],none⟩) (oB l):=by
 obtain⟨fR,hR,hK⟩:=hok;subst hT;cases hR;simp only[W79,Ab.abq];rcases h with⟨o1,rfl,o3⟩|⟨rfl,rfl,o3⟩
 ·have k0:decide ((0:Int)<(op:Nat))=true:=dT (by omega)
  simp only[z2,seval,q0,q2,q10,q11,hd.len,s0,k0,nb];refine⟨.agg [.nils,.nils,.nils,.nils],l.length,6,true,by rw[oB,aH (by omega)],?_,fun h=>absurd h (by decide)⟩
  simp only[z2,seval,A79,q2];rfl
 ·have k0:decide ((0:Int)<((0:Nat):Int))=false:=rfl;by_cases t2:eN l 0<l.length
  ·have k1:decide (((eN l 0:Nat):Int)<l.length)=true:=dT (by omega)
   simp only[z2,seval,q0,q2,q10,q11,hd.len,s0,k0,k1,nb];refine⟨.agg [.nils,.nils,.nils,.nils],eN l 0,6,true,by rw[oB,aD (by omega),aH t2],?_,fun h=>absurd h (by decide)⟩
   simp only[z2,seval,A79,q2];rfl
  ·have k1:decide (((eN l 0:Nat):Int)<l.length)=false:=dF (by omega)
   have ia:∀cs:List D,kE 1 (.sl true l.length cs) (.int .i64 0)=some (.iptr cs 0):=fun cs=>by simp only[kE,idxD_0 h1,bJ]
   have g0:(rg l.length (dFn l 0))[0]?=some (.int .i64 (gD l 0:Nat)):=by rw[vE h1];unfold dFn;rw[aH (dK _)]
   have hD:=gD_dN hg l.length 0 h1 (by omega) (by omega)
   by_cases t3:24<dN l 0
   ·have k2:decide ((24:Int)<(gD l 0:Nat))=true:=dT (by omega)
    simp only[z2,seval,q0,q2,q10,q11,hd.len,s0,k0,k1,ia,g0,k2,nb];refine⟨.agg [.nils,.nils,.nils,.nils],0,3,true,by rw[oB,aD (by omega),aD t2,aH t3],?_,fun h=>absurd h (by decide)⟩
    simp only[z2,seval,A79,q2];rfl
   ·have hns:∀e n cs,eU (.sl e n cs)=false:=fun _ _ _=>rfl
    have k2:decide ((24:Int)<(gD l 0:Nat))=false:=dF (by omega)
    have htk:∀a b c d:D,dE [a,b,c,d] 0 (some 4)=some (.agg [a,b,c,d]):=fun _ _ _ _=>rfl
    simp only[z2,seval,q0,q2,q10,q11,hd.len,s0,k0,k1,ia,g0,k2,htk,hns,nb];refine⟨_,0,0,false,by rw[oB,aD (by omega),aD t2,aD t3],?_,fun _=>⟨fR,rfl,hK⟩⟩
    simp only[z2,seval,A79,q2,htk,hns];rfl
theorem T79_ok(n:Nat){l:List Nd}{d:D}(hd:Sl 7 bU l d)(hg:jS l)(h1:0<l.length)(h4:l.length≤400){t:Tm}{s:St}{c:Nat}(hc:1≤c)(s0:sget s 0=some (.fix 135 [.nils,.nils,.nils,.nils]))(q0:tget t 0=d)(q2:tget t 2 = .ptr 0 0):
  Out79 (n+10) l (zC T79 (cxn (n+10)) (fn (n+10) 4096) KK ⟨t,s,c,[],none⟩) (oB l):=by
 obtain⟨fR,b,h122,hK⟩:=c122 (n+8) hd hg h4;have hok:TreeOk l (.agg [.sl true l.length (rg l.length (eF l 0)),.sl true l.length (rg l.length (dFn l 0)),.sl true l.length (rg l.length fR),.sl true l.length (rg l.length (mD (nbB l l.length)))]):=⟨fR,rfl,hK⟩;simp only[T79,Ab.abq];have htk:∀a b c d:D,dE [a,b,c,d] 0 (some 4)=some (.agg [a,b,c,d]):=fun _ _ _ _=>rfl
 have hns:∀e n cs,eU (.sl e n cs)=false:=fun _ _ _=>rfl
 simp only[z2,seval,q0,q2,s0,aF (f:=122) rfl,aQ,hd.fz,h122,hd.pure,htk,hns];generalize hz:zloop KK _ _=rl
 refine zwhile rl hz l.length (fQ (by omega)) (fun r z=>∃t s c op ap,z=⟨t,s,c,[],none⟩∧r≤ap∧ap≤l.length∧op≤r+1∧itE l op ap=eN l 0∧1≤c∧sget s 0=some (.fix 135 [.sl true l.length (rg l.length (eF l 0)),.sl true l.length (rg l.length (dFn l 0)),.sl true l.length (rg l.length fR),.sl true l.length (rg l.length (mD (nbB l l.length)))]) ∧
  tget t 0=d∧tget t 2 = .ptr 0 0∧tget t 10 = .int .i64 (op:Nat)∧tget t 11 = .int .i64 (ap:Nat)) ⟨_,_,_,1,0,rfl,aJ _,dK _,aJ _,rfl,hc,by simp[aE],by simp[aE,q0],by simp[aE,q2],by simp[aE],by simp[aE]⟩ ?_
 clear q0 q2 s0 hz;rintro r z hr ⟨t,s,c,op,ap,rfl,h5,h6,h7,h8,hc,s0,q0,q2,q10,q11⟩;by_cases ho:op=0
 ·subst ho;have k0:decide ((0:Int)<((0:Nat):Int))=false:=rfl;simp only[z2,seval,q0,q2,q10,q11,k0];exact W79_ok (op:=0) (ap:=ap) (n+10) hd hg h1 h4 rfl hok s0 (by simp[aE,q0]) (by simp[aE,q2]) (by simp[aE,q10]) (by simp[aE,q11]) (.inr ⟨rfl,h8.symm,h6⟩)
 have k0:decide ((0:Int)<(op:Nat))=true:=dT (by omega)
 by_cases ha:ap=l.length
 ·subst ha;have k1:decide ((l.length:Int)<l.length)=false:=dF (by omega)
  simp only[z2,seval,q0,q2,q10,q11,k0,k1,hd.len];obtain⟨o,rfl⟩:∃o,op=o+1:=⟨op-1,by omega⟩
  exact W79_ok (op:=o+1) (ap:=l.length) (n+10) hd hg h1 h4 rfl hok s0 (by simp[aE,q0]) (by simp[aE,q2]) (by simp[aE,q10]) (by simp[aE,q11]) (.inl ⟨by omega,rfl,by rw[←h8];exact itE_out l o _ (aJ _)⟩)
 have hlt:ap<l.length:=by omega
 have hrow:=hd.row hlt;have g0:=hd.cell hlt (show 0<7 by omega)
 have g2:=hd.cell hlt (show 2<7 by omega)
 have h123:=c123 (n+9) l[ap];obtain⟨o,rfl⟩:∃o,op=o+1:=⟨op-1,by omega⟩
 have hst:=op_step hg hlt (k:=o);rw[h8]at hst;have hnx:=nx_le hg hlt;have hnd:=hg.nd ap hlt;have w1:dJ .i64 (((o+1:Nat):Int)-1)=(o:Nat):=by rw[gT (by omega) (by omega)];omega
 have f0:(0=c)=False:=aL (by omega)
 have wa:∀a:Nat,a≤1000→dJ .i64 ((a:Int)+1)=((a+1:Nat):Int):=fun a h=>kV (by omega)
 have hfz:∀st x,frz false 20 st (.agg (bU x))=some (.agg (bU x)):=fun _ _=>rfl
 have hnag:∀x,(bU x).any eU=false∧(bU x).length=7:=fun _=>⟨rfl,rfl⟩
 have hsa:∀x y,eS (bU x) 0 (bU y)=bU y:=fun _ _=>rfl
 have hs0:∀y,eS [D.int .i64 0,.int .i64 0,.int .i64 0,.str [],.str [],.int .i64 0,.int .i64 0] 0 (bU y)=bU y:=fun _=>rfl
 have hrx:(bU (gG l[ap])).any eU=false:=rfl;have hro:(bU (gG l[ap])).length=7:=rfl;have lk:l[ap].kind=5∨l[ap].kind=6→l[ap].kids=((opN l[ap]:Nat):Int)∧isK l[ap]=true:=fun k=>by
  have:=hnd.kp k;unfold opN fJ isK;rw[aH k];refine⟨by omega,?_⟩
  rcases k with k|k<;>simp[k]
 have go:∀(t':Tm) (s':St) (c':Nat),1≤c'→sget s' 0=sget s 0→tget t' 0=d→tget t' 2 = .ptr 0 0→tget t' 10 = .int .i64 ((opN l[ap]+o:Nat):Int)→tget t' 11 = .int .i64 ((nxN l ap:Nat):Int) →
   r<l.length∧∃t s c op ap,(⟨t',s',c',[],none⟩:AS)=⟨t,s,c,[],none⟩∧r+1≤ap∧ap≤l.length∧op≤r+1+1∧itE l op ap=eN l 0∧1≤c∧sget s 0=some (.fix 135 [.sl true l.length (rg l.length (eF l 0)),.sl true l.length (rg l.length (dFn l 0)),.sl true l.length (rg l.length fR),.sl true l.length (rg l.length (mD (nbB l l.length)))]) ∧
  tget t 0=d∧tget t 2 = .ptr 0 0∧tget t 10 = .int .i64 (op:Nat)∧tget t 11 = .int .i64 (ap:Nat):=fun t' s' c' e1 e2 e3 e4 e5 e6=>
  ⟨by omega,t',s',c',_,_,rfl,by omega,hnx.2,by
   have:opN l[ap]≤2:=by rcases oE hnd with h|h|h<;>rw[opN,h]<;>decide
   omega,hst.symm,e1,by rw[e2];exact s0,e3,e4,e5,e6⟩
 simp only[bU]at h123;by_cases k56:l[ap].kind=5∨l[ap].kind=6
 ·obtain⟨e1,e2⟩:=lk k56;have k3:decide (l[ap].kind=3)=false:=dF (by omega)
  have w2:dJ .i64 ((o:Int)+l[ap].kids)=((opN l[ap]+o:Nat):Int):=by
   have:=hnd.kp k56;rw[gT (by omega) (by omega),e1];omega
  have e3:nxN l ap=ap+1:=by rw[nx_eq hlt,aD (by omega)]
  rw[e2]at h123;rw[e3]at go;simp only[z2,seval,q0,q2,q10,q11,k0,eD hlt,hd.len,hd.ia hlt,hrow,g0,g2,bU,hfz,aF (f:=123) rfl,aQ,h123,w1,w2,wa ap (by omega),f0,k3,nb]
  refine go _ _ _ (by omega) (by simp[aE,f0]) (by simp[aE,q0]) (by simp[aE,q2]) (by simp[aE]) (by simp[aE])
 ·have e2:isK l[ap]=false:=by
   unfold isK;rw[aK (by omega),aK (by omega)];rfl
  have e1:opN l[ap]=0:=by unfold opN fJ;rw[aD k56];rfl
  rw[e2]at h123;rw[e1,bK]at go;by_cases k3:l[ap].kind=3
  ·obtain⟨kk,hk⟩:∃kk:Nat,l[ap].kids=kk:=⟨l[ap].kids.toNat,by have:=(hnd.k3 k3).1;omega⟩
   have e3:nxN l ap=ap+kk+1:=by rw[nx_eq hlt,aH k3,hk,cU];omega
   have w2:dJ .i64 ((ap:Int)+l[ap].kids)=((ap+kk:Nat):Int):=by
    have:=(hnd.k3 k3).2;rw[gT (by omega) (by omega),hk];omega
   have:=(hnd.k3 k3).2;rw[e3]at go;simp only[z2,seval,q0,q2,q10,q11,k0,eD hlt,hd.len,hd.ia hlt,hrow,g0,g2,bU,hfz,aF (f:=123) rfl,aQ,h123,w1,w2,wa (ap+kk) (by omega),f0,bD k3,nb]
   refine go _ _ _ (by omega) (by simp[aE,f0]) (by simp[aE,q0]) (by simp[aE,q2]) (by simp[aE]) (by simp[aE])
  ·have e3:nxN l ap=ap+1:=by rw[nx_eq hlt,aD k3]
   rw[e3]at go;simp only[z2,seval,q0,q2,q10,q11,k0,eD hlt,hd.len,hd.ia hlt,hrow,g0,g2,bU,hfz,aF (f:=123) rfl,aQ,h123,w1,wa ap (by omega),f0,aK k3,nb]
   refine go _ _ _ (by omega) (by simp[aE,f0]) (by simp[aE,q0]) (by simp[aE,q2]) (by simp[aE]) (by simp[aE])
theorem part_listed{l:List Nd}{i k:Nat}(h:i+1+k≤l.length):allN ((l.take (i+1+k)).drop (i+1)).length (sX ((l.take (i+1+k)).drop (i+1)))=nV l i k:=by
 have hlen:((l.take (i+1+k)).drop (i+1)).length=k:=by rw[fO,dG];omega
 rw[hlen,nV,dC,iZ,iZ];have e:∀j,j<k→sX ((l.take (i+1+k)).drop (i+1)) j=sX l (i+1+j):=fun j hj=>by
  unfold sX;rw[List.getElem?_drop,eL,aH (by omega)]
 exact⟨fun h j hj=>by rw[←e j hj];exact h j hj,fun h j hj=>by rw[e j hj];exact h j hj⟩
theorem U79_ok(n:Nat){l:List Nd}{d:D}(hd:Sl 7 bU l d)(hw:∀j,j<l.length→kG l j=none)(h1:0<l.length)(h4:l.length≤400){t:Tm}{s:St}{c:Nat}(hc:1≤c)(s0:sget s 0=some (.fix 135 [.nils,.nils,.nils,.nils]))(q0:tget t 0=d)(q2:tget t 2 = .ptr 0 0):
  Out79 (n+10) l (zC U79 (cxn (n+10)) (fn (n+10) 4096) KK ⟨t,s,c,[],none⟩) (scan (lJ l) (oB l) l.length 0):=by
 simp only[U79,Ab.abq];simp only[z2,seval,q0,hd.len];generalize hz:zloop KK _ _=rl;refine zrange rl hz l.length (fQ (by omega)) (by omega) (fun i t s c=>tget t 0=d∧tget t 39=d∧tget t 2 = .ptr 0 0∧sget s 0=some (.fix 135 [.nils,.nils,.nils,.nils])∧1≤c∧∀j,j<i→lJ l j=none) (by decide) (by simp[aE]) (by simp[aE]) ⟨by simp[aE,q0],by simp[aE],by simp[aE,q2],s0,hc,nofun⟩ ?_ ?_
 ·rintro i t s c hlt ⟨q0,q39,q2,s0,hc,hn⟩ hti htn;have hrow:=hd.row hlt;have hgl:l[i]?=some l[i]:=aI hlt;have f0:(0=c)=False:=aL (by omega)
  have hgd:oU l[i]:=good_of (by
   have:=hw i hlt;unfold kG at this;rw[hgl]at this;simp only at this;split at this
   ·assumption
   ·cases this)
  by_cases k3:l[i].kind=3
  ·have⟨k0,k4⟩:=hgd.k3 k3;obtain⟨kk,hk⟩:∃kk:Nat,l[i].kids=kk:=⟨l[i].kids.toNat,by omega⟩
   have w0:dJ .i64 ((i:Int)+(kk:Nat))=((i+kk:Nat):Int):=by rw[gT (by omega) (by omega)];omega
   have w1:dJ .i64 ((i:Int)+1)=((i+1:Nat):Int):=kV (by omega)
   have w2:dJ .i64 (((i+1:Nat):Int)+(kk:Nat))=((i+1+kk:Nat):Int):=by rw[gT (by omega) (by omega)];omega
   by_cases hge:l.length≤i+kk
   ·have hL:nV l i l[i].kids.toNat=false:=by
     rw[hk,cU];cases kk with
     | zero=>omega
     | succ m=>
      cases hb:nV l i (m+1)
      ·rfl
      ·have:=iZ.1 hb m (by omega)
       rw[numB_ge (by omega)]at this
       cases this
    have hp:lJ l i=some (e2 i 6):=by rw[lJ,hgl];exact aH ⟨k3,hL⟩
    have kg:decide ((l.length:Int)≤((i+kk:Nat):Int))=true:=dT (by omega)
    simp only[z2,seval,q0,q39,q2,hti,htn,hd.ia hlt,hrow,bU,f0,s0,hk,bD k3,w0,kg,hd.len,nb];refine⟨.agg [.nils,.nils,.nils,.nils],i,6,true,fZ hlt hp hn,?_,fun h=>absurd h (by decide)⟩
    simp only[z2,seval,A79,q2];rfl
   ·have kg:decide ((l.length:Int)≤((i+kk:Nat):Int))=false:=dF (by omega)
    obtain⟨d',e1,hd'⟩:=hd.part (i:=i+1) (j:=i+1+kk) (by omega) (by omega) (k:=.i64) (k':=.i64)
    have hpl:=part_listed (l:=l) (i:=i) (k:=kk) (by omega)
    have H:=fun st c=>f120 (n+10) 4092 hd' (by rw[fO,dG];omega) (st:=st) (c:=c)
    rw[hpl]at H;obtain⟨FS,FC,hF⟩:∃(FS:St→Nat→St) (FC:St→Nat→Nat),∀st c,fn (n+10) 4096 (.fn 120) [d',.fn (.func 121) [] []] st c = .ok (.ret (.bool !(nV l i kk))) (FS st c) (FC st c)∧c≤FC st c∧∀x,x<c→sget (FS st c) x=sget st x:=
     ⟨fun st c=>Classical.choose (H st c),fun st c=>Classical.choose (Classical.choose_spec (H st c)),fun st c=>by have:=Classical.choose_spec (Classical.choose_spec (H st c));exact⟨this.1,this.2.1,this.2.2.1⟩⟩
    have h120:=fun st c=>(hF st c).1
    have hs0:∀b b',sget (FS (sset (sadd s c b) c b') (c+1)) 0=some (.fix 135 [.nils,.nils,.nils,.nils]):=fun b b'=>by rw[(hF _ _).2.2 0 (by omega)];simp only[aE];rw[aD (by omega),aD (by omega)];exact s0
    cases hb:nV l i kk
    ·have hp:lJ l i=some (e2 i 6):=by rw[lJ,hgl];exact aH ⟨k3,by rw[hk,cU];exact hb⟩
     rw[hb]at h120;simp only[z2,seval,q0,q39,q2,hti,htn,hd.ia hlt,hrow,bU,f0,s0,hs0,hk,bD k3,w0,w1,w2,kg,hd.len,e1,h120,nb];refine⟨.agg [.nils,.nils,.nils,.nils],i,6,true,fZ hlt hp hn,?_,fun h=>absurd h (by decide)⟩
     simp only[z2,seval,A79,q2,hs0];rfl
    ·have hp:lJ l i=none:=by rw[lJ,hgl];exact aD (by rw[hk,cU,hb];simp)
     rw[hb]at h120;simp only[z2,seval,q0,q39,q2,hti,htn,hd.ia hlt,hrow,bU,f0,s0,hs0,hk,bD k3,w0,w1,w2,kg,hd.len,e1,h120,nb];exact⟨trivial,trivial,trivial,.inr (.inr trivial),nofun,nofun,trivial,trivial,trivial,trivial,fW (show 1≤c+1 by omega) (hF _ _).2.1,eH hn hp⟩
  ·have hp:lJ l i=none:=by rw[lJ,hgl];exact aD (fun h=>k3 h.1)
   simp only[z2,seval,q0,q39,q2,hti,htn,hd.ia hlt,hrow,bU,f0,s0,aK k3,nb];exact⟨trivial,trivial,trivial,.inr (.inr trivial),nofun,nofun,trivial,trivial,trivial,trivial,by first|trivial|omega,eH hn hp⟩
 ·rintro t s c ⟨q0,q39,q2,s0,hc,hn⟩ hti htn;have hg:=goodL_of hw hn;rw[gU hn];simp only[eZ,↓reduceIte];exact T79_ok n hd hg h1 h4 hc s0 (by simp[aE,q0]) (by simp[aE,q2])
theorem c79(n:Nat){l:List Nd}{d:D}(hd:Sl 7 bU l d)(hl:l.length<4294967296)(hok:l.length≤400→NdOk l):∃T x y f,exD l=e2 x y∧cl (n+10) 79 [d]=some (.tup [T,.int .i64 x,.int .i64 y],f)∧(y=0→TreeOk l T):=by
 rw[cK (A:=A79) rfl (n+10) _ rfl,show A79.body=B79 from rfl,B79_eq]
 by_cases h0:l.length=0
 ·have hc:decide ((l.length:Int)=0)=true:=dT (by omega)
  simp only[z2,seval,hd.len,hc,nb,A79];exact⟨.agg [.nils,.nils,.nils,.nils],0,6,true,by rw[exD,aH h0],rfl,fun h=>absurd h (by decide)⟩
 have hc0:decide ((l.length:Int)=0)=false:=dF (by omega)
 by_cases h4:400<l.length
 ·have hc:decide ((400:Int)<l.length)=true:=dT (by omega)
  simp only[z2,seval,hd.len,hc0,hc,nb,A79];exact⟨.agg [.nils,.nils,.nils,.nils],0,3,true,by rw[exD,aD h0,aH h4],rfl,fun h=>absurd h (by decide)⟩
 have hc4:decide ((400:Int)<l.length)=false:=dF (by omega)
 rw[show exD l=scan (kG l) (scan (lJ l) (oB l) l.length 0) l.length 0 from by rw[exD,aD h0,aD h4]]
 show Out79 (n+10) l _ _;simp only[z2,seval,hd.len,hc0,hc4,nb];generalize hz:zloop KK _ _=rl
 refine zrange rl hz l.length (fQ (by omega)) (by omega) (fun i t s c=>tget t 0=d∧tget t 24=d∧tget t 2 = .ptr 0 0∧sget s 0=some (.fix 135 [.nils,.nils,.nils,.nils])∧1≤c∧∀j,j<i→kG l j=none) (by decide) (by simp[aE]) (by simp[aE]) ⟨by simp[aE],by simp[aE],by simp[aE],by simp[aE],by decide,nofun⟩ ?_ ?_
 ·rintro i t s c hlt ⟨q0,q24,q2,s0,hc,hn⟩ hti htn;have hrow:=hd.row hlt;have f0:(0=c)=False:=aL (by omega)
  have h119:=c119 n l[i] (hok (by omega) _ (cB hlt)).1 (hok (by omega) _ (cB hlt)).2
  simp only[bU]at h119;have htk:∀a b c d e f g:D,dE [a,b,c,d,e,f,g] 0 (some 7)=some (.agg [a,b,c,d,e,f,g]):=fun _ _ _ _ _ _ _=>rfl
  by_cases hw:mJ l[i]=0
  ·have hp:kG l i=none:=by rw[kG,aI hlt];exact aH hw
   rw[hw]at h119;simp only[z2,seval,q0,q24,q2,hti,htn,hd.ia hlt,hrow,bU,f0,s0,htk,aF (f:=119) rfl,aQ,h119,Int.reduceEq,nb];exact⟨trivial,trivial,trivial,.inr (.inr trivial),nofun,nofun,trivial,trivial,trivial,trivial,by first|trivial|omega,eH hn hp⟩
  ·have hp:kG l i=some (e2 i (mJ l[i])):=by rw[kG,aI hlt];exact aD hw
   simp only[z2,seval,q0,q24,q2,hti,htn,hd.ia hlt,hrow,bU,f0,s0,htk,aF (f:=119) rfl,aQ,h119,aK hw,nb];refine⟨.agg [.nils,.nils,.nils,.nils],i,mJ l[i],true,fZ hlt hp hn,?_,fun h=>absurd h hw⟩
   simp only[z2,seval,A79,q2];rfl
 ·rintro t s c ⟨q0,q24,q2,s0,hc,hn⟩ hti htn;rw[gU hn];simp only[eZ,↓reduceIte];exact U79_ok n hd hn (by omega) (by omega) hc s0 (by simp[aE,q0]) (by simp[aE,q2])
theorem c42(n:Nat){l:List Nd}{d:D}(hd:Sl 7 bU l d)(hl:l.length<4294967296)(hok:l.length≤400→NdOk l):cl (n+11) 42 [d]=some (exD l,true):=by
 obtain⟨T,x,y,f,h1,h2,h3⟩:=c79 n hd hl hok;rw[cK (A:=A42) rfl (n+11) _ rfl,show A42.body=B42 from rfl,h1]
 simp only[B42,Ab.abq];have hps:D.pures [d]=true:=by show(d.pure&&true)=true;rw[hd.pure];rfl
 cases f<;>simp only[z2,seval,aF (f:=79) rfl,aQ,hd.fz,hps,h2,A42]<;>rfl
structure Vr where
 name:List UInt8
 ty:Ty
def vrC(v:Vr):List D:=.str v.name::tyC v.ty
structure Fd where
 name:List UInt8
 ps:List (List UInt8)
 body:List Nd
 pd:D
 bd:D
def fdC(f:Fd):List D:=[.str f.name,f.pd,f.bd]
structure FdOk (f:Fd):Prop where
 nm:f.name.length<9223372036854775807
 p:Sl 1 iC f.ps f.pd
 b:Sl 7 bU f.body f.bd
 pn:∀s∈f.ps,s.length<9223372036854775807
 pl:f.ps.length<9223372036854775807
 bl:f.body.length<4294967296
 nd:f.body.length≤400→NdOk f.body
def exE(l:List Nd):Int:=match exD l with | .tup [_,.int _ e]=>e|_=>0
theorem exE_eq{l:List Nd}{x y:Int}(h:exD l=e2 x y):exE l=y:=by unfold exE;rw[h];rfl
def defE(f:Fd):Int:=if f.ps.length=1∨f.ps.length=2 then(if f.ps.all iP=true then(if f.ps.length=2∧f.ps.getD 0 []=f.ps.getD 1 []then 8 else exE f.body) else 6) else 23
def vP(us:List Nat)(vs:List Vr)(i:Nat):Option Int:=match vs[i]? with
 | some v=>if mX v.name ((vs.take i).map Vr.name)=0 then(if tyE us (gZ us) v.ty=0 then none else some (tyE us (gZ us) v.ty)) else some (mX v.name ((vs.take i).map Vr.name))
 | none=>none
def dfP(vs:List Vr)(fs:List Fd)(i:Nat):Option Int:=match fs[i]? with
 | some f=>if mX f.name (vs.map Vr.name++(fs.take i).map Fd.name)=0 then(if defE f=0 then none else some (defE f)) else some (mX f.name (vs.map Vr.name++(fs.take i).map Fd.name))
 | none=>none
def envE(us:List Nat)(vs:List Vr)(fs:List Fd):Int:=if 32<vs.length∨16<fs.length then 3 else scan (vP us vs) (scan (dfP vs fs) 0 fs.length 0) vs.length 0
structure tR (vs:List Vr) (fs:List Fd) (v f:D):Prop where
 v:Sl 6 vrC vs v
 f:Sl 3 fdC fs f
 vl:vs.length<9223372036854775807
 fl:fs.length<9223372036854775807
 vn:∀x∈vs,x.name.length<9223372036854775807
 fo:∀x∈fs,FdOk x
theorem uS{α β:Type}(g:α→β){l:List α}{i:Nat}(h:i<l.length):(l.take (i+1)).map g=(l.take i).map g++[g l[i]]:=by
 rw[List.take_succ_eq_append_getElem h,List.map_append];rfl
end
end Zv
namespace Zv
open Go Ab
noncomputable section
structure I23 (d e v f:D) (L:List (List UInt8)) (t:Tm) (s:St) (c:Nat):Prop where
 s0:sget s 0=some (.fix 30 [d,e,v,f])
 hc:1≤c
 hf:∀m,c≤m→sget s m=none
 own:lG 1 iC 1 s (tget t 5) L
 q1:tget t 1 = .ptr 0 0
end
end Zv
namespace Zv
open Go
noncomputable section
theorem B22_eq:B22=(.seq (.reg none [⟨(some 1),(.new 30 (.t 0)),none⟩,⟨(some 2),(.new 41 (.c (.int .i64 0))),none⟩]) (.seq (.reg none [⟨(some 3),(.new 4 (.c (.int .i64 0))),none⟩,⟨none,(.st 1 (.t 3) (.c (.int .i64 0))),none⟩]) (.seq (.reg none [⟨none,(.dfr (.f 40) [(.t 3),(.t 2)]),none⟩]) (.seq (.reg none [⟨(some 15),(.fa 0 (.t 1)),none⟩,⟨(some 16),(.ld (some 2) (.t 15)),none⟩,⟨(some 17),(.call 59 [(.t 16)]),none⟩,⟨(some 14),(.mv (.t 17)),none⟩,⟨(some 18),(.ext 0 (.t 14)),none⟩,⟨(some 19),(.ext 1 (.t 14)),none⟩,⟨none,(.st 1 (.t 2) (.t 19)),none⟩]) (.seq (.reg none [⟨(some 20),(.ld none (.t 2)),none⟩,⟨(some 21),(.call 41 [(.c (.int .i64 0)),(.t 20)]),none⟩]) (.seq (.seq (.reg none [⟨(some 22),(.fa 2 (.t 1)),none⟩,⟨(some 23),(.ld none (.t 22)),none⟩,⟨(some 24),(.len false (.t 23)),none⟩,⟨(some 25),(.bin .gtr (.t 24) (.c (.int .i64 32))),none⟩,⟨(some 26),(.mv (.t 25)),none⟩,⟨(some 27),(.fa 3 (.t 1)),(some (26,false))⟩,⟨(some 28),(.ld none (.t 27)),(some (26,false))⟩,⟨(some 29),(.len false (.t 28)),(some (26,false))⟩,⟨(some 30),(.bin .gtr (.t 29) (.c (.int .i64 16))),(some (26,false))⟩,⟨(some 31),(.pick (.t 26) (.c (.bool true)) (.t 30)),none⟩]) (.cond (.t 31) (.seq (.reg none [⟨none,(.st 1 (.t 2) (.c (.int .i64 3))),none⟩]) .ret) .skip)) (.seq (.reg none [⟨(some 32),.mkm,none⟩,⟨(some 4),(.new 107 (.c .nilm)),none⟩,⟨none,(.st 1 (.t 4) (.t 32)),none⟩]) (.seq (.reg none [⟨(some 33),(.mkfn (.func 60) [] [(.t 4)]),none⟩,⟨(some 5),(.mv (.t 33)),none⟩]) U22)))))))):=rfl
def D22:List (D×List D):=[(.fn (.func 40) [] [],[.ptr 2 0,.ptr 1 0])]
theorem end22_pan(n:Nat)(e x y:Int){t:Tm}{k k':Nat}{s:St}{c:Nat}(h1:sget s 1=some (.fix k [.int .i64 x]))(h2:sget s 2=some (.fix k' [.int .i64 y]))(hf:∀m,c≤m→sget s m=none)(hc:3≤c)(q2:tget t 2 = .ptr 1 0):
  pout (zbody (dfn n MM) A22 (.ok (.pan (jB 0 e)) ⟨t,s,c,D22,none⟩))=some (.int .i64 e,true):=by
 obtain⟨s',c',h,h1',_⟩:=caught_some n 4095 0 e x y h1 h2 hf hc;have h:dfn n MM 40 [.ptr 2 0,.ptr 1 0] (some (jB 0 e)) s c=_:=h;have:zbody (dfn n MM) A22 (.ok (.pan (jB 0 e)) ⟨t,s,c,D22,none⟩) = .ok (.ret (.int .i64 e)) s' c':=by
  show oX (dfn n MM) A22 (some (jB 0 e)) ⟨t,s,c,D22,none⟩=_;unfold oX D22;simp only[zDs,cA,dB,h,settle];simp only[z2,seval,A22,q2,h1']
 rw[this];rfl
theorem end22_ret(n:Nat)(e:Int){t:Tm}{k:Nat}{s:St}{c:Nat}(h1:sget s 1=some (.fix k [.int .i64 e]))(q2:tget t 2 = .ptr 1 0):
  pout (zbody (dfn n MM) A22 (.ok .ret ⟨t,s,c,D22,none⟩))=some (.int .i64 e,true):=by
 have h:dfn n MM 40 [.ptr 2 0,.ptr 1 0] none s c=_:=caught_none n 4095 s c;have:zbody (dfn n MM) A22 (.ok .ret ⟨t,s,c,D22,none⟩) = .ok (.ret (.int .i64 e)) s c:=by
  show oX (dfn n MM) A22 none ⟨t,s,c,D22,none⟩=_;unfold oX D22;simp only[zDs,cA,dB,h,settle];simp only[z2,seval,A22,q2,h1]
 rw[this];rfl
structure I22 (d e v f:D) (L:List (List UInt8)) (t:Tm) (s:St) (c:Nat):Prop where
 s0:sget s 0=some (.fix 30 [d,e,v,f])
 s1:sget s 1=some (.fix 41 [.int .i64 0])
 s2:sget s 2=some (.fix 4 [.int .i64 0])
 s3:sget s 3=some (.mp (mpS 0 L) L.length)
 s4:sget s 4=some (.fix 107 [.mp 3])
 hc:5≤c
 hf:∀m,c≤m→sget s m=none
 q1:tget t 1 = .ptr 0 0
 q2:tget t 2 = .ptr 1 0
 q5:tget t 5 = .fn (.func 60) [] [.ptr 4 0]
def Out22(n:Nat)(r:R)(e:Int):Prop:=pout (zbody (dfn n MM) A22 r)=some (.int .i64 e,true)
theorem I22.pan{d e v f:D}{L:List (List UInt8)}{t:Tm}{s:St}{c:Nat}(h:I22 d e v f L t s c)(n:Nat)(er:Int){t':Tm}{s':St}{c':Nat}(q2:tget t' 2=tget t 2)(h1:sget s' 1=sget s 1)(h2:sget s' 2=sget s 2)(hc:c≤c')(hf:∀m,c'≤m→sget s' m=none):Out22 n (.ok (.pan (jB 0 er)) ⟨t',s',c',D22,none⟩) er:=
 end22_pan n er 0 0 (by rw[h1];exact h.s1) (by rw[h2];exact h.s2) hf (by have:=h.hc;omega) (by rw[q2];exact h.q2)
theorem I22.next{d e v f:D}{L:List (List UInt8)}{t:Tm}{s:St}{c:Nat}(h:I22 d e v f L t s c)(nm:List UInt8)(b b':Blk){t':Tm}(q1:tget t' 1=tget t 1)(q2:tget t' 2=tget t 2)(q5:tget t' 5=tget t 5):I22 d e v f (L++[nm]) t' (sset (sset (sadd s c b) c b') 3 (.mp (mpS 0 (L++[nm])) (L.length+1))) (c+1):=by
 have hc:=h.hc;have k:∀m,m<5→m≠3→sget (sset (sset (sadd s c b) c b') 3 (.mp (mpS 0 (L++[nm])) (L.length+1))) m=sget s m:=fun m hm h3=>by rw[aN,aD h3,aN,aD (by omega),aW,aD (by omega)]
 exact⟨by rw[k 0 (by decide) (by decide)];exact h.s0,by rw[k 1 (by decide) (by decide)];exact h.s1,by rw[k 2 (by decide) (by decide)];exact h.s2,by rw[aN,aH rfl,dD];rfl,by rw[k 4 (by decide) (by decide)];exact h.s4,by omega,
  fun m hm=>by rw[aN,aD (by omega),aN,aD (by omega),aW,aD (by omega)];exact h.hf m (by omega),by rw[q1];exact h.q1,by rw[q2];exact h.q2,by rw[q5];exact h.q5⟩
theorem U22_ok(n:Nat){ss:List (List UInt8)}{us:List Nat}{d e v f:D}{vs:List Vr}{fs:List Fd}(hd:Sl 1 iC ss d)(he:Sl 1 u8C us e)(hu:iM us)(hs:oS ss)(hC:CHK ss us=e2 0 0)(hE:tR vs fs v f)
  (hW:∀{t:Tm} {s:St} {c:Nat},I22 d e v f (vs.map Vr.name) t s c→Out22 (n+12) (zC W22 (cxn (n+12)) (fn (n+12) 4096) KK ⟨t,s,c,D22,none⟩) (scan (dfP vs fs) 0 fs.length 0))
  {t:Tm} {s:St} {c:Nat} (hI:I22 d e v f [] t s c):Out22 (n+12) (zC U22 (cxn (n+12)) (fn (n+12) 4096) KK ⟨t,s,c,D22,none⟩) (scan (vP us vs) (scan (dfP vs fs) 0 fs.length 0) vs.length 0):=by
 simp only[U22,Ab.abq];simp only[z2,seval,hI.q1,hI.s0,hE.v.len];generalize hz:zloop KK _ _=rl;refine zrange rl hz vs.length (fQ hE.vl) hE.vl (fun i t s c=>I22 d e v f ((vs.take i).map Vr.name) t s c∧tget t 35=v∧∀j,j<i→vP us vs j=none) (by decide) (by simp[aE]) (by simp[aE])
  ⟨⟨hI.s0,hI.s1,hI.s2,hI.s3,hI.s4,hI.hc,hI.hf,by simp[aE,hI.q1],by simp[aE,hI.q2],by simp[aE,hI.q5]⟩,by simp[aE],nofun⟩ ?_ ?_
 ·clear hI hz;rintro i t s c hlt ⟨hI,q35,hn⟩ hti htn;have hrow:=hE.v.row hlt;have hfr:=fun s c h4 h3=>fresh_ok (n+3) 4094 (nm:=vs[i].name) (hE.vn _ (cB hlt)) (L:=(vs.take i).map Vr.name) (s:=s) (c:=c) h4 h3
  have h62:=c62 (n+2) hd he hu hs hC vs[i].ty;have hgl:vs[i]?=some vs[i]:=aI hlt;have hst:=uS Vr.name hlt;have hP:vP us vs i=if mX vs[i].name ((vs.take i).map Vr.name)=0 then(if tyE us (gZ us) vs[i].ty=0 then none else some (tyE us (gZ us) vs[i].ty)) else some (mX vs[i].name ((vs.take i).map Vr.name)):=by rw[vP,hgl]
  have htk:dE [d,e,v,f] 0 (some 2)=some (.agg [d,e]):=rfl;have htk6:∀a b c d e f:D,dE [a,b,c,d,e,f] 0 (some 6)=some (.agg [a,b,c,d,e,f])∧dE [a,b,c,d,e,f] 1 (some 5)=some (.agg [b,c,d,e,f]):=fun _ _ _ _ _ _=>⟨rfl,rfl⟩
  simp only[tyC]at h62;generalize hN:mX vs[i].name ((vs.take i).map Vr.name)=en at *;generalize hT:tyE us (gZ us) vs[i].ty=et at *;generalize hL:(vs.take i).map Vr.name=L at *;have hh:=hI.hc;have f0:(0=c)=False:=aL (by omega)
  have f1:(1=c)=False:=aL (by omega)
  have f2:(2=c)=False:=aL (by omega)
  have f3:(3=c)=False:=aL (by omega)
  have f4:(4=c)=False:=aL (by omega)
  have g3:(c=3)=False:=aL (by omega)
  by_cases h0:en=0
  ·subst h0;simp only[if_true]at hfr hP;by_cases h1:et=0
   ·subst h1;rw[aH rfl]at hP;simp only[z2,seval,hI.q1,hI.q2,hI.q5,q35,hti,htn,hE.v.ia hlt,hrow,vrC,tyC,hI.s0,f0,f1,f2,f3,f4,g3,hI.s3,hI.s4,iV,cA,dB,cD,hfr,htk,htk6,aF (f:=62) rfl,aQ,hd.fz,he.fz,h62,eY,nb];refine⟨trivial,trivial,trivial,.inr (.inr trivial),nofun,nofun,?_,trivial,eH hn hP⟩;rw[hst]
    exact hI.next _ _ _ (by simp[aE]) (by simp[aE]) (by simp[aE])
   ·rw[aD h1]at hP;have hm:∀s c,fn (n+12) 4096 (.fn 41) [.int .i64 0,.int .i64 et] s c = .ok (.pan (jB 0 et)) s c:=fun s c=>by rw[eY,aD h1]
    simp only[z2,seval,hI.q1,hI.q2,hI.q5,q35,hti,htn,hE.v.ia hlt,hrow,vrC,tyC,hI.s0,f0,f1,f2,f3,f4,g3,hI.s3,hI.s4,iV,cA,dB,cD,hfr,htk,htk6,aF (f:=62) rfl,aQ,hd.fz,he.fz,h62,hm,nb];rw[fZ hlt hP hn]
    exact hI.pan (n+12) et (by simp[aE]) (by simp[aE,f1]) (by simp[aE,f2]) (Nat.le_succ _) fun m hm=>by rw[aN,aD (by omega),aN,aD (by omega),aW,aD (by omega)];exact hI.hf m (by omega)
  ·simp only[aD h0]at hfr hP;simp only[z2,seval,hI.q1,hI.q2,hI.q5,q35,hti,htn,hE.v.ia hlt,hrow,vrC,tyC,hI.s0,f0,f1,f2,f3,f4,g3,hI.s3,hI.s4,iV,cA,dB,cD,hfr,htk,htk6,nb];rw[fZ hlt hP hn]
   exact hI.pan (n+12) en (by simp[aE]) (by simp[aE,f1]) (by simp[aE,f2]) (Nat.le_succ _) fun m hm=>by rw[aN,aD (by omega),aW,aD (by omega)];exact hI.hf m (by omega)
 ·rintro t s c ⟨hI,q35,hn⟩ hti htn;rw[gU hn];simp only[eZ,↓reduceIte];rw[List.take_length]at hI;exact hW ⟨hI.s0,hI.s1,hI.s2,hI.s3,hI.s4,hI.hc,hI.hf,by simp[aE,hI.q1],by simp[aE,hI.q2],by simp[aE,hI.q5]⟩
end
end Zv
namespace Zv
open Go Ab
noncomputable section
def Xc22:AC:=(s (s (.reg (some [(0,0),(1,0),(2,0),(3,0),(4,0),(5,0),(6,0),(7,0),(8,0),(9,0),(10,0),(11,0),(12,0),(13,0),(14,0)]) [f 86 1 9,l 87 86,o 88 87,d 89 .eql 88 (i 2),m 90 89,y 91 90 (.fa 1 (.t 9)),y 92 90 (.ld none (.t 91)),y 93 90 (.iaS 1 (.t 92) (.c (i 0))),y 94 90 (.ld none (.t 93)),y 95 90 (.fa 1 (.t 9)),y 96 90 (.ld none (.t 95)),y 97 90 (.iaS 1 (.t 96) (.c (i 1))),y 98 90 (.ld none (.t 97)),y 99 90 (.bin .eql (.t 94) (.t 98)),p 100 90 99]) (.cond (.t 100) (r [u 101 (.call 41 [(.c (i 0)),(.c (i 8))])]) .skip)) (s (r [f 103 2 9,l 104 103,v 105 42 104,m 102 105,e 106 0 102,e 107 1 102,m 12 106,m 13 107]) (r [m 108 13,u 109 (.call 41 [(.c (i 0)),(.t 108)])])))
def X22:AC:=(s (s (r [f 63 1 9,l 64 63,o 65 64,d 66 .neq 65 (i 1),m 67 66,y 68 67 (.fa 1 (.t 9)),y 69 67 (.ld none (.t 68)),y 70 67 (.len false (.t 69)),y 71 67 (.bin .neq (.t 70) (.c (i 2))),p 72 67 71]) (.cond (.t 72) (r [u 73 (.call 41 [(.c (i 0)),(.c (i 23))])]) .skip)) (s (s (r [f 74 1 9,l 75 74,o 76 75,c 77 (i 0)]) (.block 8 (.loop (s (r [b 78 .lss 77 76]) (s (.cond (.t 78) .skip (.exit 8)) (s (.block 10 (s (r [j 79 1 75 77,l 80 79,m 11 80]) (s (r [m 81 11,v 82 61 81,u 83 (.un .not (.t 82))]) (.cond (.t 83) (r [u 84 (.call 41 [(.c (i 0)),(.c (i 6))])]) .skip)))) (r [d 85 .add 77 (i 1),m 77 85]))))))) Xc22))
theorem W22_eq:W22=(s (s (r [f 52 3 1,l 53 52,o 54 53,c 55 (i 0)]) (.block 4 (.loop (s (r [b 56 .lss 55 54]) (s (.cond (.t 56) .skip (.exit 4)) (s (.block 6 (s (r [j 57 3 53 55,g 58 3 57,u 9 (.new 79 (.c (.agg [(.str []),.nils,.nils]))),w (.st 3 (.t 9) (.t 58))]) (s (r [m 59 5,f 60 0 9,l 61 60,u 62 (.callv (.t 59) [(.t 61)])]) X22))) (r [d 110 .add 55 (i 1),m 55 110]))))))) (s (r [w (.st 1 (.t 2) (.c (i 0)))]) .ret)):=rfl
def nA(d e v f:D)(L:List (List UInt8))(t:Tm)(r:R)(er:Int):Prop:=∃t' s' c',r = .ok (if er=0 then .normal else .pan (jB 0 er)) ⟨t',s',c',D22,none⟩∧I22 d e v f L t' s' c'∧∀k,k=53∨k=54∨k=55→tget t' k=tget t k
theorem nA.go{d e v f:D}{L:List (List UInt8)}{t t':Tm}{s:St}{c:Nat}(h:I22 d e v f L t' s c)(hk:∀k,k=53∨k=54∨k=55→tget t' k=tget t k):nA d e v f L t (.ok .normal ⟨t',s,c,D22,none⟩) 0:=⟨_,_,_,rfl,h,hk⟩
theorem nA.bad{d e v f:D}{L:List (List UInt8)}{t t':Tm}{s:St}{c:Nat}{er:Int}(h0:¬er=0)(h:I22 d e v f L t' s c)(hk:∀k,k=53∨k=54∨k=55→tget t' k=tget t k):nA d e v f L t (.ok (.pan (jB 0 er)) ⟨t',s,c,D22,none⟩) er:=⟨_,_,_,by rw[aD h0],h,hk⟩
theorem I22.tmp{d e v f:D}{L:List (List UInt8)}{t t':Tm}{s:St}{c c':Nat}(h:I22 d e v f L t s c)(hc:c≤c')(q1:tget t' 1=tget t 1)(q2:tget t' 2=tget t 2)(q5:tget t' 5=tget t 5):I22 d e v f L t' s c':=
 ⟨h.s0,h.s1,h.s2,h.s3,h.s4,fW h.hc hc,fun m hm=>h.hf m (fW hc hm),by rw[q1];exact h.q1,by rw[q2];exact h.q2,by rw[q5];exact h.q5⟩
theorem Xc_ok(n:Nat){d e v f:D}{L:List (List UInt8)}{x:Fd}(hx:FdOk x)(hl:x.ps.length=1∨x.ps.length=2){t:Tm}{s:St}{c k:Nat}(hI:I22 d e v f L t s c)(q9:tget t 9 = .ptr k 0)(sk:sget s k=some (.fix 79 [.str x.name,x.pd,x.bd])):
  nA d e v f L t (zC Xc22 (cxn (n+12)) (fn (n+12) 4096) KK ⟨t,s,c,D22,none⟩) (if x.ps.length=2∧x.ps.getD 0 []=x.ps.getD 1 []then 8 else exE x.body):=by
 obtain⟨xn,ps,bo,pd,bd⟩:=x;have h42:=c42 n hx.b hx.bl hx.nd;obtain⟨T,x,y,_,h1,_⟩:=c79 n hx.b hx.bl hx.nd;have h2:=exE_eq h1;rw[h1]at h42;have hp:=hx.p;have hlen:=hp.len;have hfz:=hx.b.fz;have hb:=hx.b.pure;simp only at *;rw[h2];simp only[Xc22,Ab.abq];rcases hl with hl|hl
 ·obtain⟨a,rfl⟩:∃a,ps=[a]:=by
   match ps,hl with
   | [a],_=>exact⟨a,rfl⟩
  rw[aD (by simp)]
  have k2:decide ((([a]:List (List UInt8)).length:Int)=2)=false:=rfl;by_cases h0:y=0
  ·subst h0;simp only[z2,seval,q9,sk,hlen,k2,eG,cX,AOp.kd,zop,tks,cC,dW,aF (f:=42) rfl,aQ,hfz,h42,fS,eY,nb];exact nA.go (hI.tmp (Nat.le_add_right _ _) (by simp[aE]) (by simp[aE]) (by simp[aE])) (fun k hk=>by rcases hk with rfl|rfl|rfl<;>simp[aE])
  ·have hm:∀s c,fn (n+12) 4096 (.fn 41) [.int .i64 0,.int .i64 y] s c = .ok (.pan (jB 0 y)) s c:=fun s c=>by rw[eY,aD h0]
   simp only[z2,seval,q9,sk,hlen,k2,eG,cX,AOp.kd,zop,tks,cC,dW,aF (f:=42) rfl,aQ,hfz,h42,fS,hm,nb];exact nA.bad h0 (hI.tmp (Nat.le_add_right _ _) (by simp[aE]) (by simp[aE]) (by simp[aE])) (fun k hk=>by rcases hk with rfl|rfl|rfl<;>simp[aE])
 ·obtain⟨a,b,rfl⟩:∃a b,ps=[a,b]:=by
   match ps,hl with
   | [a,b],_=>exact⟨a,b,rfl⟩
  have k2:decide ((([a,b]:List (List UInt8)).length:Int)=2)=true:=rfl;have ia:kE 1 pd (.int .i64 0)=some (.iptr ([a,b].map iC).flatten 0):=hp.ia1 (i:=0) (by simp)
  have ib:kE 1 pd (.int .i64 1)=some (.iptr ([a,b].map iC).flatten 1):=hp.ia1 (i:=1) (by simp)
  have at0:([a,b].map iC).flatten[0]?=some (.str a):=rfl;have at1:([a,b].map iC).flatten[1]?=some (.str b):=rfl;by_cases hab:a=b
  ·rw[aH ⟨rfl,by simpa using hab⟩]
   simp only[z2,seval,q9,sk,hlen,k2,ia,ib,at0,at1,bD hab,eG,cX,AOp.kd,zop,tks,cC,dW,aF (f:=42) rfl,aQ,hfz,h42,fS,eY,nb];exact nA.bad (by decide) (hI.tmp (Nat.le_add_right _ _) (by simp[aE]) (by simp[aE]) (by simp[aE])) (fun k hk=>by rcases hk with rfl|rfl|rfl<;>simp[aE])
  ·rw[aD (fun h=>hab (by simpa using h.2))]
   by_cases h0:y=0
   ·subst h0;simp only[z2,seval,q9,sk,hlen,k2,ia,ib,at0,at1,aK hab,eG,cX,AOp.kd,zop,tks,cC,dW,aF (f:=42) rfl,aQ,hfz,h42,fS,eY,nb];exact nA.go (hI.tmp (Nat.le_add_right _ _) (by simp[aE]) (by simp[aE]) (by simp[aE])) (fun k hk=>by rcases hk with rfl|rfl|rfl<;>simp[aE])
   ·have hm:∀s c,fn (n+12) 4096 (.fn 41) [.int .i64 0,.int .i64 y] s c = .ok (.pan (jB 0 y)) s c:=fun s c=>by rw[eY,aD h0]
    simp only[z2,seval,q9,sk,hlen,k2,ia,ib,at0,at1,aK hab,eG,cX,AOp.kd,zop,tks,cC,dW,aF (f:=42) rfl,aQ,hfz,h42,fS,hm,nb];exact nA.bad h0 (hI.tmp (Nat.le_add_right _ _) (by simp[aE]) (by simp[aE]) (by simp[aE])) (fun k hk=>by rcases hk with rfl|rfl|rfl<;>simp[aE])
end
end Zv
namespace Zv
open Go
noncomputable section
theorem nA.of{d e v f:D}{L:List (List UInt8)}{t t0:Tm}{r:R}{er:Int}(h:nA d e v f L t r er)(hk:∀k,k=53∨k=54∨k=55→tget t k=tget t0 k):nA d e v f L t0 r er:=by
 obtain⟨t',s',c',h1,h2,h3⟩:=h;exact⟨t',s',c',h1,h2,fun k hk'=>(h3 k hk').trans (hk k hk')⟩
theorem X22_ok(n:Nat){d e v f:D}{L:List (List UInt8)}{x:Fd}(hx:FdOk x){t:Tm}{s:St}{c k:Nat}(hI:I22 d e v f L t s c)(q9:tget t 9 = .ptr k 0)(sk:sget s k=some (.fix 79 [.str x.name,x.pd,x.bd])):
  nA d e v f L t (zC X22 (cxn (n+12)) (fn (n+12) 4096) KK ⟨t,s,c,D22,none⟩) (defE x):=by
 have hlen:=hx.p.len;have hpl:=hx.pl;have main:x.ps.length=1∨x.ps.length=2→∀t1:Tm,(∀k,k=1∨k=2∨k=5∨k=9∨k=53∨k=54∨k=55→tget t1 k=tget t k)→tget t1 75=x.pd→tget t1 76 = .int .i64 (x.ps.length:Nat)→tget t1 77 = .int .i64 0 →
   nA d e v f L t (zbind (mG 8 (zloop KK (zC (.seq (.reg none [⟨(some 78),(.bin .lss (.t 77) (.t 76)),none⟩]) (.seq (.cond (.t 78) .skip (.exit 8)) (.seq (.block 10 (.seq (.reg none [⟨(some 79),(.iaS 1 (.t 75) (.t 77)),none⟩,⟨(some 80),(.ld none (.t 79)),none⟩,⟨(some 11),(.mv (.t 80)),none⟩]) (.seq (.reg none [⟨(some 81),(.mv (.t 11)),none⟩,⟨(some 82),(.call 61 [(.t 81)]),none⟩,⟨(some 83),(.un .not (.t 82)),none⟩]) (.cond (.t 83) (.reg none [⟨(some 84),(.call 41 [(.c (.int .i64 0)),(.c (.int .i64 6))]),none⟩]) .skip)))) (.reg none [⟨(some 85),(.bin .add (.t 77) (.c (.int .i64 1))),none⟩,⟨(some 77),(.mv (.t 85)),none⟩])))) (cxn (n+12)) (fn (n+12) 4096) KK) ⟨t1,s,c,D22,none⟩)) (zC Xc22 (cxn (n+12)) (fn (n+12) 4096) KK))
    (if x.ps.all iP=true then(if x.ps.length=2∧x.ps.getD 0 []=x.ps.getD 1 []then 8 else exE x.body) else 6):=by
  intro hl t1 ht q75 q76 q77;generalize hz:zloop KK _ _=rl;refine zrange rl hz x.ps.length (fQ hpl) hpl (fun i t' s' c'=>s'=s∧c'=c∧tget t' 75=x.pd∧(∀k,k=1∨k=2∨k=5∨k=9∨k=53∨k=54∨k=55→tget t' k=tget t k)∧∀j,j<i→∀h:j<x.ps.length,iP x.ps[j]=true) (by decide) q77 q76 ⟨rfl,rfl,q75,ht,nofun⟩ ?_ ?_
  ·rintro i t' s' c' hlt ⟨rfl,rfl,q75,hk,hn⟩ hti htn;have h61:=c61 (n+3) x.ps[i] (hx.pn _ (cB hlt));cases hb:iP x.ps[i]
   ·have ha:¬x.ps.all iP=true:=fun h=>by
     have:=cE.1 h _ (cB hlt);rw[hb]at this;cases this
    rw[hb]at h61;rw[aD ha];have hm:∀s c,fn (n+12) 4096 (.fn 41) [.int .i64 0,.int .i64 6] s c = .ok (.pan (jB 0 6)) s c:=fun s c=>by rw[eY,aD (by decide)]
    simp only[z2,seval,q75,hti,htn,hx.p.ia1 hlt,hx.p.at1 hlt,iC,aF (f:=61) rfl,aQ,h61,hm,nb];exact nA.bad (by decide) (hI.tmp (aJ _) (by simp[aE,hk]) (by simp[aE,hk]) (by simp[aE,hk])) fun k h=>by rcases h with rfl|rfl|rfl<;>simp[aE,hk]
   ·rw[hb]at h61;simp only[z2,seval,q75,hti,htn,hx.p.ia1 hlt,hx.p.at1 hlt,iC,aF (f:=61) rfl,aQ,h61,nb];refine⟨trivial,trivial,trivial,.inr (.inr trivial),nofun,nofun,trivial,trivial,trivial,fun k h=>?_,fun j hj h=>?_⟩
    ·rcases h with rfl|rfl|rfl|rfl|rfl|rfl|rfl<;>simp[aE,hk]
    ·rcases cY.1 hj with h'|rfl
     ·exact hn j h' h
     ·exact hb
  ·rintro t' s' c' ⟨rfl,rfl,q75,hk,hn⟩ hti htn;have ha:x.ps.all iP=true:=cE.2 fun y hy=>by
    obtain⟨j,hj,rfl⟩:=eO hy;exact hn j hj hj
   rw[aH ha];simp only[eZ,↓reduceIte];refine(Xc_ok n hx hl (t:=tput t' 78 (.bool false)) (hI.tmp (aJ _) (by simp[aE,hk]) (by simp[aE,hk]) (by simp[aE,hk])) (k:=k) (by simp[aE,hk,q9]) sk).of fun k h=>?_
   rcases h with rfl|rfl|rfl<;>simp[aE,hk]
 unfold X22 defE;by_cases hl:x.ps.length=1∨x.ps.length=2
 ·rw[aH hl];rcases hl with hl|hl
  ·have k1:decide ((x.ps.length:Int)=1)=true:=dT (by omega)
   simp only[z2,seval,q9,sk,hlen,k1,nb];exact main (.inl hl) _ (fun k h=>by rcases h with rfl|rfl|rfl|rfl|rfl|rfl|rfl<;>simp[aE]) (by simp[aE]) (by simp[aE]) (by simp[aE])
  ·have k1:decide ((x.ps.length:Int)=1)=false:=dF (by omega)
   have k2:decide ((x.ps.length:Int)=2)=true:=dT (by omega)
   simp only[z2,seval,q9,sk,hlen,k1,k2,nb];exact main (.inr hl) _ (fun k h=>by rcases h with rfl|rfl|rfl|rfl|rfl|rfl|rfl<;>simp[aE]) (by simp[aE]) (by simp[aE]) (by simp[aE])
 ·rw[aD hl];have k1:decide ((x.ps.length:Int)=1)=false:=dF (by omega)
  have k2:decide ((x.ps.length:Int)=2)=false:=dF (by omega)
  have hm:∀s c,fn (n+12) 4096 (.fn 41) [.int .i64 0,.int .i64 23] s c = .ok (.pan (jB 0 23)) s c:=fun s c=>by rw[eY,aD (by decide)]
  simp only[z2,seval,q9,sk,hlen,k1,k2,hm,nb];exact nA.bad (by decide) (hI.tmp (aJ _) (by simp[aE]) (by simp[aE]) (by simp[aE])) fun k h=>by rcases h with rfl|rfl|rfl<;>simp[aE]
end
end Zv
