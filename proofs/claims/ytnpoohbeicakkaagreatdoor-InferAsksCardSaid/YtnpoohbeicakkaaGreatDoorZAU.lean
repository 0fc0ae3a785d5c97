/- What functions come to: trees grow, a node. Conditions: none. -/
import Derived.Test.YtnpoohbeicakkaaGreatDoorZAT
set_option linter.unusedVariables false
set_option linter.unusedSimpArgs false
set_option maxRecDepth 100000
namespace Zv
open Go
noncomputable section
variable {L ss:List (List UInt8)} {us:List Nat}
theorem jT.base{α:Type}{w:Nat}{e:α→List D}{B B':Nat}{s:St}{q:D}{l:List α}(h:jT w e B s q l)(hB:B'≤B):jT w e B' s q l:=by
 rcases h with h|⟨m,h1,h2⟩|⟨m,ty,h1,h2⟩
 ·exact .inl h
 ·exact .inr (.inl ⟨m,fZ hB h1,h2⟩)
 ·exact .inr (.inr ⟨m,ty,fZ hB h1,h2⟩)
theorem upF_same(f:Nat→D)(i:Nat)(v:D)(h:f i=v):upF f i v=f:=by
 grind [upF]
theorem eF_up(l:List Nd)(i:Nat):upF (eF l (i+1)) i (.int .i64 (gE l i:Nat))=eF l i:=by
 grind [upF,eF]
theorem dF_up(l:List Nd)(i:Nat):upF (dFn l (i+1)) i (.int .i64 (gD l i:Nat))=dFn l i:=by
 grind [upF,dFn]
theorem isK_many{x:Nd}(h:qM x):isK x=decide (fO x=1∨fO x=2)∧(isK x=true→fO x=x.kids):=by
 unfold isK fO;by_cases k:x.kind=5∨x.kind=6
 ·have:=h.kp k
  grind
 grind
theorem YT_ok(n:Nat){l:List Nd}(hl:l.length≤400){i e0 Ec:Nat}(hi:i<l.length){fE fD fK fN:Nat→D}{t:Tm}{s:St}{c:Nat}(hS:GS l.length fE (upF fD i (.int .i64 (Ec:Nat))) fK fN s)(hcur:Ec≤1000) 
  (q2:tget t 2 = .ptr 0 0) (q8:tget t 8 = .int .i64 (i:Nat)) (q9:tget t 9 = .int .i64 (e0:Nat)) :
  ∃t',zC YT.b (cxn (n+1)) (fn (n+1) 4096) KK ⟨t,s,c,[],none⟩ = .ok .normal ⟨t',sset (sset s 2 (.fix 0 (rg l.length (upF fE i (.int .i64 (e0:Nat)))))) 4 (.fix 0 (rg l.length (upF fD i (.int .i64 ((Ec+1:Nat):Int))))),c,[],none⟩∧∀k,k=0∨k=2∨k=3∨k=4∨k=8→tget t' k=tget t k:=by
 simp only[YT,cI];have x0:=hS.b0;have x2:=hS.be;have x4:=hS.bd;have z4:(rg l.length (upF fD i (.int .i64 (Ec:Nat))))[i]?=some (.int .i64 (Ec:Nat)):=by rw[wB (by omega)];unfold upF;rw[aS rfl]
 have w:bX .i64 ((Ec:Int)+1)=((Ec+1:Nat):Int):=gW (by omega)
 have zZ:∀v,(rg l.length fE).set i v=rg l.length (upF fE i v):=fun v=>rg_set _ _ _ _
 simp only[z2,seval,q2,q8,q9,x0,x2,x4,ia_ms hi,z4,w,zZ,rg_upd,rg_len,show i+1≤l.length from hi]
 refine⟨_,rfl,?_⟩;rintro k (rfl|rfl|rfl|rfl|rfl)<;>simp[aA]
theorem YI_ok(n:Nat){l:List Nd}{d:D}(hd:Sl 7 bK l d)(hg:iT l)(hl:l.length≤400){i:Nat}(hi:i<l.length){fK fN:Nat→D}{t:Tm}{s:St}{c:Nat}{b0:Bool} 
  (hS:GS l.length (eF l (i+1)) (dFn l (i+1)) fK fN s) (hK:fK i = .nils) (hc:11≤c) (zX:∀m,c≤m→sget s m=none)
  (q0:tget t 0=d) (q2:tget t 2 = .ptr 0 0) (q3:tget t 3 = .bool b0) (q4:tget t 4 = .int .i64 (l.length:Nat)) (q8:tget t 8 = .int .i64 (i:Nat)) :
  ∃t' s' c' q' b,zC YI (cxn (n+1)) (fn (n+1) 4096) KK ⟨t,s,c,[],none⟩ = .ok .normal ⟨t',s',c',[],none⟩∧GS l.length (eF l i) (dFn l i) (upF fK i q') fN s'∧jT 1 gU 11 s' q' (gK l i)∧c≤c'∧(∀m,c'≤m→sget s' m=none)∧(∀m,11≤m→m<c→sget s' m=sget s m) ∧
   tget t' 3 = .bool b∧∀k,k=0∨k=2∨k=4∨k=8→tget t' k=tget t k:=by
 simp only[YI,Ab.abq];have w0:bX .i64 ((i:Int)+1)=((i+1:Nat):Int):=gW (by omega)
 have g0:=hd.cell hi (show 0<7 by omega)
 have g2:=hd.cell hi (show 2<7 by omega)
 have zq0:(bK l[i])[0]?=some (.int .i64 l[i].kind):=rfl;have Zh:(bK l[i])[2]?=some (.int .i64 l[i].kids):=rfl;rw[zq0]at g0;rw[Zh]at g2;have zW:=hd.row hi;have Dp:=c123 n l[i];have Bi:∀st x,frz false 20 st (.agg (bK x))=some (.agg (bK x)):=fun _ _=>rfl
 have hmf:∀st,[D.agg (bK l[i])].mapM (frz false 20 st)=some [D.agg (bK l[i])]:=fun _=>rfl
 have Tz:(bK (gT l[i])).length=7:=rfl;have Tw:(bK (gT l[i])).any eG=false:=rfl;have Cm:fJ [.int .i64 0,.int .i64 0,.int .i64 0,.str [],.str [],.int .i64 0,.int .i64 0] 0 (bK (gT l[i]))=bK (gT l[i]):=rfl;obtain⟨hi1,hi2⟩:=isK_many (hg.nd i hi);have hS0:GS l.length (eF l (i+1)) (upF (dFn l (i+1)) i (.int .i64 ((0:Nat):Int))) (upF fK i .nils) fN s:=by
  rw[upF_same _ _ _ (by unfold dFn;rw[aG (by omega)];rfl),upF_same _ _ _ hK];exact hS
 have Gx:=gD_le l.length i hi (by omega)
 have hgp:1≤gD l i:=by rw[gD_eq hi];omega
 have Bm:∀(t1:Tm) (s1:St) (c1:Nat) (q':D) (b:Bool),GS l.length (eF l (i+1)) (upF (dFn l (i+1)) i (.int .i64 ((gD l i-1:Nat):Int))) (upF fK i q') fN s1→jT 1 gU 11 s1 q' (gK l i)→c≤c1→(∀m,c1≤m→sget s1 m=none)→(∀m,11≤m→m<c→sget s1 m=sget s m) →
   tget t1 9 = .int .i64 (gE l i:Nat)→tget t1 3 = .bool b→(∀k,k=0∨k=2∨k=4∨k=8→tget t1 k=tget t k) →
   ∃t' s' c' q' b,lL 10 (zC YT.b (cxn (n+1)) (fn (n+1) 4096) KK ⟨t1,s1,c1,[],none⟩) = .ok .normal ⟨t',s',c',[],none⟩∧GS l.length (eF l i) (dFn l i) (upF fK i q') fN s'∧jT 1 gU 11 s' q' (gK l i)∧c≤c'∧(∀m,c'≤m→sget s' m=none)∧(∀m,11≤m→m<c→sget s' m=sget s m) ∧
    tget t' 3 = .bool b∧∀k,k=0∨k=2∨k=4∨k=8→tget t' k=tget t k:=by
  intro t1 s1 c1 q' b h1 h2 h4 h5 h6 h7 h8 h9;obtain⟨t2,r2,hk⟩:=YT_ok n (c:=c1) hl hi h1 (by omega) ((h9 2 (by simp)).trans q2) ((h9 8 (by simp)).trans q8) h7
  rw[show gD l i-1+1=gD l i by omega,eF_up,dF_up]at r2
  rw[r2];refine⟨t2,_,c1,q',b,rfl,(h1.setE _).setD _,h2.keep fun m b hm hb=>?_,h4,fun m hm=>?_,fun m ha hb=>?_,(hk 3 (by simp)).trans h8,?_⟩
  ·grind [aU]
  ·grind [aU]
  ·grind [aU]
  ·grind
 have Yv:isK l[i]=false→gK l i=[]:=fun hk=>by
  grind [fO,cD,gK_eq]
 have Fw:∀(x y:Blk) (m:Nat),c+1≤m→sget (sset (sadd s c x) c y) m=none:=fun x y m hm=>by grind [aU,aZ]
 have Ly:∀(x y:Blk) (m:Nat),m<c→sget (sset (sadd s c x) c y) m=sget s m:=fun x y m hm=>by grind [aU,aZ]
 by_cases h3:l[i].kind=3
 ·obtain⟨k0,k4⟩:=(hg.nd i hi).k3 h3;have hE:=gE_eq hg hi;rw[aS h3]at hE;have wk:bX .i64 (((i+1:Nat):Int)+l[i].kids)=((i+1+l[i].kids.toNat:Nat):Int):=by rw[cL (by omega) (by omega)];omega
  have hk:isK l[i]=false:=by unfold isK;rw[h3];rfl
  have Fg:=Yv hk;have hD:=gD_eq hi;rw[Fg]at hD;rw[hk]at Dp;simp only[z2,seval,q0,q2,q3,q4,q8,w0,hd.ia hi,g0,g2,aH h3,wk,zW,hmf,aF 123,aJ,Dp,Tz,Tw,Cm,bR];refine Bm _ _ _ .nils b0 ?_ (by rw[Fg];exact .inl ⟨rfl,rfl⟩) (by omega) (Fw _ _) (fun m _ hm=>Ly _ _ m hm) (by simp[aA,hE]) (by simp[aA,q3]) ?_
  ·rw[hD];exact hS0.add fun m hm=>Ly _ _ m (by omega)
  ·rintro k (rfl|rfl|rfl|rfl)<;>simp[aA]
 ·have hE:=gE_eq hg hi;rw[aG h3]at hE;cases hk:isK l[i]
  ·have Fg:=Yv hk;have hD:=gD_eq hi;rw[Fg]at hD;rw[hk]at Dp;have:¬(fO l[i]=1∨fO l[i]=2):=by rw[←cD,←hi1];exact hk
   rw[aG (fun e=>this (.inl e)),aG (fun e=>this (.inr e))]at hE
   simp only[z2,seval,q0,q2,q3,q4,q8,w0,hd.ia hi,g0,g2,aE h3,zW,hmf,aF 123,aJ,Dp,Tz,Tw,Cm,bR];refine Bm _ _ _ .nils b0 ?_ (by rw[Fg];exact .inl ⟨rfl,rfl⟩) (by omega) (Fw _ _) (fun m _ hm=>Ly _ _ m hm) (by simp[aA,hE]) (by simp[aA,q3]) ?_
   ·rw[hD];exact hS0.add fun m hm=>Ly _ _ m (by omega)
   ·rintro k (rfl|rfl|rfl|rfl)<;>simp[aA]
  ·have hm:fO l[i]=1∨fO l[i]=2:=of_decide_eq_true (hi1.symm.trans hk);obtain⟨m,Tx,Ow⟩:∃m:Nat,fO l[i]=(m:Int)∧(m=1∨m=2):=by
    grind
   have hkm:l[i].kids=(m:Int):=(hi2 hk).symm.trans Tx;rw[hkm]at g2;rw[hk]at Dp;simp only[z2,seval,q0,q2,q3,q4,q8,w0,hd.ia hi,g0,g2,aE h3,zW,hmf,aF 123,aJ,Dp,Tz,Tw,Cm,bR];generalize hT:tput (tput _ 82 _) 83 _=T
   obtain⟨t1,s1,c1,q',b,r1,k1,k2,k3,k4,k5,k6,k7,k8⟩:=YN_ok n (d:=d) hg hl hi (t:=T) (c:=c+1) (c0:=c+1) (b0:=b0) (m:=m) Tx Ow (hS0.add fun m hm=>Ly (.fix 57 [.int .i64 0,.int .i64 0,.int .i64 0,.str [],.str [],.int .i64 0,.int .i64 0]) (.fix 57 (bK (gT l[i]))) m (by omega)) (by omega) (aK _) (Fw _ _)
    (by rw[←hT];simp[aA,q0]) (by rw[←hT];simp[aA,q2]) (by rw[←hT];simp[aA,q3]) (by rw[←hT];simp[aA,q4]) (by rw[←hT];simp[aA,q8]) (by rw[←hT];simp[aA]) (by rw[←hT];simp[aA]) (by rw[←hT];simp[aA])
   rw[r1];refine Bm t1 s1 c1 q' b k1 (k2.base (by omega)) (by omega) k4 (fun m h1 h2=>(k5 m h1 (by omega)).trans (Ly _ _ m h2)) k6 k7 ?_
   rintro k (rfl|rfl|rfl|rfl)
   ·rw[k8 0 (by simp),←hT];simp[aA]
   ·rw[k8 2 (by simp),←hT];simp[aA]
   ·rw[k8 4 (by simp),←hT];simp[aA]
   ·rw[k8 8 (by simp),←hT];simp[aA]
theorem Y1_ok(n:Nat){l:List Nd}{d:D}(hd:Sl 7 bK l d)(hg:iT l)(hl:l.length≤400){fN:Nat→D}{t:Tm}{s:St}{c:Nat} 
  (hS:GS l.length (eF l l.length) (dFn l l.length) (fun _=>.nils) fN s) (hc:11≤c) (zX:∀m,c≤m→sget s m=none)
  (q0:tget t 0=d) (q2:tget t 2 = .ptr 0 0) (q3:tget t 3 = .bool false) (q4:tget t 4 = .int .i64 (l.length:Nat)) :
  ∃t' s' c' fK b,zC Y1 (cxn (n+1)) (fn (n+1) 4096) KK ⟨t,s,c,[],none⟩ = .ok .ret ⟨t',s',c',[],none⟩∧GS l.length (eF l 0) (dFn l 0) fK fN s'∧(∀j,j<l.length→jT 1 gU 11 s' (fK j) (gK l j))∧tget t' 2 = .ptr 0 0∧tget t' 3 = .bool b:=by
 simp only[Y1,Ab.abq];have w0:bX .i64 ((l.length:Int)-1)=(l.length:Int)-1:=cL (by omega) (by omega)
 simp only[z2,seval,q4,w0];generalize hz:zloop KK _ _=rl
 refine zwhile rl hz l.length (dY (by omega)) (fun r z=>∃t s c fK b,z=⟨t,s,c,[],none⟩∧GS l.length (eF l (l.length-r)) (dFn l (l.length-r)) fK fN s∧(∀j,j<l.length-r→fK j = .nils)∧(∀j,l.length-r≤j→j<l.length→jT 1 gU 11 s (fK j) (gK l j))∧11≤c∧(∀m,c≤m→sget s m=none)∧tget t 0=d∧tget t 2 = .ptr 0 0∧tget t 3 = .bool b∧tget t 4 = .int .i64 (l.length:Nat)∧tget t 8 = .int .i64 ((l.length:Int)-1-r))
  ⟨_,_,_,_,_,rfl,hS,fun _ _=>rfl,fun j h1 h2=>by omega,hc,zX,by simp[aA,q0],by simp[aA,q2],by simp[aA,q3];rfl,by simp[aA,q4],by simp[aA]⟩ ?_
 clear q0 q2 q3 q4 hS hc zX hz;rintro r z hr ⟨t,s,c,fK,b,rfl,hS,Mh,Oo,hc,zX,q0,q2,q3,q4,q8⟩;by_cases zQ:r<l.length
 ·obtain⟨i,hi⟩:∃i,i=l.length-1-r:=⟨_,rfl⟩
  have e8:(l.length:Int)-1-r=(i:Nat):=by omega
  have e1:l.length-r=i+1:=by omega
  have hge:decide ((0:Int)≤(i:Nat))=true:=dT (by omega)
  rw[e1]at hS Mh Oo;rw[e8]at q8;obtain⟨t1,s1,c1,q',b1,r1,Hd,hO1,Dt,Fw,Ly,k3,hk⟩:=YI_ok n (d:=d) hd hg hl (i:=i) (by omega) (t:=tput (tput t 50 (.int .i64 (i:Nat))) 51 (.bool true)) (b0:=b) hS (Mh i (Nat.lt_succ_self i)) hc zX (by simp[aA,q0]) (by simp[aA,q2]) (by simp[aA,q3]) (by simp[aA,q4]) (by simp[aA,q8])
  have k0:tget t1 0=d:=by rw[hk 0 (by simp)];simp[aA,q0]
  have k2:tget t1 2 = .ptr 0 0:=by rw[hk 2 (by simp)];simp[aA,q2]
  have k4:tget t1 4 = .int .i64 (l.length:Nat):=by rw[hk 4 (by simp)];simp[aA,q4]
  have k8:tget t1 8 = .int .i64 (i:Nat):=by rw[hk 8 (by simp)];simp[aA,q8]
  have w1:bX .i64 ((i:Int)-1)=(l.length:Int)-1-((r+1:Nat):Int):=by rw[cL (by omega) (by omega)];omega
  simp only[z2,seval,q8,hge,r1,k8,w1];refine⟨zQ,_,_,_,upF fK i q',b1,rfl,?_,fun j hj=>?_,fun j h1 h2=>?_,by omega,Fw,by simp[aA,k0],by simp[aA,k2],by simp[aA,k3],by simp[aA,k4],by simp[aA]⟩
  ·grind
  ·grind [upF]
  ·unfold upF;by_cases e:j=i
   ·grind
   ·rw[aG e];refine(Oo j (by omega) h2).keep fun m b hm hb=>?_
    grind
 ·have e:r=l.length:=by omega
  subst e;rw[Nat.sub_self]at hS Oo;have hge:decide ((0:Int)≤(l.length:Int)-1-(l.length:Int))=false:=dF (by omega)
  have x0:=hS.b0;have zY:cX [.ms 2 0 1 l.length l.length,.ms 4 0 1 l.length l.length,.ms 6 0 1 l.length l.length,.ms 8 0 1 l.length l.length] 0 (some 4)=some (.agg [.ms 2 0 1 l.length l.length,.ms 4 0 1 l.length l.length,.ms 6 0 1 l.length l.length,.ms 8 0 1 l.length l.length]):=rfl;simp only[Y2,cI];simp only[z2,seval,q2,q3,q8,hge,x0,zY]
  refine⟨_,_,_,fK,b,rfl,?_,fun j hj=>(Oo j (dM _) hj).keep fun m b hm hb=>?_,by simp[aA,q2],by simp[aA]⟩
  ·exact⟨by rw[aU,aS rfl],by rw[aU,aG (by decide)];exact hS.be,by rw[aU,aG (by decide)];exact hS.bd,by rw[aU,aG (by decide)];exact hS.bk,by rw[aU,aG (by decide)];exact hS.bn⟩
  grind [aU]
theorem mapM_rg{g:D→Option D}{f h:Nat→D}(n:Nat)(hg:∀j,j<n→g (f j)=some (h j)):(rg n f).mapM g=some (rg n h):=by
 induction n with
 | zero=>rfl
 | succ n ih=>
  have e:∀f:Nat→D,rg (n+1) f=rg n f++[f n]:=fun f=>by grind [rg,List.range_succ]
  rw[e,e,List.mapM_append,ih fun j hj=>hg j (by omega)]
  simp_all
theorem frz_rg{p:Bool}{k L m:Nat}{s:St}{f h:Nat→D}(hs:sget s m=some (.fix 0 (rg L f)))(hg:∀j,j<L→frz p k s (f j)=some (h j)):frz p (k+1) s (.ms m 0 1 L L)=some (.sl true L (rg L h)):=by
 rw[mS,hs]
 grind [rg_len,eQ,bO,cS,mapM_rg]
theorem c122(n:Nat){l:List Nd}{d:D}(hd:Sl 7 bK l d)(hg:iT l)(hl:l.length≤400):∃(fR:Nat→D) (b:Bool),cl (n+1) 122 [d]=some (.tup [.agg [.sl true l.length (rg l.length (eF l 0)),.sl true l.length (rg l.length (dFn l 0)),.sl true l.length (rg l.length fR),.sl true l.length (rg l.length (mX (nbB l l.length)))],.bool b],true)∧∀j,j<l.length→Sl 1 gU (gK l j) (fR j):=by
 rw[uG 122 A122 B122,B122];have hc:∀b:Nat,b≤24→(0≤(l.length:Int)∧(l.length:Int)≤l.length∧(b:Int)*(l.length:Int)≤1099511627776∧(l.length:Int)≤4294967296):=fun b h2=>by
  have:(b:Int)*(l.length:Int)≤24*400:=Int.mul_le_mul (by omega) (by omega) (by omega) (by omega)
  exact⟨by omega,by omega,by omega,by omega⟩
 have zY:∀a b c d:D,[a,b,c,d].any eG=false→cX [a,b,c,d] 0 (some 4)=some (.agg [a,b,c,d]):=fun a b c d h=>rfl
 simp only[z2,↓reduceIte,Nat.reduceEqDiff,Nat.reduceAdd,Nat.reduceLeDiff,reduceCtorEq,hd.len,dR,cN,AOp.kd,zop,tks,bP,dL,dC,eq_true (hc 8 (by decide)),eq_true (hc 24 (by decide)),eq_true (hc 1 (by decide)),rep_rg,cQ,dX,cB]
 simp only[aO,aX,Nat.reduceAdd];generalize hT:tput (tput _ 21 _) 22 _=T;generalize hS:sset _ 0 _=S;obtain⟨t1,s1,c1,r1,Hd,Dt,Fw,k0,k2,k3,k4⟩:=Y0_ok n hd hg hl (t:=T) (s:=S) (c:=11) (fE:=eF l l.length) (fD:=dFn l l.length) (fK:=fun _=>.nils)
  (by
   rw[←hS];have z:∀(f:Nat→D),(∀j,j<l.length→f j = .int .i64 0)→rg l.length (fun _=>.int .i64 0)=rg l.length f:=fun f h=>rg_congr fun j hj=>(h j hj).symm
   have zE:=z (eF l l.length) fun j hj=>aG (by omega)
   have zD:=z (dFn l l.length) fun j hj=>aG (by omega)
   exact⟨by simp[aA],by simp[aA,zE],by simp[aA,zD],by simp[aA],by simp[aA];rfl⟩)
  (by decide) (fun m hm=>by rw[←hS];simp only[aA,dX];grind)
  (by rw[←hT];simp[aA]) (by rw[←hT];simp[aA]) (by rw[←hT];simp[aA]) (by rw[←hT];simp[aA])
 obtain⟨t2,s2,c2,fK,b,r2,Bu,hO,j2,j3⟩:=Y1_ok n hd hg hl Hd Dt Fw k0 k2 k3 k4;have hr:∀j,∃r,j<l.length→(∀k,frz true (k+2) s2 (fK j)=some r)∧Sl 1 gU (gK l j) r:=fun j=>by
  by_cases hj:j<l.length
  ·obtain⟨r,h1,h2⟩:=(hO j hj).fz kU true
   grind
  ·exact⟨.nils,fun h=>absurd h hj⟩
 refine⟨fun j=>Classical.choose (hr j),b,?_,fun j hj=>(Classical.choose_spec (hr j) hj).2⟩
 have x0:=Bu.b0;have htk4:cX [.ms 2 0 1 l.length l.length,.ms 4 0 1 l.length l.length,.ms 6 0 1 l.length l.length,.ms 8 0 1 l.length l.length] 0 (some 4)=some (.agg [.ms 2 0 1 l.length l.length,.ms 4 0 1 l.length l.length,.ms 6 0 1 l.length l.length,.ms 8 0 1 l.length l.length]):=rfl
 have e1:frz true 18 s2 (.ms 2 0 1 l.length l.length)=some (.sl true l.length (rg l.length (eF l 0))):=frz_rg Bu.be fun j _=>by unfold eF;split<;>rfl
 have e2:frz true 18 s2 (.ms 4 0 1 l.length l.length)=some (.sl true l.length (rg l.length (dFn l 0))):=frz_rg Bu.bd fun j _=>by unfold dFn;split<;>rfl
 have e3:frz true 18 s2 (.ms 6 0 1 l.length l.length)=some (.sl true l.length (rg l.length fun j=>Classical.choose (hr j))):=frz_rg Bu.bk fun j hj=>(Classical.choose_spec (hr j) hj).1 15
 have e4:frz true 18 s2 (.ms 8 0 1 l.length l.length)=some (.sl true l.length (rg l.length (mX (nbB l l.length)))):=frz_rg Bu.bn fun j _=>rfl
 rw[r1];simp only[z2,↓reduceIte,Nat.reduceEqDiff,Nat.reduceAdd,Nat.reduceLeDiff,reduceCtorEq,r2,j2,j3,x0,htk4,A122];have Pu:∀(k:Nat) (cs:List D),frz true (k+1) s2 (.agg cs)=(cs.mapM (frz true k s2)).map .agg:=fun _ _=>rfl
 have Pt:∀(k:Nat) (cs:List D),frz true (k+1) s2 (.tup cs)=(cs.mapM (frz true k s2)).map .tup:=fun _ _=>rfl
 have Ni:∀(k:Nat) (b:Bool),frz true (k+1) s2 (.bool b)=some (.bool b):=fun _ _=>rfl
 unfold pout;simp only[Pt 19,Pu 18,Ni 18,List.mapM_cons,List.mapM_nil,e1,e2,e3,e4,Option.pure_def,aC,bE,bR]
def itE(l:List Nd):Nat→Nat→Nat
 | 0,a=>a
 | k+1,a=>itE l k (eN l a)
theorem itE_add(l:List Nd)(k:Nat):∀m a,itE l (m+k) a=itE l k (itE l m a)
 | 0,a=>by rw[bM];rfl
 | m+1,a=>by rw[Nat.add_right_comm,itE,itE];exact itE_add l k m _
theorem itE_out(l:List Nd):∀k a,l.length≤a→itE l (k+1) a=l.length+1
 | 0,a,h=>by rw[itE,itE,eN_ge h]
 | k+1,a,h=>by rw[itE,eN_ge h];exact itE_out l k _ (Nat.le_succ _)
def opN(x:Nd):Nat:=(fO x).toNat
def nxN(l:List Nd)(i:Nat):Nat:=match l[i]? with
 | some x=>if x.kind=3 then i+1+x.kids.toNat else i+1
 | none=>i+1
theorem op_step{l:List Nd}(hg:iT l){i k:Nat}(h:i<l.length):itE l (k+1) i=itE l (opN l[i]+k) (nxN l i):=by
 rw[itE,itE_add,eN_eq h];unfold nxN opN;rw[aI h];simp only;by_cases k3:l[i].kind=3
 ·have hm:fO l[i]=0:=by unfold fO;rw[aG (by omega)]
  rw[aS k3,aS k3,hm];rfl
 ·rw[aG k3,aG k3];rcases lD (hg.nd i h) with hm|hm|hm<;>rw[hm]
  ·rfl
  ·rfl
  ·rw[aG (by decide),aS rfl]
   show itE l k _=itE l k (eN l (eN l (i+1)));split
   ·rfl
   ·have:=eN_le hg (i+1);rw[eN_ge (i:=eN l (i+1)) (by omega),show eN l (i+1)=l.length+1 by omega]
theorem nx_le{l:List Nd}(hg:iT l){i:Nat}(h:i<l.length):i<nxN l i∧nxN l i≤l.length:=by
 unfold nxN;rw[aI h];simp only;split
 ·rename_i k3;have:=hg.ls i h k3;omega
 ·omega
theorem nx_eq{l:List Nd}{i:Nat}(h:i<l.length):nxN l i=if l[i].kind=3 then i+1+l[i].kids.toNat else i+1:=by
 unfold nxN;rw[aI h]
def TreeOk(l:List Nd)(T:D):Prop:=∃fR:Nat→D,T = .agg [.sl true l.length (rg l.length (eF l 0)),.sl true l.length (rg l.length (dFn l 0)),.sl true l.length (rg l.length fR),.sl true l.length (rg l.length (mX (nbB l l.length)))]∧∀j,j<l.length→Sl 1 gU (gK l j) (fR j)
def Out79(n:Nat)(l:List Nd)(r:R)(q:D):Prop:=∃T x y f,q=e2 x y∧pout (zbody (dfn n MM) A79 r)=some (.tup [T,.int .i64 x,.int .i64 y],f)∧(y=0→TreeOk l T)
theorem W79_ok(n:Nat){l:List Nd}{d:D}(hd:Sl 7 bK l d)(hg:iT l)(h1:0<l.length)(h4:l.length≤400){t:Tm}{s:St}{c:Nat}{T:D}{cs:List D}(hT:T = .agg cs)(Av:TreeOk l T){op ap:Nat}(s0:sget s 0=some (.fix 135 cs))(q0:tget t 0=d)(q2:tget t 2 = .ptr 0 0)(q10:tget t 10 = .int .i64 (op:Nat))(q11:tget t 11 = .int .i64 (ap:Nat)) 
  (h:(0<op∧ap=l.length∧eN l 0=l.length+1)∨(op=0∧eN l 0=ap∧ap≤l.length)):Out79 n l (zC W79.b (cxn n) (fn n 4096) KK ⟨t,s,c,[],none⟩) (mL l):=by
 obtain⟨fR,hR,hK⟩:=Av;subst hT;cases hR;simp only[W79,cI];rcases h with⟨o1,rfl,o3⟩|⟨rfl,rfl,o3⟩
 ·have k0:decide ((0:Int)<(op:Nat))=true:=dT (by omega)
  simp only[z2,seval,q0,q2,q10,q11,hd.len,s0,k0,nb];refine⟨.agg [.nils,.nils,.nils,.nils],l.length,6,true,by grind [mL],?_,fun h=>absurd h (by decide)⟩
  simp only[z2,seval,A79,q2];rfl
 ·have k0:decide ((0:Int)<((0:Nat):Int))=false:=rfl;by_cases t2:eN l 0<l.length
  ·have k1:decide (((eN l 0:Nat):Int)<l.length)=true:=dT (by omega)
   simp only[z2,seval,q0,q2,q10,q11,hd.len,s0,k0,k1,nb];refine⟨.agg [.nils,.nils,.nils,.nils],eN l 0,6,true,by grind [mL],?_,fun h=>absurd h (by decide)⟩
   simp only[z2,seval,A79,q2];rfl
  ·have k1:decide (((eN l 0:Nat):Int)<l.length)=false:=dF (by omega)
   have ia:∀cs:List D,iJ 1 (.sl true l.length cs) (.int .i64 0)=some (.iptr cs 0):=fun cs=>by grind [iJ,idxD_0]
   have g0:(rg l.length (dFn l 0))[0]?=some (.int .i64 (gD l 0:Nat)):=by rw[wB h1];unfold dFn;rw[aS (dM _)]
   have hD:=gD_dN hg l.length 0 h1 (by omega) (by omega)
   by_cases t3:24<dN l 0
   ·have k2:decide ((24:Int)<(gD l 0:Nat))=true:=dT (by omega)
    simp only[z2,seval,q0,q2,q10,q11,hd.len,s0,k0,k1,ia,g0,k2,nb];refine⟨.agg [.nils,.nils,.nils,.nils],0,3,true,by grind [mL],?_,fun h=>absurd h (by decide)⟩
    simp only[z2,seval,A79,q2];rfl
   ·have Yd:∀e n cs,eG (.sl e n cs)=false:=fun _ _ _=>rfl
    have k2:decide ((24:Int)<(gD l 0:Nat))=false:=dF (by omega)
    have zY:∀a b c d:D,cX [a,b,c,d] 0 (some 4)=some (.agg [a,b,c,d]):=fun _ _ _ _=>rfl
    simp only[z2,seval,q0,q2,q10,q11,hd.len,s0,k0,k1,ia,g0,k2,zY,Yd,nb];refine⟨_,0,0,false,by grind [mL],?_,fun _=>⟨fR,rfl,hK⟩⟩
    simp only[z2,seval,A79,q2,zY,Yd];rfl
theorem T79_ok(n:Nat){l:List Nd}{d:D}(hd:Sl 7 bK l d)(hg:iT l)(h1:0<l.length)(h4:l.length≤400){t:Tm}{s:St}{c:Nat}(hc:1≤c)(s0:sget s 0=some (.fix 135 [.nils,.nils,.nils,.nils]))(q0:tget t 0=d)(q2:tget t 2 = .ptr 0 0):
  Out79 (n+10) l (zC T79 (cxn (n+10)) (fn (n+10) 4096) KK ⟨t,s,c,[],none⟩) (mL l):=by
 obtain⟨fR,b,Pn,hK⟩:=c122 (n+8) hd hg h4;have Av:TreeOk l (.agg [.sl true l.length (rg l.length (eF l 0)),.sl true l.length (rg l.length (dFn l 0)),.sl true l.length (rg l.length fR),.sl true l.length (rg l.length (mX (nbB l l.length)))]):=⟨fR,rfl,hK⟩;simp only[T79,Ab.abq];have zY:∀a b c d:D,cX [a,b,c,d] 0 (some 4)=some (.agg [a,b,c,d]):=fun _ _ _ _=>rfl
 have Yd:∀e n cs,eG (.sl e n cs)=false:=fun _ _ _=>rfl
 simp only[z2,seval,q0,q2,s0,aF 122,aJ,hd.fz,Pn,hd.pure,zY,Yd];generalize hz:zloop KK _ _=rl
 refine zwhile rl hz l.length (dY (by omega)) (fun r z=>∃t s c op ap,z=⟨t,s,c,[],none⟩∧r≤ap∧ap≤l.length∧op≤r+1∧itE l op ap=eN l 0∧1≤c∧sget s 0=some (.fix 135 [.sl true l.length (rg l.length (eF l 0)),.sl true l.length (rg l.length (dFn l 0)),.sl true l.length (rg l.length fR),.sl true l.length (rg l.length (mX (nbB l l.length)))]) ∧
  tget t 0=d∧tget t 2 = .ptr 0 0∧tget t 10 = .int .i64 (op:Nat)∧tget t 11 = .int .i64 (ap:Nat)) ⟨_,_,_,1,0,rfl,aK _,dM _,aK _,rfl,hc,by simp[aA],by simp[aA,q0],by simp[aA,q2],by simp[aA],by simp[aA]⟩ ?_
 clear q0 q2 s0 hz;rintro r z hr ⟨t,s,c,op,ap,rfl,h5,h6,h7,h8,hc,s0,q0,q2,q10,q11⟩;by_cases ho:op=0
 ·subst ho;have k0:decide ((0:Int)<((0:Nat):Int))=false:=rfl;simp only[z2,seval,q0,q2,q10,q11,k0];exact W79_ok (op:=0) (ap:=ap) (n+10) hd hg h1 h4 rfl Av s0 (by simp[aA,q0]) (by simp[aA,q2]) (by simp[aA,q10]) (by simp[aA,q11]) (.inr ⟨rfl,h8.symm,h6⟩)
 have k0:decide ((0:Int)<(op:Nat))=true:=dT (by omega)
 by_cases ha:ap=l.length
 ·subst ha;have k1:decide ((l.length:Int)<l.length)=false:=dF (by omega)
  simp only[z2,seval,q0,q2,q10,q11,k0,k1,hd.len];obtain⟨o,rfl⟩:∃o,op=o+1:=⟨op-1,by omega⟩
  exact W79_ok (op:=o+1) (ap:=l.length) (n+10) hd hg h1 h4 rfl Av s0 (by simp[aA,q0]) (by simp[aA,q2]) (by simp[aA,q10]) (by simp[aA,q11]) (.inl ⟨by omega,rfl,by grind [itE_out]⟩)
 have zQ:ap<l.length:=by omega
 have zW:=hd.row zQ;have g0:=hd.cell zQ (show 0<7 by omega)
 have g2:=hd.cell zQ (show 2<7 by omega)
 have Dp:=c123 (n+9) l[ap];obtain⟨o,rfl⟩:∃o,op=o+1:=⟨op-1,by omega⟩
 have zZ:=op_step hg zQ (k:=o);rw[h8]at zZ;have Vk:=nx_le hg zQ;have Es:=hg.nd ap zQ;have w1:bX .i64 (((o+1:Nat):Int)-1)=(o:Nat):=by rw[cL (by omega) (by omega)];omega
 have f0:(0=c)=False:=aL (by omega)
 have wa:∀a:Nat,a≤1000→bX .i64 ((a:Int)+1)=((a+1:Nat):Int):=fun a h=>gW (by omega)
 have Bi:∀st x,frz false 20 st (.agg (bK x))=some (.agg (bK x)):=fun _ _=>rfl
 have Jo:∀x,(bK x).any eG=false∧(bK x).length=7:=fun _=>⟨rfl,rfl⟩
 have Hn:∀x y,fJ (bK x) 0 (bK y)=bK y:=fun _ _=>rfl
 have Ie:∀y,fJ [D.int .i64 0,.int .i64 0,.int .i64 0,.str [],.str [],.int .i64 0,.int .i64 0] 0 (bK y)=bK y:=fun _=>rfl
 have hrx:(bK (gT l[ap])).any eG=false:=rfl;have Ai:(bK (gT l[ap])).length=7:=rfl;have lk:l[ap].kind=5∨l[ap].kind=6→l[ap].kids=((opN l[ap]:Nat):Int)∧isK l[ap]=true:=fun k=>by
  have:=Es.kp k
  grind [opN,fO,isK]
 have go:∀(t':Tm) (s':St) (c':Nat),1≤c'→sget s' 0=sget s 0→tget t' 0=d→tget t' 2 = .ptr 0 0→tget t' 10 = .int .i64 ((opN l[ap]+o:Nat):Int)→tget t' 11 = .int .i64 ((nxN l ap:Nat):Int) →
   r<l.length∧∃t s c op ap,(⟨t',s',c',[],none⟩:AS)=⟨t,s,c,[],none⟩∧r+1≤ap∧ap≤l.length∧op≤r+1+1∧itE l op ap=eN l 0∧1≤c∧sget s 0=some (.fix 135 [.sl true l.length (rg l.length (eF l 0)),.sl true l.length (rg l.length (dFn l 0)),.sl true l.length (rg l.length fR),.sl true l.length (rg l.length (mX (nbB l l.length)))]) ∧
  tget t 0=d∧tget t 2 = .ptr 0 0∧tget t 10 = .int .i64 (op:Nat)∧tget t 11 = .int .i64 (ap:Nat):=fun t' s' c' e1 e2 e3 e4 e5 e6=>
  ⟨by omega,t',s',c',_,_,rfl,by omega,Vk.2,by
   grind [opN,lD],zZ.symm,e1,by grind,e3,e4,e5,e6⟩
 simp only[bK]at Dp;by_cases Zt:l[ap].kind=5∨l[ap].kind=6
 ·obtain⟨e1,e2⟩:=lk Zt;have k3:decide (l[ap].kind=3)=false:=dF (by omega)
  have w2:bX .i64 ((o:Int)+l[ap].kids)=((opN l[ap]+o:Nat):Int):=by
   have:=Es.kp Zt;rw[cL (by omega) (by omega),e1];omega
  have e3:nxN l ap=ap+1:=by grind [nx_eq]
  rw[e2]at Dp;rw[e3]at go;simp only[z2,seval,q0,q2,q10,q11,k0,dH zQ,hd.len,hd.ia zQ,zW,g0,g2,bK,Bi,aF 123,aJ,Dp,w1,w2,wa ap (by omega),f0,k3,nb]
  refine go _ _ _ (by omega) (by simp[aA,f0]) (by simp[aA,q0]) (by simp[aA,q2]) (by simp[aA]) (by simp[aA])
 ·have e2:isK l[ap]=false:=by
   unfold isK;rw[aE (by omega),aE (by omega)];rfl
  have e1:opN l[ap]=0:=by unfold opN fO;rw[aG Zt];rfl
  rw[e2]at Dp;rw[e1,bM]at go;by_cases k3:l[ap].kind=3
  ·obtain⟨kk,hk⟩:∃kk:Nat,l[ap].kids=kk:=⟨l[ap].kids.toNat,by have:=(Es.k3 k3).1;omega⟩
   have e3:nxN l ap=ap+kk+1:=by rw[nx_eq zQ,aS k3,hk,cQ];omega
   have w2:bX .i64 ((ap:Int)+l[ap].kids)=((ap+kk:Nat):Int):=by
    have:=(Es.k3 k3).2;rw[cL (by omega) (by omega),hk];omega
   have:=(Es.k3 k3).2;rw[e3]at go;simp only[z2,seval,q0,q2,q10,q11,k0,dH zQ,hd.len,hd.ia zQ,zW,g0,g2,bK,Bi,aF 123,aJ,Dp,w1,w2,wa (ap+kk) (by omega),f0,aH k3,nb]
   refine go _ _ _ (by omega) (by simp[aA,f0]) (by simp[aA,q0]) (by simp[aA,q2]) (by simp[aA]) (by simp[aA])
  ·have e3:nxN l ap=ap+1:=by rw[nx_eq zQ,aG k3]
   rw[e3]at go;simp only[z2,seval,q0,q2,q10,q11,k0,dH zQ,hd.len,hd.ia zQ,zW,g0,g2,bK,Bi,aF 123,aJ,Dp,w1,wa ap (by omega),f0,aE k3,nb]
   refine go _ _ _ (by omega) (by simp[aA,f0]) (by simp[aA,q0]) (by simp[aA,q2]) (by simp[aA]) (by simp[aA])
theorem part_listed{l:List Nd}{i k:Nat}(h:i+1+k≤l.length):zG ((l.take (i+1+k)).drop (i+1)).length (vG ((l.take (i+1+k)).drop (i+1)))=kT l i k:=by
 have zU:((l.take (i+1+k)).drop (i+1)).length=k:=by rw[gP,eI];omega
 grind [kT,jI,vG]
theorem U79_ok(n:Nat){l:List Nd}{d:D}(hd:Sl 7 bK l d)(hw:∀j,j<l.length→iZ l j=none)(h1:0<l.length)(h4:l.length≤400){t:Tm}{s:St}{c:Nat}(hc:1≤c)(s0:sget s 0=some (.fix 135 [.nils,.nils,.nils,.nils]))(q0:tget t 0=d)(q2:tget t 2 = .ptr 0 0):
  Out79 (n+10) l (zC U79 (cxn (n+10)) (fn (n+10) 4096) KK ⟨t,s,c,[],none⟩) (scan (jW l) (mL l) l.length 0):=by
 simp only[U79,Ab.abq];simp only[z2,seval,q0,hd.len];generalize hz:zloop KK _ _=rl;refine zrange rl hz l.length (dY (by omega)) (by omega) (fun i t s c=>tget t 0=d∧tget t 39=d∧tget t 2 = .ptr 0 0∧sget s 0=some (.fix 135 [.nils,.nils,.nils,.nils])∧1≤c∧∀j,j<i→jW l j=none) (by decide) (by simp[aA]) (by simp[aA]) ⟨by simp[aA,q0],by simp[aA],by simp[aA,q2],s0,hc,nofun⟩ ?_ ?_
 ·rintro i t s c zQ ⟨q0,Ed,q2,s0,hc,hn⟩ Ag Ah;have zW:=hd.row zQ;have Fk:l[i]?=some l[i]:=aI zQ;have f0:(0=c)=False:=aL (by omega)
  have Gx:qM l[i]:=good_of (by
   grind [iZ])
  by_cases k3:l[i].kind=3
  ·have⟨k0,k4⟩:=Gx.k3 k3;obtain⟨kk,hk⟩:∃kk:Nat,l[i].kids=kk:=⟨l[i].kids.toNat,by omega⟩
   have w0:bX .i64 ((i:Int)+(kk:Nat))=((i+kk:Nat):Int):=by rw[cL (by omega) (by omega)];omega
   have w1:bX .i64 ((i:Int)+1)=((i+1:Nat):Int):=gW (by omega)
   have w2:bX .i64 (((i+1:Nat):Int)+(kk:Nat))=((i+1+kk:Nat):Int):=by rw[cL (by omega) (by omega)];omega
   by_cases hge:l.length≤i+kk
   ·have hL:kT l i l[i].kids.toNat=false:=by
     rw[hk,cQ];cases kk with
     | zero=>omega
     | succ m=>
      cases hb:kT l i (m+1)
      ·rfl
      ·have:=jI.1 hb m (by omega)
       grind [numB_ge]
    have hp:jW l i=some (e2 i 6):=by rw[jW,Fk];exact aS ⟨k3,hL⟩
    have kg:decide ((l.length:Int)≤((i+kk:Nat):Int))=true:=dT (by omega)
    simp only[z2,seval,q0,Ed,q2,Ag,Ah,hd.ia zQ,zW,bK,f0,s0,hk,aH k3,w0,kg,hd.len,nb];refine⟨.agg [.nils,.nils,.nils,.nils],i,6,true,eL zQ hp hn,?_,fun h=>absurd h (by decide)⟩
    simp only[z2,seval,A79,q2];rfl
   ·have kg:decide ((l.length:Int)≤((i+kk:Nat):Int))=false:=dF (by omega)
    obtain⟨d',e1,hd'⟩:=hd.part (i:=i+1) (j:=i+1+kk) (by omega) (by omega) (k:=.i64) (k':=.i64)
    have Mc:=part_listed (l:=l) (i:=i) (k:=kk) (by omega)
    have H:=fun st c=>f120 (n+10) 4092 hd' (by grind) (st:=st) (c:=c)
    rw[Mc]at H;obtain⟨FS,FC,hF⟩:∃(FS:St→Nat→St) (FC:St→Nat→Nat),∀st c,fn (n+10) 4096 (.fn 120) [d',.fn (.func 121) [] []] st c = .ok (.ret (.bool !(kT l i kk))) (FS st c) (FC st c)∧c≤FC st c∧∀x,x<c→sget (FS st c) x=sget st x:=
     ⟨fun st c=>Classical.choose (H st c),fun st c=>Classical.choose (Classical.choose_spec (H st c)),fun st c=>by grind⟩
    have Pp:=fun st c=>(hF st c).1
    have Ie:∀b b',sget (FS (sset (sadd s c b) c b') (c+1)) 0=some (.fix 135 [.nils,.nils,.nils,.nils]):=fun b b'=>by rw[(hF _ _).2.2 0 (by omega)];simp only[aA];grind
    cases hb:kT l i kk
    ·have hp:jW l i=some (e2 i 6):=by rw[jW,Fk];exact aS ⟨k3,by rw[hk,cQ];exact hb⟩
     rw[hb]at Pp;simp only[z2,seval,q0,Ed,q2,Ag,Ah,hd.ia zQ,zW,bK,f0,s0,Ie,hk,aH k3,w0,w1,w2,kg,hd.len,e1,Pp,nb];refine⟨.agg [.nils,.nils,.nils,.nils],i,6,true,eL zQ hp hn,?_,fun h=>absurd h (by decide)⟩
     simp only[z2,seval,A79,q2,Ie];rfl
    ·have hp:jW l i=none:=by rw[jW,Fk];exact aG (by rw[hk,cQ,hb];simp)
     rw[hb]at Pp;simp only[z2,seval,q0,Ed,q2,Ag,Ah,hd.ia zQ,zW,bK,f0,s0,Ie,hk,aH k3,w0,w1,w2,kg,hd.len,e1,Pp,nb]
     grind
  ·have hp:jW l i=none:=by rw[jW,Fk];exact aG (fun h=>k3 h.1)
   simp only[z2,seval,q0,Ed,q2,Ag,Ah,hd.ia zQ,zW,bK,f0,s0,aE k3,nb]
   grind
 ·rintro t s c ⟨q0,Ed,q2,s0,hc,hn⟩ Ag Ah;have hg:=goodL_of hw hn;rw[fL hn];simp only[fU,↓reduceIte];exact T79_ok n hd hg h1 h4 hc s0 (by simp[aA,q0]) (by simp[aA,q2])
theorem c79(n:Nat){l:List Nd}{d:D}(hd:Sl 7 bK l d)(hl:l.length<4294967296)(Av:l.length≤400→NdOk l):∃T x y f,exD l=e2 x y∧cl (n+10) 79 [d]=some (.tup [T,.int .i64 x,.int .i64 y],f)∧(y=0→TreeOk l T):=by
 rw[uG 79 A79 B79,B79];by_cases h0:l.length=0
 ·have hc:decide ((l.length:Int)=0)=true:=dT (by omega)
  simp only[z2,seval,hd.len,hc,nb,A79];exact⟨.agg [.nils,.nils,.nils,.nils],0,6,true,by grind [exD],rfl,fun h=>absurd h (by decide)⟩
 have Fe:decide ((l.length:Int)=0)=false:=dF (by omega)
 by_cases h4:400<l.length
 ·have hc:decide ((400:Int)<l.length)=true:=dT (by omega)
  simp only[z2,seval,hd.len,Fe,hc,nb,A79];exact⟨.agg [.nils,.nils,.nils,.nils],0,3,true,by grind [exD],rfl,fun h=>absurd h (by decide)⟩
 have Pf:decide ((400:Int)<l.length)=false:=dF (by omega)
 rw[show exD l=scan (iZ l) (scan (jW l) (mL l) l.length 0) l.length 0 from by grind [exD]]
 show Out79 (n+10) l _ _;simp only[z2,seval,hd.len,Fe,Pf,nb];generalize hz:zloop KK _ _=rl
 refine zrange rl hz l.length (dY (by omega)) (by omega) (fun i t s c=>tget t 0=d∧tget t 24=d∧tget t 2 = .ptr 0 0∧sget s 0=some (.fix 135 [.nils,.nils,.nils,.nils])∧1≤c∧∀j,j<i→iZ l j=none) (by decide) (by simp[aA]) (by simp[aA]) ⟨by simp[aA],by simp[aA],by simp[aA],by simp[aA],by decide,nofun⟩ ?_ ?_
 ·rintro i t s c zQ ⟨q0,Rb,q2,s0,hc,hn⟩ Ag Ah;have zW:=hd.row zQ;have f0:(0=c)=False:=aL (by omega)
  have Pq:=c119 n l[i] (Av (by omega) _ (bQ zQ)).1 (Av (by omega) _ (bQ zQ)).2
  simp only[bK]at Pq;have zY:∀a b c d e f g:D,cX [a,b,c,d,e,f,g] 0 (some 7)=some (.agg [a,b,c,d,e,f,g]):=fun _ _ _ _ _ _ _=>rfl
  by_cases hw:iU l[i]=0
  ·have hp:iZ l i=none:=by rw[iZ,aI zQ];exact aS hw
   rw[hw]at Pq;simp only[z2,seval,q0,Rb,q2,Ag,Ah,hd.ia zQ,zW,bK,f0,s0,zY,aF 119,aJ,Pq,nb]
   grind
  ·have hp:iZ l i=some (e2 i (iU l[i])):=by rw[iZ,aI zQ];exact aG hw
   simp only[z2,seval,q0,Rb,q2,Ag,Ah,hd.ia zQ,zW,bK,f0,s0,zY,aF 119,aJ,Pq,aE hw,nb];refine⟨.agg [.nils,.nils,.nils,.nils],i,iU l[i],true,eL zQ hp hn,?_,fun h=>absurd h hw⟩
   simp only[z2,seval,A79,q2];rfl
 ·rintro t s c ⟨q0,Rb,q2,s0,hc,hn⟩ Ag Ah;rw[fL hn];simp only[fU,↓reduceIte];exact U79_ok n hd hn (by omega) (by omega) hc s0 (by simp[aA,q0]) (by simp[aA,q2])
theorem c42(n:Nat){l:List Nd}{d:D}(hd:Sl 7 bK l d)(hl:l.length<4294967296)(Av:l.length≤400→NdOk l):cl (n+11) 42 [d]=some (exD l,true):=by
 obtain⟨T,x,y,f,h1,h2,h3⟩:=c79 n hd hl Av;rw[iP 42 A42 B42,h1,B42];have Fu:D.pures [d]=true:=by show(d.pure&&true)=true;rw[hd.pure];rfl
 cases f<;>simp only[z2,seval,aF 79,aJ,hd.fz,Fu,h2,A42]<;>rfl
structure Vr where
 name:List UInt8
 ty:Ty
def vrC(v:Vr):List D:=.str v.name::tyC v.ty
structure Fd where
 name:List UInt8
 ps:List (List UInt8)
 body:List Nd
 pd:D
 bd:D
def fdC(f:Fd):List D:=[.str f.name,f.pd,f.bd]
structure FdOk (f:Fd):Prop where
 nm:f.name.length<9223372036854775807
 p:Sl 1 fM f.ps f.pd
 b:Sl 7 bK f.body f.bd
 pn:∀s∈f.ps,s.length<9223372036854775807
 pl:f.ps.length<9223372036854775807
 bl:f.body.length<4294967296
 nd:f.body.length≤400→NdOk f.body
def exE(l:List Nd):Int:=match exD l with | .tup [_,.int _ e]=>e|_=>0
theorem exE_eq{l:List Nd}{x y:Int}(h:exD l=e2 x y):exE l=y:=by unfold exE;rw[h];rfl
def defE(f:Fd):Int:=if f.ps.length=1∨f.ps.length=2 then(if f.ps.all gF=true then(if f.ps.length=2∧f.ps.getD 0 []=f.ps.getD 1 []then 8 else exE f.body) else 6) else 23
def vP(us:List Nat)(vs:List Vr)(i:Nat):Option Int:=match vs[i]? with
 | some v=>if lC v.name ((vs.take i).map Vr.name)=0 then(if tyE us (gY us) v.ty=0 then none else some (tyE us (gY us) v.ty)) else some (lC v.name ((vs.take i).map Vr.name))
 | none=>none
def dfP(vs:List Vr)(fs:List Fd)(i:Nat):Option Int:=match fs[i]? with
 | some f=>if lC f.name (vs.map Vr.name++(fs.take i).map Fd.name)=0 then(if defE f=0 then none else some (defE f)) else some (lC f.name (vs.map Vr.name++(fs.take i).map Fd.name))
 | none=>none
def envE(us:List Nat)(vs:List Vr)(fs:List Fd):Int:=if 32<vs.length∨16<fs.length then 3 else scan (vP us vs) (scan (dfP vs fs) 0 fs.length 0) vs.length 0
structure mZ (vs:List Vr) (fs:List Fd) (v f:D):Prop where
 v:Sl 6 vrC vs v
 f:Sl 3 fdC fs f
 vl:vs.length<9223372036854775807
 fl:fs.length<9223372036854775807
 vn:∀x∈vs,x.name.length<9223372036854775807
 fo:∀x∈fs,FdOk x
theorem nR{α β:Type}(g:α→β){l:List α}{i:Nat}(h:i<l.length):(l.take (i+1)).map g=(l.take i).map g++[g l[i]]:=by
 rw[List.take_succ_eq_append_getElem h,List.map_append];rfl
theorem app_g1{α:Type}{e:α→List D}(he:sH 1 e){sz:Nat}(Ae:sz≤4096){B:Nat}{t:Tm}{s:St}{c:Nat}{dd:List (D×List D)}{r:Option Nat}{q:D}{L:List α}{k:α}{ty Kj:Nat}{b:D}{A:Option (D×AS)}(hA:iS ⟨t,sadd s c (.fix Kj [b]),c+1,dd,r⟩ 1 sz ty q (.ms c 0 1 1 1)=A)(hb:e k=[b])(hO:jT 1 e B s q L)(hL:L.length<4294967295)(hc:B≤c)(zX:∀m,c≤m→sget s m=none):
  ∃q' s' c',A=some (q',⟨t,s',c',dd,r⟩)∧jT 1 e B s' q' (L++[k])∧c+1≤c'∧(∀m,m<B→sget s' m=sget s m)∧∀m,c'≤m→sget s' m=none:=by
 subst hA;obtain⟨q',s',c',h1,h2,h3,h4,h5⟩:=lR he (B:=B) (l:=L) (l':=[k]) (sz:=sz) (ty:=ty) Ae (x:=⟨t,sadd s c (.fix Kj [b]),c+1,dd,r⟩) (q:=q) (b:=.ms c 0 1 1 1) rfl
  (hO.keep fun m b _ hb=>by simp only[aA];grind) (by simp only[cP,aA,↓reduceIte,cV,bS,dU,dO,List.flatten_nil,hb];rfl) (by grind) (by grind)
  (fun m hm=>by simp only at hm;simp only[aA];grind)
 exact⟨q',s',c',h1,h2,h3,fun m hm=>by rw[h4 m hm];simp only[aA];grind,h5⟩
def twP(L:List (List UInt8))(s:List UInt8)(i:Nat):Option Int:=match L[i]? with|some x=>if x=s then some 8 else none|none=>none
theorem tw_scan(L:List (List UInt8))(s:List UInt8):scan (twP L s) 0 L.length 0=if s∈L then 8 else 0:=by
 grind [eX,twP,eV,aI,bQ]
theorem c63(n:Nat){s:List UInt8}(hs:s.length<9223372036854775807){d:D}(hd:Sl 1 fM L d)(hl:L.length<9223372036854775807):cl (n+4) 63 [.str s,d]=some (.int .i64 (lC s L),true):=by
 rw[kG 63 A63 B63];unfold lC;simp only[B63,cI];have Dg:=c112 n s hs;cases hb:gF s
 ·rw[hb]at Dg;simp only[z2,seval,aF 112,aJ,Dg,nb,A63];rfl
 ·rw[hb]at Dg;rw[aS rfl,←tw_scan];simp only[z2,seval,aF 112,aJ,Dg,nb];generalize hz:zloop KK _ _=rl;refine zfor rl hz L.length (dY hl) hl (fun i t st c=>tget t 0 = .str s∧tget t 1=d∧∀j,j<i→twP L s j=none) (by simp[aA]) (by simp[aA]) ?_
  rintro i t st c hi ⟨q0,q1,hn⟩ q5;by_cases zQ:i<L.length
  ·by_cases e:L[i]=s
   ·have hp:twP L s i=some 8:=by rw[twP,aI zQ];exact aS e
    simp only[z2,seval,q0,q1,q5,hd.len,dH zQ,hd.ia1 zQ,hd.at1 zQ,fM,aH e,nb,A63];rw[eL zQ hp hn];rfl
   ·have hp:twP L s i=none:=by rw[twP,aI zQ];exact aG e
    simp only[z2,seval,q0,q1,q5,hd.len,dH zQ,hd.ia1 zQ,hd.at1 zQ,fM,aE e,nb]
    grind
  ·have e1:i=L.length:=by omega
   subst e1;rw[fL hn];simp only[z2,seval,q0,q1,q5,hd.len,gG (aK L.length),A63];rfl
theorem c64(n:Nat){x:Fd}(hx:FdOk x):cl (n+404) 64 [.agg [.str x.name,x.pd,x.bd]]=some (.int .i64 (defE x),true):=by
 rw[iP 64 A64 B64];obtain⟨xn,ps,bo,pd,bd⟩:=x;have Je:=c48 n hx.b hx.bl hx.nd;obtain⟨T,x,y,_,h1,_⟩:=c79 n hx.b hx.bl hx.nd;have h2:=exE_eq h1;rw[h1]at Je;have hp:=hx.p;have zU:=hp.len;have Bi:=hx.b.fz;have Jn:=hp.nag;have Iu:=hx.b.nag;have Mc:=hx.pl;have Mf:=hx.pn;unfold defE;simp only[B64,cI];simp only at *;rw[h2];by_cases hl:ps.length=1∨ps.length=2
 ·have k1:decide ((ps.length:Int)<1)=false:=dF (by omega)
  have k2:decide ((2:Int)<(ps.length:Int))=false:=dF (by omega)
  rw[aS hl];simp only[z2,seval,zU,k1,k2,Jn,Iu,nb];generalize hz:zloop KK _ _=rl;refine zfor rl hz ps.length (dY Mc) Mc (fun i t s c=>sget s 0=some (.fix 79 [.str xn,pd,bd])∧tget t 1 = .ptr 0 0∧∀j,j<i→∀h:j<ps.length,gF ps[j]=true) (by simp[aA]) (by simp[aA]) ?_
  rintro i t s c hi ⟨s0,q1,hn⟩ q3;by_cases zQ:i<ps.length
  ·have Dg:=c112 (n+400) ps[i] (Mf _ (bQ zQ));cases hb:gF ps[i]
   ·have ha:¬ps.all gF=true:=fun h=>by
     grind
    rw[hb]at Dg;rw[aG ha];simp only[z2,seval,s0,q1,q3,zU,dH zQ,hp.ia1 zQ,hp.at1 zQ,fM,aF 112,aJ,Dg,nb,A64];rfl
   ·rw[hb]at Dg;simp only[z2,seval,s0,q1,q3,zU,dH zQ,hp.ia1 zQ,hp.at1 zQ,fM,aF 112,aJ,Dg,nb]
    grind
  ·have e1:i=ps.length:=by omega
   subst e1;have ha:ps.all gF=true:=cF.2 fun y hy=>by
    grind [eV]
   rw[aS ha];clear hn;have Iw:=q3;clear q3;rcases hl with hl|hl
   ·obtain⟨a,rfl⟩:∃a,ps=[a]:=by
     match ps,hl with
     | [a],_=>exact⟨a,rfl⟩
    rw[aG (by simp)]
    have k2:decide ((([a]:List (List UInt8)).length:Int)=2)=false:=rfl;simp only[z2,seval,s0,q1,Iw,zU,gG (aK ([a]:List (List UInt8)).length),k2,dR,cN,AOp.kd,zop,tks,bP,dL,aF 48,aJ,Bi,Je,dV,nb,A64];rfl
   ·obtain⟨a,b,rfl⟩:∃a b,ps=[a,b]:=by
     match ps,hl with
     | [a,b],_=>exact⟨a,b,rfl⟩
    have k2:decide ((([a,b]:List (List UInt8)).length:Int)=2)=true:=rfl;have ia:iJ 1 pd (.int .i64 0)=some (.iptr ([a,b].map fM).flatten 0):=hp.ia1 (i:=0) (by simp)
    have ib:iJ 1 pd (.int .i64 1)=some (.iptr ([a,b].map fM).flatten 1):=hp.ia1 (i:=1) (by simp)
    have Jf:([a,b].map fM).flatten[0]?=some (.str a):=rfl;have at1:([a,b].map fM).flatten[1]?=some (.str b):=rfl;by_cases Hv:a=b
    ·rw[aS ⟨rfl,by grind⟩]
     simp only[z2,seval,s0,q1,Iw,zU,gG (aK ([a,b]:List (List UInt8)).length),k2,ia,ib,Jf,at1,aH Hv,dR,cN,AOp.kd,zop,tks,bP,dL,aF 48,aJ,Bi,Je,dV,nb,A64];rfl
    ·rw[aG (fun h=>Hv (by grind))]
     simp only[z2,seval,s0,q1,Iw,zU,gG (aK ([a,b]:List (List UInt8)).length),k2,ia,ib,Jf,at1,aE Hv,dR,cN,AOp.kd,zop,tks,bP,dL,aF 48,aJ,Bi,Je,dV,nb,A64];rfl
 ·rw[aG hl];by_cases h1:ps.length<1
  ·have k1:decide ((ps.length:Int)<1)=true:=dT (by omega)
   simp only[z2,seval,zU,k1,Jn,Iu,nb,A64];rfl
  ·have k1:decide ((ps.length:Int)<1)=false:=dF (by omega)
   have k2:decide ((2:Int)<(ps.length:Int))=true:=dT (by omega)
   simp only[z2,seval,zU,k1,k2,Jn,Iu,nb,A64];rfl
structure I23 (d e v f:D) (L:List (List UInt8)) (t:Tm) (s:St) (c:Nat):Prop where
 s0:sget s 0=some (.fix 30 [d,e,v,f])
 hc:1≤c
 hf:∀m,c≤m→sget s m=none
 own:jT 1 fM 1 s (tget t 5) L
 q1:tget t 1 = .ptr 0 0
def Out23(n:Nat)(r:R)(e:Int):Prop:=pout (zbody (dfn n MM) A23 r)=some (.int .i64 e,true)
variable {vs:List Vr}
variable {fs:List Fd}
theorem W23_ok(n:Nat){d e v f:D}(hE:mZ vs fs v f)(hv:vs.length≤32)(Bj:fs.length≤16){t:Tm}{s:St}{c:Nat}(hI:I23 d e v f (vs.map Vr.name) t s c):
  Out23 (n+405) (zC W23.b (cxn (n+405)) (fn (n+405) 4096) KK ⟨t,s,c,[],none⟩) (scan (dfP vs fs) 0 fs.length 0):=by
 simp only[W23,cI];simp only[z2,seval];generalize hz:zloop KK _ _=rl;refine zfor rl hz fs.length (dY hE.fl) hE.fl (fun i t s c=>I23 d e v f (vs.map Vr.name++(fs.take i).map Fd.name) t s c∧∀j,j<i→dfP vs fs j=none) (by simp[aA])
  ⟨by rw[cC,dU,dG];exact⟨hI.s0,hI.hc,hI.hf,by simp only[aA];exact hI.own,by simp[aA,hI.q1]⟩,nofun⟩ ?_
 clear hI hz;rintro i t s c hi ⟨hI,hn⟩ q8;by_cases zQ:i<fs.length
 ·have zW:=hE.f.row zQ;have Av:=hE.fo _ (bQ zQ);have Sd:(vs.map Vr.name++(fs.take i).map Fd.name).length<1000:=by rw[dZ,dB,dB,eI];omega
  obtain⟨r,hr,hrs⟩:=hI.own.fz enc_str false;have Dd:=c63 (n+400) Av.nm hrs (by omega)
  have Pj:=c64 n Av;have Fk:fs[i]?=some fs[i]:=aI zQ;have zZ:=nR Fd.name zQ;have hP:dfP vs fs i=if lC fs[i].name (vs.map Vr.name++(fs.take i).map Fd.name)=0 then(if defE fs[i]=0 then none else some (defE fs[i])) else some (lC fs[i].name (vs.map Vr.name++(fs.take i).map Fd.name)):=by rw[dfP,Fk]
  have g0:=hE.f.cell zQ (show 0<3 by omega)
  have Jn:=Av.p.nag;have Iu:=Av.b.nag;have hpf:=Av.p.fz;have hbf:=Av.b.fz;rw[zZ,←List.append_assoc];generalize hN:lC fs[i].name (vs.map Vr.name++(fs.take i).map Fd.name)=en at *;generalize hL:vs.map Vr.name++(fs.take i).map Fd.name=L at *;by_cases h0:en=0
  ·subst h0;simp only[if_true]at hP;by_cases h1:defE fs[i]=0
   ·rw[aS h1]at hP;rw[h1]at Pj;have hO:=hI.own;simp only[z2,seval,hI.q1,q8,hE.f.len,dH zQ,hE.f.ia zQ,zW,fdC,g0,hI.s0,Jn,Iu,aF 63,aF 64,aJ,hr,Dd,hpf,hbf,Pj,nb];generalize hA:iS _ 1 16 10 _ _=A;obtain⟨q',s',c',rfl,hO',Bw,Gr,Dn⟩:=app_g1 enc_str (by decide) (B:=1) (k:=fs[i].name) hA rfl hO (by omega) hI.hc hI.hf
    simp only[z2,seval];exact⟨zQ,trivial,trivial,by omega,⟨by rw[Gr 0 (by decide)];exact hI.s0,by omega,Dn,by simp only[aA];exact hO',by simp[aA,hI.q1]⟩,kP hn hP⟩
   ·rw[aG h1]at hP;simp only[z2,seval,hI.q1,q8,hE.f.len,dH zQ,hE.f.ia zQ,zW,fdC,g0,hI.s0,Jn,Iu,aF 63,aF 64,aJ,hr,Dd,hpf,hbf,Pj,aE h1,nb];rw[eL zQ hP hn];unfold Out23;simp only[z2,seval,A23];rfl
  ·simp only[aG h0]at hP;simp only[z2,seval,hI.q1,q8,hE.f.len,dH zQ,hE.f.ia zQ,zW,fdC,g0,hI.s0,Jn,Iu,aF 63,aJ,hr,Dd,aE h0,nb];rw[eL zQ hP hn];unfold Out23;simp only[z2,seval,A23];rfl
 ·have e1:i=fs.length:=by omega
  subst e1;rw[fL hn];unfold Out23;simp only[z2,seval,hI.q1,q8,hE.f.len,hI.s0,gG (aK fs.length),A23];rfl
theorem U23_ok(n:Nat){d e v f:D}(hd:Sl 1 fM ss d)(he:Sl 1 u8C us e)(hu:fY us)(hC:CHK ss us=e2 0 0)(hE:mZ vs fs v f)(hv:vs.length≤32)(Bj:fs.length≤16){t:Tm}{s:St}{c:Nat}(hI:I23 d e v f [] t s c):
  Out23 (n+405) (zC U23 (cxn (n+405)) (fn (n+405) 4096) KK ⟨t,s,c,[],none⟩) (scan (vP us vs) (scan (dfP vs fs) 0 fs.length 0) vs.length 0):=by
 obtain⟨Cs,⟨h1,h8⟩,_⟩:=zO hC;simp only[U23,Ab.abq];simp only[z2,seval];generalize hz:zloop KK _ _=rl;refine zfor rl hz vs.length (dY hE.vl) hE.vl (fun i t s c=>I23 d e v f ((vs.take i).map Vr.name) t s c∧∀j,j<i→vP us vs j=none) (by simp[aA])
  ⟨⟨hI.s0,hI.hc,hI.hf,by simp only[aA];exact hI.own,by simp[aA,hI.q1]⟩,nofun⟩ ?_
 clear hI hz;rintro i t s c hi ⟨hI,hn⟩ q6;by_cases zQ:i<vs.length
 ·have zW:=hE.v.row zQ;have Sd:((vs.take i).map Vr.name).length<1000:=by rw[dB,eI];omega
  obtain⟨r,hr,hrs⟩:=hI.own.fz enc_str false;have Dd:=c63 (n+400) (hE.vn _ (bQ zQ)) hrs (by omega)
  have h55:=c55 (n+402) hd he hu Cs (by omega) (by omega) vs[i].ty
  have Fk:vs[i]?=some vs[i]:=aI zQ;have zZ:=nR Vr.name zQ;have hP:vP us vs i=if lC vs[i].name ((vs.take i).map Vr.name)=0 then(if tyE us (gY us) vs[i].ty=0 then none else some (tyE us (gY us) vs[i].ty)) else some (lC vs[i].name ((vs.take i).map Vr.name)):=by rw[vP,Fk]
  have g0:=hE.v.cell zQ (show 0<6 by omega)
  have zY:cX [d,e,v,f] 0 (some 2)=some (.agg [d,e]):=rfl;have Gj:cX (vs.map vrC).flatten (i*6+1) (some 5)=some (.agg (tyC vs[i].ty)):=by
   have hb:=jE.ble hE.v (i:=i) (by grind)
   have h2:=jE.tk hE.v (i:=i) (by grind)
   rw[List.getElem_map]at h2;simp only[cX];rw[bO (by omega),bG]
   have:((vs.map vrC).flatten.drop (i*6+1)).take 5=(((vs.map vrC).flatten.drop (i*6)).take 6).drop 1:=by rw[List.drop_take,List.drop_drop]
   rw[this,h2];rfl
  rw[zZ];simp only[tyC]at h55 Gj;generalize hN:lC vs[i].name ((vs.take i).map Vr.name)=en at *;generalize hT:tyE us (gY us) vs[i].ty=et at *;generalize hL:(vs.take i).map Vr.name=L at *;by_cases h0:en=0
  ·subst h0;simp only[if_true]at hP;by_cases h1:et=0
   ·subst h1;rw[aS rfl]at hP;have hO:=hI.own;simp only[z2,seval,hI.q1,q6,hE.v.len,dH zQ,hE.v.ia zQ,vrC,g0,hI.s0,hd.nag,he.nag,aF 63,aF 55,aJ,hr,Dd,hd.fz,he.fz,zY,Gj,h55,dR,cN,AOp.kd,zop,tks,bP,dL,nb];generalize hA:iS _ 1 16 10 _ _=A
    obtain⟨q',s',c',rfl,hO',Bw,Gr,Dn⟩:=app_g1 enc_str (by decide) (B:=1) (k:=vs[i].name) hA rfl hO (by omega) (fZ hI.hc (Nat.le_add_right _ _)) (fun m hm=>hI.hf m (by omega))
    simp only[z2,seval];exact⟨zQ,trivial,trivial,by omega,⟨by rw[Gr 0 (by decide)];exact hI.s0,by omega,Dn,by simp only[aA];exact hO',by simp[aA,hI.q1]⟩,kP hn hP⟩
   ·rw[aG h1]at hP;simp only[z2,seval,hI.q1,q6,hE.v.len,dH zQ,hE.v.ia zQ,vrC,g0,hI.s0,hd.nag,he.nag,aF 63,aF 55,aJ,hr,Dd,hd.fz,he.fz,zY,Gj,h55,dR,cN,AOp.kd,zop,tks,bP,dL,aE h1,nb];rw[eL zQ hP hn];unfold Out23;simp only[z2,seval,A23];rfl
  ·simp only[aG h0]at hP;simp only[z2,seval,hI.q1,q6,hE.v.len,dH zQ,hE.v.ia zQ,vrC,g0,hI.s0,aF 63,aJ,hr,Dd,aE h0,nb];rw[eL zQ hP hn];unfold Out23;simp only[z2,seval,A23];rfl
 ·have e1:i=vs.length:=by omega
  subst e1;rw[List.take_length]at hI;rw[fL hn];simp only[z2,seval,hI.q1,q6,hE.v.len,hI.s0,gG (aK vs.length)];exact W23_ok n hE hv Bj ⟨hI.s0,hI.hc,hI.hf,by simp only[aA];exact hI.own,by simp[aA,hI.q1]⟩
theorem c23e(n:Nat){d e v f:D}(hd:Sl 1 fM ss d)(he:Sl 1 u8C us e)(hu:fY us)(hs:oZ ss){x er:Int}(hC:CHK ss us=e2 x er)(h0:er≠0)(hE:mZ vs fs v f):cl (n+405) 23 [.agg [d,e,v,f]]=some (.int .i64 er,true):=by
 rw[uG 23 A23 B23,B23];have Sw:=c54 (n+401) hd he hu hs;rw[hC]at Sw;have zY:cX [d,e,v,f] 0 (some 2)=some (.agg [d,e]):=rfl;simp only[z2,seval,hd.nag,he.nag,hE.v.nag,hE.f.nag,zY,aF 54,aJ,hd.fz,he.fz,Sw,dV,aE h0,nb,A23];rfl
theorem c23(n:Nat){d e v f:D}(hd:Sl 1 fM ss d)(he:Sl 1 u8C us e)(hu:fY us)(hs:oZ ss)(hC:CHK ss us=e2 0 0)(hE:mZ vs fs v f):cl (n+405) 23 [.agg [d,e,v,f]]=some (.int .i64 (envE us vs fs),true):=by
 rw[uG 23 A23 B23,B23];have Sw:=c54 (n+401) hd he hu hs;rw[hC]at Sw;have zY:cX [d,e,v,f] 0 (some 2)=some (.agg [d,e]):=rfl;unfold envE;by_cases h32:32<vs.length
 ·have k1:decide ((32:Int)<vs.length)=true:=dT (by omega)
  rw[aS (.inl h32)];simp only[z2,seval,hd.nag,he.nag,hE.v.nag,hE.f.nag,hE.v.len,hE.f.len,k1,zY,aF 54,aJ,hd.fz,he.fz,Sw,dV,nb,A23];rfl
 have k1:decide ((32:Int)<vs.length)=false:=dF (by omega)
 by_cases De:16<fs.length
 ·have k2:decide ((16:Int)<fs.length)=true:=dT (by omega)
  rw[aS (.inr De)];simp only[z2,seval,hd.nag,he.nag,hE.v.nag,hE.f.nag,hE.v.len,hE.f.len,k1,k2,zY,aF 54,aJ,hd.fz,he.fz,Sw,dV,nb,A23];rfl
 have k2:decide ((16:Int)<fs.length)=false:=dF (by omega)
 rw[aG (by omega)]
 simp only[z2,seval,hd.nag,he.nag,hE.v.nag,hE.f.nag,hE.v.len,hE.f.len,k1,k2,zY,aF 54,aJ,hd.fz,he.fz,Sw,dV,nb];refine U23_ok n hd he hu hC hE (by omega) (by omega) ⟨by simp[aA],by decide,fun m hm=>?_,by simp only[aA];exact .inl ⟨rfl,rfl⟩,by simp[aA]⟩
 simp only[aA,dX];grind
def D22:List (D×List D):=[(.fn (.func 40) [] [],[.ptr 2 0,.ptr 1 0])]
theorem end22_pan(n:Nat)(e x y:Int){t:Tm}{k k':Nat}{s:St}{c:Nat}(h1:sget s 1=some (.fix k [.int .i64 x]))(h2:sget s 2=some (.fix k' [.int .i64 y]))(hf:∀m,c≤m→sget s m=none)(hc:3≤c)(q2:tget t 2 = .ptr 1 0):
  pout (zbody (dfn n MM) A22 (.ok (.pan (jL 0 e)) ⟨t,s,c,D22,none⟩))=some (.int .i64 e,true):=by
 obtain⟨s',c',h,Xk,_⟩:=caught_some n 4095 0 e x y h1 h2 hf hc;have h:dfn n MM 40 [.ptr 2 0,.ptr 1 0] (some (jL 0 e)) s c=_:=h;have:zbody (dfn n MM) A22 (.ok (.pan (jL 0 e)) ⟨t,s,c,D22,none⟩) = .ok (.ret (.int .i64 e)) s' c':=by
  show pU (dfn n MM) A22 (some (jL 0 e)) ⟨t,s,c,D22,none⟩=_;unfold pU D22;simp only[zDs,cK,dG,h,settle];simp only[z2,seval,A22,q2,Xk]
 rw[this];rfl
theorem end22_ret(n:Nat)(e:Int){t:Tm}{k:Nat}{s:St}{c:Nat}(h1:sget s 1=some (.fix k [.int .i64 e]))(q2:tget t 2 = .ptr 1 0):
  pout (zbody (dfn n MM) A22 (.ok .ret ⟨t,s,c,D22,none⟩))=some (.int .i64 e,true):=by
 have h:dfn n MM 40 [.ptr 2 0,.ptr 1 0] none s c=_:=caught_none n 4095 s c;have:zbody (dfn n MM) A22 (.ok .ret ⟨t,s,c,D22,none⟩) = .ok (.ret (.int .i64 e)) s c:=by
  show pU (dfn n MM) A22 none ⟨t,s,c,D22,none⟩=_;unfold pU D22;simp only[zDs,cK,dG,h,settle];simp only[z2,seval,A22,q2,h1]
 rw[this];rfl
structure I22 (d e v f:D) (L:List (List UInt8)) (t:Tm) (s:St) (c:Nat):Prop where
 s0:sget s 0=some (.fix 30 [d,e,v,f])
 s1:sget s 1=some (.fix 41 [.int .i64 0])
 s2:sget s 2=some (.fix 4 [.int .i64 0])
 s3:sget s 3=some (.mp (mpS 0 L) L.length)
 s4:sget s 4=some (.fix 107 [.mp 3])
 hc:5≤c
 hf:∀m,c≤m→sget s m=none
 q1:tget t 1 = .ptr 0 0
 q2:tget t 2 = .ptr 1 0
 q5:tget t 5 = .fn (.func 60) [] [.ptr 4 0]
def Out22(n:Nat)(r:R)(e:Int):Prop:=pout (zbody (dfn n MM) A22 r)=some (.int .i64 e,true)
theorem I22.pan{d e v f:D}{t:Tm}{s:St}{c:Nat}(h:I22 d e v f L t s c)(n:Nat)(er:Int){t':Tm}{s':St}{c':Nat}(q2:tget t' 2=tget t 2)(h1:sget s' 1=sget s 1)(h2:sget s' 2=sget s 2)(hc:c≤c')(hf:∀m,c'≤m→sget s' m=none):Out22 n (.ok (.pan (jL 0 er)) ⟨t',s',c',D22,none⟩) er:=
 end22_pan n er 0 0 (by rw[h1];exact h.s1) (by rw[h2];exact h.s2) hf (by have:=h.hc;omega) (by rw[q2];exact h.q2)
theorem I22.next{d e v f:D}{t:Tm}{s:St}{c:Nat}(h:I22 d e v f L t s c)(nm:List UInt8)(b b':Blk){t':Tm}(q1:tget t' 1=tget t 1)(q2:tget t' 2=tget t 2)(q5:tget t' 5=tget t 5):I22 d e v f (L++[nm]) t' (sset (sset (sadd s c b) c b') 3 (.mp (mpS 0 (L++[nm])) (L.length+1))) (c+1):=by
 have hc:=h.hc;have k:∀m,m<5→m≠3→sget (sset (sset (sadd s c b) c b') 3 (.mp (mpS 0 (L++[nm])) (L.length+1))) m=sget s m:=fun m hm h3=>by grind [aU,aZ]
 exact⟨by rw[k 0 (by decide) (by decide)];exact h.s0,by rw[k 1 (by decide) (by decide)];exact h.s1,by rw[k 2 (by decide) (by decide)];exact h.s2,by grind [aU,dZ],by rw[k 4 (by decide) (by decide)];exact h.s4,by omega,
  fun m hm=>by rw[aU,aG (by omega),aU,aG (by omega),aZ,aG (by omega)];exact h.hf m (by omega),by rw[q1];exact h.q1,by rw[q2];exact h.q2,by rw[q5];exact h.q5⟩
theorem U22_ok(n:Nat){d e v f:D}(hd:Sl 1 fM ss d)(he:Sl 1 u8C us e)(hu:fY us)(hs:oZ ss)(hC:CHK ss us=e2 0 0)(hE:mZ vs fs v f) 
  (hW:∀{t:Tm} {s:St} {c:Nat},I22 d e v f (vs.map Vr.name) t s c→Out22 (n+12) (zC W22.b (cxn (n+12)) (fn (n+12) 4096) KK ⟨t,s,c,D22,none⟩) (scan (dfP vs fs) 0 fs.length 0))
  {t:Tm} {s:St} {c:Nat} (hI:I22 d e v f [] t s c):Out22 (n+12) (zC U22 (cxn (n+12)) (fn (n+12) 4096) KK ⟨t,s,c,D22,none⟩) (scan (vP us vs) (scan (dfP vs fs) 0 fs.length 0) vs.length 0):=by
 simp only[U22,Ab.abq];simp only[z2,seval,hI.q1,hI.s0,hE.v.len];generalize hz:zloop KK _ _=rl;refine zrange rl hz vs.length (dY hE.vl) hE.vl (fun i t s c=>I22 d e v f ((vs.take i).map Vr.name) t s c∧tget t 35=v∧∀j,j<i→vP us vs j=none) (by decide) (by simp[aA]) (by simp[aA])
  ⟨⟨hI.s0,hI.s1,hI.s2,hI.s3,hI.s4,hI.hc,hI.hf,by simp[aA,hI.q1],by simp[aA,hI.q2],by simp[aA,hI.q5]⟩,by simp[aA],nofun⟩ ?_ ?_
 ·clear hI hz;rintro i t s c zQ ⟨hI,q35,hn⟩ Ag Ah;have zW:=hE.v.row zQ;have zX:=fun s c h4 h3=>fresh_ok (n+3) 4094 (nm:=vs[i].name) (hE.vn _ (bQ zQ)) (L:=(vs.take i).map Vr.name) (s:=s) (c:=c) h4 h3
  have Fo:=c62 (n+2) hd he hu hs hC vs[i].ty;have Fk:vs[i]?=some vs[i]:=aI zQ;have zZ:=nR Vr.name zQ;have hP:vP us vs i=if lC vs[i].name ((vs.take i).map Vr.name)=0 then(if tyE us (gY us) vs[i].ty=0 then none else some (tyE us (gY us) vs[i].ty)) else some (lC vs[i].name ((vs.take i).map Vr.name)):=by rw[vP,Fk]
  have zY:cX [d,e,v,f] 0 (some 2)=some (.agg [d,e]):=rfl;have Rn:∀a b c d e f:D,cX [a,b,c,d,e,f] 0 (some 6)=some (.agg [a,b,c,d,e,f])∧cX [a,b,c,d,e,f] 1 (some 5)=some (.agg [b,c,d,e,f]):=fun _ _ _ _ _ _=>⟨rfl,rfl⟩
  simp only[tyC]at Fo;generalize hN:lC vs[i].name ((vs.take i).map Vr.name)=en at *;generalize hT:tyE us (gY us) vs[i].ty=et at *;generalize hL:(vs.take i).map Vr.name=L at *;have hh:=hI.hc;have f0:(0=c)=False:=aL (by omega)
  have f1:(1=c)=False:=aL (by omega)
  have f2:(2=c)=False:=aL (by omega)
  have f3:(3=c)=False:=aL (by omega)
  have f4:(4=c)=False:=aL (by omega)
  have g3:(c=3)=False:=aL (by omega)
  by_cases h0:en=0
  ·subst h0;simp only[if_true]at zX hP;by_cases h1:et=0
   ·subst h1;rw[aS rfl]at hP;simp only[z2,seval,hI.q1,hI.q2,hI.q5,q35,Ag,Ah,hE.v.ia zQ,zW,vrC,tyC,hI.s0,f0,f1,f2,f3,f4,g3,hI.s3,hI.s4,jB,cK,dG,cA,zX,zY,Rn,aF 62,aJ,hd.fz,he.fz,Fo,fS,nb];refine⟨trivial,trivial,trivial,.inr (.inr trivial),nofun,nofun,?_,trivial,kP hn hP⟩;rw[zZ]
    exact hI.next _ _ _ (by simp[aA]) (by simp[aA]) (by simp[aA])
   ·rw[aG h1]at hP;have hm:∀s c,fn (n+12) 4096 (.fn 41) [.int .i64 0,.int .i64 et] s c = .ok (.pan (jL 0 et)) s c:=fun s c=>by grind [fS]
    simp only[z2,seval,hI.q1,hI.q2,hI.q5,q35,Ag,Ah,hE.v.ia zQ,zW,vrC,tyC,hI.s0,f0,f1,f2,f3,f4,g3,hI.s3,hI.s4,jB,cK,dG,cA,zX,zY,Rn,aF 62,aJ,hd.fz,he.fz,Fo,hm,nb];rw[eL zQ hP hn]
    exact hI.pan (n+12) et (by simp[aA]) (by simp[aA,f1]) (by simp[aA,f2]) (Nat.le_succ _) fun m hm=>by rw[aU,aG (by omega),aU,aG (by omega),aZ,aG (by omega)];exact hI.hf m (by omega)
  ·simp only[aG h0]at zX hP;simp only[z2,seval,hI.q1,hI.q2,hI.q5,q35,Ag,Ah,hE.v.ia zQ,zW,vrC,tyC,hI.s0,f0,f1,f2,f3,f4,g3,hI.s3,hI.s4,jB,cK,dG,cA,zX,zY,Rn,nb];rw[eL zQ hP hn]
   exact hI.pan (n+12) en (by simp[aA]) (by simp[aA,f1]) (by simp[aA,f2]) (Nat.le_succ _) fun m hm=>by rw[aU,aG (by omega),aZ,aG (by omega)];exact hI.hf m (by omega)
 ·rintro t s c ⟨hI,q35,hn⟩ Ag Ah;rw[fL hn];simp only[fU,↓reduceIte];rw[List.take_length]at hI;exact hW ⟨hI.s0,hI.s1,hI.s2,hI.s3,hI.s4,hI.hc,hI.hf,by simp[aA,hI.q1],by simp[aA,hI.q2],by simp[aA,hI.q5]⟩
end
end Zv
namespace Zv
open Go Ab
noncomputable section
variable {L:List (List UInt8)}
def Xc22:AC:=(s (s (.reg (some [(0,0),(1,0),(2,0),(3,0),(4,0),(5,0),(6,0),(7,0),(8,0),(9,0),(10,0),(11,0),(12,0),(13,0),(14,0)]) [f 86 1 9,l 87 86,o 88 87,d 89 .eql 88 (i 2),m 90 89,y 91 90 (.fa 1 (.t 9)),y 92 90 (.ld none (.t 91)),y 93 90 (.iaS 1 (.t 92) (.c (i 0))),y 94 90 (.ld none (.t 93)),y 95 90 (.fa 1 (.t 9)),y 96 90 (.ld none (.t 95)),y 97 90 (.iaS 1 (.t 96) (.c (i 1))),y 98 90 (.ld none (.t 97)),y 99 90 (.bin .eql (.t 94) (.t 98)),p 100 90 99]) (.cond (.t 100) (r [u 101 (.call 41 [(.c (i 0)),(.c (i 8))])]) .skip)) (s (r [f 103 2 9,l 104 103,v 105 42 104,m 102 105,e 106 0 102,e 107 1 102,m 12 106,m 13 107]) (r [m 108 13,u 109 (.call 41 [(.c (i 0)),(.t 108)])])))
def X22:AC:=(s (s (r [f 63 1 9,l 64 63,o 65 64,d 66 .neq 65 (i 1),m 67 66,y 68 67 (.fa 1 (.t 9)),y 69 67 (.ld none (.t 68)),y 70 67 (.len false (.t 69)),y 71 67 (.bin .neq (.t 70) (.c (i 2))),p 72 67 71]) (.cond (.t 72) (r [u 73 (.call 41 [(.c (i 0)),(.c (i 23))])]) .skip)) (s (s (r [f 74 1 9,l 75 74,o 76 75,c 77 (i 0)]) (.block 8 (.loop (s (r [b 78 .lss 77 76]) (s (.cond (.t 78) .skip (.exit 8)) (s (.block 10 (s (r [j 79 1 75 77,l 80 79,m 11 80]) (s (r [m 81 11,v 82 61 81,u 83 (.un .not (.t 82))]) (.cond (.t 83) (r [u 84 (.call 41 [(.c (i 0)),(.c (i 6))])]) .skip)))) (r [d 85 .add 77 (i 1),m 77 85]))))))) Xc22))
theorem W22_eq:W22.b=(.seq (.seq (.reg none [⟨(some 52),(.fa 3 (.t 1)),none⟩,⟨(some 53),(.ld none (.t 52)),none⟩,⟨(some 54),(.len false (.t 53)),none⟩,⟨(some 55),(.mv (.c (.int .i64 0))),none⟩]) (.block 4 (.loop (.seq (.reg none [⟨(some 56),(.bin .lss (.t 55) (.t 54)),none⟩]) (.seq (.cond (.t 56) .skip (.exit 4)) (.seq (.block 6 (.seq (.reg none [⟨(some 57),(.iaS 3 (.t 53) (.t 55)),none⟩,⟨(some 58),(.ld (some 3) (.t 57)),none⟩,⟨(some 9),(.new 79 (.c (.agg [(.str []),.nils,.nils]))),none⟩,⟨none,(.st 3 (.t 9) (.t 58)),none⟩]) (.seq (.reg none [⟨(some 59),(.mv (.t 5)),none⟩,⟨(some 60),(.fa 0 (.t 9)),none⟩,⟨(some 61),(.ld none (.t 60)),none⟩,⟨(some 62),(.callv (.t 59) [(.t 61)]),none⟩]) X22))) (.reg none [⟨(some 110),(.bin .add (.t 55) (.c (.int .i64 1))),none⟩,⟨(some 55),(.mv (.t 110)),none⟩]))))))) (.seq (.reg none [⟨none,(.st 1 (.t 2) (.c (.int .i64 0))),none⟩]) .ret)):=rfl
def nZ(d e v f:D)(L:List (List UInt8))(t:Tm)(r:R)(er:Int):Prop:=∃t' s' c',r = .ok (if er=0 then .normal else .pan (jL 0 er)) ⟨t',s',c',D22,none⟩∧I22 d e v f L t' s' c'∧∀k,k=53∨k=54∨k=55→tget t' k=tget t k
theorem nZ.go{d e v f:D}{t t':Tm}{s:St}{c:Nat}(h:I22 d e v f L t' s c)(hk:∀k,k=53∨k=54∨k=55→tget t' k=tget t k):nZ d e v f L t (.ok .normal ⟨t',s,c,D22,none⟩) 0:=⟨_,_,_,rfl,h,hk⟩
theorem nZ.bad{d e v f:D}{t t':Tm}{s:St}{c:Nat}{er:Int}(h0:¬er=0)(h:I22 d e v f L t' s c)(hk:∀k,k=53∨k=54∨k=55→tget t' k=tget t k):nZ d e v f L t (.ok (.pan (jL 0 er)) ⟨t',s,c,D22,none⟩) er:=⟨_,_,_,by rw[aG h0],h,hk⟩
theorem I22.tmp{d e v f:D}{t t':Tm}{s:St}{c c':Nat}(h:I22 d e v f L t s c)(hc:c≤c')(q1:tget t' 1=tget t 1)(q2:tget t' 2=tget t 2)(q5:tget t' 5=tget t 5):I22 d e v f L t' s c':=
 ⟨h.s0,h.s1,h.s2,h.s3,h.s4,fZ h.hc hc,fun m hm=>h.hf m (fZ hc hm),by rw[q1];exact h.q1,by rw[q2];exact h.q2,by rw[q5];exact h.q5⟩
theorem Xc_ok(n:Nat){d e v f:D}{x:Fd}(hx:FdOk x)(hl:x.ps.length=1∨x.ps.length=2){t:Tm}{s:St}{c k:Nat}(hI:I22 d e v f L t s c)(q9:tget t 9 = .ptr k 0)(sk:sget s k=some (.fix 79 [.str x.name,x.pd,x.bd])):
  nZ d e v f L t (zC Xc22 (cxn (n+12)) (fn (n+12) 4096) KK ⟨t,s,c,D22,none⟩) (if x.ps.length=2∧x.ps.getD 0 []=x.ps.getD 1 []then 8 else exE x.body):=by
 obtain⟨xn,ps,bo,pd,bd⟩:=x;have Hw:=c42 n hx.b hx.bl hx.nd;obtain⟨T,x,y,_,h1,_⟩:=c79 n hx.b hx.bl hx.nd;have h2:=exE_eq h1;rw[h1]at Hw;have hp:=hx.p;have zU:=hp.len;have Bi:=hx.b.fz;have hb:=hx.b.pure;simp only at *;rw[h2];simp only[Xc22,Ab.abq];rcases hl with hl|hl
 ·obtain⟨a,rfl⟩:∃a,ps=[a]:=by
   match ps,hl with
   | [a],_=>exact⟨a,rfl⟩
  rw[aG (by simp)]
  have k2:decide ((([a]:List (List UInt8)).length:Int)=2)=false:=rfl;by_cases h0:y=0
  ·subst h0;simp only[z2,seval,q9,sk,zU,k2,dR,cN,AOp.kd,zop,tks,bP,dL,aF 42,aJ,Bi,Hw,dV,fS,nb];exact nZ.go (hI.tmp (Nat.le_add_right _ _) (by simp[aA]) (by simp[aA]) (by simp[aA])) (fun k hk=>by rcases hk with rfl|rfl|rfl<;>simp[aA])
  ·have hm:∀s c,fn (n+12) 4096 (.fn 41) [.int .i64 0,.int .i64 y] s c = .ok (.pan (jL 0 y)) s c:=fun s c=>by grind [fS]
   simp only[z2,seval,q9,sk,zU,k2,dR,cN,AOp.kd,zop,tks,bP,dL,aF 42,aJ,Bi,Hw,dV,hm,nb];exact nZ.bad h0 (hI.tmp (Nat.le_add_right _ _) (by simp[aA]) (by simp[aA]) (by simp[aA])) (fun k hk=>by rcases hk with rfl|rfl|rfl<;>simp[aA])
 ·obtain⟨a,b,rfl⟩:∃a b,ps=[a,b]:=by
   match ps,hl with
   | [a,b],_=>exact⟨a,b,rfl⟩
  have k2:decide ((([a,b]:List (List UInt8)).length:Int)=2)=true:=rfl;have ia:iJ 1 pd (.int .i64 0)=some (.iptr ([a,b].map fM).flatten 0):=hp.ia1 (i:=0) (by simp)
  have ib:iJ 1 pd (.int .i64 1)=some (.iptr ([a,b].map fM).flatten 1):=hp.ia1 (i:=1) (by simp)
  have Jf:([a,b].map fM).flatten[0]?=some (.str a):=rfl;have at1:([a,b].map fM).flatten[1]?=some (.str b):=rfl;by_cases Hv:a=b
  ·rw[aS ⟨rfl,by grind⟩]
   simp only[z2,seval,q9,sk,zU,k2,ia,ib,Jf,at1,aH Hv,dR,cN,AOp.kd,zop,tks,bP,dL,aF 42,aJ,Bi,Hw,dV,fS,nb];exact nZ.bad (by decide) (hI.tmp (Nat.le_add_right _ _) (by simp[aA]) (by simp[aA]) (by simp[aA])) (fun k hk=>by rcases hk with rfl|rfl|rfl<;>simp[aA])
  ·rw[aG (fun h=>Hv (by grind))]
   by_cases h0:y=0
   ·subst h0;simp only[z2,seval,q9,sk,zU,k2,ia,ib,Jf,at1,aE Hv,dR,cN,AOp.kd,zop,tks,bP,dL,aF 42,aJ,Bi,Hw,dV,fS,nb];exact nZ.go (hI.tmp (Nat.le_add_right _ _) (by simp[aA]) (by simp[aA]) (by simp[aA])) (fun k hk=>by rcases hk with rfl|rfl|rfl<;>simp[aA])
   ·have hm:∀s c,fn (n+12) 4096 (.fn 41) [.int .i64 0,.int .i64 y] s c = .ok (.pan (jL 0 y)) s c:=fun s c=>by grind [fS]
    simp only[z2,seval,q9,sk,zU,k2,ia,ib,Jf,at1,aE Hv,dR,cN,AOp.kd,zop,tks,bP,dL,aF 42,aJ,Bi,Hw,dV,hm,nb];exact nZ.bad h0 (hI.tmp (Nat.le_add_right _ _) (by simp[aA]) (by simp[aA]) (by simp[aA])) (fun k hk=>by rcases hk with rfl|rfl|rfl<;>simp[aA])
end
end Zv
namespace Zv
open Go
noncomputable section
theorem nZ.of{d e v f:D}{L:List (List UInt8)}{t t0:Tm}{r:R}{er:Int}(h:nZ d e v f L t r er)(hk:∀k,k=53∨k=54∨k=55→tget t k=tget t0 k):nZ d e v f L t0 r er:=by
 obtain⟨t',s',c',h1,h2,h3⟩:=h;exact⟨t',s',c',h1,h2,fun k Br=>(h3 k Br).trans (hk k Br)⟩
theorem X22_ok(n:Nat){d e v f:D}{L:List (List UInt8)}{x:Fd}(hx:FdOk x){t:Tm}{s:St}{c k:Nat}(hI:I22 d e v f L t s c)(q9:tget t 9 = .ptr k 0)(sk:sget s k=some (.fix 79 [.str x.name,x.pd,x.bd])):
  nZ d e v f L t (zC X22 (cxn (n+12)) (fn (n+12) 4096) KK ⟨t,s,c,D22,none⟩) (defE x):=by
 have zU:=hx.p.len;have Mc:=hx.pl;have Hj:x.ps.length=1∨x.ps.length=2→∀t1:Tm,(∀k,k=1∨k=2∨k=5∨k=9∨k=53∨k=54∨k=55→tget t1 k=tget t k)→tget t1 75=x.pd→tget t1 76 = .int .i64 (x.ps.length:Nat)→tget t1 77 = .int .i64 0 →
   nZ d e v f L t (zbind (lL 8 (zloop KK (zC (.seq (.reg none [⟨(some 78),(.bin .lss (.t 77) (.t 76)),none⟩]) (.seq (.cond (.t 78) .skip (.exit 8)) (.seq (.block 10 (.seq (.reg none [⟨(some 79),(.iaS 1 (.t 75) (.t 77)),none⟩,⟨(some 80),(.ld none (.t 79)),none⟩,⟨(some 11),(.mv (.t 80)),none⟩]) (.seq (.reg none [⟨(some 81),(.mv (.t 11)),none⟩,⟨(some 82),(.call 61 [(.t 81)]),none⟩,⟨(some 83),(.un .not (.t 82)),none⟩]) (.cond (.t 83) (.reg none [⟨(some 84),(.call 41 [(.c (.int .i64 0)),(.c (.int .i64 6))]),none⟩]) .skip)))) (.reg none [⟨(some 85),(.bin .add (.t 77) (.c (.int .i64 1))),none⟩,⟨(some 77),(.mv (.t 85)),none⟩])))) (cxn (n+12)) (fn (n+12) 4096) KK) ⟨t1,s,c,D22,none⟩)) (zC Xc22 (cxn (n+12)) (fn (n+12) 4096) KK))
    (if x.ps.all gF=true then(if x.ps.length=2∧x.ps.getD 0 []=x.ps.getD 1 []then 8 else exE x.body) else 6):=by
  intro hl t1 ht Ur q76 q77;generalize hz:zloop KK _ _=rl;refine zrange rl hz x.ps.length (dY Mc) Mc (fun i t' s' c'=>s'=s∧c'=c∧tget t' 75=x.pd∧(∀k,k=1∨k=2∨k=5∨k=9∨k=53∨k=54∨k=55→tget t' k=tget t k)∧∀j,j<i→∀h:j<x.ps.length,gF x.ps[j]=true) (by decide) q77 q76 ⟨rfl,rfl,Ur,ht,nofun⟩ ?_ ?_
  ·rintro i t' s' c' zQ ⟨rfl,rfl,Ur,hk,hn⟩ Ag Ah;have Jv:=c61 (n+3) x.ps[i] (hx.pn _ (bQ zQ));cases hb:gF x.ps[i]
   ·have ha:¬x.ps.all gF=true:=fun h=>by
     have:=cF.1 h _ (bQ zQ);rw[hb]at this;cases this
    rw[hb]at Jv;rw[aG ha];have hm:∀s c,fn (n+12) 4096 (.fn 41) [.int .i64 0,.int .i64 6] s c = .ok (.pan (jL 0 6)) s c:=fun s c=>by rw[fS,aG (by decide)]
    simp only[z2,seval,Ur,Ag,Ah,hx.p.ia1 zQ,hx.p.at1 zQ,fM,aF 61,aJ,Jv,hm,nb];exact nZ.bad (by decide) (hI.tmp (aK _) (by simp[aA,hk]) (by simp[aA,hk]) (by simp[aA,hk])) fun k h=>by rcases h with rfl|rfl|rfl<;>simp[aA,hk]
   ·rw[hb]at Jv;simp only[z2,seval,Ur,Ag,Ah,hx.p.ia1 zQ,hx.p.at1 zQ,fM,aF 61,aJ,Jv,nb];refine⟨trivial,trivial,trivial,.inr (.inr trivial),nofun,nofun,trivial,trivial,trivial,fun k h=>?_,fun j hj h=>?_⟩
    ·rcases h with rfl|rfl|rfl|rfl|rfl|rfl|rfl<;>simp[aA,hk]
    ·rcases iI.1 hj with h'|rfl
     ·exact hn j h' h
     ·exact hb
  ·rintro t' s' c' ⟨rfl,rfl,Ur,hk,hn⟩ Ag Ah;have ha:x.ps.all gF=true:=cF.2 fun y hy=>by
    obtain⟨j,hj,rfl⟩:=eV hy;exact hn j hj hj
   rw[aS ha];simp only[fU,↓reduceIte];refine(Xc_ok n hx hl (t:=tput t' 78 (.bool false)) (hI.tmp (aK _) (by simp[aA,hk]) (by simp[aA,hk]) (by simp[aA,hk])) (k:=k) (by simp[aA,hk,q9]) sk).of fun k h=>?_
   rcases h with rfl|rfl|rfl<;>simp[aA,hk]
 unfold X22 defE;by_cases hl:x.ps.length=1∨x.ps.length=2
 ·rw[aS hl];rcases hl with hl|hl
  ·have k1:decide ((x.ps.length:Int)=1)=true:=dT (by omega)
   simp only[z2,seval,q9,sk,zU,k1,nb];exact Hj (.inl hl) _ (fun k h=>by rcases h with rfl|rfl|rfl|rfl|rfl|rfl|rfl<;>simp[aA]) (by simp[aA]) (by simp[aA]) (by simp[aA])
  ·have k1:decide ((x.ps.length:Int)=1)=false:=dF (by omega)
   have k2:decide ((x.ps.length:Int)=2)=true:=dT (by omega)
   simp only[z2,seval,q9,sk,zU,k1,k2,nb];exact Hj (.inr hl) _ (fun k h=>by rcases h with rfl|rfl|rfl|rfl|rfl|rfl|rfl<;>simp[aA]) (by simp[aA]) (by simp[aA]) (by simp[aA])
 ·rw[aG hl];have k1:decide ((x.ps.length:Int)=1)=false:=dF (by omega)
  have k2:decide ((x.ps.length:Int)=2)=false:=dF (by omega)
  have hm:∀s c,fn (n+12) 4096 (.fn 41) [.int .i64 0,.int .i64 23] s c = .ok (.pan (jL 0 23)) s c:=fun s c=>by rw[fS,aG (by decide)]
  simp only[z2,seval,q9,sk,zU,k1,k2,hm,nb];exact nZ.bad (by decide) (hI.tmp (aK _) (by simp[aA]) (by simp[aA]) (by simp[aA])) fun k h=>by rcases h with rfl|rfl|rfl<;>simp[aA]
end
end Zv
