/- What functions come to: trees. Conditions: none. -/
import Derived.Test.YtnpoohbeicakkaaGreatDoorZAR
set_option linter.unusedVariables false
set_option linter.unusedSimpArgs false
set_option maxRecDepth 100000
namespace Zv
open Go
noncomputable section
theorem Y1_ok(n:Nat){l:List Nd}{d:D}(hd:Sl 7 bU l d)(hg:jQ l)(hl:l.length≤400){fN:Nat→D}{t:Tm}{s:St}{c:Nat}
  (hS:GS l.length (eF l l.length) (dFn l l.length) (fun _=>.nils) fN s) (hc:11≤c) (hfr:∀m,c≤m→sget s m=none)
  (q0:tget t 0=d) (q2:tget t 2 = .ptr 0 0) (q3:tget t 3 = .bool false) (q4:tget t 4 = .int .i64 (l.length:Nat)) :
  ∃t' s' c' fK b,zC Y1 (cxn (n+1)) (fn (n+1) 4096) KK ⟨t,s,c,[],none⟩ = .ok .ret ⟨t',s',c',[],none⟩∧GS l.length (eF l 0) (dFn l 0) fK fN s'∧(∀j,j<l.length→lZ 1 jH 11 s' (fK j) (gK l j))∧tget t' 2 = .ptr 0 0∧tget t' 3 = .bool b:=by
 simp only[Y1,Ab.abq];have w0:dL .i64 ((l.length:Int)-1)=(l.length:Int)-1:=gW (by omega) (by omega)
 simp only[z2,↓reduceIte,Nat.reduceEqDiff,Nat.reduceAdd,Nat.reduceLeDiff,reduceCtorEq,q4,w0];generalize hz:zloop KK _ _=rl
 refine zwhile rl hz l.length (fM (by omega)) (fun r z=>∃t s c fK b,z=⟨t,s,c,[],none⟩∧GS l.length (eF l (l.length-r)) (dFn l (l.length-r)) fK fN s∧(∀j,j<l.length-r→fK j = .nils)∧(∀j,l.length-r≤j→j<l.length→lZ 1 jH 11 s (fK j) (gK l j))∧11≤c∧(∀m,c≤m→sget s m=none)∧tget t 0=d∧tget t 2 = .ptr 0 0∧tget t 3 = .bool b∧tget t 4 = .int .i64 (l.length:Nat)∧tget t 8 = .int .i64 ((l.length:Int)-1-r))
  ⟨_,_,_,_,_,rfl,hS,fun _ _=>rfl,fun j h1 h2=>by omega,hc,hfr,by simp[aE,q0],by simp[aE,q2],by simp[aE,q3];rfl,by simp[aE,q4],by simp[aE]⟩ ?_
 clear q0 q2 q3 q4 hS hc hfr hz;rintro r z hr ⟨t,s,c,fK,b,rfl,hS,hnil,hown,hc,hfr,q0,q2,q3,q4,q8⟩;by_cases hlt:r<l.length
 ·obtain⟨i,hi⟩:∃i,i=l.length-1-r:=⟨_,rfl⟩
  have e8:(l.length:Int)-1-r=(i:Nat):=by omega
  have e1:l.length-r=i+1:=by omega
  have hge:decide ((0:Int)≤(i:Nat))=true:=dT (by omega)
  rw[e1]at hS hnil hown;rw[e8]at q8;obtain⟨t1,s1,c1,q',b1,r1,hS1,hO1,hc1,hfr1,hsm,k3,hk⟩:=YI_ok n (d:=d) hd hg hl (i:=i) (by omega) (t:=tput (tput t 50 (.int .i64 (i:Nat))) 51 (.bool true)) (b0:=b) hS (hnil i (Nat.lt_succ_self i)) hc hfr (by simp[aE,q0]) (by simp[aE,q2]) (by simp[aE,q3]) (by simp[aE,q4]) (by simp[aE,q8])
  have k0:tget t1 0=d:=by rw[hk 0 (by simp)];simp[aE,q0]
  have k2:tget t1 2 = .ptr 0 0:=by rw[hk 2 (by simp)];simp[aE,q2]
  have k4:tget t1 4 = .int .i64 (l.length:Nat):=by rw[hk 4 (by simp)];simp[aE,q4]
  have k8:tget t1 8 = .int .i64 (i:Nat):=by rw[hk 8 (by simp)];simp[aE,q8]
  have w1:dL .i64 ((i:Int)-1)=(l.length:Int)-1-((r+1:Nat):Int):=by rw[gW (by omega) (by omega)];omega
  simp only[z2,↓reduceIte,Nat.reduceEqDiff,Nat.reduceAdd,Nat.reduceLeDiff,reduceCtorEq,q8,hge,r1,k8,w1];refine⟨hlt,_,_,_,upF fK i q',b1,rfl,?_,fun j hj=>?_,fun j h1 h2=>?_,by omega,hfr1,by simp[aE,k0],by simp[aE,k2],by simp[aE,k3],by simp[aE,k4],by simp[aE]⟩
  ·rw[show l.length-(r+1)=i by omega];exact hS1
  ·unfold upF;rw[aD (by omega)];exact hnil j (by omega)
  ·unfold upF;by_cases e:j=i
   ·rw[aH e,e];exact hO1
   ·rw[aD e];refine(hown j (by omega) h2).keep fun m b hm hb=>?_
    rw[hsm m hm (gP fun h=>by rw[hfr m h]at hb;cases hb)];exact hb
 ·have e:r=l.length:=by omega
  subst e;rw[Nat.sub_self]at hS hown;have hge:decide ((0:Int)≤(l.length:Int)-1-(l.length:Int))=false:=dF (by omega)
  have x0:=hS.b0;have htk:dH [.ms 2 0 1 l.length l.length,.ms 4 0 1 l.length l.length,.ms 6 0 1 l.length l.length,.ms 8 0 1 l.length l.length] 0 (some 4)=some (.agg [.ms 2 0 1 l.length l.length,.ms 4 0 1 l.length l.length,.ms 6 0 1 l.length l.length,.ms 8 0 1 l.length l.length]):=rfl;simp only[Y2,Ab.abq]
  simp only[z2,↓reduceIte,Nat.reduceEqDiff,Nat.reduceAdd,Nat.reduceLeDiff,reduceCtorEq,q2,q3,q8,hge,x0,htk];refine⟨_,_,_,fK,b,rfl,?_,fun j hj=>(hown j (dB _) hj).keep fun m b hm hb=>?_,by simp[aE,q2],by simp[aE]⟩
  ·exact⟨by rw[aO,aH rfl],by rw[aO,aD (by decide)];exact hS.be,by rw[aO,aD (by decide)];exact hS.bd,by rw[aO,aD (by decide)];exact hS.bk,by rw[aO,aD (by decide)];exact hS.bn⟩
  ·rw[aO,aD (by omega)];exact hb
theorem mapM_rg{g:D→Option D}{f h:Nat→D}(n:Nat)(hg:∀j,j<n→g (f j)=some (h j)):(rg n f).mapM g=some (rg n h):=by
 induction n with
 | zero=>rfl
 | succ n ih=>
  have e:∀f:Nat→D,rg (n+1) f=rg n f++[f n]:=fun f=>by unfold rg;rw[List.range_succ,List.map_append];rfl
  rw[e,e,List.mapM_append,ih fun j hj=>hg j (by omega)]
  simp[hg n (Nat.lt_succ_self n)]
theorem frz_rg{p:Bool}{k L m:Nat}{s:St}{f h:Nat→D}(hs:sget s m=some (.fix 0 (rg L f)))(hg:∀j,j<L→frz p k s (f j)=some (h j)):frz p (k+1) s (.ms m 0 1 L L)=some (.sl true L (rg L h)):=by
 rw[iL,hs];simp only[bL,dJ,rg_len,fO,fF];rw[cE (aJ _),aS,cW (by rw[rg_len];exact aJ _),mapM_rg L hg];rfl
theorem c122(n:Nat){l:List Nd}{d:D}(hd:Sl 7 bU l d)(hg:jQ l)(hl:l.length≤400):∃(fR:Nat→D) (b:Bool),cl (n+1) 122 [d]=some (.tup [.agg [.sl true l.length (rg l.length (eF l 0)),.sl true l.length (rg l.length (dFn l 0)),.sl true l.length (rg l.length fR),.sl true l.length (rg l.length (lX (nbB l l.length)))],.bool b],true)∧∀j,j<l.length→Sl 1 jH (gK l j) (fR j):=by
 rw[cN (A:=A122) rfl (n+1) _ rfl,show A122.body=B122 from rfl,B122_eq]
 have hc:∀b:Nat,b≤24→(0≤(l.length:Int)∧(l.length:Int)≤l.length∧(b:Int)*(l.length:Int)≤1099511627776∧(l.length:Int)≤4294967296):=fun b h2=>by
  have:(b:Int)*(l.length:Int)≤24*400:=Int.mul_le_mul (by omega) (by omega) (by omega) (by omega)
  exact⟨by omega,by omega,by omega,by omega⟩
 have htk:∀a b c d:D,[a,b,c,d].any eR=false→dH [a,b,c,d] 0 (some 4)=some (.agg [a,b,c,d]):=fun a b c d h=>rfl
 simp only[z2,↓reduceIte,Nat.reduceEqDiff,Nat.reduceAdd,Nat.reduceLeDiff,reduceCtorEq,hd.len,eJ,cV,AOp.kd,zop,tks,cD,eA,cS,eq_true (hc 8 (by decide)),eq_true (hc 24 (by decide)),eq_true (hc 1 (by decide)),rep_rg,cQ,dU,bQ]
 simp only[aT,bP,Nat.reduceAdd];generalize hT:tput (tput _ 21 _) 22 _=T;generalize hS:sset _ 0 _=S;obtain⟨t1,s1,c1,r1,hS1,hc1,hfr1,k0,k2,k3,k4⟩:=Y0_ok n hd hg hl (t:=T) (s:=S) (c:=11) (fE:=eF l l.length) (fD:=dFn l l.length) (fK:=fun _=>.nils)
  (by
   rw[←hS];have z:∀(f:Nat→D),(∀j,j<l.length→f j = .int .i64 0)→rg l.length (fun _=>.int .i64 0)=rg l.length f:=fun f h=>rg_congr fun j hj=>(h j hj).symm
   have zE:=z (eF l l.length) fun j hj=>aD (by omega)
   have zD:=z (dFn l l.length) fun j hj=>aD (by omega)
   exact⟨by simp[aE],by simp[aE,zE],by simp[aE,zD],by simp[aE],by simp[aE];rfl⟩)
  (by decide) (fun m hm=>by rw[←hS];simp only[aE,dU];rw[aD (by omega),aD (by omega),aD (by omega),aD (by omega),aD (by omega),aD (by omega)])
  (by rw[←hT];simp[aE]) (by rw[←hT];simp[aE]) (by rw[←hT];simp[aE]) (by rw[←hT];simp[aE])
 obtain⟨t2,s2,c2,fK,b,r2,hS2,hO,j2,j3⟩:=Y1_ok n hd hg hl hS1 hc1 hfr1 k0 k2 k3 k4;have hr:∀j,∃r,j<l.length→(∀k,frz true (k+2) s2 (fK j)=some r)∧Sl 1 jH (gK l j) r:=fun j=>by
  by_cases hj:j<l.length
  ·obtain⟨r,h1,h2⟩:=(hO j hj).fz uC true;exact⟨r,fun _=>⟨h1,h2⟩⟩
  ·exact⟨.nils,fun h=>absurd h hj⟩
 refine⟨fun j=>Classical.choose (hr j),b,?_,fun j hj=>(Classical.choose_spec (hr j) hj).2⟩
 have x0:=hS2.b0;have htk4:dH [.ms 2 0 1 l.length l.length,.ms 4 0 1 l.length l.length,.ms 6 0 1 l.length l.length,.ms 8 0 1 l.length l.length] 0 (some 4)=some (.agg [.ms 2 0 1 l.length l.length,.ms 4 0 1 l.length l.length,.ms 6 0 1 l.length l.length,.ms 8 0 1 l.length l.length]):=rfl
 have e1:frz true 18 s2 (.ms 2 0 1 l.length l.length)=some (.sl true l.length (rg l.length (eF l 0))):=frz_rg hS2.be fun j _=>by unfold eF;split<;>rfl
 have e2:frz true 18 s2 (.ms 4 0 1 l.length l.length)=some (.sl true l.length (rg l.length (dFn l 0))):=frz_rg hS2.bd fun j _=>by unfold dFn;split<;>rfl
 have e3:frz true 18 s2 (.ms 6 0 1 l.length l.length)=some (.sl true l.length (rg l.length fun j=>Classical.choose (hr j))):=frz_rg hS2.bk fun j hj=>(Classical.choose_spec (hr j) hj).1 15
 have e4:frz true 18 s2 (.ms 8 0 1 l.length l.length)=some (.sl true l.length (rg l.length (lX (nbB l l.length)))):=frz_rg hS2.bn fun j _=>rfl
 rw[r1];simp only[z2,↓reduceIte,Nat.reduceEqDiff,Nat.reduceAdd,Nat.reduceLeDiff,reduceCtorEq,r2,j2,j3,x0,htk4,A122];have frz_agg:∀(k:Nat) (cs:List D),frz true (k+1) s2 (.agg cs)=(cs.mapM (frz true k s2)).map .agg:=fun _ _=>rfl
 have frz_tup:∀(k:Nat) (cs:List D),frz true (k+1) s2 (.tup cs)=(cs.mapM (frz true k s2)).map .tup:=fun _ _=>rfl
 have frz_bool:∀(k:Nat) (b:Bool),frz true (k+1) s2 (.bool b)=some (.bool b):=fun _ _=>rfl
 unfold pout;simp only[frz_tup 19,frz_agg 18,frz_bool 18,List.mapM_cons,List.mapM_nil,e1,e2,e3,e4,Option.pure_def,aB,aN,bI]
def itE(l:List Nd):Nat→Nat→Nat
 | 0,a=>a
 | k+1,a=>itE l k (eN l a)
theorem itE_add(l:List Nd)(k:Nat):∀m a,itE l (m+k) a=itE l k (itE l m a)
 | 0,a=>by rw[bL];rfl
 | m+1,a=>by rw[Nat.add_right_comm,itE,itE];exact itE_add l k m _
theorem itE_out(l:List Nd):∀k a,l.length≤a→itE l (k+1) a=l.length+1
 | 0,a,h=>by rw[itE,itE,eN_ge h]
 | k+1,a,h=>by rw[itE,eN_ge h];exact itE_out l k _ (Nat.le_succ _)
def opN(x:Nd):Nat:=(fH x).toNat
def nxN(l:List Nd)(i:Nat):Nat:=match l[i]? with
 | some x=>if x.kind=3 then i+1+x.kids.toNat else i+1
 | none=>i+1
theorem op_step{l:List Nd}(hg:jQ l){i k:Nat}(h:i<l.length):itE l (k+1) i=itE l (opN l[i]+k) (nxN l i):=by
 rw[itE,itE_add,eN_eq h];unfold nxN opN;rw[aI h];simp only;by_cases k3:l[i].kind=3
 ·have hm:fH l[i]=0:=by unfold fH;rw[aD (by omega)]
  rw[aH k3,aH k3,hm];rfl
 ·rw[aD k3,aD k3];rcases oC (hg.nd i h) with hm|hm|hm<;>rw[hm]
  ·rfl
  ·rfl
  ·rw[aD (by decide),aH rfl]
   show itE l k _=itE l k (eN l (eN l (i+1)));split
   ·rfl
   ·have:=eN_le hg (i+1);rw[eN_ge (i:=eN l (i+1)) (by omega),show eN l (i+1)=l.length+1 by omega]
theorem nx_le{l:List Nd}(hg:jQ l){i:Nat}(h:i<l.length):i<nxN l i∧nxN l i≤l.length:=by
 unfold nxN;rw[aI h];simp only;split
 ·rename_i k3;have:=hg.ls i h k3;omega
 ·omega
theorem nx_eq{l:List Nd}{i:Nat}(h:i<l.length):nxN l i=if l[i].kind=3 then i+1+l[i].kids.toNat else i+1:=by
 unfold nxN;rw[aI h]
theorem B79_eq:B79=(.seq (.reg none [⟨(some 2),(.new 135 (.c (.agg [.nils,.nils,.nils,.nils]))),none⟩,⟨(some 3),(.mv (.c (.int .i64 0))),none⟩,⟨(some 4),(.mv (.c (.int .i64 0))),none⟩]) (.seq (.block 0 (.seq (.reg none [⟨(some 15),(.mv (.t 0)),none⟩,⟨(some 16),(.len false (.t 15)),none⟩,⟨(some 17),(.bin .eql (.t 16) (.c (.int .i64 0))),none⟩,⟨(some 14),(.mv (.t 17)),none⟩]) (.cond (.t 14) (.seq (.reg none [⟨(some 18),(.bld [.nils,.nils,.nils,.nils] []),none⟩,⟨none,(.st 4 (.t 2) (.t 18)),none⟩,⟨(some 3),(.mv (.c (.int .i64 0))),none⟩,⟨(some 4),(.mv (.c (.int .i64 6))),none⟩]) .ret) (.seq (.reg none [⟨(some 20),(.mv (.t 0)),none⟩,⟨(some 21),(.len false (.t 20)),none⟩,⟨(some 22),(.bin .gtr (.t 21) (.c (.int .i64 400))),none⟩,⟨(some 19),(.mv (.t 22)),none⟩]) (.cond (.t 19) (.seq (.reg none [⟨(some 23),(.bld [.nils,.nils,.nils,.nils] []),none⟩,⟨none,(.st 4 (.t 2) (.t 23)),none⟩,⟨(some 3),(.mv (.c (.int .i64 0))),none⟩,⟨(some 4),(.mv (.c (.int .i64 3))),none⟩]) .ret) .skip))))) (.seq (.seq (.reg none [⟨(some 24),(.mv (.t 0)),none⟩,⟨(some 25),(.len false (.t 24)),none⟩,⟨(some 26),(.mv (.c (.int .i64 0))),none⟩]) (.block 2 (.loop (.seq (.reg none [⟨(some 27),(.bin .lss (.t 26) (.t 25)),none⟩]) (.seq (.cond (.t 27) .skip (.exit 2)) (.seq (.block 4 (.seq (.reg none [⟨(some 28),(.mv (.t 26)),none⟩,⟨(some 29),(.iaS 7 (.t 24) (.t 26)),none⟩,⟨(some 30),(.ld (some 7) (.t 29)),none⟩,⟨(some 6),(.new 57 (.c (.agg [(.int .i64 0),(.int .i64 0),(.int .i64 0),(.str []),(.str []),(.int .i64 0),(.int .i64 0)]))),none⟩,⟨(some 5),(.mv (.t 28)),none⟩,⟨none,(.st 7 (.t 6) (.t 30)),none⟩]) (.seq (.reg none [⟨(some 31),(.ld (some 7) (.t 6)),none⟩,⟨(some 32),(.call 119 [(.t 31)]),none⟩,⟨(some 7),(.mv (.t 32)),none⟩]) (.seq (.reg none [⟨(some 33),(.mv (.t 7)),none⟩,⟨(some 34),(.bin .neq (.t 33) (.c (.int .i64 0))),none⟩]) (.cond (.t 34) (.seq (.reg none [⟨(some 35),(.bld [.nils,.nils,.nils,.nils] []),none⟩,⟨(some 36),(.mv (.t 5)),none⟩,⟨(some 37),(.mv (.t 7)),none⟩,⟨none,(.st 4 (.t 2) (.t 35)),none⟩,⟨(some 3),(.mv (.t 36)),none⟩,⟨(some 4),(.mv (.t 37)),none⟩]) .ret) .skip))))) (.reg none [⟨(some 38),(.bin .add (.t 26) (.c (.int .i64 1))),none⟩,⟨(some 26),(.mv (.t 38)),none⟩]))))))) U79))):=rfl
def TreeOk(l:List Nd)(T:D):Prop:=∃fR:Nat→D,T = .agg [.sl true l.length (rg l.length (eF l 0)),.sl true l.length (rg l.length (dFn l 0)),.sl true l.length (rg l.length fR),.sl true l.length (rg l.length (lX (nbB l l.length)))]∧∀j,j<l.length→Sl 1 jH (gK l j) (fR j)
def Out79(n:Nat)(l:List Nd)(r:R)(q:D):Prop:=∃T x y f,q=e2 x y∧pout (zbody (dfn n MM) A79 r)=some (.tup [T,.int .i64 x,.int .i64 y],f)∧(y=0→TreeOk l T)
theorem W79_ok(n:Nat){l:List Nd}{d:D}(hd:Sl 7 bU l d)(hg:jQ l)(h1:0<l.length)(h4:l.length≤400){t:Tm}{s:St}{c:Nat}{T:D}{cs:List D}(hT:T = .agg cs)(hok:TreeOk l T){op ap:Nat}(s0:sget s 0=some (.fix 135 cs))(q0:tget t 0=d)(q2:tget t 2 = .ptr 0 0)(q10:tget t 10 = .int .i64 (op:Nat))(q11:tget t 11 = .int .i64 (ap:Nat))
  (h:(0<op∧ap=l.length∧eN l 0=l.length+1)∨(op=0∧eN l 0=ap∧ap≤l.length)):Out79 n l (zC W79 (cxn n) (fn n 4096) KK ⟨t,s,c,[],none⟩) (nX l):=by
 obtain⟨fR,hR,hK⟩:=hok;subst hT;cases hR;simp only[W79,Ab.abq];rcases h with⟨o1,rfl,o3⟩|⟨rfl,rfl,o3⟩
 ·have k0:decide ((0:Int)<(op:Nat))=true:=dT (by omega)
  simp only[z2,seval,q0,q2,q10,q11,hd.len,s0,k0,nb];refine⟨.agg [.nils,.nils,.nils,.nils],l.length,6,true,by rw[nX,aH (by omega)],?_,fun h=>absurd h (by decide)⟩
  simp only[z2,seval,A79,q2];rfl
 ·have k0:decide ((0:Int)<((0:Nat):Int))=false:=rfl;by_cases t2:eN l 0<l.length
  ·have k1:decide (((eN l 0:Nat):Int)<l.length)=true:=dT (by omega)
   simp only[z2,seval,q0,q2,q10,q11,hd.len,s0,k0,k1,nb];refine⟨.agg [.nils,.nils,.nils,.nils],eN l 0,6,true,by rw[nX,aD (by omega),aH t2],?_,fun h=>absurd h (by decide)⟩
   simp only[z2,seval,A79,q2];rfl
  ·have k1:decide (((eN l 0:Nat):Int)<l.length)=false:=dF (by omega)
   have ia:∀cs:List D,kF 1 (.sl true l.length cs) (.int .i64 0)=some (.iptr cs 0):=fun cs=>by simp only[kF,idxD_0 h1,bI]
   have g0:(rg l.length (dFn l 0))[0]?=some (.int .i64 (gD l 0:Nat)):=by rw[uZ h1];unfold dFn;rw[aH (dB _)]
   have hD:=gD_dN hg l.length 0 h1 (by omega) (by omega)
   by_cases t3:24<dN l 0
   ·have k2:decide ((24:Int)<(gD l 0:Nat))=true:=dT (by omega)
    simp only[z2,seval,q0,q2,q10,q11,hd.len,s0,k0,k1,ia,g0,k2,nb];refine⟨.agg [.nils,.nils,.nils,.nils],0,3,true,by rw[nX,aD (by omega),aD t2,aH t3],?_,fun h=>absurd h (by decide)⟩
    simp only[z2,seval,A79,q2];rfl
   ·have hns:∀e n cs,eR (.sl e n cs)=false:=fun _ _ _=>rfl
    have k2:decide ((24:Int)<(gD l 0:Nat))=false:=dF (by omega)
    have htk:∀a b c d:D,dH [a,b,c,d] 0 (some 4)=some (.agg [a,b,c,d]):=fun _ _ _ _=>rfl
    simp only[z2,seval,q0,q2,q10,q11,hd.len,s0,k0,k1,ia,g0,k2,htk,hns,nb];refine⟨_,0,0,false,by rw[nX,aD (by omega),aD t2,aD t3],?_,fun _=>⟨fR,rfl,hK⟩⟩
    simp only[z2,seval,A79,q2,htk,hns];rfl
theorem T79_ok(n:Nat){l:List Nd}{d:D}(hd:Sl 7 bU l d)(hg:jQ l)(h1:0<l.length)(h4:l.length≤400){t:Tm}{s:St}{c:Nat}(hc:1≤c)(s0:sget s 0=some (.fix 135 [.nils,.nils,.nils,.nils]))(q0:tget t 0=d)(q2:tget t 2 = .ptr 0 0):
  Out79 (n+10) l (zC T79 (cxn (n+10)) (fn (n+10) 4096) KK ⟨t,s,c,[],none⟩) (nX l):=by
 obtain⟨fR,b,h122,hK⟩:=c122 (n+8) hd hg h4;have hok:TreeOk l (.agg [.sl true l.length (rg l.length (eF l 0)),.sl true l.length (rg l.length (dFn l 0)),.sl true l.length (rg l.length fR),.sl true l.length (rg l.length (lX (nbB l l.length)))]):=⟨fR,rfl,hK⟩;simp only[T79,Ab.abq];have htk:∀a b c d:D,dH [a,b,c,d] 0 (some 4)=some (.agg [a,b,c,d]):=fun _ _ _ _=>rfl
 have hns:∀e n cs,eR (.sl e n cs)=false:=fun _ _ _=>rfl
 simp only[z2,seval,q0,q2,s0,aF (f:=122) rfl,aR,hd.fz,h122,hd.pure,htk,hns];generalize hz:zloop KK _ _=rl
 refine zwhile rl hz l.length (fM (by omega)) (fun r z=>∃t s c op ap,z=⟨t,s,c,[],none⟩∧r≤ap∧ap≤l.length∧op≤r+1∧itE l op ap=eN l 0∧1≤c∧sget s 0=some (.fix 135 [.sl true l.length (rg l.length (eF l 0)),.sl true l.length (rg l.length (dFn l 0)),.sl true l.length (rg l.length fR),.sl true l.length (rg l.length (lX (nbB l l.length)))]) ∧
  tget t 0=d∧tget t 2 = .ptr 0 0∧tget t 10 = .int .i64 (op:Nat)∧tget t 11 = .int .i64 (ap:Nat)) ⟨_,_,_,1,0,rfl,aJ _,dB _,aJ _,rfl,hc,by simp[aE],by simp[aE,q0],by simp[aE,q2],by simp[aE],by simp[aE]⟩ ?_
 clear q0 q2 s0 hz;rintro r z hr ⟨t,s,c,op,ap,rfl,h5,h6,h7,h8,hc,s0,q0,q2,q10,q11⟩;by_cases ho:op=0
 ·subst ho;have k0:decide ((0:Int)<((0:Nat):Int))=false:=rfl;simp only[z2,seval,q0,q2,q10,q11,k0];exact W79_ok (op:=0) (ap:=ap) (n+10) hd hg h1 h4 rfl hok s0 (by simp[aE,q0]) (by simp[aE,q2]) (by simp[aE,q10]) (by simp[aE,q11]) (.inr ⟨rfl,h8.symm,h6⟩)
 have k0:decide ((0:Int)<(op:Nat))=true:=dT (by omega)
 by_cases ha:ap=l.length
 ·subst ha;have k1:decide ((l.length:Int)<l.length)=false:=dF (by omega)
  simp only[z2,seval,q0,q2,q10,q11,k0,k1,hd.len];obtain⟨o,rfl⟩:∃o,op=o+1:=⟨op-1,by omega⟩
  exact W79_ok (op:=o+1) (ap:=l.length) (n+10) hd hg h1 h4 rfl hok s0 (by simp[aE,q0]) (by simp[aE,q2]) (by simp[aE,q10]) (by simp[aE,q11]) (.inl ⟨by omega,rfl,by rw[←h8];exact itE_out l o _ (aJ _)⟩)
 have hlt:ap<l.length:=by omega
 have hrow:=hd.row hlt;have g0:=hd.cell hlt (show 0<7 by omega)
 have g2:=hd.cell hlt (show 2<7 by omega)
 have h123:=c123 (n+9) l[ap];obtain⟨o,rfl⟩:∃o,op=o+1:=⟨op-1,by omega⟩
 have hst:=op_step hg hlt (k:=o);rw[h8]at hst;have hnx:=nx_le hg hlt;have hnd:=hg.nd ap hlt;have w1:dL .i64 (((o+1:Nat):Int)-1)=(o:Nat):=by rw[gW (by omega) (by omega)];omega
 have f0:(0=c)=False:=aM (by omega)
 have wa:∀a:Nat,a≤1000→dL .i64 ((a:Int)+1)=((a+1:Nat):Int):=fun a h=>kR (by omega)
 have hfz:∀st x,frz false 20 st (.agg (bU x))=some (.agg (bU x)):=fun _ _=>rfl
 have hnag:∀x,(bU x).any eR=false∧(bU x).length=7:=fun _=>⟨rfl,rfl⟩
 have hsa:∀x y,eQ (bU x) 0 (bU y)=bU y:=fun _ _=>rfl
 have hs0:∀y,eQ [D.int .i64 0,.int .i64 0,.int .i64 0,.str [],.str [],.int .i64 0,.int .i64 0] 0 (bU y)=bU y:=fun _=>rfl
 have hrx:(bU (gF l[ap])).any eR=false:=rfl;have hro:(bU (gF l[ap])).length=7:=rfl;have lk:l[ap].kind=5∨l[ap].kind=6→l[ap].kids=((opN l[ap]:Nat):Int)∧isK l[ap]=true:=fun k=>by
  have:=hnd.kp k;unfold opN fH isK;rw[aH k];refine⟨by omega,?_⟩
  rcases k with k|k<;>simp[k]
 have go:∀(t':Tm) (s':St) (c':Nat),1≤c'→sget s' 0=sget s 0→tget t' 0=d→tget t' 2 = .ptr 0 0→tget t' 10 = .int .i64 ((opN l[ap]+o:Nat):Int)→tget t' 11 = .int .i64 ((nxN l ap:Nat):Int) →
   r<l.length∧∃t s c op ap,(⟨t',s',c',[],none⟩:AS)=⟨t,s,c,[],none⟩∧r+1≤ap∧ap≤l.length∧op≤r+1+1∧itE l op ap=eN l 0∧1≤c∧sget s 0=some (.fix 135 [.sl true l.length (rg l.length (eF l 0)),.sl true l.length (rg l.length (dFn l 0)),.sl true l.length (rg l.length fR),.sl true l.length (rg l.length (lX (nbB l l.length)))]) ∧
  tget t 0=d∧tget t 2 = .ptr 0 0∧tget t 10 = .int .i64 (op:Nat)∧tget t 11 = .int .i64 (ap:Nat):=fun t' s' c' e1 e2 e3 e4 e5 e6=>
  ⟨by omega,t',s',c',_,_,rfl,by omega,hnx.2,by
   have:opN l[ap]≤2:=by rcases oC hnd with h|h|h<;>rw[opN,h]<;>decide
   omega,hst.symm,e1,by rw[e2];exact s0,e3,e4,e5,e6⟩
 simp only[bU]at h123;by_cases k56:l[ap].kind=5∨l[ap].kind=6
 ·obtain⟨e1,e2⟩:=lk k56;have k3:decide (l[ap].kind=3)=false:=dF (by omega)
  have w2:dL .i64 ((o:Int)+l[ap].kids)=((opN l[ap]+o:Nat):Int):=by
   have:=hnd.kp k56;rw[gW (by omega) (by omega),e1];omega
  have e3:nxN l ap=ap+1:=by rw[nx_eq hlt,aD (by omega)]
  rw[e2]at h123;rw[e3]at go;simp only[z2,seval,q0,q2,q10,q11,k0,eD hlt,hd.len,hd.ia hlt,hrow,g0,g2,bU,hfz,aF (f:=123) rfl,aR,h123,w1,w2,wa ap (by omega),f0,k3,nb]
  refine go _ _ _ (by omega) (by simp[aE,f0]) (by simp[aE,q0]) (by simp[aE,q2]) (by simp[aE]) (by simp[aE])
 ·have e2:isK l[ap]=false:=by
   unfold isK;rw[aK (by omega),aK (by omega)];rfl
  have e1:opN l[ap]=0:=by unfold opN fH;rw[aD k56];rfl
  rw[e2]at h123;rw[e1,bL]at go;by_cases k3:l[ap].kind=3
  ·obtain⟨kk,hk⟩:∃kk:Nat,l[ap].kids=kk:=⟨l[ap].kids.toNat,by have:=(hnd.k3 k3).1;omega⟩
   have e3:nxN l ap=ap+kk+1:=by rw[nx_eq hlt,aH k3,hk,cQ];omega
   have w2:dL .i64 ((ap:Int)+l[ap].kids)=((ap+kk:Nat):Int):=by
    have:=(hnd.k3 k3).2;rw[gW (by omega) (by omega),hk];omega
   have:=(hnd.k3 k3).2;rw[e3]at go;simp only[z2,seval,q0,q2,q10,q11,k0,eD hlt,hd.len,hd.ia hlt,hrow,g0,g2,bU,hfz,aF (f:=123) rfl,aR,h123,w1,w2,wa (ap+kk) (by omega),f0,bH k3,nb]
   refine go _ _ _ (by omega) (by simp[aE,f0]) (by simp[aE,q0]) (by simp[aE,q2]) (by simp[aE]) (by simp[aE])
  ·have e3:nxN l ap=ap+1:=by rw[nx_eq hlt,aD k3]
   rw[e3]at go;simp only[z2,seval,q0,q2,q10,q11,k0,eD hlt,hd.len,hd.ia hlt,hrow,g0,g2,bU,hfz,aF (f:=123) rfl,aR,h123,w1,wa ap (by omega),f0,aK k3,nb]
   refine go _ _ _ (by omega) (by simp[aE,f0]) (by simp[aE,q0]) (by simp[aE,q2]) (by simp[aE]) (by simp[aE])
theorem part_listed{l:List Nd}{i k:Nat}(h:i+1+k≤l.length):allN ((l.take (i+1+k)).drop (i+1)).length (sR ((l.take (i+1+k)).drop (i+1)))=nQ l i k:=by
 have hlen:((l.take (i+1+k)).drop (i+1)).length=k:=by rw[fI,dI];omega
 rw[hlen,nQ,cZ,iX,iX];have e:∀j,j<k→sR ((l.take (i+1+k)).drop (i+1)) j=sR l (i+1+j):=fun j hj=>by
  unfold sR;rw[List.getElem?_drop,eL,aH (by omega)]
 exact⟨fun h j hj=>by rw[←e j hj];exact h j hj,fun h j hj=>by rw[e j hj];exact h j hj⟩
theorem U79_ok(n:Nat){l:List Nd}{d:D}(hd:Sl 7 bU l d)(hw:∀j,j<l.length→jZ l j=none)(h1:0<l.length)(h4:l.length≤400){t:Tm}{s:St}{c:Nat}(hc:1≤c)(s0:sget s 0=some (.fix 135 [.nils,.nils,.nils,.nils]))(q0:tget t 0=d)(q2:tget t 2 = .ptr 0 0):
  Out79 (n+10) l (zC U79 (cxn (n+10)) (fn (n+10) 4096) KK ⟨t,s,c,[],none⟩) (scan (lD l) (nX l) l.length 0):=by
 simp only[U79,Ab.abq];simp only[z2,seval,q0,hd.len];generalize hz:zloop KK _ _=rl;refine zrange rl hz l.length (fM (by omega)) (by omega) (fun i t s c=>tget t 0=d∧tget t 39=d∧tget t 2 = .ptr 0 0∧sget s 0=some (.fix 135 [.nils,.nils,.nils,.nils])∧1≤c∧∀j,j<i→lD l j=none) (by decide) (by simp[aE]) (by simp[aE]) ⟨by simp[aE,q0],by simp[aE],by simp[aE,q2],s0,hc,nofun⟩ ?_ ?_
 ·rintro i t s c hlt ⟨q0,q39,q2,s0,hc,hn⟩ hti htn;have hrow:=hd.row hlt;have hgl:l[i]?=some l[i]:=aI hlt;have f0:(0=c)=False:=aM (by omega)
  have hgd:oR l[i]:=good_of (by
   have:=hw i hlt;unfold jZ at this;rw[hgl]at this;simp only at this;split at this
   ·assumption
   ·cases this)
  by_cases k3:l[i].kind=3
  ·have⟨k0,k4⟩:=hgd.k3 k3;obtain⟨kk,hk⟩:∃kk:Nat,l[i].kids=kk:=⟨l[i].kids.toNat,by omega⟩
   have w0:dL .i64 ((i:Int)+(kk:Nat))=((i+kk:Nat):Int):=by rw[gW (by omega) (by omega)];omega
   have w1:dL .i64 ((i:Int)+1)=((i+1:Nat):Int):=kR (by omega)
   have w2:dL .i64 (((i+1:Nat):Int)+(kk:Nat))=((i+1+kk:Nat):Int):=by rw[gW (by omega) (by omega)];omega
   by_cases hge:l.length≤i+kk
   ·have hL:nQ l i l[i].kids.toNat=false:=by
     rw[hk,cQ];cases kk with
     | zero=>omega
     | succ m=>
      cases hb:nQ l i (m+1)
      ·rfl
      ·have:=iX.1 hb m (by omega)
       rw[numB_ge (by omega)]at this
       cases this
    have hp:lD l i=some (e2 i 6):=by rw[lD,hgl];exact aH ⟨k3,hL⟩
    have kg:decide ((l.length:Int)≤((i+kk:Nat):Int))=true:=dT (by omega)
    simp only[z2,seval,q0,q39,q2,hti,htn,hd.ia hlt,hrow,bU,f0,s0,hk,bH k3,w0,kg,hd.len,nb];refine⟨.agg [.nils,.nils,.nils,.nils],i,6,true,fY hlt hp hn,?_,fun h=>absurd h (by decide)⟩
    simp only[z2,seval,A79,q2];rfl
   ·have kg:decide ((l.length:Int)≤((i+kk:Nat):Int))=false:=dF (by omega)
    obtain⟨d',e1,hd'⟩:=hd.part (i:=i+1) (j:=i+1+kk) (by omega) (by omega) (k:=.i64) (k':=.i64)
    have hpl:=part_listed (l:=l) (i:=i) (k:=kk) (by omega)
    have H:=fun st c=>f120 (n+10) 4092 hd' (by rw[fI,dI];omega) (st:=st) (c:=c)
    rw[hpl]at H;obtain⟨FS,FC,hF⟩:∃(FS:St→Nat→St) (FC:St→Nat→Nat),∀st c,fn (n+10) 4096 (.fn 120) [d',.fn (.func 121) [] []] st c = .ok (.ret (.bool !(nQ l i kk))) (FS st c) (FC st c)∧c≤FC st c∧∀x,x<c→sget (FS st c) x=sget st x:=
     ⟨fun st c=>Classical.choose (H st c),fun st c=>Classical.choose (Classical.choose_spec (H st c)),fun st c=>by have:=Classical.choose_spec (Classical.choose_spec (H st c));exact⟨this.1,this.2.1,this.2.2.1⟩⟩
    have h120:=fun st c=>(hF st c).1
    have hs0:∀b b',sget (FS (sset (sadd s c b) c b') (c+1)) 0=some (.fix 135 [.nils,.nils,.nils,.nils]):=fun b b'=>by rw[(hF _ _).2.2 0 (by omega)];simp only[aE];rw[aD (by omega),aD (by omega)];exact s0
    cases hb:nQ l i kk
    ·have hp:lD l i=some (e2 i 6):=by rw[lD,hgl];exact aH ⟨k3,by rw[hk,cQ];exact hb⟩
     rw[hb]at h120;simp only[z2,seval,q0,q39,q2,hti,htn,hd.ia hlt,hrow,bU,f0,s0,hs0,hk,bH k3,w0,w1,w2,kg,hd.len,e1,h120,nb];refine⟨.agg [.nils,.nils,.nils,.nils],i,6,true,fY hlt hp hn,?_,fun h=>absurd h (by decide)⟩
     simp only[z2,seval,A79,q2,hs0];rfl
    ·have hp:lD l i=none:=by rw[lD,hgl];exact aD (by rw[hk,cQ,hb];simp)
     rw[hb]at h120;simp only[z2,seval,q0,q39,q2,hti,htn,hd.ia hlt,hrow,bU,f0,s0,hs0,hk,bH k3,w0,w1,w2,kg,hd.len,e1,h120,nb];exact⟨trivial,trivial,trivial,.inr (.inr trivial),nofun,nofun,trivial,trivial,trivial,trivial,fT (show 1≤c+1 by omega) (hF _ _).2.1,eC hn hp⟩
  ·have hp:lD l i=none:=by rw[lD,hgl];exact aD (fun h=>k3 h.1)
   simp only[z2,seval,q0,q39,q2,hti,htn,hd.ia hlt,hrow,bU,f0,s0,aK k3,nb];exact⟨trivial,trivial,trivial,.inr (.inr trivial),nofun,nofun,trivial,trivial,trivial,trivial,by first|trivial|omega,eC hn hp⟩
 ·rintro t s c ⟨q0,q39,q2,s0,hc,hn⟩ hti htn;have hg:=goodL_of hw hn;rw[gZ hn];simp only[eW,↓reduceIte];exact T79_ok n hd hg h1 h4 hc s0 (by simp[aE,q0]) (by simp[aE,q2])
theorem c79(n:Nat){l:List Nd}{d:D}(hd:Sl 7 bU l d)(hl:l.length<4294967296)(hok:l.length≤400→NdOk l):∃T x y f,exD l=e2 x y∧cl (n+10) 79 [d]=some (.tup [T,.int .i64 x,.int .i64 y],f)∧(y=0→TreeOk l T):=by
 rw[cN (A:=A79) rfl (n+10) _ rfl,show A79.body=B79 from rfl,B79_eq]
 by_cases h0:l.length=0
 ·have hc:decide ((l.length:Int)=0)=true:=dT (by omega)
  simp only[z2,seval,hd.len,hc,nb,A79];exact⟨.agg [.nils,.nils,.nils,.nils],0,6,true,by rw[exD,aH h0],rfl,fun h=>absurd h (by decide)⟩
 have hc0:decide ((l.length:Int)=0)=false:=dF (by omega)
 by_cases h4:400<l.length
 ·have hc:decide ((400:Int)<l.length)=true:=dT (by omega)
  simp only[z2,seval,hd.len,hc0,hc,nb,A79];exact⟨.agg [.nils,.nils,.nils,.nils],0,3,true,by rw[exD,aD h0,aH h4],rfl,fun h=>absurd h (by decide)⟩
 have hc4:decide ((400:Int)<l.length)=false:=dF (by omega)
 rw[show exD l=scan (jZ l) (scan (lD l) (nX l) l.length 0) l.length 0 from by rw[exD,aD h0,aD h4]]
 show Out79 (n+10) l _ _;simp only[z2,seval,hd.len,hc0,hc4,nb];generalize hz:zloop KK _ _=rl
 refine zrange rl hz l.length (fM (by omega)) (by omega) (fun i t s c=>tget t 0=d∧tget t 24=d∧tget t 2 = .ptr 0 0∧sget s 0=some (.fix 135 [.nils,.nils,.nils,.nils])∧1≤c∧∀j,j<i→jZ l j=none) (by decide) (by simp[aE]) (by simp[aE]) ⟨by simp[aE],by simp[aE],by simp[aE],by simp[aE],by decide,nofun⟩ ?_ ?_
 ·rintro i t s c hlt ⟨q0,q24,q2,s0,hc,hn⟩ hti htn;have hrow:=hd.row hlt;have f0:(0=c)=False:=aM (by omega)
  have h119:=c119 n l[i] (hok (by omega) _ (cG hlt)).1 (hok (by omega) _ (cG hlt)).2
  simp only[bU]at h119;have htk:∀a b c d e f g:D,dH [a,b,c,d,e,f,g] 0 (some 7)=some (.agg [a,b,c,d,e,f,g]):=fun _ _ _ _ _ _ _=>rfl
  by_cases hw:mF l[i]=0
  ·have hp:jZ l i=none:=by rw[jZ,aI hlt];exact aH hw
   rw[hw]at h119;simp only[z2,seval,q0,q24,q2,hti,htn,hd.ia hlt,hrow,bU,f0,s0,htk,aF (f:=119) rfl,aR,h119,Int.reduceEq,nb];exact⟨trivial,trivial,trivial,.inr (.inr trivial),nofun,nofun,trivial,trivial,trivial,trivial,by first|trivial|omega,eC hn hp⟩
  ·have hp:jZ l i=some (e2 i (mF l[i])):=by rw[jZ,aI hlt];exact aD hw
   simp only[z2,seval,q0,q24,q2,hti,htn,hd.ia hlt,hrow,bU,f0,s0,htk,aF (f:=119) rfl,aR,h119,aK hw,nb];refine⟨.agg [.nils,.nils,.nils,.nils],i,mF l[i],true,fY hlt hp hn,?_,fun h=>absurd h hw⟩
   simp only[z2,seval,A79,q2];rfl
 ·rintro t s c ⟨q0,q24,q2,s0,hc,hn⟩ hti htn;rw[gZ hn];simp only[eW,↓reduceIte];exact U79_ok n hd hn (by omega) (by omega) hc s0 (by simp[aE,q0]) (by simp[aE,q2])
theorem c42(n:Nat){l:List Nd}{d:D}(hd:Sl 7 bU l d)(hl:l.length<4294967296)(hok:l.length≤400→NdOk l):cl (n+11) 42 [d]=some (exD l,true):=by
 obtain⟨T,x,y,f,h1,h2,h3⟩:=c79 n hd hl hok;rw[cN (A:=A42) rfl (n+11) _ rfl,show A42.body=B42 from rfl,h1]
 simp only[B42,Ab.abq];have hps:D.pures [d]=true:=by show(d.pure&&true)=true;rw[hd.pure];rfl
 cases f<;>simp only[z2,seval,aF (f:=79) rfl,aR,hd.fz,hps,h2,A42]<;>rfl
structure Vr where
 name:List UInt8
 ty:Ty
def vrC(v:Vr):List D:=.str v.name::tyC v.ty
structure Fd where
 name:List UInt8
 ps:List (List UInt8)
 body:List Nd
 pd:D
 bd:D
def fdC(f:Fd):List D:=[.str f.name,f.pd,f.bd]
structure FdOk (f:Fd):Prop where
 nm:f.name.length<9223372036854775807
 p:Sl 1 iA f.ps f.pd
 b:Sl 7 bU f.body f.bd
 pn:∀s∈f.ps,s.length<9223372036854775807
 pl:f.ps.length<9223372036854775807
 bl:f.body.length<4294967296
 nd:f.body.length≤400→NdOk f.body
def exE(l:List Nd):Int:=match exD l with | .tup [_,.int _ e]=>e|_=>0
theorem exE_eq{l:List Nd}{x y:Int}(h:exD l=e2 x y):exE l=y:=by unfold exE;rw[h];rfl
def defE(f:Fd):Int:=if f.ps.length=1∨f.ps.length=2 then(if f.ps.all iP=true then(if f.ps.length=2∧f.ps.getD 0 []=f.ps.getD 1 []then 8 else exE f.body) else 6) else 23
def vP(us:List Nat)(vs:List Vr)(i:Nat):Option Int:=match vs[i]? with
 | some v=>if oA v.name ((vs.take i).map Vr.name)=0 then(if tyE us (jK us) v.ty=0 then none else some (tyE us (jK us) v.ty)) else some (oA v.name ((vs.take i).map Vr.name))
 | none=>none
def dfP(vs:List Vr)(fs:List Fd)(i:Nat):Option Int:=match fs[i]? with
 | some f=>if oA f.name (vs.map Vr.name++(fs.take i).map Fd.name)=0 then(if defE f=0 then none else some (defE f)) else some (oA f.name (vs.map Vr.name++(fs.take i).map Fd.name))
 | none=>none
def envE(us:List Nat)(vs:List Vr)(fs:List Fd):Int:=if 32<vs.length∨16<fs.length then 3 else scan (vP us vs) (scan (dfP vs fs) 0 fs.length 0) vs.length 0
structure uU (vs:List Vr) (fs:List Fd) (v f:D):Prop where
 v:Sl 6 vrC vs v
 f:Sl 3 fdC fs f
 vl:vs.length<9223372036854775807
 fl:fs.length<9223372036854775807
 vn:∀x∈vs,x.name.length<9223372036854775807
 fo:∀x∈fs,FdOk x
theorem uL{α β:Type}(g:α→β){l:List α}{i:Nat}(h:i<l.length):(l.take (i+1)).map g=(l.take i).map g++[g l[i]]:=by
 rw[List.take_succ_eq_append_getElem h,List.map_append];rfl
end
end Zv
namespace Zv
open Go Ab
noncomputable section
structure I23 (d e v f:D) (L:List (List UInt8)) (t:Tm) (s:St) (c:Nat):Prop where
 s0:sget s 0=some (.fix 30 [d,e,v,f])
 hc:1≤c
 hf:∀m,c≤m→sget s m=none
 own:lZ 1 iA 1 s (tget t 5) L
 q1:tget t 1 = .ptr 0 0
end
end Zv
namespace Zv
open Go
noncomputable section
theorem B22_eq:B22=(.seq (.reg none [⟨(some 1),(.new 30 (.t 0)),none⟩,⟨(some 2),(.new 41 (.c (.int .i64 0))),none⟩]) (.seq (.reg none [⟨(some 3),(.new 4 (.c (.int .i64 0))),none⟩,⟨none,(.st 1 (.t 3) (.c (.int .i64 0))),none⟩]) (.seq (.reg none [⟨none,(.dfr (.f 40) [(.t 3),(.t 2)]),none⟩]) (.seq (.reg none [⟨(some 15),(.fa 0 (.t 1)),none⟩,⟨(some 16),(.ld (some 2) (.t 15)),none⟩,⟨(some 17),(.call 59 [(.t 16)]),none⟩,⟨(some 14),(.mv (.t 17)),none⟩,⟨(some 18),(.ext 0 (.t 14)),none⟩,⟨(some 19),(.ext 1 (.t 14)),none⟩,⟨none,(.st 1 (.t 2) (.t 19)),none⟩]) (.seq (.reg none [⟨(some 20),(.ld none (.t 2)),none⟩,⟨(some 21),(.call 41 [(.c (.int .i64 0)),(.t 20)]),none⟩]) (.seq (.seq (.reg none [⟨(some 22),(.fa 2 (.t 1)),none⟩,⟨(some 23),(.ld none (.t 22)),none⟩,⟨(some 24),(.len false (.t 23)),none⟩,⟨(some 25),(.bin .gtr (.t 24) (.c (.int .i64 32))),none⟩,⟨(some 26),(.mv (.t 25)),none⟩,⟨(some 27),(.fa 3 (.t 1)),(some (26,false))⟩,⟨(some 28),(.ld none (.t 27)),(some (26,false))⟩,⟨(some 29),(.len false (.t 28)),(some (26,false))⟩,⟨(some 30),(.bin .gtr (.t 29) (.c (.int .i64 16))),(some (26,false))⟩,⟨(some 31),(.pick (.t 26) (.c (.bool true)) (.t 30)),none⟩]) (.cond (.t 31) (.seq (.reg none [⟨none,(.st 1 (.t 2) (.c (.int .i64 3))),none⟩]) .ret) .skip)) (.seq (.reg none [⟨(some 32),.mkm,none⟩,⟨(some 4),(.new 107 (.c .nilm)),none⟩,⟨none,(.st 1 (.t 4) (.t 32)),none⟩]) (.seq (.reg none [⟨(some 33),(.mkfn (.func 60) [] [(.t 4)]),none⟩,⟨(some 5),(.mv (.t 33)),none⟩]) U22)))))))):=rfl
def D22:List (D×List D):=[(.fn (.func 40) [] [],[.ptr 2 0,.ptr 1 0])]
theorem end22_pan(n:Nat)(e x y:Int){t:Tm}{k k':Nat}{s:St}{c:Nat}(h1:sget s 1=some (.fix k [.int .i64 x]))(h2:sget s 2=some (.fix k' [.int .i64 y]))(hf:∀m,c≤m→sget s m=none)(hc:3≤c)(q2:tget t 2 = .ptr 1 0):
  pout (zbody (dfn n MM) A22 (.ok (.pan (iZ 0 e)) ⟨t,s,c,D22,none⟩))=some (.int .i64 e,true):=by
 obtain⟨s',c',h,h1',_⟩:=caught_some n 4095 0 e x y h1 h2 hf hc;have h:dfn n MM 40 [.ptr 2 0,.ptr 1 0] (some (iZ 0 e)) s c=_:=h;have:zbody (dfn n MM) A22 (.ok (.pan (iZ 0 e)) ⟨t,s,c,D22,none⟩) = .ok (.ret (.int .i64 e)) s' c':=by
  show oU (dfn n MM) A22 (some (iZ 0 e)) ⟨t,s,c,D22,none⟩=_;unfold oU D22;simp only[zDs,bX,dC,h,settle];simp only[z2,seval,A22,q2,h1']
 rw[this];rfl
theorem end22_ret(n:Nat)(e:Int){t:Tm}{k:Nat}{s:St}{c:Nat}(h1:sget s 1=some (.fix k [.int .i64 e]))(q2:tget t 2 = .ptr 1 0):
  pout (zbody (dfn n MM) A22 (.ok .ret ⟨t,s,c,D22,none⟩))=some (.int .i64 e,true):=by
 have h:dfn n MM 40 [.ptr 2 0,.ptr 1 0] none s c=_:=caught_none n 4095 s c;have:zbody (dfn n MM) A22 (.ok .ret ⟨t,s,c,D22,none⟩) = .ok (.ret (.int .i64 e)) s c:=by
  show oU (dfn n MM) A22 none ⟨t,s,c,D22,none⟩=_;unfold oU D22;simp only[zDs,bX,dC,h,settle];simp only[z2,seval,A22,q2,h1]
 rw[this];rfl
structure I22 (d e v f:D) (L:List (List UInt8)) (t:Tm) (s:St) (c:Nat):Prop where
 s0:sget s 0=some (.fix 30 [d,e,v,f])
 s1:sget s 1=some (.fix 41 [.int .i64 0])
 s2:sget s 2=some (.fix 4 [.int .i64 0])
 s3:sget s 3=some (.mp (mpS 0 L) L.length)
 s4:sget s 4=some (.fix 107 [.mp 3])
 hc:5≤c
 hf:∀m,c≤m→sget s m=none
 q1:tget t 1 = .ptr 0 0
 q2:tget t 2 = .ptr 1 0
 q5:tget t 5 = .fn (.func 60) [] [.ptr 4 0]
def Out22(n:Nat)(r:R)(e:Int):Prop:=pout (zbody (dfn n MM) A22 r)=some (.int .i64 e,true)
theorem I22.pan{d e v f:D}{L:List (List UInt8)}{t:Tm}{s:St}{c:Nat}(h:I22 d e v f L t s c)(n:Nat)(er:Int){t':Tm}{s':St}{c':Nat}(q2:tget t' 2=tget t 2)(h1:sget s' 1=sget s 1)(h2:sget s' 2=sget s 2)(hc:c≤c')(hf:∀m,c'≤m→sget s' m=none):Out22 n (.ok (.pan (iZ 0 er)) ⟨t',s',c',D22,none⟩) er:=
 end22_pan n er 0 0 (by rw[h1];exact h.s1) (by rw[h2];exact h.s2) hf (by have:=h.hc;omega) (by rw[q2];exact h.q2)
theorem I22.next{d e v f:D}{L:List (List UInt8)}{t:Tm}{s:St}{c:Nat}(h:I22 d e v f L t s c)(nm:List UInt8)(b b':Blk){t':Tm}(q1:tget t' 1=tget t 1)(q2:tget t' 2=tget t 2)(q5:tget t' 5=tget t 5):I22 d e v f (L++[nm]) t' (sset (sset (sadd s c b) c b') 3 (.mp (mpS 0 (L++[nm])) (L.length+1))) (c+1):=by
 have hc:=h.hc;have k:∀m,m<5→m≠3→sget (sset (sset (sadd s c b) c b') 3 (.mp (mpS 0 (L++[nm])) (L.length+1))) m=sget s m:=fun m hm h3=>by rw[aO,aD h3,aO,aD (by omega),aX,aD (by omega)]
 exact⟨by rw[k 0 (by decide) (by decide)];exact h.s0,by rw[k 1 (by decide) (by decide)];exact h.s1,by rw[k 2 (by decide) (by decide)];exact h.s2,by rw[aO,aH rfl,dE];rfl,by rw[k 4 (by decide) (by decide)];exact h.s4,by omega,
  fun m hm=>by rw[aO,aD (by omega),aO,aD (by omega),aX,aD (by omega)];exact h.hf m (by omega),by rw[q1];exact h.q1,by rw[q2];exact h.q2,by rw[q5];exact h.q5⟩
theorem U22_ok(n:Nat){ss:List (List UInt8)}{us:List Nat}{d e v f:D}{vs:List Vr}{fs:List Fd}(hd:Sl 1 iA ss d)(he:Sl 1 u8C us e)(hu:iS us)(hs:pW ss)(hC:CHK ss us=e2 0 0)(hE:uU vs fs v f)
  (hW:∀{t:Tm} {s:St} {c:Nat},I22 d e v f (vs.map Vr.name) t s c→Out22 (n+12) (zC W22 (cxn (n+12)) (fn (n+12) 4096) KK ⟨t,s,c,D22,none⟩) (scan (dfP vs fs) 0 fs.length 0))
  {t:Tm} {s:St} {c:Nat} (hI:I22 d e v f [] t s c):Out22 (n+12) (zC U22 (cxn (n+12)) (fn (n+12) 4096) KK ⟨t,s,c,D22,none⟩) (scan (vP us vs) (scan (dfP vs fs) 0 fs.length 0) vs.length 0):=by
 simp only[U22,Ab.abq];simp only[z2,seval,hI.q1,hI.s0,hE.v.len];generalize hz:zloop KK _ _=rl;refine zrange rl hz vs.length (fM hE.vl) hE.vl (fun i t s c=>I22 d e v f ((vs.take i).map Vr.name) t s c∧tget t 35=v∧∀j,j<i→vP us vs j=none) (by decide) (by simp[aE]) (by simp[aE])
  ⟨⟨hI.s0,hI.s1,hI.s2,hI.s3,hI.s4,hI.hc,hI.hf,by simp[aE,hI.q1],by simp[aE,hI.q2],by simp[aE,hI.q5]⟩,by simp[aE],nofun⟩ ?_ ?_
 ·clear hI hz;rintro i t s c hlt ⟨hI,q35,hn⟩ hti htn;have hrow:=hE.v.row hlt;have hfr:=fun s c h4 h3=>fresh_ok (n+3) 4094 (nm:=vs[i].name) (hE.vn _ (cG hlt)) (L:=(vs.take i).map Vr.name) (s:=s) (c:=c) h4 h3
  have h62:=c62 (n+2) hd he hu hs hC vs[i].ty;have hgl:vs[i]?=some vs[i]:=aI hlt;have hst:=uL Vr.name hlt;have hP:vP us vs i=if oA vs[i].name ((vs.take i).map Vr.name)=0 then(if tyE us (jK us) vs[i].ty=0 then none else some (tyE us (jK us) vs[i].ty)) else some (oA vs[i].name ((vs.take i).map Vr.name)):=by rw[vP,hgl]
  have htk:dH [d,e,v,f] 0 (some 2)=some (.agg [d,e]):=rfl;have htk6:∀a b c d e f:D,dH [a,b,c,d,e,f] 0 (some 6)=some (.agg [a,b,c,d,e,f])∧dH [a,b,c,d,e,f] 1 (some 5)=some (.agg [b,c,d,e,f]):=fun _ _ _ _ _ _=>⟨rfl,rfl⟩
  simp only[tyC]at h62;generalize hN:oA vs[i].name ((vs.take i).map Vr.name)=en at *;generalize hT:tyE us (jK us) vs[i].ty=et at *;generalize hL:(vs.take i).map Vr.name=L at *;have hh:=hI.hc;have f0:(0=c)=False:=aM (by omega)
  have f1:(1=c)=False:=aM (by omega)
  have f2:(2=c)=False:=aM (by omega)
  have f3:(3=c)=False:=aM (by omega)
  have f4:(4=c)=False:=aM (by omega)
  have g3:(c=3)=False:=aM (by omega)
  by_cases h0:en=0
  ·subst h0;simp only[if_true]at hfr hP;by_cases h1:et=0
   ·subst h1;rw[aH rfl]at hP;simp only[z2,seval,hI.q1,hI.q2,hI.q5,q35,hti,htn,hE.v.ia hlt,hrow,vrC,tyC,hI.s0,f0,f1,f2,f3,f4,g3,hI.s3,hI.s4,iR,bX,dC,bY,hfr,htk,htk6,aF (f:=62) rfl,aR,hd.fz,he.fz,h62,eV,nb];refine⟨trivial,trivial,trivial,.inr (.inr trivial),nofun,nofun,?_,trivial,eC hn hP⟩;rw[hst]
    exact hI.next _ _ _ (by simp[aE]) (by simp[aE]) (by simp[aE])
   ·rw[aD h1]at hP;have hm:∀s c,fn (n+12) 4096 (.fn 41) [.int .i64 0,.int .i64 et] s c = .ok (.pan (iZ 0 et)) s c:=fun s c=>by rw[eV,aD h1]
    simp only[z2,seval,hI.q1,hI.q2,hI.q5,q35,hti,htn,hE.v.ia hlt,hrow,vrC,tyC,hI.s0,f0,f1,f2,f3,f4,g3,hI.s3,hI.s4,iR,bX,dC,bY,hfr,htk,htk6,aF (f:=62) rfl,aR,hd.fz,he.fz,h62,hm,nb];rw[fY hlt hP hn]
    exact hI.pan (n+12) et (by simp[aE]) (by simp[aE,f1]) (by simp[aE,f2]) (Nat.le_succ _) fun m hm=>by rw[aO,aD (by omega),aO,aD (by omega),aX,aD (by omega)];exact hI.hf m (by omega)
  ·simp only[aD h0]at hfr hP;simp only[z2,seval,hI.q1,hI.q2,hI.q5,q35,hti,htn,hE.v.ia hlt,hrow,vrC,tyC,hI.s0,f0,f1,f2,f3,f4,g3,hI.s3,hI.s4,iR,bX,dC,bY,hfr,htk,htk6,nb];rw[fY hlt hP hn]
   exact hI.pan (n+12) en (by simp[aE]) (by simp[aE,f1]) (by simp[aE,f2]) (Nat.le_succ _) fun m hm=>by rw[aO,aD (by omega),aX,aD (by omega)];exact hI.hf m (by omega)
 ·rintro t s c ⟨hI,q35,hn⟩ hti htn;rw[gZ hn];simp only[eW,↓reduceIte];rw[List.take_length]at hI;exact hW ⟨hI.s0,hI.s1,hI.s2,hI.s3,hI.s4,hI.hc,hI.hf,by simp[aE,hI.q1],by simp[aE,hI.q2],by simp[aE,hI.q5]⟩
end
end Zv
namespace Zv
open Go Ab
noncomputable section
def Xc22:AC:=(s (s (.reg (some [(0,0),(1,0),(2,0),(3,0),(4,0),(5,0),(6,0),(7,0),(8,0),(9,0),(10,0),(11,0),(12,0),(13,0),(14,0)]) [f 86 1 9,l 87 86,o 88 87,d 89 .eql 88 (i 2),m 90 89,y 91 90 (.fa 1 (.t 9)),y 92 90 (.ld none (.t 91)),y 93 90 (.iaS 1 (.t 92) (.c (i 0))),y 94 90 (.ld none (.t 93)),y 95 90 (.fa 1 (.t 9)),y 96 90 (.ld none (.t 95)),y 97 90 (.iaS 1 (.t 96) (.c (i 1))),y 98 90 (.ld none (.t 97)),y 99 90 (.bin .eql (.t 94) (.t 98)),p 100 90 99]) (.cond (.t 100) (r [u 101 (.call 41 [(.c (i 0)),(.c (i 8))])]) .skip)) (s (r [f 103 2 9,l 104 103,v 105 42 104,m 102 105,e 106 0 102,e 107 1 102,m 12 106,m 13 107]) (r [m 108 13,u 109 (.call 41 [(.c (i 0)),(.t 108)])])))
def X22:AC:=(s (s (r [f 63 1 9,l 64 63,o 65 64,d 66 .neq 65 (i 1),m 67 66,y 68 67 (.fa 1 (.t 9)),y 69 67 (.ld none (.t 68)),y 70 67 (.len false (.t 69)),y 71 67 (.bin .neq (.t 70) (.c (i 2))),p 72 67 71]) (.cond (.t 72) (r [u 73 (.call 41 [(.c (i 0)),(.c (i 23))])]) .skip)) (s (s (r [f 74 1 9,l 75 74,o 76 75,c 77 (i 0)]) (.block 8 (.loop (s (r [b 78 .lss 77 76]) (s (.cond (.t 78) .skip (.exit 8)) (s (.block 10 (s (r [j 79 1 75 77,l 80 79,m 11 80]) (s (r [m 81 11,v 82 61 81,u 83 (.un .not (.t 82))]) (.cond (.t 83) (r [u 84 (.call 41 [(.c (i 0)),(.c (i 6))])]) .skip)))) (r [d 85 .add 77 (i 1),m 77 85]))))))) Xc22))
theorem W22_eq:W22=(s (s (r [f 52 3 1,l 53 52,o 54 53,c 55 (i 0)]) (.block 4 (.loop (s (r [b 56 .lss 55 54]) (s (.cond (.t 56) .skip (.exit 4)) (s (.block 6 (s (r [j 57 3 53 55,g 58 3 57,u 9 (.new 79 (.c (.agg [(.str []),.nils,.nils]))),w (.st 3 (.t 9) (.t 58))]) (s (r [m 59 5,f 60 0 9,l 61 60,u 62 (.callv (.t 59) [(.t 61)])]) X22))) (r [d 110 .add 55 (i 1),m 55 110]))))))) (s (r [w (.st 1 (.t 2) (.c (i 0)))]) .ret)):=rfl
def mV(d e v f:D)(L:List (List UInt8))(t:Tm)(r:R)(er:Int):Prop:=∃t' s' c',r = .ok (if er=0 then .normal else .pan (iZ 0 er)) ⟨t',s',c',D22,none⟩∧I22 d e v f L t' s' c'∧∀k,k=53∨k=54∨k=55→tget t' k=tget t k
theorem mV.go{d e v f:D}{L:List (List UInt8)}{t t':Tm}{s:St}{c:Nat}(h:I22 d e v f L t' s c)(hk:∀k,k=53∨k=54∨k=55→tget t' k=tget t k):mV d e v f L t (.ok .normal ⟨t',s,c,D22,none⟩) 0:=⟨_,_,_,rfl,h,hk⟩
theorem mV.bad{d e v f:D}{L:List (List UInt8)}{t t':Tm}{s:St}{c:Nat}{er:Int}(h0:¬er=0)(h:I22 d e v f L t' s c)(hk:∀k,k=53∨k=54∨k=55→tget t' k=tget t k):mV d e v f L t (.ok (.pan (iZ 0 er)) ⟨t',s,c,D22,none⟩) er:=⟨_,_,_,by rw[aD h0],h,hk⟩
theorem I22.tmp{d e v f:D}{L:List (List UInt8)}{t t':Tm}{s:St}{c c':Nat}(h:I22 d e v f L t s c)(hc:c≤c')(q1:tget t' 1=tget t 1)(q2:tget t' 2=tget t 2)(q5:tget t' 5=tget t 5):I22 d e v f L t' s c':=
 ⟨h.s0,h.s1,h.s2,h.s3,h.s4,fT h.hc hc,fun m hm=>h.hf m (fT hc hm),by rw[q1];exact h.q1,by rw[q2];exact h.q2,by rw[q5];exact h.q5⟩
theorem Xc_ok(n:Nat){d e v f:D}{L:List (List UInt8)}{x:Fd}(hx:FdOk x)(hl:x.ps.length=1∨x.ps.length=2){t:Tm}{s:St}{c k:Nat}(hI:I22 d e v f L t s c)(q9:tget t 9 = .ptr k 0)(sk:sget s k=some (.fix 79 [.str x.name,x.pd,x.bd])):
  mV d e v f L t (zC Xc22 (cxn (n+12)) (fn (n+12) 4096) KK ⟨t,s,c,D22,none⟩) (if x.ps.length=2∧x.ps.getD 0 []=x.ps.getD 1 []then 8 else exE x.body):=by
 obtain⟨xn,ps,bo,pd,bd⟩:=x;have h42:=c42 n hx.b hx.bl hx.nd;obtain⟨T,x,y,_,h1,_⟩:=c79 n hx.b hx.bl hx.nd;have h2:=exE_eq h1;rw[h1]at h42;have hp:=hx.p;have hlen:=hp.len;have hfz:=hx.b.fz;have hb:=hx.b.pure;simp only at *;rw[h2];simp only[Xc22,Ab.abq];rcases hl with hl|hl
 ·obtain⟨a,rfl⟩:∃a,ps=[a]:=by
   match ps,hl with
   | [a],_=>exact⟨a,rfl⟩
  rw[aD (by simp)]
  have k2:decide ((([a]:List (List UInt8)).length:Int)=2)=false:=rfl;by_cases h0:y=0
  ·subst h0;simp only[z2,seval,q9,sk,hlen,k2,eJ,cV,AOp.kd,zop,tks,cD,eA,aF (f:=42) rfl,aR,hfz,h42,fJ,eV,nb];exact mV.go (hI.tmp (Nat.le_add_right _ _) (by simp[aE]) (by simp[aE]) (by simp[aE])) (fun k hk=>by rcases hk with rfl|rfl|rfl<;>simp[aE])
  ·have hm:∀s c,fn (n+12) 4096 (.fn 41) [.int .i64 0,.int .i64 y] s c = .ok (.pan (iZ 0 y)) s c:=fun s c=>by rw[eV,aD h0]
   simp only[z2,seval,q9,sk,hlen,k2,eJ,cV,AOp.kd,zop,tks,cD,eA,aF (f:=42) rfl,aR,hfz,h42,fJ,hm,nb];exact mV.bad h0 (hI.tmp (Nat.le_add_right _ _) (by simp[aE]) (by simp[aE]) (by simp[aE])) (fun k hk=>by rcases hk with rfl|rfl|rfl<;>simp[aE])
 ·obtain⟨a,b,rfl⟩:∃a b,ps=[a,b]:=by
   match ps,hl with
   | [a,b],_=>exact⟨a,b,rfl⟩
  have k2:decide ((([a,b]:List (List UInt8)).length:Int)=2)=true:=rfl;have ia:kF 1 pd (.int .i64 0)=some (.iptr ([a,b].map iA).flatten 0):=hp.ia1 (i:=0) (by simp)
  have ib:kF 1 pd (.int .i64 1)=some (.iptr ([a,b].map iA).flatten 1):=hp.ia1 (i:=1) (by simp)
  have at0:([a,b].map iA).flatten[0]?=some (.str a):=rfl;have at1:([a,b].map iA).flatten[1]?=some (.str b):=rfl;by_cases hab:a=b
  ·rw[aH ⟨rfl,by simpa using hab⟩]
   simp only[z2,seval,q9,sk,hlen,k2,ia,ib,at0,at1,bH hab,eJ,cV,AOp.kd,zop,tks,cD,eA,aF (f:=42) rfl,aR,hfz,h42,fJ,eV,nb];exact mV.bad (by decide) (hI.tmp (Nat.le_add_right _ _) (by simp[aE]) (by simp[aE]) (by simp[aE])) (fun k hk=>by rcases hk with rfl|rfl|rfl<;>simp[aE])
  ·rw[aD (fun h=>hab (by simpa using h.2))]
   by_cases h0:y=0
   ·subst h0;simp only[z2,seval,q9,sk,hlen,k2,ia,ib,at0,at1,aK hab,eJ,cV,AOp.kd,zop,tks,cD,eA,aF (f:=42) rfl,aR,hfz,h42,fJ,eV,nb];exact mV.go (hI.tmp (Nat.le_add_right _ _) (by simp[aE]) (by simp[aE]) (by simp[aE])) (fun k hk=>by rcases hk with rfl|rfl|rfl<;>simp[aE])
   ·have hm:∀s c,fn (n+12) 4096 (.fn 41) [.int .i64 0,.int .i64 y] s c = .ok (.pan (iZ 0 y)) s c:=fun s c=>by rw[eV,aD h0]
    simp only[z2,seval,q9,sk,hlen,k2,ia,ib,at0,at1,aK hab,eJ,cV,AOp.kd,zop,tks,cD,eA,aF (f:=42) rfl,aR,hfz,h42,fJ,hm,nb];exact mV.bad h0 (hI.tmp (Nat.le_add_right _ _) (by simp[aE]) (by simp[aE]) (by simp[aE])) (fun k hk=>by rcases hk with rfl|rfl|rfl<;>simp[aE])
end
end Zv
namespace Zv
open Go
noncomputable section
theorem mV.of{d e v f:D}{L:List (List UInt8)}{t t0:Tm}{r:R}{er:Int}(h:mV d e v f L t r er)(hk:∀k,k=53∨k=54∨k=55→tget t k=tget t0 k):mV d e v f L t0 r er:=by
 obtain⟨t',s',c',h1,h2,h3⟩:=h;exact⟨t',s',c',h1,h2,fun k hk'=>(h3 k hk').trans (hk k hk')⟩
theorem X22_ok(n:Nat){d e v f:D}{L:List (List UInt8)}{x:Fd}(hx:FdOk x){t:Tm}{s:St}{c k:Nat}(hI:I22 d e v f L t s c)(q9:tget t 9 = .ptr k 0)(sk:sget s k=some (.fix 79 [.str x.name,x.pd,x.bd])):
  mV d e v f L t (zC X22 (cxn (n+12)) (fn (n+12) 4096) KK ⟨t,s,c,D22,none⟩) (defE x):=by
 have hlen:=hx.p.len;have hpl:=hx.pl;have main:x.ps.length=1∨x.ps.length=2→∀t1:Tm,(∀k,k=1∨k=2∨k=5∨k=9∨k=53∨k=54∨k=55→tget t1 k=tget t k)→tget t1 75=x.pd→tget t1 76 = .int .i64 (x.ps.length:Nat)→tget t1 77 = .int .i64 0 →
   mV d e v f L t (zbind (mA 8 (zloop KK (zC (.seq (.reg none [⟨(some 78),(.bin .lss (.t 77) (.t 76)),none⟩]) (.seq (.cond (.t 78) .skip (.exit 8)) (.seq (.block 10 (.seq (.reg none [⟨(some 79),(.iaS 1 (.t 75) (.t 77)),none⟩,⟨(some 80),(.ld none (.t 79)),none⟩,⟨(some 11),(.mv (.t 80)),none⟩]) (.seq (.reg none [⟨(some 81),(.mv (.t 11)),none⟩,⟨(some 82),(.call 61 [(.t 81)]),none⟩,⟨(some 83),(.un .not (.t 82)),none⟩]) (.cond (.t 83) (.reg none [⟨(some 84),(.call 41 [(.c (.int .i64 0)),(.c (.int .i64 6))]),none⟩]) .skip)))) (.reg none [⟨(some 85),(.bin .add (.t 77) (.c (.int .i64 1))),none⟩,⟨(some 77),(.mv (.t 85)),none⟩])))) (cxn (n+12)) (fn (n+12) 4096) KK) ⟨t1,s,c,D22,none⟩)) (zC Xc22 (cxn (n+12)) (fn (n+12) 4096) KK))
    (if x.ps.all iP=true then(if x.ps.length=2∧x.ps.getD 0 []=x.ps.getD 1 []then 8 else exE x.body) else 6):=by
  intro hl t1 ht q75 q76 q77;generalize hz:zloop KK _ _=rl;refine zrange rl hz x.ps.length (fM hpl) hpl (fun i t' s' c'=>s'=s∧c'=c∧tget t' 75=x.pd∧(∀k,k=1∨k=2∨k=5∨k=9∨k=53∨k=54∨k=55→tget t' k=tget t k)∧∀j,j<i→∀h:j<x.ps.length,iP x.ps[j]=true) (by decide) q77 q76 ⟨rfl,rfl,q75,ht,nofun⟩ ?_ ?_
  ·rintro i t' s' c' hlt ⟨rfl,rfl,q75,hk,hn⟩ hti htn;have h61:=c61 (n+3) x.ps[i] (hx.pn _ (cG hlt));cases hb:iP x.ps[i]
   ·have ha:¬x.ps.all iP=true:=fun h=>by
     have:=bZ.1 h _ (cG hlt);rw[hb]at this;cases this
    rw[hb]at h61;rw[aD ha];have hm:∀s c,fn (n+12) 4096 (.fn 41) [.int .i64 0,.int .i64 6] s c = .ok (.pan (iZ 0 6)) s c:=fun s c=>by rw[eV,aD (by decide)]
    simp only[z2,seval,q75,hti,htn,hx.p.ia1 hlt,hx.p.at1 hlt,iA,aF (f:=61) rfl,aR,h61,hm,nb];exact mV.bad (by decide) (hI.tmp (aJ _) (by simp[aE,hk]) (by simp[aE,hk]) (by simp[aE,hk])) fun k h=>by rcases h with rfl|rfl|rfl<;>simp[aE,hk]
   ·rw[hb]at h61;simp only[z2,seval,q75,hti,htn,hx.p.ia1 hlt,hx.p.at1 hlt,iA,aF (f:=61) rfl,aR,h61,nb];refine⟨trivial,trivial,trivial,.inr (.inr trivial),nofun,nofun,trivial,trivial,trivial,fun k h=>?_,fun j hj h=>?_⟩
    ·rcases h with rfl|rfl|rfl|rfl|rfl|rfl|rfl<;>simp[aE,hk]
    ·rcases cU.1 hj with h'|rfl
     ·exact hn j h' h
     ·exact hb
  ·rintro t' s' c' ⟨rfl,rfl,q75,hk,hn⟩ hti htn;have ha:x.ps.all iP=true:=bZ.2 fun y hy=>by
    obtain⟨j,hj,rfl⟩:=fA hy;exact hn j hj hj
   rw[aH ha];simp only[eW,↓reduceIte];refine(Xc_ok n hx hl (t:=tput t' 78 (.bool false)) (hI.tmp (aJ _) (by simp[aE,hk]) (by simp[aE,hk]) (by simp[aE,hk])) (k:=k) (by simp[aE,hk,q9]) sk).of fun k h=>?_
   rcases h with rfl|rfl|rfl<;>simp[aE,hk]
 unfold X22 defE;by_cases hl:x.ps.length=1∨x.ps.length=2
 ·rw[aH hl];rcases hl with hl|hl
  ·have k1:decide ((x.ps.length:Int)=1)=true:=dT (by omega)
   simp only[z2,seval,q9,sk,hlen,k1,nb];exact main (.inl hl) _ (fun k h=>by rcases h with rfl|rfl|rfl|rfl|rfl|rfl|rfl<;>simp[aE]) (by simp[aE]) (by simp[aE]) (by simp[aE])
  ·have k1:decide ((x.ps.length:Int)=1)=false:=dF (by omega)
   have k2:decide ((x.ps.length:Int)=2)=true:=dT (by omega)
   simp only[z2,seval,q9,sk,hlen,k1,k2,nb];exact main (.inr hl) _ (fun k h=>by rcases h with rfl|rfl|rfl|rfl|rfl|rfl|rfl<;>simp[aE]) (by simp[aE]) (by simp[aE]) (by simp[aE])
 ·rw[aD hl];have k1:decide ((x.ps.length:Int)=1)=false:=dF (by omega)
  have k2:decide ((x.ps.length:Int)=2)=false:=dF (by omega)
  have hm:∀s c,fn (n+12) 4096 (.fn 41) [.int .i64 0,.int .i64 23] s c = .ok (.pan (iZ 0 23)) s c:=fun s c=>by rw[eV,aD (by decide)]
  simp only[z2,seval,q9,sk,hlen,k1,k2,hm,nb];exact mV.bad (by decide) (hI.tmp (aJ _) (by simp[aE]) (by simp[aE]) (by simp[aE])) fun k h=>by rcases h with rfl|rfl|rfl<;>simp[aE]
theorem W22_ok(n:Nat){d e v f:D}{vs:List Vr}{fs:List Fd}(hE:uU vs fs v f){t:Tm}{s:St}{c:Nat}(hI:I22 d e v f (vs.map Vr.name) t s c):
  Out22 (n+12) (zC W22 (cxn (n+12)) (fn (n+12) 4096) KK ⟨t,s,c,D22,none⟩) (scan (dfP vs fs) 0 fs.length 0):=by
 rw[W22_eq];simp only[z2,seval,hI.q1,hI.s0,hE.f.len];generalize hz:zloop KK _ _=rl;refine zrange rl hz fs.length (fM hE.fl) hE.fl (fun i t s c=>I22 d e v f (vs.map Vr.name++(fs.take i).map Fd.name) t s c∧tget t 53=f∧∀j,j<i→dfP vs fs j=none) (by decide) (by simp[aE]) (by simp[aE])
  ⟨by rw[dK,eS,dC];exact hI.tmp (aJ _) (by simp[aE]) (by simp[aE]) (by simp[aE]),by simp[aE],nofun⟩ ?_ ?_
 ·clear hI hz;rintro i t s c hlt ⟨hI,q53,hn⟩ hti htn;have hrow:=hE.f.row hlt;have hok:=hE.fo _ (cG hlt);have hfr:=fun s c h4 h3=>fresh_ok (n+3) 4094 (nm:=fs[i].name) hok.nm (L:=vs.map Vr.name++(fs.take i).map Fd.name) (s:=s) (c:=c) h4 h3
  have hgl:fs[i]?=some fs[i]:=aI hlt;have hst:=uL Fd.name hlt;have hP:dfP vs fs i=if oA fs[i].name (vs.map Vr.name++(fs.take i).map Fd.name)=0 then(if defE fs[i]=0 then none else some (defE fs[i])) else some (oA fs[i].name (vs.map Vr.name++(fs.take i).map Fd.name)):=by rw[dfP,hgl]
  have htk:∀a b c:D,dH [a,b,c] 0 (some 3)=some (.agg [a,b,c]):=fun _ _ _=>rfl
  have hpn:=hok.p.nag;have hbn:=hok.b.nag;rw[hst,←List.append_assoc];generalize hN:oA fs[i].name (vs.map Vr.name++(fs.take i).map Fd.name)=en at *;generalize hL:vs.map Vr.name++(fs.take i).map Fd.name=L at *;have hh:=hI.hc;have f0:(0=c)=False:=aM (by omega)
  have f1:(1=c)=False:=aM (by omega)
  have f2:(2=c)=False:=aM (by omega)
  have f3:(3=c)=False:=aM (by omega)
  have f4:(4=c)=False:=aM (by omega)
  have g3:(c=3)=False:=aM (by omega)
  by_cases h0:en=0
  ·subst h0;simp only[if_true]at hfr hP;simp only[z2,seval,hI.q1,hI.q2,hI.q5,q53,hti,htn,hE.f.ia hlt,hrow,fdC,hI.s0,f0,f1,f2,f3,f4,g3,hI.s3,hI.s4,hpn,hbn,iR,bX,dC,bY,hfr,htk,nb];generalize hT:tput (tput _ 61 _) 62 _=T
   obtain⟨t',s',c',r1,r2,r3⟩:=X22_ok n hok (t:=T) (hI.next fs[i].name (.fix 79 [.str [],.nils,.nils]) (.fix 79 [.str fs[i].name,fs[i].pd,fs[i].bd]) (t':=T) (by rw[←hT];simp[aE]) (by rw[←hT];simp[aE]) (by rw[←hT];simp[aE])) (k:=c) (by rw[←hT];simp[aE]) (by simp only[aE];rw[aD (by omega)];simp)
   rw[r1];have k53:tget t' 53=f:=by rw[r3 53 (.inl rfl),←hT];simp[aE,q53]
   have k54:tget t' 54 = .int .i64 (fs.length:Nat):=by rw[r3 54 (.inr (.inl rfl)),←hT];simp[aE,htn]
   have k55:tget t' 55 = .int .i64 (i:Nat):=by rw[r3 55 (.inr (.inr rfl)),←hT];simp[aE,hti]
   by_cases h1:defE fs[i]=0
   ·rw[aH h1]at hP ⊢;simp only[eW,↓reduceIte,go1];exact⟨trivial,trivial,k55,.inr (.inr k54),nofun,nofun,r2.tmp (aJ _) (by simp[aE]) (by simp[aE]) (by simp[aE]),by simp[aE,k53],eC hn hP⟩
   ·rw[aD h1]at hP ⊢;simp only[eW,↓reduceIte,go1];rw[fY hlt hP hn];exact r2.pan (n+12) _ rfl rfl rfl (aJ _) r2.hf
  ·simp only[aD h0]at hfr hP;simp only[z2,seval,hI.q1,hI.q2,hI.q5,q53,hti,htn,hE.f.ia hlt,hrow,fdC,hI.s0,f0,f1,f2,f3,f4,g3,hI.s3,hI.s4,hpn,hbn,iR,bX,dC,bY,hfr,htk,nb];rw[fY hlt hP hn]
   exact hI.pan (n+12) en (by simp[aE]) (by simp[aE,f1]) (by simp[aE,f2]) (Nat.le_succ _) fun m hm=>by rw[aO,aD (by omega),aX,aD (by omega)];exact hI.hf m (by omega)
 ·rintro t s c ⟨hI,q53,hn⟩ hti htn;rw[gZ hn];simp only[z2,seval,hI.q2,hI.s1];exact end22_ret (n+12) 0 (k:=41) (by simp[aE]) (by simp[aE,hI.q2])
theorem c22e(n:Nat){ss:List (List UInt8)}{us:List Nat}{d e v f:D}{vs:List Vr}{fs:List Fd}(hd:Sl 1 iA ss d)(he:Sl 1 u8C us e)(hu:iS us)(hs:pW ss){x er:Int}(hC:CHK ss us=e2 x er)(h0:er≠0)(hE:uU vs fs v f):cl (n+12) 22 [.agg [d,e,v,f]]=some (.int .i64 er,true):=by
 rw[cN (A:=A22) rfl (n+12) _ rfl,show A22.body=B22 from rfl,B22_eq]
 have h59:=c59 (n+6) hd he hu hs;rw[hC]at h59;have htk:dH [d,e,v,f] 0 (some 2)=some (.agg [d,e]):=rfl;have hm:∀s c,fn (n+12) 4096 (.fn 41) [.int .i64 0,.int .i64 er] s c = .ok (.pan (iZ 0 er)) s c:=fun s c=>by rw[eV,aD h0]
 simp only[z2,seval,hd.nag,he.nag,hE.v.nag,hE.f.nag,iR,htk,aF (f:=59) rfl,aR,hd.fz,he.fz,h59,fJ,hm];exact end22_pan (n+12) er er 0 (k:=41) (k':=4) (by simp[aE]) (by simp[aE]) (fun m hm=>by simp only[aE,dU];rw[aD (by omega),aD (by omega),aD (by omega),aD (by omega),aD (by omega)]) (by decide) (by simp[aE])
theorem c22(n:Nat){ss:List (List UInt8)}{us:List Nat}{d e v f:D}{vs:List Vr}{fs:List Fd}(hd:Sl 1 iA ss d)(he:Sl 1 u8C us e)(hu:iS us)(hs:pW ss)(hC:CHK ss us=e2 0 0)(hE:uU vs fs v f):cl (n+12) 22 [.agg [d,e,v,f]]=some (.int .i64 (envE us vs fs),true):=by
 rw[cN (A:=A22) rfl (n+12) _ rfl,show A22.body=B22 from rfl,B22_eq]
 have h59:=c59 (n+6) hd he hu hs;rw[hC]at h59;have htk:dH [d,e,v,f] 0 (some 2)=some (.agg [d,e]):=rfl;unfold envE;by_cases h32:32<vs.length
 ·have k1:decide ((32:Int)<vs.length)=true:=dT (by omega)
  rw[aH (.inl h32)];simp only[z2,seval,hd.nag,he.nag,hE.v.nag,hE.f.nag,hE.v.len,hE.f.len,k1,iR,htk,aF (f:=59) rfl,aR,hd.fz,he.fz,h59,fJ,eV,nb];exact end22_ret (n+12) 3 (k:=41) (by simp[aE]) (by simp[aE])
 have k1:decide ((32:Int)<vs.length)=false:=dF (by omega)
 by_cases h16:16<fs.length
 ·have k2:decide ((16:Int)<fs.length)=true:=dT (by omega)
  rw[aH (.inr h16)];simp only[z2,seval,hd.nag,he.nag,hE.v.nag,hE.f.nag,hE.v.len,hE.f.len,k1,k2,iR,htk,aF (f:=59) rfl,aR,hd.fz,he.fz,h59,fJ,eV,nb];exact end22_ret (n+12) 3 (k:=41) (by simp[aE]) (by simp[aE])
 have k2:decide ((16:Int)<fs.length)=false:=dF (by omega)
 rw[aD (by omega)]
 simp only[z2,seval,hd.nag,he.nag,hE.v.nag,hE.f.nag,hE.v.len,hE.f.len,k1,k2,iR,htk,aF (f:=59) rfl,aR,hd.fz,he.fz,h59,fJ,eV,bO,eS,show D.nilm.cells?=some [.nilm]from rfl,show eR (.mp 3)=false from rfl,show eQ [D.nilm] 0 [D.mp 3]=[.mp 3]from rfl,nb]
 refine U22_ok n hd he hu hs hC hE (fun h=>W22_ok n hE h) ⟨?_,?_,?_,?_,?_,by decide,fun m hm=>by
  have e:∀k,k<5→(m=k)=False:=fun k hk=>aM (by omega)
  simp only[aE,dU,e 0 (by decide),e 1 (by decide),e 2 (by decide),e 3 (by decide),e 4 (by decide),fW],?_,?_,?_⟩
 all_goals simp[aE]
 all_goals rfl
def ty0:List D:=[.int .i64 0,.int .i64 0,.int .i64 0,.int .i64 0,.int .i64 0]
def ofP(vs:List Vr)(s:List UInt8)(i:Nat):Option D:=match vs[i]? with|some x=>if x.name=s then some (.tup [.agg (tyC x.ty),.int .i64 0]) else none|none=>none
def ofD(vs:List Vr)(s:List UInt8):D:=scan (ofP vs s) (.tup [.agg ty0,.int .i64 24]) vs.length 0
theorem var_ty{vs:List Vr}{v:D}(hv:Sl 6 vrC vs v){i:Nat}(hlt:i<vs.length):dH (vs.map vrC).flatten (i*6+1) (some 5)=some (.agg (tyC vs[i].ty)):=by
 have hb:=jL.ble hv (i:=i) (by rw[eY];exact hlt)
 have h2:=jL.tk hv (i:=i) (by rw[eY];exact hlt)
 rw[List.getElem_map]at h2;simp only[dH];rw[cE (by omega),aS]
 have:((vs.map vrC).flatten.drop (i*6+1)).take 5=(((vs.map vrC).flatten.drop (i*6)).take 6).drop 1:=by rw[List.drop_take,List.drop_drop]
 rw[this,h2];rfl
theorem f105(n j:Nat)(x:Vr){s:List UInt8}{S:St}{c:Nat}(s0:sget S 0=some (.fix 10 [.str s]))(hc:1≤c):fn n (j+1) (.fn 105) [.agg (vrC x),.ptr 0 0] S c = .ok (.ret (.bool (decide (x.name=s)))) (sadd S c (.fix 55 (vrC x))) (c+1):=by
 rw[iJ (f:=105) (A:=A105) rfl rfl rfl rfl n j _ _ _ rfl,show A105.body=B105 from rfl]
 unfold B105 vrC tyC;have f0:(0=c)=False:=aM (by omega)
 simp only[z2,seval,s0,f0,nb,A105]
def ixP(vs:List Vr)(s:List UInt8)(i:Nat):Option Int:=match vs[i]? with|some x=>if x.name=s then some (i:Int) else none|none=>none
theorem f104(n j:Nat){vs:List Vr}{v:D}(hv:Sl 6 vrC vs v)(hl:vs.length<9223372036854775807){s:List UInt8}{S:St}{c:Nat}(s0:sget S 0=some (.fix 10 [.str s]))(hc:1≤c):
  ∃s' c',fn n (j+2) (.fn 104) [v,.fn (.func 105) [] [.ptr 0 0]] S c = .ok (.ret (.int .i64 (scan (ixP vs s) (-1) vs.length 0))) s' c'∧c≤c'∧∀m,m<c→sget s' m=sget S m:=by
 rw[iJ (f:=104) (A:=A104) rfl rfl rfl rfl n (j+1) _ _ _ rfl,show A104.body=B104 from rfl]
 simp only[B104,Ab.abq];simp only[z2,seval,hv.len];generalize hz:zloop KK _ _=rl;refine zrange rl hz vs.length (fM hl) hl (fun i t s' c'=>(c≤c'∧∀m,m<c→sget s' m=sget S m)∧tget t 0=v∧tget t 1 = .fn (.func 105) [] [.ptr 0 0]∧∀k,k<i→ixP vs s k=none) (by decide) (by simp[aE]) (by simp[aE]) ⟨⟨aJ _,fun _ _=>rfl⟩,by simp[aE],by simp[aE],nofun⟩ ?_ ?_
 ·rintro i t s' c' hi ⟨⟨hK,hk⟩,q0,q1,hn⟩ hti htn;have hrow:=hv.row hi;have h105:=f105 n j vs[i] (S:=s') (c:=c') (by rw[hk 0 (by omega)];exact s0) (by omega)
  have hK':∀b,c≤c'+1∧∀m,m<c→sget (sadd s' c' b) m=sget S m:=fun b=>⟨by omega,fun m hm=>by rw[aX,aD (by omega)];exact hk m hm⟩
  by_cases e:vs[i].name=s
  ·have hp:ixP vs s i=some (i:Int):=by rw[ixP,aI hi];exact aH e
   simp only[z2,seval,q0,q1,hti,htn,hv.ia hi,hrow,iR,bX,dC,bY,h105,bH e,nb,A104];rw[fY hi hp hn];exact⟨_,_,rfl,hK' _⟩
  ·have hp:ixP vs s i=none:=by rw[ixP,aI hi];exact aD e
   simp only[z2,seval,q0,q1,hti,htn,hv.ia hi,hrow,iR,bX,dC,bY,h105,aK e,nb];exact⟨trivial,trivial,trivial,.inr (.inr trivial),nofun,nofun,⟨Nat.le_succ_of_le hK,fun m hm=>by rw[aD (by omega)];exact hk m hm⟩,trivial,trivial,eC hn hp⟩
 ·rintro t s' c' ⟨hK,q0,q1,hn⟩ hti htn;simp only[z2,seval,q0,q1,hti,htn,A104];rw[gZ hn];exact⟨_,_,rfl,hK⟩
theorem c57(n:Nat){vs:List Vr}{v:D}(hv:Sl 6 vrC vs v)(hl:vs.length<9223372036854775807)(s:List UInt8):cl n 57 [v,.str s]=some (ofD vs s,true):=by
 rw[cN (A:=A57) rfl n _ rfl,show A57.body=B57 from rfl]
 simp only[B57,Ab.abq];obtain⟨s',c',h104,hc,hk⟩:=f104 n 4094 hv hl (s:=s) (S:=sadd (sadd st0 0 (.fix 10 [.str s])) 1 (.fix 37 ty0)) (c:=2) (by simp[aE]) (by decide)
 have k1:sget s' 1=some (.fix 37 ty0):=by rw[hk 1 (by decide)];simp[aE]
 unfold ty0 at *;rcases eO (ixP vs s) (-1) vs.length 0 with⟨h1,h2⟩|⟨m,r,_,hm,h3,h4,h5⟩
 ·rw[h2]at h104;simp only[z2,seval,bO,eS,h104,k1,Int.reduceLT,nb,A57];have:ofD vs s = .tup [.agg ty0,.int .i64 24]:=gZ fun j hj=>by
   have:=h1 j (by omega) (by omega)
   rw[ixP,aI hj]at this;rw[ofP,aI hj];simp only at this ⊢;split at this
   ·cases this
   ·rw[aD (by assumption)]
  rw[this];rfl
 ·have hm':m<vs.length:=by omega
  rw[h5]at h104;rw[ixP,aI hm']at h3;simp only at h3;split at h3
  case isFalse=>cases h3
  rename_i hnm;cases h3;have htk:=var_ty hv hm';simp only[tyC]at htk;have hlt:decide (((m:Nat):Int)<0)=false:=dF (by omega)
  simp only[z2,seval,bO,eS,h104,k1,hlt,hv.ia hm',htk,nb,A57];have:ofD vs s = .tup [.agg (tyC vs[m].ty),.int .i64 0]:=fY hm' (by rw[ofP,aI hm'];exact aH hnm) fun j hj=>by
   have hj':j<vs.length:=by omega
   have:=h4 j (by omega) hj
   rw[ixP,aI hj']at this;rw[ofP,aI hj'];simp only at this ⊢;split at this
   ·cases this
   ·rw[aD (by assumption)]
  rw[this];rfl
theorem Aft.addAt{s s':St}{c c':Nat}(h:Aft s c s' c'){nm C:Nat}(h1:c'≤nm)(h2:nm<C)(b:Blk):Aft s c (sadd s' nm b) C:=⟨by have:=h.le;omega,fun m hm=>by rw[aX,aD (by have:=h.le;omega)];exact h.old m hm,fun m hm=>by rw[aX,aD (by omega)];exact h.free m (by omega)⟩
set_option maxHeartbeats 1000000 in
theorem f86(n j:Nat){d e:D}{low pc ec:Nat}{lk:Int}{m v f q:D}{K ty:Nat}{s:St}{c:Nat}(hK:sget s K=some (.fix ty (lrC d e low pc ec lk m v f q)))(hKc:K<c)(hfr:∀m,c≤m→sget s m=none)
  {vs:List Vr} {w:D} (hvn:eR v=false) (hv:∀s2,(∀m,m<c→sget s2 m=sget s m)→∀k,frz false (k+2) s2 v=some w) (hw:Sl 6 vrC vs w) (hl:vs.length<9223372036854775807) (x:Nd) {a1 a2 a3 a4 a5 er:Int} (hof:ofD vs x.name = .tup [.agg [.int .i64 a1,.int .i64 a2,.int .i64 a3,.int .i64 a4,.int .i64 a5],.int .i64 er]) :
  ∃s' c',fn (n+1) (j+3) (.fn 86) [.ptr K 0,.agg (bU x)] s c=(if er=0 then .ok (.ret (.agg [.int .i64 a1,.int .i64 a2,.int .i64 a3,.int .i64 a4,.int .i64 a5])) s' c' else .ok (.pan (iZ x.site er)) s' c')∧Aft s c s' c':=by
 rw[iJ (A:=A86) rfl rfl rfl rfl (n+1) (j+2) _ s c rfl,show A86.body=B86 from rfl]
 simp only[B86,Ab.abq];have h57:=c57 n hw hl x.name;rw[hof]at h57;unfold lrC at hK;have k0:(K=c)=False:=aM (by omega)
 have k1:(K=c+1)=False:=aM (by omega)
 have k2:(c=c+1)=False:=aM (by omega)
 have k3:(c+1=c)=False:=aM (by omega)
 have n0:sget s (c+1+1+10)=none:=hfr _ (by omega)
 have n1:(c+11=c)=False:=aM (by omega)
 have n2:(c+1+1+10=c)=False:=aM (by omega)
 have n3:(c+1+1+10=c+1)=False:=aM (by omega)
 have n4:(c+1=c+1+1+10)=False:=aM (by omega)
 have n5:(c=c+1+1+10)=False:=aM (by omega)
 have n6:(c=c+11)=False:=aM (by omega)
 have n7:(K=c+1+1+10)=False:=aM (by omega)
 have hA:=((Aft.refl hfr).add (.fix 57 (bU x))).add (.fix 37 [.int .i64 0,.int .i64 0,.int .i64 0,.int .i64 0,.int .i64 0]);have hf:=hv _ hA.old 18;unfold bU at hf;by_cases h0:er=0
 ·subst h0;simp only[z0,seval,hK,hvn,n0,n1,n2,n3,n4,n5,n6,n7,bQ,k0,k1,k2,k3,eJ,cV,AOp.kd,zop,tks,cD,eA,cS,dO,aT,bP,bU,hf,aF (f:=57) rfl,aR,h57,eV,↓reduceIte,A86];exact⟨_,_,rfl,(((hA.addAt (c:=c) (nm:=c+1+1+10) (C:=c+1+1+13) (by omega) (by omega) _).set (by omega) (by omega) _).set (by omega) (by omega) _)⟩
 ·simp only[z0,seval,hK,hvn,n0,n1,n2,n3,n4,n5,n6,n7,bQ,k0,k1,k2,k3,eJ,cV,AOp.kd,zop,tks,cD,eA,cS,dO,aT,bP,bU,hf,aF (f:=57) rfl,aR,h57,eV,aD h0,A86];exact⟨_,_,rfl,((hA.addAt (c:=c) (nm:=c+1+1+10) (C:=c+1+1+13) (by omega) (by omega) _).set (by omega) (by omega) _)⟩
end
end Zv
