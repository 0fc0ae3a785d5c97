/- looker.all: the operands are taken from the stack. Conditions: none. -/
import Derived.Test.YtnpoohbeicakkaaGreatDoorZAT
set_option linter.unusedVariables false
set_option linter.unusedSimpArgs false
set_option maxRecDepth 100000
namespace Zv
open Go
noncomputable section
theorem enc_tl:EncG 5 tlC:=⟨fun _=>rfl,by decide,fun _=>rfl,fun _ _ _ _=>rfl⟩
def StkD(B:Nat)(s:St)(q:D)(st:List Tl):Prop:=(q = .nils∧st=[])∨∃m ty cs,B≤m∧q = .gs m 0 5 st.length∧sget s m=some (.grow ty cs)∧st.length*5≤cs.length∧cs.take (st.length*5)=cY tlC st.reverse
theorem StkD.keep{B:Nat}{s s':St}{q:D}{st:List Tl}(h:StkD B s q st)(hs:∀m,B≤m→(∃b,sget s m=some b)→sget s' m=sget s m):StkD B s' q st:=by
 rcases h with h|⟨m,ty,cs,h1,h2,h3,h4,h5⟩
 ·exact .inl h
 ·exact .inr ⟨m,ty,cs,h1,h2,by rw[hs m h1 ⟨_,h3⟩,h3],h4,h5⟩
theorem slv_lo{m L r:Nat}(h:r<L):uW 5 (.gs m 0 5 L) (some (.int .i64 (r:Nat))) none none=some (.gs m (r*5) 5 (L-r)):=by
 have hb:uH L (.int .i64 (r:Nat))=some r:=kP (by omega)
 simp only[uW,fL,aB,aN,hb,fF,aS,bL];cases r with
 | zero=>simp
 | succ r=>rw[show Nat.beq (r+1) 0=false from rfl,show Nat.blt (r+1) L=true from cE h];rfl
theorem slv_hi{m L r:Nat}(h:r≤L):uW 5 (.gs m 0 5 L) none (some (.int .i64 (r:Nat))) none=some (.gs m 0 5 r):=by
 have hb:uH L (.int .i64 (r:Nat))=some r:=kP h;simp only[uW,fL,aB,aN,hb,fF,aS,bL]
theorem part_cells{cs:List D}{a b:List Tl}(h1:(a.length+b.length)*5≤cs.length)(h2:cs.take ((a.length+b.length)*5)=cY tlC (a++b)):(cs.drop (a.length*5)).take (b.length*5)=cY tlC b∧cs.take (a.length*5)=cY tlC a:=by
 rw[rJ]at h2;have la:=enc_tl.cells_len a;generalize cY tlC a=x at *;generalize cY tlC b=y at *;have e1:cs.take (a.length*5)=x:=by
  have:=congrArg (List.take (a.length*5)) h2;rw[List.take_take,Nat.min_eq_left (by omega),←la,List.take_left]at this
  rw[←la];exact this
 refine⟨?_,e1⟩;have:=congrArg (List.drop (a.length*5)) h2;rw[List.drop_take,show(a.length+b.length)*5-a.length*5=b.length*5 by omega]at this
 rw[this,←la,List.drop_left]
theorem gB0(n j:Nat){K By R4 L i Kn:Nat}{dx w q8:D}{t:Tm}(hT:TI K By R4 dx w L i q8 t)(h11:tget t 11 = .ptr Kn 0){s:St}{c:Nat}{y:Nd}(hn:sget s Kn=some (.fix 57 (bU y)))(h5:y.kind≠5)(h6:y.kind≠6):
  ∃t',zC La6 (cxn n) (fn n j) KK ⟨t,s,c,[],none⟩ = .ok .normal ⟨t',s,c,[],none⟩∧TI K By R4 dx w L i q8 t'∧tget t' 11 = .ptr Kn 0:=by
 obtain⟨q0,q1,q4,q5,q8',q34,q35,q36⟩:=hT;unfold bU at hn;simp only[La6,Ab.abq];simp only[z2,seval,h11,hn,aK h5,aK h6,nb];refine⟨_,rfl,⟨?_,?_,?_,?_,?_,?_,?_,?_⟩,?_⟩
 ·simpa[aE]using q0
 ·simpa[aE]using q1
 ·simpa[aE]using q4
 ·simpa[aE]using q5
 ·simpa[aE]using q8'
 ·simpa[aE]using q34
 ·simpa[aE]using q35
 ·simpa[aE]using q36
 ·simpa[aE]using h11
theorem gB(n j:Nat)(C:LkC){K By R4 L i Kn:Nat}{dx w q8 q:D}{t:Tm}(hT:TI K By R4 dx w L i q8 t)(h11:tget t 11 = .ptr Kn 0){s:St}{c:Nat}{y:Nd}(hn:sget s Kn=some (.fix 57 (bU y)))(h56:y.kind=5∨y.kind=6)
  {st:List Tl} {k:Nat} (hk:k=1∨k=2) (hyk:y.kids=(k:Nat)) (hkl:k≤st.length) (hL:st.length<1000) {B:Nat} (hS:StkD B s q8 st) (hKB:K<B) (hnB:Kn≠K) (hBc:B≤c) (hnc:Kn<c) {sm:Lk} (hK:sget s K=some (C.blk sm q)) (hfr:mW s c) :
  ∃t' s' c' q',zC La6 (cxn n) (fn n (j+1)) KK ⟨t,s,c,[],none⟩ = .ok .normal ⟨t',s',c',[],none⟩∧TI K By R4 dx w L i q' t'∧tget t' 11 = .ptr Kn 0∧StkD B s' q' (st.drop k)∧c+1<c' ∧
   sget s' K=some (C.blk sm (.gs (c+1) 0 5 k))∧sget s' (c+1)=some (.grow 37 (cY tlC (st.take k)))∧(∀m,m<c→m≠K→sget s' m=sget s m)∧mW s' c':=by
 obtain⟨q0,q1,q4,q5,q8',q34,q35,q36⟩:=hT;rcases hS with⟨_,rfl⟩|⟨m,ty,cs,hm,rfl,hs,hl,hc⟩
 ·simp at hkl;omega
 have hmc:m<c:=gP fun h=>by rw[hfr m h]at hs;cases hs
 have hsplit:st.reverse=(st.drop k).reverse++(st.take k).reverse:=by rw[←List.reverse_append,List.take_append_drop]
 have hlen:(st.drop k).reverse.length+(st.take k).reverse.length=st.length:=by simp;omega
 have hld:(st.drop k).reverse.length=st.length-k:=by simp
 have hlt:(st.take k).reverse.length=k:=by simp;omega
 rw[hsplit,←hlen]at hc;obtain⟨p1,p2⟩:=part_cells (a:=(st.drop k).reverse) (b:=(st.take k).reverse) (by rw[hlen];exact hl) hc
 rw[hld,hlt]at p1;rw[hld]at p2;have hsub:dL .i64 ((st.length:Int)-(k:Int))=((st.length-k:Nat):Int):=by rw[gW (by omega) (by omega)];omega
 have lo:=slv_lo (m:=m) (L:=st.length) (r:=st.length-k) (by omega)
 rw[show st.length-(st.length-k)=k by omega]at lo
 have hi:=slv_hi (m:=m) (L:=st.length) (r:=st.length-k) (by omega)
 have hsc:dA (sadd s c (.fix 0 [])) 5 (.gs m ((st.length-k)*5) 5 k)=some (cY tlC (st.take k).reverse,k):=by
  have e:sget (sadd s c (.fix 0 [])) m=some (.grow ty cs):=by rw[aX,aD (by omega),hs]
  simp only[dA,e,aB,aN,dV,fF,Bool.true_and,cE (show(st.length-k)*5+k*5≤cs.length by omega),aS,p1]
 have h90:=f90 n j (p:=.gs m ((st.length-k)*5) 5 k) (by rcases hk with rfl|rfl<;>rfl) hsc hk
 obtain⟨s3,hs3⟩:∃s3,s3=sset (sadd (sadd s c (.fix 0 [])) (c+1) (.grow 37 (cY tlC (st.take k).reverse))) K (C.blk sm (.gs (c+1) 0 5 k)):=⟨_,rfl⟩
 have g3:∀a,sget s3 a=if a=K then some (C.blk sm (.gs (c+1) 0 5 k)) else if a=c+1 then some (.grow 37 (cY tlC (st.take k).reverse)) else if a=c then some (.fix 0 []) else sget s a:=fun a=>by rw[hs3];simp only[aO,aX]
 have h91:∃s4 c4,fn n (j+1) (.fn 91) [.gs (c+1) 0 5 k] s3 (c+1+1) = .ok (.ret (.tup [])) s4 c4∧c+1+1≤c4∧sget s4 (c+1)=some (.grow 37 (cY tlC (st.take k)))∧∀a,a≠c+1→sget s4 a=sget s3 a:=by
  rcases hk with rfl|rfl
  ·refine⟨s3,c+1+1,f91_1 n j s3 _,aJ _,?_,fun _ _=>rfl⟩
   rw[g3,aD (by omega),aH rfl]
   match st,hkl with
   | a::r,_=>rfl
  ·match st,hkl with
   | a::b::r,_=>
    obtain⟨s4,h1,h2,h3⟩:=f91_2 n j (m:=c+1) (t:=b) (u:=a) (s:=s3) (c:=c+1+1) (by rw[g3,aD (by omega),aH rfl];rfl)
    exact⟨s4,_,h1,by omega,by rw[h2];rfl,h3⟩
 obtain⟨s4,c4,h91,hc4,e4,o4⟩:=h91;have k1:(K=c)=False:=aM (by omega)
 have k2:(K=c+1)=False:=aM (by omega)
 have h56':(decide (y.kind=5)||decide (y.kind=6))=true:=by rcases h56 with h|h<;>simp[h]
 have hKn:=hn;unfold LkC.blk lrC at hK hs3;unfold bU at hKn;have hfr4:mW s4 c4:=fun a ha=>by
  rw[o4 a (by omega),g3,aD (by omega),aD (by omega),aD (by omega)];exact hfr a (by omega)
 have res:∀t',(TI K By R4 dx w L i (.gs m 0 5 (st.length-k)) t'∧tget t' 11 = .ptr Kn 0)→zC La6 (cxn n) (fn n (j+1)) KK ⟨t,s,c,[],none⟩ = .ok .normal ⟨t',s4,c4,[],none⟩→∃t' s' c' q',zC La6 (cxn n) (fn n (j+1)) KK ⟨t,s,c,[],none⟩ = .ok .normal ⟨t',s',c',[],none⟩∧TI K By R4 dx w L i q' t'∧tget t' 11 = .ptr Kn 0∧StkD B s' q' (st.drop k)∧c+1<c' ∧
   sget s' K=some (C.blk sm (.gs (c+1) 0 5 k))∧sget s' (c+1)=some (.grow 37 (cY tlC (st.take k)))∧(∀m,m<c→m≠K→sget s' m=sget s m)∧mW s' c':=fun t' ht' hz=>
  ⟨t',s4,c4,_,hz,ht'.1,ht'.2,.inr ⟨m,ty,cs,hm,by rw[fI],by rw[o4 m (by omega),g3,aD (by omega),aD (by omega),aD (by omega),hs],by rw[fI];omega,by rw[fI];exact p2⟩,by omega,
   by rw[o4 K (by omega),g3,aH rfl],e4,fun a ha hne=>by rw[o4 a (by omega),g3,aD hne,aD (by omega),aD (by omega)],hfr4⟩
 have e3:sget s3 K=some (C.blk sm (.gs (c+1) 0 5 k)):=by rw[g3,aH rfl]
 unfold LkC.blk lrC at e3;have hlen8:lenD false (.gs m 0 5 st.length)=some st.length:=rfl;rcases h56 with h5|h6
 ·have hd5:=bH h5;refine res ?t ?_ ?_
  rotate_left 2
  ·simp only[La6,Ab.abq];simp only[z2,seval,q0,q8',h11,hKn,hd5,hyk,hlen8,hsub,lo,h90,k1,k2,hK,dO,nb];rw[←hs3];simp only[z2,seval,q0,e3,h91,hi,q8',dO,nb];rfl
  ·refine⟨⟨?_,?_,?_,?_,?_,?_,?_,?_⟩,?_⟩
   ·simpa[aE]using q0
   ·simpa[aE]using q1
   ·simpa[aE]using q4
   ·simpa[aE]using q5
   ·simp[aE]
   ·simpa[aE]using q34
   ·simpa[aE]using q35
   ·simpa[aE]using q36
   ·simpa[aE]using h11
 ·have hd5:=aK (show ¬y.kind=5 by omega)
  have hd6:=bH h6;refine res ?u ?_ ?_
  rotate_left 2
  ·simp only[La6,Ab.abq];simp only[z2,seval,q0,q8',h11,hKn,hd5,hd6,hyk,hlen8,hsub,lo,h90,k1,k2,hK,dO,nb];rw[←hs3];simp only[z2,seval,q0,e3,h91,hi,q8',dO,nb];rfl
  ·refine⟨⟨?_,?_,?_,?_,?_,?_,?_,?_⟩,?_⟩
   ·simpa[aE]using q0
   ·simpa[aE]using q1
   ·simpa[aE]using q4
   ·simpa[aE]using q5
   ·simp[aE]
   ·simpa[aE]using q34
   ·simpa[aE]using q35
   ·simpa[aE]using q36
   ·simpa[aE]using h11
theorem setAt_mid{α:Type}:∀(pre mid post vs:List α),mid.length=vs.length→eQ (pre++(mid++post)) pre.length vs=pre++(vs++post)
 | pre,[],post,[],_=>by simp[eQ]
 | _,[],_,_::_,h=>by simp at h
 | _,_::_,_,[],h=>by simp at h
 | pre,c::cs,post,v::vs,h=>by
  have:=setAt_mid (pre++[v]) cs post vs (by simpa using h)
  simp only[eQ];rw[show(pre++(c::cs++post)).set pre.length v=(pre++[v])++(cs++post) by simp]
  simpa using this
theorem stk_app{B:Nat}{tm:Tm}{s:St}{c nb:Nat}{dd:List (D×List D)}{r:Option Nat}{q:D}{st:List Tl}{u:Tl}(h:StkD B s q st)(hb:sget s nb=some (.fix 0 (tlC u)))(hB:B≤c)(hfr:mW s c)(hl:st.length<1000):
  ∃q' s' c',nS ⟨tm,s,c,dd,r⟩ 5 40 37 q (.ms nb 0 5 1 1)=some (q',⟨tm,s',c',dd,r⟩)∧StkD B s' q' (u::st)∧c≤c'∧mW s' c'∧∀m,m<c→(m<B∨∀ty cs,sget s m≠some (.grow ty cs))→sget s' m=sget s m:=by
 have hc:dA s 5 (.ms nb 0 5 1 1)=some (tlC u,1):=by simp only[dA,hb];rfl
 have hrm:∀k,k≤4294967296→room k 40=true:=fun k hk=>by unfold room;rw[cE hk];rfl
 have hul:(tlC u).length=5:=rfl;unfold nS;simp only;rw[hc];simp only[aB,aN];rcases h with⟨rfl,rfl⟩|⟨m,ty,cs,hm,rfl,hs,hle,htk⟩
 ·refine⟨.gs c 0 5 1,sadd s c (.grow 37 (tlC u)),c+1,rfl,.inr ⟨c,37,tlC u,hB,rfl,by rw[aX,aH rfl],by simp[hul],rfl⟩,by omega,fun m hm=>by rw[aX,aD (by omega)];exact hfr m (by omega),fun m hm _=>by rw[aX,aD (by omega)]⟩
 ·have hmc:m<c:=gP fun h=>by rw[hfr m h]at hs;cases hs
  have hun:(tlC u).any eR=false:=rfl;have hcu:cY tlC (u::st).reverse=cY tlC st.reverse++tlC u:=by rw[List.reverse_cons,rJ];simp[cY]
  simp only[hs,show Nat.beq 1 0=false from rfl,cA,fF,hun,bR,Bool.and_true,aS,bL]
  by_cases hbig:(st.length+1)*5≤cs.length
  ·rw[cE hbig,aS];have e0:cs=cs.take (st.length*5)++((cs.drop (st.length*5)).take 5++cs.drop (st.length*5+5)):=by
    rw[←List.drop_drop,List.take_append_drop,List.take_append_drop]
   have l0:(cs.take (st.length*5)).length=st.length*5:=by rw[dI];omega
   have l1:((cs.drop (st.length*5)).take 5).length=(tlC u).length:=by rw[dI,fI,hul];omega
   have hset:eQ cs (st.length*5) (tlC u)=cs.take (st.length*5)++(tlC u++cs.drop (st.length*5+5)):=by
    have:=setAt_mid (cs.take (st.length*5)) ((cs.drop (st.length*5)).take 5) (cs.drop (st.length*5+5)) (tlC u) l1;rw[←e0,l0]at this;exact this
   have hst:stB (.grow ty cs) (st.length*5) (tlC u)=some (.grow ty (eQ cs (st.length*5) (tlC u))):=by
    simp only[stB,hun,cA,hul,cE (show st.length*5+5≤cs.length by omega),aS]
   rw[hst];refine⟨_,_,_,rfl,.inr ⟨m,ty,_,hm,rfl,by rw[aO,aH rfl],?_,?_⟩,aJ _,fun a ha=>by rw[aO,aD (by omega)];exact hfr a ha,fun a ha hn=>?_⟩
   ·rw[hset];simp only[dE,l0,hul,fI,aT];omega
   ·rw[hset,htk,hcu,←List.append_assoc,aT];refine List.take_left' ?_;rw[←htk,dE,l0,hul];omega
   ·rw[aO];split
    ·rename_i e;rw[e]at hn;exact hn.elim (by omega) fun hn=>absurd hs (hn _ _)
    ·rfl
  ·have hnb:Nat.ble ((st.length+1)*5) cs.length=false:=by rw[←eU,Nat.ble_eq];exact hbig
   rw[hnb,cA,cE hle,hrm (st.length+1) (by omega)]
   refine⟨_,_,_,rfl,.inr ⟨c,_,_,hB,rfl,by rw[aX,aH rfl],?_,?_⟩,Nat.le_succ _,fun a ha=>?_,fun a ha hn=>?_⟩
   ·simp only[dE,dI,hul,aT];omega
   ·rw[hcu,htk];refine cW ?_;rw[←htk,dE,dI,hul,aT];omega
   ·have ha':c+1≤a:=ha;rw[aX,aD (by omega),iD]
    split
    ·rfl
    ·exact hfr a (by omega)
   ·rw[aX,aD (by omega),iD]
    split
    ·rename_i e;rw[e]at hn;exact hn.elim (by omega) fun hn=>absurd hs (hn _ _)
    ·rfl
def byE(K:Nat):List rL:=[(.int .i64 1,.fn (.func 83) [.ptr K 0] [],0),(.int .i64 3,.fn (.func 84) [.ptr K 0] [],1),(.int .i64 2,.fn (.func 85) [.ptr K 0] [],2),(.int .i64 4,.fn (.func 86) [.ptr K 0] [],3),(.int .i64 5,.fn (.func 87) [.ptr K 0] [],4),(.int .i64 6,.fn (.func 88) [.ptr K 0] [],5)]
def byF(k:Int):Nat:=if k=1 then 83 else if k=3 then 84 else if k=2 then 85 else if k=4 then 86 else if k=5 then 87 else 88
theorem by_find{k:Int}(h:1≤k∧k≤6)(K:Nat):∃p,mfind .int (.int .i64 k) (byE K) 0=some (some (p,.fn (.func (byF k)) [.ptr K 0] [])):=by
 have:k=1∨k=2∨k=3∨k=4∨k=5∨k=6:=by omega
 rcases this with rfl|rfl|rfl|rfl|rfl|rfl<;>exact⟨_,rfl⟩
structure SI (C:LkC) (K By R4 B:Nat) (s0:St) (c0:Nat) (sm:Lk) (st:List Tl) (q8 q:D) (s:St) (c:Nat):Prop where
 hK:sget s K=some (C.blk sm q)
 hM:sget s C.M=some (.mp (mpE 0 sm.lm) sm.lm.length)
 hBy:sget s By=some (.mp (byE K) 6)
 hR:sget s R4=some (.fix 37 ty0)
 old:∀m,m<c0→m≠K→m≠C.M→sget s m=sget s0 m
 stk:StkD B s q8 st
 fr:mW s c
 le:B≤c
 nag:eR q=false
structure PI (C:LkC) (K By R4 B c0:Nat):Prop where
 pK:K<c0
 pM:C.M<c0
 pKM:K≠C.M
 pR:c0≤R4
 pBy:R4<By
 pB:By<B
structure Cal (C:LkC) (K:Nat) (sm:Lk) (q:D) (s:St) (c:Nat) (s':St) (c':Nat):Prop where
 le:c≤c'
 hK:sget s' K=some (C.blk sm q)
 hM:sget s' C.M=some (.mp (mpE 0 sm.lm) sm.lm.length)
 old:∀m,m<c→m≠K→m≠C.M→sget s' m=sget s m
 fr:mW s' c'
 nag:eR q=false
theorem SI.cal{C:LkC}{K By R4 B c0:Nat}{s0:St}{sm sm':Lk}{st:List Tl}{q8 q q':D}{s s':St}{c c':Nat}(h:SI C K By R4 B s0 c0 sm st q8 q s c)(hP:PI C K By R4 B c0)(g:Cal C K sm' q' s c s' c'):SI C K By R4 B s0 c0 sm' st q8 q' s' c':=by
 obtain⟨p1,p2,p3,p4,p5,p6⟩:=hP;have hle:=h.le;have gle:=g.le;refine⟨g.hK,g.hM,by rw[g.old _ (by omega) (by omega) (by omega),h.hBy],by rw[g.old _ (by omega) (by omega) (by omega),h.hR],fun m h1 h2 h3=>by rw[g.old m (by omega) h2 h3,h.old m h1 h2 h3],h.stk.keep fun m hm hb=>g.old m ?_ (by omega) (by omega),g.fr,by omega,g.nag⟩
 exact gP fun hc=>by obtain⟨b,hb⟩:=hb;rw[h.fr m hc]at hb;cases hb
theorem gC(n j:Nat)(C:LkC){K By R4 B c0 L i Kn:Nat}{dx w q8 q:D}{t:Tm}(hT:TI K By R4 dx w L i q8 t)(h11:tget t 11 = .ptr Kn 0){s s0:St}{c:Nat}{y:Nd}(hn:sget s Kn=some (.fix 57 (bU y)))(hkn:B≤Kn)(hk:1≤y.kind∧y.kind≤6)
  {sm sm':Lk} {st:List Tl} (hS:SI C K By R4 B s0 c0 sm st q8 q s c) (hP:PI C K By R4 B c0) (hl:st.length<1000) {u:Tl} {s1:St} {c1:Nat} {q1:D} (hc:fn n j (.fn (byF y.kind)) [.ptr K 0,.agg (bU y)] s c = .ok (.ret (.agg (tlC u))) s1 c1) (hC:Cal C K sm' q1 s c s1 c1) :
  ∃t' s' c' q',zC La7 (cxn n) (fn n j) KK ⟨t,s,c,[],none⟩ = .ok .normal ⟨t',s',c',[],none⟩∧TI K By R4 dx w L i q' t'∧tget t' 11 = .ptr Kn 0∧sget s' Kn=some (.fix 57 (bU y))∧SI C K By R4 B s0 c0 sm' (u::st) q' q1 s' c':=by
 obtain⟨q0,q1',q4,q5,q8',q34,q35,q36⟩:=hT;obtain⟨p,hf⟩:=by_find hk K;have hB:=hS.hBy;have h1:=hS.cal hP hC;obtain⟨p1,p2,p3,p4,p5,p6⟩:=hP;have hle:=hS.le;have hle1:=hC.le;have hKnc:Kn<c:=gP fun h=>by rw[hS.fr _ h]at hn;cases hn
 have hn1:sget s1 Kn=some (.fix 57 (bU y)):=by rw[hC.old _ hKnc (by omega) (by omega),hn]
 have stk1:StkD B (sadd s1 c1 (.fix 0 (tlC u))) q8 st:=h1.stk.keep fun m hm hb=>by
  rw[aX,aD];rintro rfl;obtain⟨b,hb⟩:=hb;rw[h1.fr m (aJ _)]at hb;cases hb
 obtain⟨T8,hT8⟩:∃T8,T8=tput (tput (tput (tput (tput (tput (tput (tput t 90 q8) 91 (.mp By)) 92 (.ptr Kn 0)) 93 (.int .i64 y.kind)) 94 (.fn (.func (byF y.kind)) [.ptr K 0] [])) 95 (.agg (bU y))) 96 (.agg (tlC u))) 97 (.ms c1 0 5 1 1):=⟨_,rfl⟩
 obtain⟨q',s',c',ha,hst,hc',hfr',ho⟩:=stk_app (tm:=T8) (dd:=[]) (r:=none) (nb:=c1) (c:=c1+1) (u:=u) stk1 (by rw[aX,aH rfl]) (by omega) (fun m hm=>by rw[aX,aD (by omega)];exact h1.fr m (by omega)) hl
 have gg:∀m,m<c1→(m<B∨∀ty cs,sget s1 m≠some (.grow ty cs))→sget s' m=sget s1 m:=fun m hm hg=>by
  rw[ho m (by omega) (by rw[aX,aD (by omega)];exact hg),aX,aD (by omega)]
 have hg1:∀m b,sget s1 m=some b→(∀ty cs,b≠.grow ty cs)→sget s' m=some b:=fun m b hb hne=>by
  rw[gg m (gP fun h=>by rw[h1.fr m h]at hb;cases hb) (.inr fun ty cs h=>by rw[hb]at h;cases h;exact hne _ _ rfl),hb]
 have hSI:SI C K By R4 B s0 c0 sm' (u::st) q' q1 s' c':=⟨hg1 _ _ h1.hK (fun _ _ h=>by cases h),hg1 _ _ h1.hM (fun _ _ h=>by cases h),hg1 _ _ h1.hBy (fun _ _ h=>by cases h),hg1 _ _ h1.hR (fun _ _ h=>by cases h),?_,hst,hfr',by omega,hC.nag⟩
 refine⟨tput (tput T8 98 q') 8 q',s',c',q',?_,⟨?_,?_,?_,?_,?_,?_,?_,?_⟩,?_,hg1 _ _ hn1 (fun _ _ h=>by cases h),hSI⟩
 ·simp only[La7,Ab.abq];unfold tlC tyC tl bU at *;simp only[z0,seval,q0,q5,q8',h11,hn,hB,hf,iR,bY,bX,dC,hc];rw[←hT8,ha];simp only[z0,seval]
 ·simpa[aE,hT8]using q0
 ·simpa[aE,hT8]using q1'
 ·simpa[aE,hT8]using q4
 ·simpa[aE,hT8]using q5
 ·simp[aE]
 ·simpa[aE,hT8]using q34
 ·simpa[aE,hT8]using q35
 ·simpa[aE,hT8]using q36
 ·simpa[aE,hT8]using h11
 ·intro m m1 m2 m3;rw[gg m (by omega) (.inl (by omega)),h1.old m m1 m2 m3]
structure VO (us:List Nat) (C:LkC) (K:Nat) (s0:St) (c0:Nat) (vs:List Vr):Prop where
 nag:eR C.v=false
 fz:∃w,Sl 6 vrC vs w∧∀s2,(∀m,m<c0→m≠K→m≠C.M→sget s2 m=sget s0 m)→∀k,frz false (k+2) s2 C.v=some w
 len:vs.length<9223372036854775807
 good:∀x∈vs,tyE us (jK us) x.ty=0
def jP(C:LkC)(K:Nat)(r:Lo (Tl×Lk))(f:FR)(s:St)(c:Nat):Prop:=match r with
 | .ok p=>∃s1 c1 q1,f = .ok (.ret (.agg (tlC p.1))) s1 c1∧Cal C K p.2 q1 s c s1 c1
 | .bad a e=>∃s1 c1,f = .ok (.pan (iZ a e)) s1 c1∧Bad C K s c s1 c1
theorem Bad.of{C:LkC}{K:Nat}{sm:Lk}{q:D}{s s':St}{c c':Nat}(hA:Aft s c s' c')(hK:sget s K=some (C.blk sm q))(hKc:K<c):Bad C K s c s' c':=⟨hA.le,hA.free,⟨_,by rw[hA.old K hKc,hK];rfl,rfl⟩,fun m hm _ _=>hA.old m hm⟩
theorem Cal.of{C:LkC}{K:Nat}{sm:Lk}{q:D}{s s':St}{c c':Nat}(hA:Aft s c s' c')(hK:sget s K=some (C.blk sm q))(hM:sget s C.M=some (.mp (mpE 0 sm.lm) sm.lm.length))(hKc:K<c)(hMc:C.M<c)(hq:eR q=false):Cal C K sm q s c s' c':=
 ⟨hA.le,by rw[hA.old K hKc,hK],by rw[hA.old _ hMc,hM],fun m hm _ _=>hA.old m hm,hA.free,hq⟩
theorem frz_arg{s:St}{c:Nat}(hfr:mW s c){ts:List Tl}{a:Nat}(ha:sget s a=some (.grow 37 (cY tlC ts))):∀s2,(∀m,m<c→sget s2 m=sget s m)→∀k,frz false (k+2) s2 (.gs a 0 5 ts.length)=some (argD ts):=by
 intro s2 hs k;have hac:a<c:=gP fun h=>by rw[hfr a h]at ha;cases ha
 rw[rF,hs a hac,ha];simp only[bL,fO];rw[cE (by rw[enc_tl.cells_len];exact aJ _),aS,cW (by rw[enc_tl.cells_len];exact aJ _),enc_tl.cells_frz];rfl
section
variable (n j:Nat) {C:LkC} {K:Nat} {sm:Lk} {q:D} {s:St} {c:Nat} (hK:sget s K=some (C.blk sm q)) (hM:sget s C.M=some (.mp (mpE 0 sm.lm) sm.lm.length)) (hKc:K<c) (hMc:C.M<c) (hfr:mW s c) (hqn:eR q=false) (y:Nd)
include hK hM hKc hMc hfr hqn
theorem look_num:jP C K (.ok (⟨1,0,C.low,C.low,C.low⟩,sm)) (fn (n+1) (j+2) (.fn 83) [.ptr K 0,.agg (bU y)] s c) s c:=by
 obtain⟨s',c',h1,h2⟩:=f83 n j hK hKc hfr y;exact⟨s',c',q,h1,Cal.of h2 hK hM hKc hMc hqn⟩
theorem look_list:jP C K (.ok (⟨1,1,C.low,C.low,C.low⟩,sm)) (fn (n+1) (j+3) (.fn 84) [.ptr K 0,.agg (bU y)] s c) s c:=by
 obtain⟨s',c',h1,h2⟩:=f84 n j hK hKc hfr y;exact⟨s',c',q,h1,Cal.of h2 hK hM hKc hMc hqn⟩
theorem look_text:jP C K (.ok (⟨2,1,C.low,C.low,C.low⟩,sm)) (fn (n+1) (j+3) (.fn 85) [.ptr K 0,.agg (bU y)] s c) s c:=by
 obtain⟨s',c',h1,h2⟩:=f85 n j hK hKc hfr y;exact⟨s',c',q,h1,Cal.of h2 hK hM hKc hMc hqn⟩
theorem look_name{us:List Nat}{vs:List Vr}(hV:VO us C K s c vs):jP C K (nameM vs y sm) (fn (n+1) (j+3) (.fn 86) [.ptr K 0,.agg (bU y)] s c) s c:=by
 obtain⟨w,hw,hz⟩:=hV.fz;have ho:=ofD_find vs y.name;unfold nameM;cases hf:vs.find? (fun v=>decide (v.name=y.name)) with
 | none=>
  rw[hf]at ho;obtain⟨s',c',h1,h2⟩:=f86 n j hK hKc hfr hV.nag (fun s2 hs=>hz s2 fun m hm _ _=>hs m hm) hw hV.len y ho
  exact⟨s',c',h1,Bad.of h2 hK hKc⟩
 | some v=>
  rw[hf]at ho;obtain⟨s',c',h1,h2⟩:=f86 n j hK hKc hfr hV.nag (fun s2 hs=>hz s2 fun m hm _ _=>hs m hm) hw hV.len y ho
  have hg:=tl_toT (hV.good v (List.mem_of_find?_eq_some hf));refine⟨s',c',q,?_,Cal.of h2 hK hM hKc hMc hqn⟩;show _=FR.ok (.ret (.agg (tyC (tl (toT v.ty))))) s' c';rw[hg.1];exact h1
theorem look_prim{ss:List (List UInt8)}{us:List Nat}(h:Lt ss us C.d C.e){ts:List Tl}{a:Nat}(hq:q = .gs a 0 5 ts.length)(ha:sget s a=some (.grow 37 (cY tlC ts)))(hl:ts.length=1∨ts.length=2)(hg:∀t∈ts,TG us t)(hp:C.pc<us.length)(hec:sm.ec<us.length):
  jP C K (nC ⟨us,C.low,C.pc,RDl n C.d C.e⟩ y ts sm) (fn (n+13) (j+3) (.fn 87) [.ptr K 0,.agg (bU y)] s c) s c:=by
 obtain⟨ty,w,cc,er,h1,h2,h3⟩:=rd_ok n h y.prim hl hg;have hz:=frz_arg hfr ha;rw[←hq]at hz;unfold nC;simp only[h1];by_cases h0:er=0
 ·subst h0;obtain⟨⟨w',rfl,hw⟩,⟨c',rfl,hc⟩⟩:=h3 rfl;obtain⟨s',c1,e1,e2,e3⟩:=f87 n j h hK hKc hfr hqn hz y hp hec hw hc h2;rw[aD (fun h=>h rfl)]
  by_cases hE:tyE us (jK us) ty=0
  ·rw[aD (fun h=>h hE)]
   rw[aH hE]at e1;have hA:=e2 hE;have hg:=tl_toT hE;have hM2:C.M≠K:=by rintro e;rw[←e,hM]at hK;cases hK
   refine⟨s',c1,q,?_,⟨hA.le,by rw[hA.old K hKc,aO,aH rfl];rfl,by rw[hA.old _ hMc,aO,aD hM2,hM],fun m hm h1 _=>by rw[hA.old m hm,aO,aD h1],hA.free,hqn⟩⟩
   show _=FR.ok (.ret (.agg (tyC (tl (toT ty))))) s' c1;rw[hg.1];exact e1
  ·rw[aH hE];rw[aD hE]at e1;have hA:=e3 hE;exact⟨s',c1,e1,hA.le,hA.free,⟨_,by rw[hA.old K hKc,aO,aH rfl],rfl⟩,fun m hm h1 _=>by rw[hA.old m hm,aO,aD h1]⟩
 ·rw[aH h0];obtain⟨s',c1,e1,h2⟩:=f87e n j h hK hKc hfr hqn hz y h2 h0;exact⟨s',c1,e1,Bad.of h2 hK hKc⟩
end
end
end Zv
namespace Zv
open Go Ab
noncomputable section
theorem vS(r:R)(f g:AS→R):zbind (zbind r f) g=zbind r fun x=>zbind (f x) g:=by
 cases r with
 | no=>rfl
 | ok o x=>cases o<;>rfl
theorem zC_sq(a b:AC)(cx:Cx)(cl:CL)(k:Nat):zC (.seq a b) cx cl k=fun x=>zbind (zC a cx cl k x) (zC b cx cl k):=rfl
def LaB:AC:=s La1 (s La2 (s La3 (s La4 (s La5 (s La6 (s La7 (s La8 La9)))))))
theorem LaB_4(cx:Cx)(cl:CL)(k:Nat)(x:AS):zC LaB cx cl k x=zbind (zC (.seq La1 (.seq La2 (.seq La3 La4))) cx cl k x) (zC (.seq La5 (.seq La6 (.seq La7 (.seq La8 La9)))) cx cl k):=by
 simp only[LaB,Ab.abq];simp only[zC_sq,vS]
theorem LaB_5(cx:Cx)(cl:CL)(k:Nat)(x:AS):zC LaB cx cl k x=zbind (zC (.seq La1 (.seq La2 (.seq La3 (.seq La4 La5)))) cx cl k x) fun y=>zbind (zC La6 cx cl k y) fun y=>zbind (zC La7 cx cl k y) (zC (.seq La8 La9) cx cl k):=by
 simp only[LaB,Ab.abq];simp only[zC_sq,vS]
structure SG (us:List Nat) (sm:Lk):Prop where
 ec:sm.ec<us.length
 lb:LabN us sm.lm
 lk:sm.lk≤2000
theorem gM(n j:Nat){ss:List (List UInt8)}{us:List Nat}(C:LkC)(h:Lt ss us C.d C.e)(hp:C.pc<us.length){K By R4 B c0 L i Kn:Nat}{dx w q8 q:D}{t:Tm}(hT:TI K By R4 dx w L i q8 t)(h11:tget t 11 = .ptr Kn 0){s s0:St}{c:Nat}{y:Nd}(hn:sget s Kn=some (.fix 57 (bU y)))
  {sm:Lk} {st:List Tl} (hS:SI C K By R4 B s0 c0 sm st q8 q s c) (hP:PI C K By R4 B c0) (hg:sm.ec<us.length) (hb:LabN us sm.lm) (R:Int→List Tl→Ty×Int×Int×Int) :
  ∃t' s' c',zC (.seq La8 La9) (cxn (n+1)) (fn (n+1) (j+3)) KK ⟨t,s,c,[],none⟩ = .ok .normal ⟨t',s',c',[],none⟩∧TI K By R4 dx w L i q8 t'∧SI C K By R4 B s0 c0 (if y.kind=6 then sm else sm.mark ⟨us,C.low,C.pc,R⟩ y.site) st q8 q s' c':=by
 obtain⟨q0,q1',q4,q5,q8',q34,q35,q36⟩:=hT;obtain⟨p1,p2,p3,p4,p5,p6⟩:=hP;have hle:=hS.le;unfold bU at hn;by_cases h6:y.kind=6
 ·rw[aH h6];simp only[La8,La9,Ab.abq];have hd:decide (y.kind≠6)=false:=by simp[h6]
  simp only[z0,seval,h11,hn,hd];refine⟨_,_,_,rfl,⟨?_,?_,?_,?_,?_,?_,?_,?_⟩,hS⟩
  ·simpa[aE]using q0
  ·simpa[aE]using q1'
  ·simpa[aE]using q4
  ·simpa[aE]using q5
  ·simpa[aE]using q8'
  ·simpa[aE]using q34
  ·simpa[aE]using q35
  ·simpa[aE]using q36
 ·rw[aD h6];have hd:decide (y.kind≠6)=true:=by simp[h6]
  obtain⟨c1,hc1,h92⟩:=f92 n j h (K:=K) (M:=C.M) (s:=s) (c:=c) hS.hK hS.hM hp hg hb y.site;simp only[La8,La9,Ab.abq];simp only[z0,seval,h11,hn,hd,q0,h92];refine⟨_,_,_,rfl,⟨?_,?_,?_,?_,?_,?_,?_,?_⟩,?_⟩
  ·simpa[aE]using q0
  ·simpa[aE]using q1'
  ·simpa[aE]using q4
  ·simpa[aE]using q5
  ·simpa[aE]using q8'
  ·simpa[aE]using q34
  ·simpa[aE]using q35
  ·simpa[aE]using q36
  ·refine⟨by rw[aO,aD (by omega),hS.hK];rfl,by rw[aO,aH rfl];rfl,by rw[aO,aD (by omega),hS.hBy],by rw[aO,aD (by omega),hS.hR],fun m m1 m2 m3=>by rw[aO,aD m3,hS.old m m1 m2 m3],hS.stk.keep fun m hm _=>by rw[aO,aD (by omega)],fun m hm=>by rw[aO,aD (by omega)];exact hS.fr m (by omega),by omega,hS.nag⟩
end
end Zv
namespace Zv
open Go
noncomputable section
theorem VO.go{us:List Nat}{C:LkC}{K:Nat}{s0 s:St}{c0 c:Nat}{vs:List Vr}(h:VO us C K s0 c0 vs)(hs:∀m,m<c0→m≠K→m≠C.M→sget s m=sget s0 m)(hc:c0≤c):VO us C K s c vs:=by
 obtain⟨w,hw,hz⟩:=h.fz;exact⟨h.nag,⟨w,hw,fun s2 h2=>hz s2 fun m m1 m2 m3=>by rw[h2 m (by omega) m2 m3,hs m m1 m2 m3]⟩,h.len,h.good⟩
theorem gCp(n j:Nat)(C:LkC){K By R4 L i Kn:Nat}{dx w q8:D}{t:Tm}(hT:TI K By R4 dx w L i q8 t)(h11:tget t 11 = .ptr Kn 0){s:St}{c:Nat}{y:Nd}(hn:sget s Kn=some (.fix 57 (bU y)))(hk:1≤y.kind∧y.kind≤6)(hB:sget s By=some (.mp (byE K) 6)){ch:Ch}{s1:St}{c1:Nat}
  (hc:fn n j (.fn (byF y.kind)) [.ptr K 0,.agg (bU y)] s c = .ok (.pan ch) s1 c1):∃t',zC La7 (cxn n) (fn n j) KK ⟨t,s,c,[],none⟩ = .ok (.pan ch) ⟨t',s1,c1,[],none⟩:=by
 obtain⟨q0,q1',q4,q5,q8',q34,q35,q36⟩:=hT;obtain⟨p,hf⟩:=by_find hk K;simp only[La7,Ab.abq];unfold bU at *;simp only[z0,seval,q0,q5,q8',h11,hn,hB,hf,iR,bY,bX,dC,hc];exact⟨_,rfl⟩
structure CI (us:List Nat) (C:LkC) (K:Nat) (sm:Lk) (vs:List Vr) (ts:List Tl) (s:St) (c:Nat):Prop where
 a:∃a,sget s K=some (C.blk sm (.gs a 0 5 ts.length))∧sget s a=some (.grow 37 (cY tlC ts))
 hM:sget s C.M=some (.mp (mpE 0 sm.lm) sm.lm.length)
 kc:K<c
 mc:C.M<c
 fr:mW s c
 v:VO us C K s c vs
 l:ts.length=1∨ts.length=2
 g:∀t∈ts,TG us t
def Stp(C:LkC)(K By R4 B c0:Nat)(s0:St)(dx w:D)(L i:Nat)(r:Lo (List Tl×Lk))(z:R):Prop:=match r with
 | .ok p=>∃t s c q8 q,z = .ok .normal ⟨t,s,c,[],none⟩∧TI K By R4 dx w L i q8 t∧SI C K By R4 B s0 c0 p.2 p.1 q8 q s c
 | .bad a e=>∃t s c,z = .ok (.pan (iZ a e)) ⟨t,s,c,[],none⟩∧Bad C K s0 c0 s c
theorem node_step(n j:Nat){ss:List (List UInt8)}{us:List Nat}(C:LkC)(h:Lt ss us C.d C.e)(hp:C.pc<us.length){K By R4 B c0:Nat}{s0:St}(hP:PI C K By R4 B c0){x:List Nd}{o:List Nat}{dx w:D}(hx:Sl 7 bU x dx)(hw:Sl 1 jH o w){i:Nat}(hi:i<o.length)(ho:o[i]<x.length)
  {vs:List Vr} (hV:VO us C K s0 c0 vs) {fs:List Fd} {cal:Nat→List Vr→Lk→Lo (Tl×Lk)} {q8 q:D} {t:Tm} (hT:TI K By R4 dx w o.length i q8 t) {s:St} {c:Nat} {sm:Lk} {st:List Tl} (hS:SI C K By R4 B s0 c0 sm st q8 q s c) (hG:SG us sm) (hst:∀u∈st,TG us u) (hsl:st.length<1000)
  (hy:oR x[o[i]]) (hk:1≤x[o[i]].kind∧x[o[i]].kind≤6) (hop:opN x[o[i]]≤st.length)
  (hinv:¬2000<sm.lk+1→∀p,rQ ⟨us,C.low,C.pc,RDl n C.d C.e⟩ cal fs vs x[o[i]] (st.take (opN x[o[i]])) sm.tick = .ok p→p.2.ec<us.length∧LabN us p.2.lm)
  (hcall:¬2000<sm.lk+1→x[o[i]].kind=6→∀s c,CI us C K sm.tick vs (st.take (opN x[o[i]])) s c→jP C K (calM ⟨us,C.low,C.pc,RDl n C.d C.e⟩ cal fs x[o[i]] (st.take (opN x[o[i]])) sm.tick) (fn (n+13) (j+3) (.fn 88) [.ptr K 0,.agg (bU x[o[i]])] s c) s c) :
  Stp C K By R4 B c0 s0 dx w o.length i (mS ⟨us,C.low,C.pc,RDl n C.d C.e⟩ cal fs vs x[o[i]] st sm) (zC LaB (cxn (n+13)) (fn (n+13) (j+3)) KK ⟨t,s,c,[],none⟩):=by
 obtain⟨hA1,hA2⟩:=gA (n+13) (j+2) C (c:=c) hx hw hi ho hT hS.hK (by have:=hP.pK;have:=hP.pR;have:=hP.pBy;have:=hP.pB;have:=hS.le;omega) hS.fr hG.lk
 rw[show j+2+1=j+3 from rfl]at hA1 hA2
 generalize x[o[i]]=y at *;unfold mS;by_cases hb:2000<sm.lk+1
 ·rw[aH hb];obtain⟨t',s',c',hz,hB⟩:=hA1 hb;refine⟨t',s',c',?_,by have:=hB.le;have:=hP.pR;have:=hP.pBy;have:=hP.pB;have:=hS.le;omega,hB.fr,hB.hK,fun m m1 m2 m3=>by rw[hB.old m (by have:=hP.pR;have:=hP.pBy;have:=hP.pB;have:=hS.le;omega) m2 m3,hS.old m m1 m2 m3]⟩
  rw[LaB_4];exact congrArg (fun r=>zbind r _) hz
 rw[aD hb];obtain⟨t1,s1,hz1,hT1,h11,hn1,hK1,ho1⟩:=hA2 hb;obtain⟨p1,p2,p3,p4,p5,p6⟩:=hP;have hP:PI C K By R4 B c0:=⟨p1,p2,p3,p4,p5,p6⟩;have hle:=hS.le
 have hS1:SI C K By R4 B s0 c0 sm.tick st q8 .nils s1 (c+1):=⟨hK1,by rw[ho1 C.M (by omega) (by omega),hS.hM];rfl,by rw[ho1 By (by omega) (by omega),hS.hBy],by rw[ho1 R4 (by omega) (by omega),hS.hR],fun m m1 m2 m3=>by rw[ho1 m (by omega) m2,hS.old m m1 m2 m3],hS.stk.keep fun m hm ⟨b,hb⟩=>ho1 m (fun e=>by rw[e,hS.fr c (aJ _)]at hb;cases hb) (by omega),fun m hm=>by rw[ho1 m (by omega) (by omega)];exact hS.fr m (by omega),by omega,rfl⟩
 have hgt:sm.tick.ec<us.length:=hG.ec;have hlb:LabN us sm.tick.lm:=hG.lb
 -- the operands
 have hB:∃t2 s2 c2 q2 q2',zC La6 (cxn (n+13)) (fn (n+13) (j+3)) KK ⟨t1,s1,c+1,[],none⟩ = .ok .normal ⟨t2,s2,c2,[],none⟩∧TI K By R4 dx w o.length i q2 t2∧tget t2 11 = .ptr c 0∧sget s2 c=some (.fix 57 (bU y))∧SI C K By R4 B s0 c0 sm.tick (st.drop (opN y)) q2 q2' s2 c2 ∧
   (y.kind=5∨y.kind=6→∃a,q2' = .gs a 0 5 (st.take (opN y)).length∧sget s2 a=some (.grow 37 (cY tlC (st.take (opN y))))∧((st.take (opN y)).length=1∨(st.take (opN y)).length=2)):=by
  by_cases h56:y.kind=5∨y.kind=6
  ·have hkk:=hy.kp h56;have hop':opN y=y.kids.toNat:=by unfold opN fH;rw[aH h56]
   have hk12:opN y=1∨opN y=2:=by rw[hop'];omega
   have hyk:y.kids=(opN y:Nat):=by rw[hop'];omega
   have hln:(st.take (opN y)).length=opN y:=by rw[dI];omega
   obtain⟨t2,s2,c2,q2,e1,e2,e3,e4,e5,e6,e7,e8,e9⟩:=gB (n+13) (j+2) C hT1 h11 hn1 h56 hk12 hyk hop hsl hS1.stk (by omega) (by omega) (by omega) (by omega) hK1 hS1.fr
   refine⟨t2,s2,c2,q2,_,e1,e2,e3,by rw[e8 c (by omega) (by omega),hn1],⟨e6,by rw[e8 C.M (by omega) (by omega),hS1.hM],by rw[e8 By (by omega) (by omega),hS1.hBy],by rw[e8 R4 (by omega) (by omega),hS1.hR],fun m m1 m2 m3=>by rw[e8 m (by omega) m2,hS1.old m m1 m2 m3],e4,e9,by omega,rfl⟩,fun _=>⟨_,by rw[hln],e7,by rw[hln];exact hk12⟩⟩
  ·have hop':opN y=0:=by unfold opN fH;rw[aD h56];rfl
   obtain⟨t2,e1,e2,e3⟩:=gB0 (n+13) (j+3) (s:=s1) (c:=c+1) hT1 h11 hn1 (fun e=>h56 (.inl e)) (fun e=>h56 (.inr e))
   exact⟨t2,s1,c+1,q8,.nils,e1,e2,e3,hn1,by rw[hop'];exact hS1,fun e=>absurd e h56⟩
 obtain⟨t2,s2,c2,q2,q2',hz2,hT2,h112,hn2,hS2,hargs⟩:=hB;have hkc:K<c2:=by have:=hS2.le;omega
 have hmc:C.M<c2:=by have:=hS2.le;omega
 have hV2:VO us C K s2 c2 vs:=hV.go hS2.old (by have:=hS2.le;omega)
 have hL:jP C K (rQ ⟨us,C.low,C.pc,RDl n C.d C.e⟩ cal fs vs y (st.take (opN y)) sm.tick) (fn (n+13) (j+3) (.fn (byF y.kind)) [.ptr K 0,.agg (bU y)] s2 c2) s2 c2:=by
  unfold rQ byF;by_cases k1:y.kind=1
  ·rw[aH k1,aH k1];exact look_num (n+12) (j+1) hS2.hK hS2.hM hkc hmc hS2.fr hS2.nag y
  rw[aD k1,aD k1];by_cases k3:y.kind=3
  ·rw[aH k3,aH k3];exact look_list (n+12) j hS2.hK hS2.hM hkc hmc hS2.fr hS2.nag y
  rw[aD k3,aD k3];by_cases k2:y.kind=2
  ·rw[aH k2,aH k2];exact look_text (n+12) j hS2.hK hS2.hM hkc hmc hS2.fr hS2.nag y
  rw[aD k2,aD k2];by_cases k4:y.kind=4
  ·rw[aH k4,aH k4];exact look_name (n+12) j hS2.hK hS2.hM hkc hmc hS2.fr hS2.nag y hV2
  rw[aD k4,aD k4];by_cases k5:y.kind=5
  ·rw[aH k5,aH k5];obtain⟨a,ha1,ha2,ha3⟩:=hargs (.inl k5);exact look_prim n j hS2.hK hS2.hM hkc hmc hS2.fr hS2.nag y h ha1 ha2 ha3 (fun u hu=>hst u (eP hu)) hp hgt
  rw[aD k5,aD k5];have k6:y.kind=6:=by omega
  obtain⟨a,ha1,ha2,ha3⟩:=hargs (.inr k6);exact hcall hb k6 s2 c2 ⟨⟨a,by rw[←ha1];exact hS2.hK,ha2⟩,hS2.hM,hkc,hmc,hS2.fr,hV2,ha3,fun u hu=>hst u (eP hu)⟩
 have hdl:(st.drop (opN y)).length<1000:=by rw[fI];omega
 have hcB:B≤c:=hle;cases hr:rQ ⟨us,C.low,C.pc,RDl n C.d C.e⟩ cal fs vs y (st.take (opN y)) sm.tick with
 | bad a e=>
  rw[hr]at hL;obtain⟨s3,c3,h3,hB3⟩:=hL;obtain⟨t3,hz3⟩:=gCp (n+13) (j+3) C hT2 h112 hn2 hk hS2.hBy h3
  exact⟨t3,s3,c3,by rw[LaB_5,hz1];exact(congrArg (fun r=>zbind r fun y=>zbind (zC La7 _ _ _ y) (zC (.seq La8 La9) _ _ _)) hz2).trans (congrArg (fun r=>zbind r (zC (.seq La8 La9) _ _ _)) hz3),by have:=hB3.le;have:=hS2.le;omega,hB3.fr,hB3.hK,fun m m1 m2 m3=>by rw[hB3.old m (by have:=hS2.le;omega) m2 m3,hS2.old m m1 m2 m3]⟩
 | ok p=>
  rw[hr]at hL;obtain⟨s3,c3,q3,h3,hC3⟩:=hL;obtain⟨t4,s4,c4,q4,hz4,hT4,h114,hn4,hS4⟩:=gC (n+13) (j+3) C hT2 h112 hn2 hcB hk hS2 hP hdl h3 hC3;obtain⟨hg4,hb4⟩:=hinv hb p hr;obtain⟨t5,s5,c5,hz5,hT5,hS5⟩:=gM (n+12) j C h hp hT4 h114 hn4 hS4 hP hg4 hb4 (RDl n C.d C.e)
  exact⟨t5,s5,c5,q4,q3,by rw[LaB_5,hz1];exact(congrArg (fun r=>zbind r fun y=>zbind (zC La7 _ _ _ y) (zC (.seq La8 La9) _ _ _)) hz2).trans ((congrArg (fun r=>zbind r (zC (.seq La8 La9) _ _ _)) hz4).trans hz5),hT5,hS5⟩
theorem B88_eq:B88=(.seq Lb1 (.seq Lb2 (.seq Lb3 (.seq Lb4 (.seq Lb5 (.seq Lb6 (.seq Lb7 (.seq Lb8 (.seq Lb9 (.seq Lb10 (.seq Lb11 .ret))))))))))):=rfl
structure CF (K:Nat) (y:Nd) (s:St) (c:Nat) (t:Tm) (s1:St) (c1:Nat):Prop where
 t2:tget t 2 = .ptr c 0
 t3:tget t 3 = .ptr (c+1) 0
 t4:tget t 4 = .ptr (c+1+1) 0
 b2:sget s1 c=some (.fix 92 [.ptr K 0])
 b3:sget s1 (c+1)=some (.fix 57 (bU y))
 b4:sget s1 (c+1+1)=some (.fix 37 ty0)
 A:Aft s c s1 c1
 le:c+3≤c1
theorem CF.aft{K:Nat}{y:Nd}{s:St}{c:Nat}{t:Tm}{s1 s2:St}{c1 c2:Nat}(h:CF K y s c t s1 c1)(hA:Aft s1 c1 s2 c2):CF K y s c t s2 c2:=by
 have:=h.le;have:=hA.le;exact⟨h.t2,h.t3,h.t4,by rw[hA.old _ (by omega),h.b2],by rw[hA.old _ (by omega),h.b3],by rw[hA.old _ (by omega),h.b4],h.A.trans hA,by omega⟩
theorem CF.tm{K:Nat}{y:Nd}{s:St}{c:Nat}{t t':Tm}{s1:St}{c1:Nat}(h:CF K y s c t s1 c1)(h2:tget t' 2=tget t 2)(h3:tget t' 3=tget t 3)(h4:tget t' 4=tget t 4):CF K y s c t' s1 c1:=⟨by rw[h2,h.t2],by rw[h3,h.t3],by rw[h4,h.t4],h.b2,h.b3,h.b4,h.A,h.le⟩
theorem cB1(n j:Nat)(C:LkC){K:Nat}{y:Nd}{fs:List Fd}(hf:Sl 3 fdC fs C.f)(hl:fs.length<9223372036854775807){s:St}{c:Nat}{sm:Lk}{q:D}(hK:sget s K=some (C.blk sm q))(hKc:K<c)(hfr:mW s c):
  ∃t s1 c1,zC (.seq Lb1 Lb2) (cxn n) (fn n (j+2)) KK (start [.ptr K 0,.agg (bU y)] s c) = .ok .normal ⟨t,s1,c1,[],none⟩∧CF K y s c t s1 c1∧tget t 5 = .int .i64 (scan (fxP fs y.name) (-1) fs.length 0):=by
 have hA:=(((Aft.refl hfr).add (.fix 92 [.ptr K 0])).add (.fix 57 (bU y))).add (.fix 37 ty0);obtain⟨s1,c1,h128,hA1⟩:=f128 n j hf hl y (K:=c+1) (S:=sadd (sadd (sadd s c (.fix 92 [.ptr K 0])) (c+1) (.fix 57 (bU y))) (c+1+1) (.fix 37 ty0)) (c:=c+1+1+1) (by rw[aX,aD (by omega),aX,aH rfl]) (by omega) hA.free
 have hle:=hA1.le
 have hCF:∀t:Tm,tget t 2 = .ptr c 0→tget t 3 = .ptr (c+1) 0→tget t 4 = .ptr (c+1+1) 0→CF K y s c t s1 c1:=fun t h2 h3 h4=>⟨h2,h3,h4,by rw[hA1.old _ (by omega),aX,aD (by omega),aX,aD (by omega),aX,aH rfl],by rw[hA1.old _ (by omega),aX,aD (by omega),aX,aH rfl],by rw[hA1.old _ (by omega),aX,aH rfl],hA.trans hA1,by omega⟩
 have kc:(K=c)=False:=aM (by omega)
 have kc1:(K=c+1)=False:=aM (by omega)
 have kc2:(K=c+1+1)=False:=aM (by omega)
 have c01:(c=c+1)=False:=aM (by omega)
 have c02:(c=c+1+1)=False:=aM (by omega)
 simp only[Lb1,Lb2,Ab.abq];unfold LkC.blk lrC at hK;unfold ty0 at h128;simp only[z0,seval,show(D.ptr K 0).cells?=some [.ptr K 0]from rfl,hK,kc,kc1,kc2,c01,c02,dO,eS,bO,h128]
 refine⟨_,_,_,rfl,hCF _ ?_ ?_ ?_,?_⟩<;>simp[aE]
theorem cB3(n j:Nat){K:Nat}{y:Nd}{s:St}{c:Nat}{t:Tm}{s1:St}{c1:Nat}(h:CF K y s c t s1 c1){i:Int}(h5:tget t 5 = .int .i64 i):
  (i<0→∃t',zC Lb3 (cxn n) (fn n (j+1)) KK ⟨t,s1,c1,[],none⟩ = .ok (.pan (iZ y.site 24)) ⟨t',s1,c1,[],none⟩) ∧
  (¬i<0→∃t',zC Lb3 (cxn n) (fn n (j+1)) KK ⟨t,s1,c1,[],none⟩ = .ok .normal ⟨t',s1,c1,[],none⟩∧CF K y s c t' s1 c1∧tget t' 5 = .int .i64 i):=by
 have b3:=h.b3;unfold bU at b3;refine⟨fun hi=>?_,fun hi=>?_⟩
 ·simp only[Lb3,Ab.abq];simp only[z0,seval,h5,h.t3,b3,bH hi,eV,show((24:Int)=0)=False from aM (by decide)]
  exact⟨_,rfl⟩
 ·simp only[Lb3,Ab.abq];simp only[z0,seval,h5,aK hi];refine⟨_,rfl,h.tm ?_ ?_ ?_,?_⟩
  all_goals simp[aE,h5]
theorem cB4(n j:Nat)(C:LkC){K:Nat}{y:Nd}{fs:List Fd}(hf:Sl 3 fdC fs C.f)(hfo:∀f∈fs,FdOk f){s:St}{c:Nat}{t:Tm}{s1:St}{c1:Nat}(h:CF K y s c t s1 c1){i:Nat}(h5:tget t 5 = .int .i64 (i:Nat))(hi:i<fs.length){sm:Lk}{a k:Nat}(hK:sget s1 K=some (C.blk sm (.gs a 0 5 k)))(hKc:K<c):
  (fs[i].ps.length≠k→∃t' s' c',zC (.seq Lb4 Lb5) (cxn n) (fn n (j+1)) KK ⟨t,s1,c1,[],none⟩ = .ok (.pan (iZ y.site 23)) ⟨t',s',c',[],none⟩∧Aft s1 c1 s' c') ∧
  (fs[i].ps.length=k→∃t' s' c',zC (.seq Lb4 Lb5) (cxn n) (fn n (j+1)) KK ⟨t,s1,c1,[],none⟩ = .ok .normal ⟨t',s',c',[],none⟩∧Aft s1 c1 s' c'∧c1<c'∧CF K y s c t' s' c'∧tget t' 5 = .int .i64 (i:Nat)∧tget t' 6 = .ptr c1 0∧sget s' c1=some (.fix 79 (fdC fs[i]))):=by
 have b2:=h.b2;have b3:=h.b3;have hle:=h.le;have hrow:=hf.row hi;have ho:=hfo _ (cG hi);have hps:=ho.p;have np:=hps.nag;have nb':=ho.b.nag;have kc:(K=c1)=False:=aM (by omega)
 have cc:(c=c1)=False:=aM (by omega)
 have cc1:(c+1=c1)=False:=aM (by omega)
 unfold bU at b3;unfold LkC.blk lrC at hK;have hln:lenD false (.gs a 0 5 k)=some k:=rfl;generalize fs[i]=g at *;unfold fdC at *;refine⟨fun hk=>?_,fun hk=>?_⟩
 ·have hd:decide (((g.ps.length:Nat):Int)≠(k:Nat))=true:=bH (by omega)
  simp only[Lb4,Lb5,Ab.abq];simp only[z2,seval,nb,h5,h.t2,h.t3,b2,b3,hK,kc,cc,cc1,dO,hf.ia hi,hrow,np,nb',Bool.or_false,eJ,cV,AOp.kd,zop,tks,cD,eA,hps.len,hln,hd,eV,show((23:Int)=0)=False from aM (by decide)]
  exact⟨_,_,_,rfl,(((Aft.refl h.A.free).add _).set (aJ _) (by omega) _).mono (by omega)⟩
 ·have hd:decide (((g.ps.length:Nat):Int)≠(k:Nat))=false:=aK (by omega)
  simp only[Lb4,Lb5,Ab.abq];simp only[z2,seval,nb,h5,h.t2,h.t3,b2,b3,hK,kc,cc,cc1,dO,hf.ia hi,hrow,np,nb',Bool.or_false,eJ,cV,AOp.kd,zop,tks,cD,eA,hps.len,hln,hd];have hA:∀C',c1+1≤C'→Aft s1 c1 (sset (sadd s1 c1 (.fix 79 [.str [],.nils,.nils])) c1 (.fix 79 [.str g.name,g.pd,g.bd])) C':=fun C' hC=>(((Aft.refl h.A.free).add _).set (aJ _) (by omega) _).mono hC
  refine⟨_,_,_,rfl,hA _ ?_,?_,CF.tm (t:=t) (h.aft (hA _ ?_)) ?_ ?_ ?_,?_,?_,?_⟩
  ·omega
  ·omega
  ·omega
  all_goals simp[aE,h5]
def zdf(v:D)(dst:Option Nat)(l:List D)(t:Tm)(s:St)(c:Nat)(d:List (D×List D)):R:=match v with
 | .fn g p q=>.ok .normal ⟨iE dst t .un,s,c,(.fn g p q,l)::d,none⟩
 | _=>.no
theorem zo_df(cx:Cx)(cl:CL)(dst:Option Nat)(g:Option (Nat×Bool))(a:Arg)(l:List Arg)(t:Tm)(s:St)(c:Nat)(d:List (D×List D)):zOp cx cl ⟨dst,.dfr a l,g⟩ ⟨t,s,c,d,none⟩=zdf (a.ev cx.G t) dst (evs l cx.G t) t s c d:=by
 show zo_dfr a l cx cl dst ⟨t,s,c,d,none⟩=_;unfold zo_dfr zdf;simp only;cases a.ev cx.G t<;>rfl
theorem zdf_fn(g:Fn)(p q:List D)(dst:Option Nat)(l:List D)(t:Tm)(s:St)(c:Nat)(d:List (D×List D)):zdf (.fn g p q) dst l t s c d = .ok .normal ⟨iE dst t .un,s,c,(.fn g p q,l)::d,none⟩:=rfl
structure CG (C:LkC) (K c D1 A B:Nat) (g:Fd) (t:Tm) (s1:St) (c1:Nat) (s:St) (k:Nat):Prop where
 t2:tget t 2 = .ptr c 0
 t4:tget t 4 = .ptr (c+1+1) 0
 t6:tget t 6 = .ptr D1 0
 b2:sget s c=some (.fix 92 [.ptr K 0])
 b4:sget s (c+1+1)=some (.fix 37 ty0)
 b6:sget s D1=some (.fix 79 (fdC g))
 bA:sget s A=some (.fix 27 [C.v])
 bB:sget s B=some (.fix 28 [C.f])
 old:∀m,m<c1→m≠K→m≠C.M→sget s m=sget s1 m
 fr:mW s k
 lA:c1≤A∧A<k
 lB:c1≤B∧B<k
theorem cB6(n j:Nat){ss:List (List UInt8)}{us:List Nat}(C:LkC)(h:Lt ss us C.d C.e)(hp:C.pc<us.length)(R:Int→List Tl→Ty×Int×Int×Int){K:Nat}{y:Nd}{fs:List Fd}(hf:Sl 3 fdC fs C.f){s:St}{c:Nat}{t:Tm}{s1:St}{c1 D1:Nat}(hF:CF K y s c t s1 c1){i:Nat}(h5:tget t 5 = .int .i64 (i:Nat))(hi:i<fs.length)(h6:tget t 6 = .ptr D1 0){g:Fd}(b6:sget s1 D1=some (.fix 79 (fdC g)))(hD:c≤D1)
  {sm:Lk} {q:D} (hK:sget s1 K=some (C.blk sm q)) (hM:sget s1 C.M=some (.mp (mpE 0 sm.lm) sm.lm.length)) (hKc:K<c) (hMc:C.M<c) (hec:sm.ec<us.length) (hlb:LabN us sm.lm) (hv:eR C.v=false) (hq:eR q=false) :
  ∃t' s' c' A B fd,zC (.seq Lb6 (.seq Lb7 (.seq Lb8 Lb9))) (cxn (n+1)) (fn (n+1) (j+3)) KK ⟨t,s1,c1,[],none⟩ = .ok .normal ⟨t',s',c',[(.fn (.func 130) [] [.ptr A 0,.ptr B 0,.ptr c 0],[])],none⟩∧CG C K c D1 A B g t' s1 c1 s' c'∧Sl 3 fdC (fs.take i) fd ∧
   sget s' K=some (LkC.blk ⟨C.d,C.e,C.low,C.pc,C.M,.nils,fd⟩ (sm.mark ⟨us,C.low,C.pc,R⟩ y.site) q)∧sget s' C.M=some (.mp (mpE 0 (sm.mark ⟨us,C.low,C.pc,R⟩ y.site).lm) (sm.mark ⟨us,C.low,C.pc,R⟩ y.site).lm.length):=by
 have b2:=hF.b2;have b3:=hF.b3;have b4:=hF.b4;have hle:=hF.le;have hMK:C.M≠K:=by rintro e;rw[←e,hM]at hK;cases hK
 have hDc:D1<c1:=gP fun hh=>by rw[hF.A.free _ hh]at b6;cases b6
 obtain⟨c2,hc2,h92⟩:=f92 n j h (K:=K) (M:=C.M) (s:=s1) (c:=c1) hK hM hp hec hlb y.site;obtain⟨fd,hfd,hsl⟩:=hf.head (Nat.le_of_lt hi) (k:=.i64);have kM:(K=C.M)=False:=aM (fun e=>hMK e.symm)
 have cM:(c=C.M)=False:=aM (by omega)
 have cM1:(c+1=C.M)=False:=aM (by omega)
 obtain⟨s2,hs2⟩:∃s2,s2=sset s1 C.M (.mp (mpE 0 (mkL us sm.lm y.site (J us C.pc sm.ec))) (mkL us sm.lm y.site (J us C.pc sm.ec)).length):=⟨_,rfl⟩
 have g2:∀m,sget s2 m=if m=C.M then some (.mp (mpE 0 (mkL us sm.lm y.site (J us C.pc sm.ec))) (mkL us sm.lm y.site (J us C.pc sm.ec)).length) else sget s1 m:=fun m=>by rw[hs2,aO]
 have eK:sget s2 K=some (C.blk sm q):=by rw[g2,aD (fun e=>hMK e.symm),hK]
 have e2':sget s2 c=some (.fix 92 [.ptr K 0]):=by rw[g2,aD (by omega),b2]
 have fr2:mW s2 c2:=fun m hm=>by rw[g2,aD (by omega)];exact hF.A.free m (by omega)
 have n4:sget s2 (c2+8)=none:=fr2 _ (by omega)
 have n5:sget s2 (c2+9)=none:=fr2 _ (by omega)
 have k1:(K=c2+8)=False:=aM (by omega)
 have k2:(K=c2+9)=False:=aM (by omega)
 have k3:(c=c2+8)=False:=aM (by omega)
 have k4:(c=c2+9)=False:=aM (by omega)
 have k5:(c2=c2+1)=False:=aM (by omega)
 have k6:(c2+1=c2)=False:=aM (by omega)
 have k7:(c=K)=False:=aM (by omega)
 have k8:(c2+8=K)=False:=aM (by omega)
 have k9:(c2+9=K)=False:=aM (by omega)
 have hfn:=hf.nag;have hfn2:=hsl.nag;unfold bU at b3;unfold LkC.blk lrC at eK;simp only[Lb6,Lb7,Lb8,Lb9,Ab.abq];simp only[z0,seval,hF.t2,hF.t3,b2,b3,h92];rw[←hs2]
 simp only[z0,seval,hF.t2,e2',eK,h5,eJ,cV,AOp.kd,zop,tks,cD,eA,cS,dO,aT,bP,n4,n5,k1,k2,k3,k4,k5,k6,k7,k8,k9,bQ,hv,hq,hfn,hfn2,iI hv,iI hfn,iI hfn2,hfd,zo_df,zdf_fn,bO,eS,show D.nils.cells?=some [D.nils]from rfl,show eR D.nils=false from rfl]
 refine⟨_,_,_,c2+8,c2+9,fd,rfl,⟨?_,?_,?_,?_,?_,?_,?_,?_,?_,?_,by omega,by omega⟩,hsl,?_,?_⟩
 ·simp[aE,hF.t2]
 ·simp[aE,hF.t4]
 ·simp[aE,h6]
 ·simp only[aO,aX];rw[aD (by omega),aD (by omega),aD (by omega),aD (by omega),aD (by omega),aD (by omega),g2,aD (by omega),b2]
 ·simp only[aO,aX];rw[aD (by omega),aD (by omega),aD (by omega),aD (by omega),aD (by omega),aD (by omega),g2,aD (by omega),b4]
 ·simp only[aO,aX];rw[aD (by omega),aD (by omega),aD (by omega),aD (by omega),aD (by omega),aD (by omega),g2,aD (by omega),b6]
 ·simp only[aO,aX];rw[aD (by omega),aD (by omega),aD (by omega),aH trivial]
 ·simp only[aO,aX];rw[aD (by omega),aD (by omega),aH trivial]
 ·intro m m1 m2 m3;simp only[aO,aX];rw[aD m2,aD m2,aD (by omega),aD (by omega),aD (by omega),aD (by omega),g2,aD m3]
 ·intro m hm;have hm':c2+12+14≤m:=hm;simp only[aO,aX];rw[aD (by omega),aD (by omega),aD (by omega),aD (by omega),aD (by omega),aD (by omega)];exact fr2 m (by omega)
 ·rw[aO,aH rfl];rfl
 ·simp only[aO,aX];rw[aD hMK,aD hMK,aD (by omega),aD (by omega),aD (by omega),aD (by omega),g2,aH rfl];rfl
theorem enc_vr:EncG 6 vrC:=⟨fun _=>rfl,by decide,fun _=>rfl,fun _ _ _ _=>rfl⟩
theorem pL{ps:List (List UInt8)}{ts:List Tl}(h:ps.length=ts.length):(oT ps ts).length=ts.length:=by unfold oT;rw[List.length_zipWith];omega
theorem zipV_get{ps:List (List UInt8)}{ts:List Tl}(h:ps.length=ts.length){i:Nat}(hi:i<ts.length):(oT ps ts).take (i+1)=(oT ps ts).take i++[⟨ps[i],tl ts[i]⟩]:=by
 rw[List.take_succ_eq_append_getElem (by rw[pL h];exact hi)]
 congr 2
 unfold oT;rw[List.getElem_zipWith]
def LkC.vf(C:LkC)(v f:D):LkC:=⟨C.d,C.e,C.low,C.pc,C.M,v,f⟩
theorem CG.go{C:LkC}{K c D1 A B:Nat}{g:Fd}{t:Tm}{s1:St}{c1:Nat}{s:St}{k:Nat}(h:CG C K c D1 A B g t s1 c1 s k){s':St}{k' kk:Nat}{t':Tm}(hA:A<kk)(hB:B<kk)(hc:c+1+1<c1)(hD:D1<c1)(hK:K<c)(hk:kk≤k')(hs:∀m,m<kk→m≠K→sget s' m=sget s m)(hf:mW s' k')(h2:tget t' 2=tget t 2)(h4:tget t' 4=tget t 4)(h6:tget t' 6=tget t 6)(hDK:D1≠K):CG C K c D1 A B g t' s1 c1 s' k':=by
 have:=h.lA;have:=h.lB;exact⟨by rw[h2,h.t2],by rw[h4,h.t4],by rw[h6,h.t6],by rw[hs c (by omega) (by omega),h.b2],by rw[hs _ (by omega) (by omega),h.b4],by rw[hs _ (by omega) hDK,h.b6],by rw[hs A (by omega) (by omega),h.bA],by rw[hs B (by omega) (by omega),h.bB],fun m m1 m2 m3=>by rw[hs m (by omega) m2,h.old m m1 m2 m3],hf,by omega,by omega⟩
theorem cB10(n j:Nat)(C:LkC){K c D1 A B:Nat}{g:Fd}{t:Tm}{s1:St}{c1:Nat}{s:St}{k:Nat}(h:CG C K c D1 A B g t s1 c1 s k)(hc:c+1+1<c1)(hD:D1<c1)(hKc:K<c)(hMc:C.M<c)(hDc:c≤D1){f:D}{sm:Lk}{a:Nat}{ts:List Tl}
  (hK:sget s K=some ((C.vf .nils f).blk sm (.gs a 0 5 ts.length))) (ha:sget s a=some (.grow 37 (cY tlC ts))) (hl:ts.length<1000) (hg:Sl 1 iA g.ps g.pd) (hgl:g.ps.length=ts.length) (hne:ts≠[]) (hMs:sget s C.M=some (.mp (mpE 0 sm.lm) sm.lm.length)) (dd:List (D×List D)) :
  ∃t' s' k' V,zC Lb10 (cxn n) (fn n j) KK ⟨t,s,k,dd,none⟩ = .ok .normal ⟨t',s',k',dd,none⟩∧CG C K c D1 A B g t' s1 c1 s' k'∧sget s' K=some ((C.vf (.gs V 0 6 ts.length) f).blk sm (.gs a 0 5 ts.length))∧(∃ty,sget s' V=some (.grow ty (cY vrC (oT g.ps ts))))∧k≤V∧V<k'∧sget s' C.M=some (.mp (mpE 0 sm.lm) sm.lm.length):=by
 have hak:a<k:=gP fun hh=>by rw[h.fr _ hh]at ha;cases ha
 have hlA:=h.lA;have hlB:=h.lB;have haK:a≠K:=by rintro rfl;rw[hK]at ha;cases ha
 have hb2:=h.b2;have hKM:C.M≠K:=by rintro e;rw[←e,hMs]at hK;cases hK
 unfold LkC.blk lrC LkC.vf at *;simp only[Lb10,Ab.abq];simp only[z0,seval,h.t2,hb2,hK,dO,show lenD false (.gs a 0 5 ts.length)=some ts.length from rfl]
 generalize hz:zloop KK _ _=rl
 refine zrange rl hz ts.length (fM (by omega)) (by omega) (fun i t' s' k'=>∃v,CG C K c D1 A B g t' s1 c1 s' k'∧k≤k'∧sget s' K=some (.fix 96 [C.d,C.e,.int .i64 1,.int .i64 0,.int .i64 (C.low:Nat),.int .i64 (C.low:Nat),.int .i64 (C.low:Nat),.int .i64 (C.pc:Nat),.int .i64 (sm.ec:Nat),.int .i64 (sm.lk:Nat),.mp C.M,v,f,.gs a 0 5 ts.length])∧lZ 6 vrC k s' v ((oT g.ps ts).take i)∧sget s' a=some (.grow 37 (cY tlC ts))∧sget s' C.M=some (.mp (mpE 0 sm.lm) sm.lm.length)∧tget t' 69 = .gs a 0 5 ts.length) (by decide) (by simp[aE]) (by simp[aE]) ?_ ?_ ?_
 ·refine⟨.nils,CG.go h hlA.2 hlB.2 hc hD hKc (aJ _) (fun _ _ _=>rfl) h.fr ?_ ?_ ?_ (by omega),aJ _,hK,.inl ⟨rfl,by simp⟩,ha,hMs,?_⟩
  all_goals simp[aE]
 ·rintro i t' s' k' hi ⟨v,h',hkk,hK',hv,ha',hM',q69⟩ hti htn;have hlA':=h'.lA;have ia:kF 5 (.gs a 0 5 ts.length) (.int .i64 (i:Nat))=some (.ptr a (i*5)):=by
   simp only[kF,fS hi,aN,fF,aS,bL]
  have row1:decide (i*5+5≤(cY tlC ts).length)=true:=bH (by rw[enc_tl.cells_len];omega)
  have row2:List.take 5 (List.drop (i*5) (cY tlC ts))=tlC ts[i]:=(mI (w:=5) (rows:=ts.map tlC) (i:=i) (r:=tlC ts[i]) (fun r hr=>by obtain⟨u,_,rfl⟩:=cP.1 hr;rfl) (by rw[gU,aI hi];rfl)).1
  have ig:=hg.ia1 (i:=i) (by omega) (k:=.i64)
  have ag:=hg.at1 (i:=i) (by omega)
  have hnv:=hv.nag;have b2:=h'.b2;have b6:=h'.b6;have n1:(c=k')=False:=aM (by omega)
  have n2:(a=k')=False:=aM (by omega)
  have n3:(K=k')=False:=aM (by omega)
  have n4:(D1=k')=False:=aM (by omega)
  have n5:(k'+1+12=k')=False:=aM (by omega)
  have n6:sget s' (k'+1+12)=none:=h'.fr _ (by omega)
  unfold fdC at b6;simp only[iA]at ag;unfold tlC tyC tl at row2;rw[show cY (fun t=>[.int .i64 t.k,.int .i64 t.r,.int .i64 (t.x:Nat),.int .i64 (t.y:Nat),.int .i64 (t.z:Nat)]) ts=cY tlC ts from rfl]at row2
  simp only[z0,seval,q69,hti,htn,ia,ha',row1,row2,n1,n2,n3,n4,h'.t2,h'.t6,b2,b6,hK',eJ,cV,AOp.kd,zop,tks,cD,eA,cS,dO,aT,bP,ig,ag,n5,n6,bQ];generalize hA:nS _ 6 56 55 v _=Z
  obtain⟨S,hS⟩:∃S,S=sadd (sset (sadd s' k' (.fix 37 [.int .i64 0,.int .i64 0,.int .i64 0,.int .i64 0,.int .i64 0])) k' (.fix 37 [.int .i64 ts[i].k,.int .i64 ts[i].r,.int .i64 (ts[i].x:Nat),.int .i64 (ts[i].y:Nat),.int .i64 (ts[i].z:Nat)])) (k'+1+12) (.fix 0 [.str g.ps[i],.int .i64 ts[i].k,.int .i64 ts[i].r,.int .i64 (ts[i].x:Nat),.int .i64 (ts[i].y:Nat),.int .i64 (ts[i].z:Nat)]):=⟨_,rfl⟩
  have gS:∀m,m<k'→sget S m=sget s' m:=fun m hm=>by rw[hS];simp only[aO,aX];rw[aD (by omega),aD (by omega),aD (by omega)]
  rw[←hS]at hA;obtain⟨v',s2,k2,hZ,hv2,hk2,ho2,hf2⟩:=own_appG enc_vr (B:=k) (l:=(oT g.ps ts).take i) (l':=[⟨g.ps[i],tl ts[i]⟩]) (by decide) hA (hv.keep fun m b hm hb=>by rw[gS m (gP fun hh=>by rw[h'.fr m hh]at hb;cases hb),hb]) (by simp only[dA,hS,aX,aH];rfl) (by simp only[dI,List.length_singleton];omega) (by show k≤k'+1+17;omega) (fun m hm=>by
   have hm':k'+1+17≤m:=hm;show sget S m=none;rw[hS];simp only[aO,aX];rw[aD (by omega),aD (by omega),aD (by omega)];exact h'.fr m (by omega))
  have hk2':k'+1+17≤k2:=hk2;have ho':∀m,m<k→sget s2 m=sget s' m:=fun m hm=>by rw[ho2 m hm];exact gS m (by omega)
  subst hZ;rw[←zipV_get hgl hi]at hv2;have f1:sget s2 c=some (.fix 92 [.ptr K 0]):=by rw[ho' c (by omega),b2]
  have f2:=ho' K (by omega)
  rw[hK']at f2;have hnv2:=hv2.nag;have f3:sget S c=some (.fix 92 [.ptr K 0]):=by rw[gS c (by omega),b2]
  have f4:sget S K=_:=(gS K (by omega)).trans hK'
  have pc:=h'.t2;have n7:(c=k'+1+12)=False:=aM (by omega)
  have n8:(K=k'+1+12)=False:=aM (by omega)
  simp only[z0,seval,n1,n3,n7,n8,b2,hK',pc,f1,f2,f3,f4,hti,htn,q69,dO,AOp.kd,zop,tks,cD,eA,hnv2,iI hnv2];refine⟨trivial,trivial,trivial,.inr (.inr trivial),nofun,nofun,v',?_,by omega,rfl,?_,?_,?_,trivial⟩
  ·refine CG.go h' hlA.2 hlB.2 hc hD hKc (by omega) (fun m m1 m2=>by rw[aO,aD m2,ho' m m1]) (fun m hm=>by rw[aO,aD (by omega)];exact hf2 m hm) ?_ ?_ ?_ (by omega)
   all_goals simp[aE]
  ·exact hv2.keep fun m b hm hb=>by rw[aO,aD (by omega),hb]
  ·rw[aD haK,ho' a hak,ha']
  ·rw[aD hKM,ho' C.M (by omega),hM']
 ·rintro t' s' k' ⟨v,h',hkk,hK',hv,ha',hM',q69⟩ hti htn;rw[show ts.length=(oT g.ps ts).length from(pL hgl).symm,List.take_length]at hv
  have hzl:=pL hgl;rcases hv with⟨_,e⟩|⟨m,_,_,_,e⟩|⟨V,ty,hV,rfl,hs,_⟩
  ·rw[e]at hzl;exact absurd (List.length_eq_zero_iff.1 hzl.symm) hne
  ·rw[e]at hzl;exact absurd (List.length_eq_zero_iff.1 hzl.symm) hne
  ·rw[hzl]at hK';have hVk:V<k':=gP fun hh=>by rw[h'.fr _ hh]at hs;cases hs
   simp only[z0,seval];refine⟨_,s',k',V,rfl,CG.go h' hlA.2 hlB.2 hc hD hKc (by omega) (fun _ _ _=>rfl) h'.fr ?_ ?_ ?_ (by omega),hK',⟨ty,hs⟩,hV,hVk,hM'⟩
   all_goals simp[aE]
theorem B88_z(cx:Cx)(cl:CL)(k:Nat)(x:AS):zC B88 cx cl k x=zbind (zC (.seq Lb1 Lb2) cx cl k x) fun x=>zbind (zC Lb3 cx cl k x) fun x=>zbind (zC (.seq Lb4 Lb5) cx cl k x) fun x=>zbind (zC (.seq Lb6 (.seq Lb7 (.seq Lb8 Lb9))) cx cl k x) fun x=>zbind (zC Lb10 cx cl k x) (zC (.seq Lb11 .ret) cx cl k):=by
 rw[B88_eq];simp only[zC_sq,vS]
theorem zbody_ret1{df:Nat→List D→dS→St→Nat→DR}{A:AF}{t:Tm}{s s':St}{c c' f:Nat}{r:Option Nat}{fs cs:List D}{v:D}(h:df f (fs++[]++cs) none s c = .ok (.ret v) none s' c'):
  zbody df A (.ok .ret ⟨t,s,c,[(.fn (.func f) fs cs,[])],r⟩)=match results A ⟨t,s',c',[(.fn (.func f) fs cs,[])],r⟩ with|some d=>.ok (.ret d) s' c'|none=>.no:=by
 show oU df A none ⟨t,s,c,[(.fn (.func f) fs cs,[])],r⟩=_;unfold oU;simp only[zDs,h,settle];cases results A ⟨t,s',c',[(.fn (.func f) fs cs,[])],r⟩<;>rfl
theorem zbody_pan1{df:Nat→List D→dS→St→Nat→DR}{A:AF}{t:Tm}{s s':St}{c c' f:Nat}{r:Option Nat}{fs cs:List D}{v:D}{a e:Int}(h:df f (fs++[]++cs) (some (iZ a e)) s c = .ok (.ret v) (some (iZ a e)) s' c'):
  zbody df A (.ok (.pan (iZ a e)) ⟨t,s,c,[(.fn (.func f) fs cs,[])],r⟩) = .ok (.pan (iZ a e)) s' c':=by
 show oU df A (some (iZ a e)) ⟨t,s,c,[(.fn (.func f) fs cs,[])],r⟩=_;unfold oU;simp only[zDs,h];rfl
theorem vo_zip{us:List Nat}{C:LkC}{K V k ty:Nat}{s:St}{ps:List (List UInt8)}{ts:List Tl}{f:D}(hs:sget s V=some (.grow ty (cY vrC (oT ps ts))))(hl:ps.length=ts.length)(hb:ts.length<1000)(hVk:V<k)(hK:V≠K)(hM:V≠C.M)(hg:∀t∈ts,TG us t):VO us (C.vf (.gs V 0 6 ts.length) f) K s k (oT ps ts):=by
 have hzl:=pL hl;refine⟨rfl,⟨.sl false (oT ps ts).length (cY vrC (oT ps ts)),⟨fun r hr=>by obtain⟨u,_,rfl⟩:=cP.1 hr;rfl,.inr ⟨false,by rw[eY];rfl⟩⟩,fun s2 h2 k=>?_⟩,by omega,fun x hx=>?_⟩
 ·show frz false (k+2) s2 (.gs V 0 6 ts.length)=_;rw[rF,h2 V hVk hK hM,hs];simp only[bL,fO];rw[cE (by rw[enc_vr.cells_len,hzl];exact aJ _),aS,cW (by rw[enc_vr.cells_len,hzl];exact aJ _),enc_vr.cells_frz,hzl];rfl
 ·obtain⟨i,hi,rfl⟩:=fA hx;have hi':i<ts.length:=by omega
  have e:(oT ps ts)[i]=⟨ps[i],tl ts[i]⟩:=List.getElem_zipWith;rw[e];exact(hg _ (cG hi')).2.2
theorem f88(n j:Nat){ss:List (List UInt8)}{us:List Nat}(C:LkC)(h:Lt ss us C.d C.e)(hp:C.pc<us.length)(R:Int→List Tl→Ty×Int×Int×Int){K:Nat}{y:Nd}{fs:List Fd}(hf:Sl 3 fdC fs C.f)(hfo:∀f∈fs,FdOk f)(hfl:fs.length<1000){vs:List Vr}{ts:List Tl}{sm:Lk}{s:St}{c:Nat}(hI:CI us C K sm vs ts s c)(hec:sm.ec<us.length)(hlb:LabN us sm.lm)(cal:Nat→List Vr→Lk→Lo (Tl×Lk))
  (hall:∀(i:Nat) (hi:i<fs.length) (v' fd:D),Sl 3 fdC (fs.take i) fd→∀vs' q s c,VO us (C.vf v' fd) K s c vs'→sget s K=some ((C.vf v' fd).blk (sm.mark ⟨us,C.low,C.pc,R⟩ y.site) q)→eR q=false→sget s C.M=some (.mp (mpE 0 (sm.mark ⟨us,C.low,C.pc,R⟩ y.site).lm) (sm.mark ⟨us,C.low,C.pc,R⟩ y.site).lm.length)→K<c→C.M<c→mW s c →
   jP (C.vf v' fd) K (cal i vs' (sm.mark ⟨us,C.low,C.pc,R⟩ y.site)) (fn (n+1) (j+3) (.fn 44) [.ptr K 0,fs[i].bd] s c) s c) :
  jP C K (calM ⟨us,C.low,C.pc,R⟩ cal fs y ts sm) (fn (n+1) (j+4) (.fn 88) [.ptr K 0,.agg (bU y)] s c) s c:=by
 rw[iJ (A:=A88) rfl rfl rfl rfl (n+1) (j+3) _ s c rfl,show A88.body=B88 from rfl,B88_z]
 obtain⟨a,hK,ha⟩:=hI.a;have hKc:=hI.kc;have hMc:=hI.mc;have hl12:=hI.l;obtain⟨t1,s1,c1,hz1,hF1,h5⟩:=cB1 (n+1) (j+1) C hf (by omega) (y:=y) hK hKc hI.fr
 rw[show j+1+2=j+3 from rfl]at hz1
 rw[hz1];show jP C K _ (zbody _ _ (zbind (zC Lb3 _ _ _ _) _)) s c;have hKM:K≠C.M:=by rintro e;rw[e,hI.hM]at hK;cases hK
 have hle1:=hF1.le;have hK1:sget s1 K=some (C.blk sm (.gs a 0 5 ts.length)):=by rw[hF1.A.old K hKc,hK]
 have hac:a<c:=gP fun hh=>by rw[hI.fr _ hh]at ha;cases ha
 have haK:a≠K:=by rintro rfl;rw[hK]at ha;cases ha
 have haM:a≠C.M:=by rintro rfl;rw[hI.hM]at ha;cases ha
 obtain⟨h3a,h3b⟩:=cB3 (n+1) (j+2) hF1 h5;rw[show j+2+1=j+3 from rfl]at h3a h3b
 rw[fx_find]at h3a h3b h5;unfold calM;cases hfi:fs.findIdx? (fun f=>decide (f.name=y.name)) with
 | none=>
  rw[hfi]at h3a;obtain⟨t2,hz2⟩:=h3a (by decide)
  rw[hz2];exact⟨s1,c1,rfl,Bad.of hF1.A hK hKc⟩
 | some i=>
  rw[hfi]at h3b;obtain⟨hi,_⟩:=List.findIdx?_eq_some_iff_getElem.1 hfi;obtain⟨t2,hz2,hF2,h52⟩:=h3b (by simp only;omega)
  rw[hz2];show jP C K _ (zbody _ _ (zbind (zC (.seq Lb4 Lb5) _ _ _ _) _)) s c;obtain⟨h4a,h4b⟩:=cB4 (n+1) (j+2) C hf hfo hF2 h52 hi hK1 hKc;rw[show j+2+1=j+3 from rfl]at h4a h4b
  simp only[aI hi];by_cases hps:fs[i].ps.length=ts.length
  case neg=>
   rw[aH hps];obtain⟨t3,s3,c3,hz3,hA3⟩:=h4a hps;rw[hz3];exact⟨s3,c3,rfl,Bad.of (hF1.A.trans hA3) hK hKc⟩
  rw[aD (fun e=>e hps)]
  obtain⟨t3,s3,c3,hz3,hA3,hc3,hF3,h53,h63,hb3⟩:=h4b hps;rw[hz3];show jP C K _ (zbody _ _ (zbind (zC (.seq Lb6 (.seq Lb7 (.seq Lb8 Lb9))) _ _ _ _) _)) s c;have hK3:sget s3 K=some (C.blk sm (.gs a 0 5 ts.length)):=by rw[hA3.old K (by omega),hK1]
  have hM3:sget s3 C.M=some (.mp (mpE 0 sm.lm) sm.lm.length):=by rw[hA3.old _ (by omega),hF1.A.old _ hMc,hI.hM]
  obtain⟨t4,s4,c4,A,B,fd,hz4,hG4,hfd,hK4,hM4⟩:=cB6 n j C h hp R hf hF3 h53 hi h63 hb3 (by omega) hK3 hM3 hKc hMc hec hlb hI.v.nag rfl
  rw[hz4];show jP C K _ (zbody _ _ (zbind (zC Lb10 _ _ _ _) _)) s c;have hg:=hfo _ (cG hi);have ha4:sget s4 a=some (.grow 37 (cY tlC ts)):=by rw[hG4.old a (by omega) haK haM,hA3.old a (by omega),hF1.A.old a hac,ha]
  obtain⟨t5,s5,c5,V,hz5,hG5,hK5,⟨ty,hV⟩,hkV,hVc,hM5⟩:=cB10 (n+1) (j+3) C hG4 (by omega) hc3 hKc hMc (by omega) (f:=fd) hK4 ha4 (by omega) hg.p hps (by rintro rfl;simp at hl12) hM4 [(.fn (.func 130) [] [.ptr A 0,.ptr B 0,.ptr c 0],[])]
  rw[hz5];show jP C K _ (zbody _ _ (zC (.seq Lb11 .ret) _ _ _ _)) s c;have hlA:=hG5.lA;have hlB:=hG5.lB;have hlA4:=hG4.lA;have hVO:VO us (C.vf (.gs V 0 6 ts.length) fd) K s5 c5 (oT fs[i].ps ts):=vo_zip hV hps (by omega) hVc (by omega) (by omega) hI.g
  have hcall:=hall i hi _ fd hfd _ _ s5 c5 hVO hK5 rfl hM5 (by omega) (by omega) hG5.fr
  have b2:=hG5.b2;have b6:=hG5.b6;have b4:=hG5.b4;unfold fdC at b6;unfold ty0 at b4;have hold:∀m,m<c→m≠K→m≠C.M→sget s5 m=sget s m:=fun m m1 m2 m3=>by rw[hG5.old m (by omega) m2 m3,hA3.old m (by omega),hF1.A.old m m1]
  cases hr:cal i (oT fs[i].ps ts) (sm.mark ⟨us,C.low,C.pc,R⟩ y.site) with
  | bad e1 e2=>
   rw[hr]at hcall;obtain⟨s6,c6,h6,hle6,hfr6,⟨cs,hcs,hcl⟩,ho6⟩:=hcall;have hz11:∃t6,zC (.seq Lb11 .ret) (cxn (n+1)) (fn (n+1) (j+3)) KK ⟨t5,s5,c5,[(.fn (.func 130) [] [.ptr A 0,.ptr B 0,.ptr c 0],[])],none⟩ = .ok (.pan (iZ e1 e2)) ⟨t6,s6,c6,[(.fn (.func 130) [] [.ptr A 0,.ptr B 0,.ptr c 0],[])],none⟩:=by
    simp only[Lb11,Ab.abq];simp only[z0,seval,hG5.t2,hG5.t6,b2,b6,h6];exact⟨_,rfl⟩
   obtain⟨t6,hz6⟩:=hz11;rw[hz6];have h130:=f130 (n+1) (j+2) (md:=some (iZ e1 e2)) (c:=c6) (by rw[ho6 A (by omega) (by omega) (by show A≠C.M;omega),hG5.bA]) (by rw[ho6 B (by omega) (by omega) (by show B≠C.M;omega),hG5.bB]) (by rw[ho6 c (by omega) (by omega) (by show c≠C.M;omega),b2]) hcs hcl hI.v.nag hf.nag (by omega) (by omega)
   rw[zbody_pan1 h130];exact⟨_,_,rfl,by omega,fun m hm=>by rw[aO,aD (by omega),aO,aD (by omega)];exact hfr6 m hm,⟨_,by rw[aO,aH rfl],by simp[hcl]⟩,fun m m1 m2 m3=>by rw[aO,aD m2,aO,aD m2,ho6 m (by omega) m2 m3,hold m m1 m2 m3]⟩
  | ok p=>
   rw[hr]at hcall;obtain⟨s6,c6,q6,h6,hC6⟩:=hcall;have hle6:=hC6.le;have e4:sget s6 (c+1+1)=some (.fix 37 [.int .i64 0,.int .i64 0,.int .i64 0,.int .i64 0,.int .i64 0]):=by rw[hC6.old _ (by omega) (by omega) (by show c+1+1≠C.M;omega),b4]
   have hz11:∃t6,zC (.seq Lb11 .ret) (cxn (n+1)) (fn (n+1) (j+3)) KK ⟨t5,s5,c5,[(.fn (.func 130) [] [.ptr A 0,.ptr B 0,.ptr c 0],[])],none⟩ = .ok .ret ⟨t6,sset s6 (c+1+1) (.fix 37 (tlC p.1)),c6,[(.fn (.func 130) [] [.ptr A 0,.ptr B 0,.ptr c 0],[])],none⟩∧tget t6 4 = .ptr (c+1+1) 0:=by
    simp only[Lb11,Ab.abq];unfold tlC tyC tl at *;simp only[z0,seval,hG5.t2,hG5.t4,hG5.t6,b2,b6,h6,e4];exact⟨_,rfl,by simp[aE,hG5.t4]⟩
   obtain⟨t6,hz6,h46⟩:=hz11;rw[hz6]
   have h130:=f130 (n+1) (j+2) (md:=none) (s:=sset s6 (c+1+1) (.fix 37 (tlC p.1))) (c:=c6) (a:=A) (b:=B) (e:=c) (K:=K) (by rw[aO,aD (by omega),hC6.old A (by omega) (by omega) (by show A≠C.M;omega),hG5.bA]) (by rw[aO,aD (by omega),hC6.old B (by omega) (by omega) (by show B≠C.M;omega),hG5.bB]) (by rw[aO,aD (by omega),hC6.old c (by omega) (by omega) (by show c≠C.M;omega),b2]) (by rw[aO,aD (by omega),hC6.hK];rfl) rfl hI.v.nag hf.nag (by omega) (by omega)
   rw[zbody_ret1 h130];obtain⟨s8,hs8⟩:∃s8,s8=sset (sset (sset s6 (c+1+1) (.fix 37 (tlC p.1))) K (.fix 96 ((lrC C.d C.e C.low C.pc p.2.ec (p.2.lk:Nat) (.mp C.M) (.gs V 0 6 ts.length) fd q6).set 11 C.v))) K (.fix 96 (((lrC C.d C.e C.low C.pc p.2.ec (p.2.lk:Nat) (.mp C.M) (.gs V 0 6 ts.length) fd q6).set 11 C.v).set 12 C.f)):=⟨_,rfl⟩
   have g8:∀m,sget s8 m=if m=K then some (C.blk p.2 q6) else if m=c+1+1 then some (.fix 37 (tlC p.1)) else sget s6 m:=fun m=>by
    rw[hs8,aO];split
    ·rfl
    ·rename_i hne;rw[aO,aD hne,aO]
   have e8:sget s8 (c+1+1)=some (.fix 37 (tlC p.1)):=by rw[g8,aD (by omega),aH rfl]
   have hres:results A88 ⟨t6,s8,c6,[(.fn (.func 130) [] [.ptr A 0,.ptr B 0,.ptr c 0],[])],none⟩=some (.agg (tlC p.1)):=by
    unfold tlC tyC tl at *;simp only[z0,seval,A88,h46,e8]
   show jP C K (.ok p) (match results A88 ⟨t6,sset (sset (sset s6 (c+1+1) (.fix 37 (tlC p.1))) K _) K _,c6,_,none⟩ with|some d=>FR.ok (.ret d) _ c6|none=>FR.no) s c
   have hs8':=hs8.symm;unfold LkC.vf at *;refine⟨s8,c6,q6,?_,by omega,by rw[g8,aH rfl],by rw[g8,aD (fun e=>hKM e.symm),aD (by omega),hC6.hM],fun m m1 m2 m3=>by rw[g8,aD m2,aD (by omega),hC6.old m (by omega) m2 m3,hold m m1 m2 m3],fun m hm=>by rw[g8,aD (by omega),aD (by omega)];exact hC6.fr m hm,hC6.nag⟩
   exact(congrArg (fun S=>match results A88 ⟨t6,S,c6,[(.fn (.func 130) [] [.ptr A 0,.ptr B 0,.ptr c 0],[])],none⟩ with|some d=>FR.ok (.ret d) S c6|none=>FR.no) hs8').trans (show _=FR.ok (.ret (.agg (tlC p.1))) s8 c6 by simp only[hres])
def pV:List Nd→Nat→Nat→Prop
 | [],a,b=>a=b
 | x::r,a,b=>opN x≤a∧pV r (a-opN x+1) b
theorem pV.app:∀{l l':List Nd} {a b c:Nat},pV l a b→pV l' b c→pV (l++l') a c
 | [],_,_,_,_,h,h'=>by cases h;exact h'
 | _::_,_,_,_,_,h,h'=>⟨h.1,pV.app h.2 h'⟩
def ndAt(x:List Nd)(i:Nat):Nd:=(x[i]?).getD ⟨0,0,0,[],[],0,0⟩
theorem ndAt_eq{x:List Nd}{i:Nat}(h:i<x.length):ndAt x i=x[i]:=by unfold ndAt;rw[aI h];rfl
theorem ch_stk{l:List Nd}(hg:jQ l):∀(f i k:Nat),i<l.length→l.length≤f+i→itE l (k+1) i=l.length→pV ((chN l i).reverse.map (ndAt l)) 0 (k+1)
 | 0,i,k,h,hf,_=>by omega
 | f+1,i,k,h,hf,he=>by
  rw[op_step hg h]at he;have hn:=nx_le hg h;rw[chN_eq hg h,List.reverse_cons,List.map_append];refine pV.app (b:=opN l[i]+k) ?_ ?_
  ·by_cases hx:nxN l i<l.length
   ·cases hk:opN l[i]+k with
    | zero=>rw[hk]at he;have:nxN l i=l.length:=he;omega
    | succ m=>rw[hk]at he;exact ch_stk hg f (nxN l i) m hx (by omega) he
   ·rw[chN_ge (by omega)]
    cases hk:opN l[i]+k with
    | zero=>rfl
    | succ m=>rw[hk,itE_out l m _ (by omega)]at he;omega
  ·show opN (ndAt l i)≤_∧_=_;rw[ndAt_eq h];omega
theorem mG{l:List Nd}(h:rM l):pV (gJ l) 0 1:=by
 have:=ch_stk h.g l.length 0 0 h.pos (by omega) (by show itE l 0 (eN l 0)=_;exact h.e)
 exact this
theorem chF_mem{l:List Nd}:∀(f i k:Nat),k∈chF l f i→k<l.length
 | 0,i,k,h=>by simp[chF]at h
 | f+1,i,k,h=>by
  rw[chF]at h;split at h
  ·rcases bJ.1 h with rfl|h
   ·assumption
   ·exact chF_mem f _ k h
  ·simp at h
theorem ord_mem{l:List Nd}{k:Nat}(h:k∈jA l):k<l.length:=chF_mem l.length 0 k (List.mem_reverse.1 h)
theorem nodes_get{l:List Nd}{i:Nat}(h:i<(jA l).length):∃hk:(jA l)[i]<l.length,(gJ l)[i]?=some l[(jA l)[i]]:=by
 have hk:=ord_mem (cG h);refine⟨hk,?_⟩;unfold gJ;rw[gU,aI h];show some (ndAt l _)=_;rw[ndAt_eq hk]
theorem nodes_len(l:List Nd):(gJ l).length=(jA l).length:=by unfold gJ;rw[eY]
structure EOk (E:LEn) (ss:List (List UInt8)) (d e:D):Prop where
 lt:Lt ss E.us d e
 low:jK E.us=(E.low:Nat)
 ll:E.low<E.us.length
 lb:∀i,i<E.us.length→(uM E.us E.low).testBit i=true
 pc:E.pc<E.us.length
 R:∀p ts,(ts.length=1∨ts.length=2)→(∀t∈ts,TG E.us t)→(E.R p ts).2.2.2=0→Rg E.us.length (E.R p ts).2.1∧Rg E.us.length (E.R p ts).2.2.1
theorem EOk.tg{E:LEn}{ss:List (List UInt8)}{d e:D}(h:EOk E ss d e){k r:Int}(hk:k=1∨k=2)(hr:r=0∨r=1):TG E.us ⟨k,r,E.low,E.low,E.low⟩:=by
 have hl:=h.ll;refine⟨⟨hl,hl,hl⟩,⟨hk,by show 0≤r;omega,by show r≤2;omega⟩,?_⟩
 have hb:sS E.us.length ((E.low:Nat):Int)=true:=by unfold sS;simp only[bE,cH];omega
 have hq:leqB E.us (E.low:Nat) (E.low:Nat)=true:=by unfold leqB;rw[cQ];exact h.lb _ hl
 unfold tyE tl;simp only[h.low];rw[aD (by rintro(⟨h1,h2⟩|h1|h1)<;>omega),aD (by rw[hb];simp),aD (by rintro(⟨_,h1⟩|⟨_,h1⟩)<;>exact h1 rfl),aD (by rw[hq];simp)]
theorem setM_mem:∀{l:List (Int×Int)} {j:Nat} {v:Int} {p:Int×Int},p∈uX l j v→p∈l∨p.2=v
 | [],_,_,_,h=>by simp[uX]at h
 | q::r,0,v,p,h=>by
  rcases bJ.1 h with rfl|h
  ·exact .inr rfl
  ·exact .inl (bD _ h)
 | q::r,j+1,v,p,h=>by
  rcases bJ.1 h with rfl|h
  ·exact .inl (bG ..)
  ·exact(setM_mem h).imp (bD _) id
theorem mkL_lab{E:LEn}{ss:List (List UInt8)}{d e:D}(h:EOk E ss d e){lm:List (Int×Int)}(hl:LabN E.us lm){x:Int}{now:Nat}(hn:now<E.us.length):LabN E.us (mkL E.us lm x now):=by
 unfold mkL;cases hq:nZ lm x 0 with
 | none=>
  intro p hp;rcases List.mem_append.1 hp with hp|hp
  ·exact hl p hp
  ·rw[dR.1 hp];exact⟨now,rfl,hn⟩
 | some q=>
  obtain⟨p',h1,h2,h3⟩:=pP hq;obtain⟨k,hk,hk2⟩:=hl p' h1;have:q.2.toNat=k:=by rw[←h3,hk,cQ]
  intro p hp;rcases setM_mem hp with hp|hp
  ·exact hl p hp
  ·exact⟨_,hp,by rw[this];exact(h.lt.j hn hk2).2⟩
theorem SG.mark{E:LEn}{ss:List (List UInt8)}{d e:D}(h:EOk E ss d e){sm:Lk}(hs:SG E.us sm)(x:Int):SG E.us (sm.mark E x):=⟨hs.ec,mkL_lab h hs.lb (h.lt.j h.pc hs.ec).2,hs.lk⟩
section
variable {E:LEn} {ss:List (List UInt8)} {d e:D} (h:EOk E ss d e)
include h
def CalOk(E:LEn)(cal:Nat→List Vr→Lk→Lo (Tl×Lk)):Prop:=∀i vs s p,(∀v∈vs,tyE E.us (jK E.us) v.ty=0)→SG E.us s→cal i vs s = .ok p→TG E.us p.1∧SG E.us p.2
theorem prim_inv{x:Nd}{ts:List Tl}{s:Lk}{p:Tl×Lk}(hl:ts.length=1∨ts.length=2)(hg:∀t∈ts,TG E.us t)(hs:SG E.us s)(hp:nC E x ts s = .ok p):TG E.us p.1∧SG E.us p.2:=by
 unfold nC at hp;split at hp
 ·cases hp
 split at hp
 ·cases hp
 rename_i h0 hE;obtain⟨⟨w,hw,hw2⟩,⟨c,hc,hc2⟩⟩:=h.R x.prim ts hl hg (Decidable.not_not.1 h0);cases hp;refine⟨(tl_toT (Decidable.not_not.1 hE)).2,?_,hs.lb,hs.lk⟩;show afN E.us s.ec _ _<_;rw[hw,hc,cQ,cQ];exact(h.lt.j (h.lt.j hs.ec hw2).2 hc2).2
theorem look_inv{cal:Nat→List Vr→Lk→Lo (Tl×Lk)}(hc:CalOk E cal){fs:List Fd}{vs:List Vr}(hv:∀v∈vs,tyE E.us (jK E.us) v.ty=0){x:Nd}{ts:List Tl}{s:Lk}{p:Tl×Lk}(hl:x.kind=5∨x.kind=6→ts.length=1∨ts.length=2)(hk:1≤x.kind∧x.kind≤6)(hg:∀t∈ts,TG E.us t)(hs:SG E.us s)(hp:rQ E cal fs vs x ts s = .ok p):TG E.us p.1∧SG E.us p.2:=by
 unfold rQ at hp;split at hp
 ·cases hp;exact⟨h.tg (.inl rfl) (.inl rfl),hs⟩
 split at hp
 ·cases hp;exact⟨h.tg (.inl rfl) (.inr rfl),hs⟩
 split at hp
 ·cases hp;exact⟨h.tg (.inr rfl) (.inr rfl),hs⟩
 split at hp
 ·unfold nameM at hp;split at hp
  ·cases hp
  ·rename_i v hf;cases hp;exact⟨(tl_toT (hv v (List.mem_of_find?_eq_some hf))).2,hs⟩
 split at hp
 ·rename_i k5;exact prim_inv h (hl (.inl k5)) hg hs hp
 ·unfold calM at hp;split at hp
  ·cases hp
  split at hp
  ·cases hp
  split at hp
  ·cases hp
  rename_i g _ hps;refine hc _ _ _ _ (fun v hv=>?_) (hs.mark h _) hp
  obtain⟨i,hi,rfl⟩:=fA hv;have hgl:g.ps.length=ts.length:=Decidable.not_not.1 hps;have hi':i<ts.length:=by rw[pL hgl]at hi;exact hi
  have e:(oT g.ps ts)[i]=⟨g.ps[i],tl ts[i]⟩:=List.getElem_zipWith;rw[e];exact(hg _ (cG hi')).2.2
theorem node_inv{cal:Nat→List Vr→Lk→Lo (Tl×Lk)}(hc:CalOk E cal){fs:List Fd}{vs:List Vr}(hv:∀v∈vs,tyE E.us (jK E.us) v.ty=0){x:Nd}{st:List Tl}{s:Lk}{p:List Tl×Lk}(hx:oR x)(hop:opN x≤st.length)(hk:1≤x.kind∧x.kind≤6)(hg:∀t∈st,TG E.us t)(hs:SG E.us s)(hp:mS E cal fs vs x st s = .ok p):
  (∀t∈p.1,TG E.us t)∧SG E.us p.2∧p.1.length=st.length-opN x+1:=by
 unfold mS at hp;split at hp
 ·cases hp
 rename_i hb;have htk:SG E.us s.tick:=⟨hs.ec,hs.lb,by show s.lk+1≤2000;omega⟩
 split at hp
 ·rename_i q hq;have hargs:x.kind=5∨x.kind=6→(st.take (opN x)).length=1∨(st.take (opN x)).length=2:=fun h56=>by
   have hkk:=hx.kp h56;have:opN x=x.kids.toNat:=by unfold opN fH;rw[aH h56]
   rw[dI];omega
  obtain⟨h1,h2⟩:=look_inv h hc hv hargs hk (fun t ht=>hg t (eP ht)) htk hq
  cases hp;refine⟨fun t ht=>?_,?_,by simp⟩
  ·rcases bJ.1 ht with rfl|ht
   ·exact h1
   ·exact hg t (List.mem_of_mem_drop ht)
  ·show SG E.us (if x.kind=6 then q.2 else q.2.mark E x.site)
   split
   ·exact h2
   ·exact h2.mark h _
 ·cases hp
theorem run_inv{cal:Nat→List Vr→Lk→Lo (Tl×Lk)}(hc:CalOk E cal){fs:List Fd}{vs:List Vr}(hv:∀v∈vs,tyE E.us (jK E.us) v.ty=0):∀(l:List Nd) (st:List Tl) (s:Lk) (p:List Tl×Lk) (b:Nat),(∀x∈l,oR x∧1≤x.kind∧x.kind≤6)→pV l st.length b→(∀t∈st,TG E.us t)→SG E.us s→kT E cal fs vs l st s = .ok p →
  (∀t∈p.1,TG E.us t)∧SG E.us p.2∧p.1.length=b
 | [],st,s,p,b,_,hS,hg,hs,hp=>by cases hp;exact⟨hg,hs,hS⟩
 | x::r,st,s,p,b,hx,hS,hg,hs,hp=>by
  rw[kT]at hp;split at hp
  ·rename_i q hq;obtain⟨h1,h2,h3⟩:=hx x (bG ..);obtain⟨g1,g2,g3⟩:=node_inv h hc hv h1 hS.1 ⟨h2,h3⟩ hg hs hq;exact run_inv hc hv r q.1 q.2 p b (fun y hy=>hx y (bD _ hy)) (by rw[g3];exact hS.2) g1 g2 hp
  ·cases hp
end
end
end Zv
