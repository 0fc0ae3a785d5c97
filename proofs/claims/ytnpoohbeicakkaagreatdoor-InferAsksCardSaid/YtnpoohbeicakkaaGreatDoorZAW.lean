/- looker.all: a node is taken. Conditions: none. -/
import Derived.Test.YtnpoohbeicakkaaGreatDoorZAV
set_option linter.unusedVariables false
set_option linter.unusedSimpArgs false
set_option maxRecDepth 100000
namespace Zv
open Go
noncomputable section
variable {By R4 B L Kn c':Nat} {st:List Tl}
structure TI (K By R4:Nat) (dx w:D) (L i:Nat) (q8:D) (t:Tm):Prop where
 q0:tget t 0 = .ptr K 0
 q1:tget t 1=dx
 q4:tget t 4 = .ptr R4 0
 q5:tget t 5 = .mp By
 q8:tget t 8=q8
 q34:tget t 34=w
 q35:tget t 35 = .int .i64 (L:Nat)
 q36:tget t 36 = .int .i64 (i:Nat)
structure LkC where
 d:D
 e:D
 low:Nat
 pc:Nat
 M:Nat
 v:D
 f:D
structure Bad (C:LkC) (K:Nat) (s:St) (c:Nat) (s':St) (c':Nat):Prop where
 le:c≤c'
 fr:∀m,c'≤m→sget s' m=none
 hK:∃cs,sget s' K=some (.fix 96 cs)∧cs.length=14
 old:∀m,m<c→m≠K→m≠C.M→sget s' m=sget s m
def LkC.blk(C:LkC)(s:Lk)(q:D):Blk:=.fix 96 (lrC C.d C.e C.low C.pc s.ec (s.lk:Nat) (.mp C.M) C.v C.f q)
theorem gA(n j:Nat)(C:LkC){K:Nat}{x:List Nd}{o:List Nat}{dx w:D}(hx:Sl 7 bK x dx)(hw:Sl 1 gU o w){i:Nat}(hi:i<o.length)(ho:o[i]<x.length){q8 q:D}{t:Tm}(hT:TI K By R4 dx w o.length i q8 t){s:St}{c:Nat}{sm:Lk}(hK:sget s K=some (C.blk sm q))(Al:K<c)(zX:∀m,c≤m→sget s m=none)(Kr:sm.lk≤2000):
  (2000<sm.lk+1→∃t' s' c',zC (.seq La1.b (.seq La2.b (.seq La3.b La4.b))) (cxn n) (fn n (j+1)) KK ⟨t,s,c,[],none⟩ = .ok (.pan (jL x[o[i]].site 3)) ⟨t',s',c',[],none⟩∧Bad C K s c s' c') ∧
  (¬2000<sm.lk+1→∃t' s',zC (.seq La1.b (.seq La2.b (.seq La3.b (.seq La4.b La5.b)))) (cxn n) (fn n (j+1)) KK ⟨t,s,c,[],none⟩ = .ok .normal ⟨t',s',c+1,[],none⟩∧TI K By R4 dx w o.length i q8 t'∧tget t' 11 = .ptr c 0 ∧
   sget s' c=some (.fix 57 (bK x[o[i]]))∧sget s' K=some (C.blk sm.tick .nils)∧∀m,m≠c→m≠K→sget s' m=sget s m):=by
 obtain⟨q0,q1,q4,q5,Gi,q34,q35,q36⟩:=hT;have ia:=hw.ia1 hi (k:=.i64);have at1:=hw.at1 hi;have ix:=hx.ia ho (k:=.i64);have row:=hx.row ho;have kc:(K=c)=False:=aL (by omega)
 have ck:(c=K)=False:=aL (by omega)
 have Gq:=gW (a:=sm.lk) (by omega)
 unfold LkC.blk lrC at *;simp only[gU,bK]at *;refine⟨fun h=>?_,fun h=>?_⟩
 ·have hd:decide ((2000:Int)<((sm.lk+1:Nat):Int))=true:=aH (by omega)
  simp only[La1,La2,La3,La4,cI];simp only[z2,seval,q0,q1,q34,q36,ia,at1,ix,row,hK,kc,ck,Gq,hd,dP,nb,fS,show((3:Int)=0)=False from aL (by decide)]
  refine⟨_,_,_,rfl,Nat.le_succ _,fun m hm=>?_,⟨_,by rw[aU,aS rfl],rfl⟩,fun m m1 m2 m3=>?_⟩
  ·have Ei:c+1≤m:=hm;simp only[aU,aZ];rw[aG (by omega),aG (by omega),aG (by omega)];exact zX m (by omega)
  simp only[aU,aZ];rw[aG m2,aG (by omega),aG (by omega)]
 ·have hd:decide ((2000:Int)<((sm.lk+1:Nat):Int))=false:=aE (by omega)
  simp only[La1,La2,La3,La4,La5,cI];simp only[z2,seval,q0,q1,q34,q36,ia,at1,ix,row,hK,kc,ck,Gq,hd,dP,nb,fS];refine⟨_,_,rfl,⟨?_,?_,?_,?_,?_,?_,?_,?_⟩,?_,?_,?_,?_⟩
  ·simpa[aA]using q0
  ·simpa[aA]using q1
  ·simpa[aA]using q4
  ·simpa[aA]using q5
  ·simpa[aA]using Gi
  ·simpa[aA]using q34
  ·simpa[aA]using q35
  ·simpa[aA]using q36
  ·simp[aA]
  ·simp[aA,ck]
  ·simp[aA,Lk.tick]
  ·intro m h1 h2;simp only[aU,aZ,aG h1,aG h2]
theorem qC:sH 5 tlC:=⟨fun _=>rfl,by decide,fun _=>rfl,fun _ _ _ _=>rfl⟩
def zI(B:Nat)(s:St)(q:D)(st:List Tl):Prop:=(q = .nils∧st=[])∨∃m ty cs,B≤m∧q = .gs m 0 5 st.length∧sget s m=some (.grow ty cs)∧st.length*5≤cs.length∧cs.take (st.length*5)=cV tlC st.reverse
theorem zI.keep{s s':St}{q:D}(h:zI B s q st)(hs:∀m,B≤m→(∃b,sget s m=some b)→sget s' m=sget s m):zI B s' q st:=by
 rcases h with h|⟨m,ty,cs,h1,h2,h3,h4,h5⟩
 ·exact .inl h
 ·exact .inr ⟨m,ty,cs,h1,h2,by grind,h4,h5⟩
theorem slv_lo{m r:Nat}(h:r<L):pX 5 (.gs m 0 5 L) (some (.int .i64 (r:Nat))) none none=some (.gs m (r*5) 5 (L-r)):=by
 have hb:vH L (.int .i64 (r:Nat))=some r:=lF (by omega)
 simp only[pX,gH,aC,bE,hb,eQ,bG,bM];cases r with
 | zero=>simp
 | succ r=>grind [Nat.beq,Nat.blt,bO]
theorem slv_hi{m r:Nat}(h:r≤L):pX 5 (.gs m 0 5 L) none (some (.int .i64 (r:Nat))) none=some (.gs m 0 5 r):=by
 have hb:vH L (.int .i64 (r:Nat))=some r:=lF h
 grind [pX,gH,aC,eQ]
theorem part_cells{cs:List D}{a b:List Tl}(h1:(a.length+b.length)*5≤cs.length)(h2:cs.take ((a.length+b.length)*5)=cV tlC (a++b)):(cs.drop (a.length*5)).take (b.length*5)=cV tlC b∧cs.take (a.length*5)=cV tlC a:=by
 rw[rT]at h2;have la:=qC.cells_len a;generalize cV tlC a=x at *;generalize cV tlC b=y at *;have e1:cs.take (a.length*5)=x:=by
  have:=congrArg (List.take (a.length*5)) h2;rw[List.take_take,Nat.min_eq_left (by omega),←la,List.take_left]at this
  rw[←la];exact this
 grind [List.drop,List.drop_take,List.drop_left]
theorem gB0(n j:Nat){K i:Nat}{dx w q8:D}{t:Tm}(hT:TI K By R4 dx w L i q8 t)(Cr:tget t 11 = .ptr Kn 0){s:St}{c:Nat}{y:Nd}(hn:sget s Kn=some (.fix 57 (bK y)))(h5:y.kind≠5)(h6:y.kind≠6):
  ∃t',zC La6.b (cxn n) (fn n j) KK ⟨t,s,c,[],none⟩ = .ok .normal ⟨t',s,c,[],none⟩∧TI K By R4 dx w L i q8 t'∧tget t' 11 = .ptr Kn 0:=by
 obtain⟨q0,q1,q4,q5,Gi,q34,q35,q36⟩:=hT;unfold bK at hn;simp only[La6,cI];simp only[z2,seval,Cr,hn,aE h5,aE h6,nb];refine⟨_,rfl,⟨?_,?_,?_,?_,?_,?_,?_,?_⟩,?_⟩
 ·simpa[aA]using q0
 ·simpa[aA]using q1
 ·simpa[aA]using q4
 ·simpa[aA]using q5
 ·simpa[aA]using Gi
 ·simpa[aA]using q34
 ·simpa[aA]using q35
 ·simpa[aA]using q36
 ·simpa[aA]using Cr
theorem gB(n j:Nat)(C:LkC){K i:Nat}{dx w q8 q:D}{t:Tm}(hT:TI K By R4 dx w L i q8 t)(Cr:tget t 11 = .ptr Kn 0){s:St}{c:Nat}{y:Nd}(hn:sget s Kn=some (.fix 57 (bK y)))(Di:y.kind=5∨y.kind=6) 
  {st:List Tl} {k:Nat} (hk:k=1∨k=2) (Yc:y.kids=(k:Nat)) (Ek:k≤st.length) (hL:st.length<1000) {B:Nat} (hS:zI B s q8 st) (hKB:K<B) (Vp:Kn≠K) (hBc:B≤c) (hnc:Kn<c) {sm:Lk} (hK:sget s K=some (C.blk sm q)) (zX:kA s c) :
  ∃t' s' c' q',zC La6.b (cxn n) (fn n (j+1)) KK ⟨t,s,c,[],none⟩ = .ok .normal ⟨t',s',c',[],none⟩∧TI K By R4 dx w L i q' t'∧tget t' 11 = .ptr Kn 0∧zI B s' q' (st.drop k)∧c+1<c' ∧
   sget s' K=some (C.blk sm (.gs (c+1) 0 5 k))∧sget s' (c+1)=some (.grow 37 (cV tlC (st.take k)))∧(∀m,m<c→m≠K→sget s' m=sget s m)∧kA s' c':=by
 obtain⟨q0,q1,q4,q5,Gi,q34,q35,q36⟩:=hT;rcases hS with⟨_,rfl⟩|⟨m,ty,cs,hm,rfl,hs,hl,hc⟩
 ·grind
 have Ez:m<c:=eC fun h=>by rw[zX m h]at hs;cases hs
 have Ft:st.reverse=(st.drop k).reverse++(st.take k).reverse:=by simp_all
 have zU:(st.drop k).reverse.length+(st.take k).reverse.length=st.length:=by simp;omega
 have Ye:(st.drop k).reverse.length=st.length-k:=by simp
 have zQ:(st.take k).reverse.length=k:=by simp;omega
 rw[Ft,←zU]at hc;obtain⟨p1,p2⟩:=part_cells (a:=(st.drop k).reverse) (b:=(st.take k).reverse) (by omega) hc
 rw[Ye,zQ]at p1;rw[Ye]at p2;have Bv:bX .i64 ((st.length:Int)-(k:Int))=((st.length-k:Nat):Int):=by rw[cL (by omega) (by omega)];omega
 have lo:=slv_lo (m:=m) (L:=st.length) (r:=st.length-k) (by omega)
 rw[show st.length-(st.length-k)=k by omega]at lo
 have hi:=slv_hi (m:=m) (L:=st.length) (r:=st.length-k) (by omega)
 have Ma:cP (sadd s c (.fix 0 [])) 5 (.gs m ((st.length-k)*5) 5 k)=some (cV tlC (st.take k).reverse,k):=by
  have e:sget (sadd s c (.fix 0 [])) m=some (.grow ty cs):=by rw[aZ,aG (by omega),hs]
  simp only[cP,e,aC,bE,eR,eQ,Bool.true_and,bO (show(st.length-k)*5+k*5≤cs.length by omega),bG,p1]
 have h90:=f90 n j (p:=.gs m ((st.length-k)*5) 5 k) (by rcases hk with rfl|rfl<;>rfl) Ma hk
 obtain⟨s3,hs3⟩:∃s3,s3=sset (sadd (sadd s c (.fix 0 [])) (c+1) (.grow 37 (cV tlC (st.take k).reverse))) K (C.blk sm (.gs (c+1) 0 5 k)):=⟨_,rfl⟩
 have g3:∀a,sget s3 a=if a=K then some (C.blk sm (.gs (c+1) 0 5 k)) else if a=c+1 then some (.grow 37 (cV tlC (st.take k).reverse)) else if a=c then some (.fix 0 []) else sget s a:=fun a=>by grind [aU,aZ]
 have Yx:∃s4 c4,fn n (j+1) (.fn 91) [.gs (c+1) 0 5 k] s3 (c+1+1) = .ok (.ret (.tup [])) s4 c4∧c+1+1≤c4∧sget s4 (c+1)=some (.grow 37 (cV tlC (st.take k)))∧∀a,a≠c+1→sget s4 a=sget s3 a:=by
  rcases hk with rfl|rfl
  ·refine⟨s3,c+1+1,f91_1 n j s3 _,aK _,?_,fun _ _=>rfl⟩
   rw[g3,aG (by omega),aS rfl]
   match st,Ek with
   | a::r,_=>rfl
  ·match st,Ek with
   | a::b::r,_=>
    obtain⟨s4,h1,h2,h3⟩:=f91_2 n j (m:=c+1) (t:=b) (u:=a) (s:=s3) (c:=c+1+1) (by rw[g3,aG (by omega),aS rfl];rfl)
    exact⟨s4,_,h1,by omega,by rw[h2];rfl,h3⟩
 obtain⟨s4,c4,Yx,Pf,e4,o4⟩:=Yx;have k1:(K=c)=False:=aL (by omega)
 have k2:(K=c+1)=False:=aL (by omega)
 have h56':(decide (y.kind=5)||decide (y.kind=6))=true:=by grind
 have hKn:=hn;unfold LkC.blk lrC at hK hs3;unfold bK at hKn;have hfr4:kA s4 c4:=fun a ha=>by
  rw[o4 a (by omega),g3,aG (by omega),aG (by omega),aG (by omega)];exact zX a (by omega)
 have res:∀t',(TI K By R4 dx w L i (.gs m 0 5 (st.length-k)) t'∧tget t' 11 = .ptr Kn 0)→zC La6.b (cxn n) (fn n (j+1)) KK ⟨t,s,c,[],none⟩ = .ok .normal ⟨t',s4,c4,[],none⟩→∃t' s' c' q',zC La6.b (cxn n) (fn n (j+1)) KK ⟨t,s,c,[],none⟩ = .ok .normal ⟨t',s',c',[],none⟩∧TI K By R4 dx w L i q' t'∧tget t' 11 = .ptr Kn 0∧zI B s' q' (st.drop k)∧c+1<c' ∧
   sget s' K=some (C.blk sm (.gs (c+1) 0 5 k))∧sget s' (c+1)=some (.grow 37 (cV tlC (st.take k)))∧(∀m,m<c→m≠K→sget s' m=sget s m)∧kA s' c':=fun t' ht' hz=>
  ⟨t',s4,c4,_,hz,ht'.1,ht'.2,.inr ⟨m,ty,cs,hm,by grind,by grind,by grind,by grind⟩,by omega,
   by grind,e4,fun a ha An=>by grind,hfr4⟩
 have e3:sget s3 K=some (C.blk sm (.gs (c+1) 0 5 k)):=by grind
 unfold LkC.blk lrC at e3;have Ql:lenD false (.gs m 0 5 st.length)=some st.length:=rfl;rcases Di with h5|h6
 ·have hd5:=aH h5;refine res ?t ?_ ?_
  rotate_left 2
  ·simp only[La6,cI];simp only[z2,seval,q0,Gi,Cr,hKn,hd5,Yc,Ql,Bv,lo,h90,k1,k2,hK,dP,nb];rw[←hs3];simp only[z2,seval,q0,e3,Yx,hi,Gi,dP,nb];rfl
  ·refine⟨⟨?_,?_,?_,?_,?_,?_,?_,?_⟩,?_⟩
   ·simpa[aA]using q0
   ·simpa[aA]using q1
   ·simpa[aA]using q4
   ·simpa[aA]using q5
   ·simp[aA]
   ·simpa[aA]using q34
   ·simpa[aA]using q35
   ·simpa[aA]using q36
   ·simpa[aA]using Cr
 ·have hd5:=aE (show ¬y.kind=5 by omega)
  have hd6:=aH h6;refine res ?u ?_ ?_
  rotate_left 2
  ·simp only[La6,cI];simp only[z2,seval,q0,Gi,Cr,hKn,hd5,hd6,Yc,Ql,Bv,lo,h90,k1,k2,hK,dP,nb];rw[←hs3];simp only[z2,seval,q0,e3,Yx,hi,Gi,dP,nb];rfl
  ·refine⟨⟨?_,?_,?_,?_,?_,?_,?_,?_⟩,?_⟩
   ·simpa[aA]using q0
   ·simpa[aA]using q1
   ·simpa[aA]using q4
   ·simpa[aA]using q5
   ·simp[aA]
   ·simpa[aA]using q34
   ·simpa[aA]using q35
   ·simpa[aA]using q36
   ·simpa[aA]using Cr
theorem setAt_mid{α:Type}:∀(pre mid post vs:List α),mid.length=vs.length→fJ (pre++(mid++post)) pre.length vs=pre++(vs++post)
 | pre,[],post,[],_=>by simp[fJ]
 | _,[],_,_::_,h=>by simp at h
 | _,_::_,_,[],h=>by simp at h
 | pre,c::cs,post,v::vs,h=>by
  have:=setAt_mid (pre++[v]) cs post vs (by simpa using h)
  simp only[fJ];rw[show(pre++(c::cs++post)).set pre.length v=(pre++[v])++(cs++post) by simp]
  simpa using this
theorem stk_app{tm:Tm}{s:St}{c nb:Nat}{dd:List (D×List D)}{r:Option Nat}{q:D}{u:Tl}(h:zI B s q st)(hb:sget s nb=some (.fix 0 (tlC u)))(hB:B≤c)(zX:kA s c)(hl:st.length<1000):
  ∃q' s' c',iS ⟨tm,s,c,dd,r⟩ 5 40 37 q (.ms nb 0 5 1 1)=some (q',⟨tm,s',c',dd,r⟩)∧zI B s' q' (u::st)∧c≤c'∧kA s' c'∧∀m,m<c→(m<B∨∀ty cs,sget s m≠some (.grow ty cs))→sget s' m=sget s m:=by
 have hc:cP s 5 (.ms nb 0 5 1 1)=some (tlC u,1):=by simp only[cP,hb];rfl
 have Lb:∀k,k≤4294967296→room k 40=true:=fun k hk=>by unfold room;rw[bO hk];rfl
 have Cs:(tlC u).length=5:=rfl;unfold iS;simp only;rw[hc];simp only[aC,bE];rcases h with⟨rfl,rfl⟩|⟨m,ty,cs,hm,rfl,hs,Ac,zY⟩
 ·refine⟨.gs c 0 5 1,sadd s c (.grow 37 (tlC u)),c+1,rfl,.inr ⟨c,37,tlC u,hB,rfl,by rw[aZ,aS rfl],by simp[Cs],rfl⟩,by omega,fun m hm=>by rw[aZ,aG (by omega)];exact zX m (by omega),fun m hm _=>by rw[aZ,aG (by omega)]⟩
 ·have Ez:m<c:=eC fun h=>by rw[zX m h]at hs;cases hs
  have Tq:(tlC u).any eG=false:=rfl;have hcu:cV tlC (u::st).reverse=cV tlC st.reverse++tlC u:=by rw[List.reverse_cons,rT];simp[cV]
  simp only[hs,show Nat.beq 1 0=false from rfl,cO,eQ,Tq,aW,Bool.and_true,bG,bM]
  by_cases Et:(st.length+1)*5≤cs.length
  ·rw[bO Et,bG];have e0:cs=cs.take (st.length*5)++((cs.drop (st.length*5)).take 5++cs.drop (st.length*5+5)):=by
    rw[←List.drop_drop,List.take_append_drop,List.take_append_drop]
   have l0:(cs.take (st.length*5)).length=st.length*5:=by rw[eI];omega
   have l1:((cs.drop (st.length*5)).take 5).length=(tlC u).length:=by rw[eI,gP,Cs];omega
   have Cm:fJ cs (st.length*5) (tlC u)=cs.take (st.length*5)++(tlC u++cs.drop (st.length*5+5)):=by
    have:=setAt_mid (cs.take (st.length*5)) ((cs.drop (st.length*5)).take 5) (cs.drop (st.length*5+5)) (tlC u) l1;rw[←e0,l0]at this;exact this
   have zZ:stB (.grow ty cs) (st.length*5) (tlC u)=some (.grow ty (fJ cs (st.length*5) (tlC u))):=by
    simp only[stB,Tq,cO,Cs,bO (show st.length*5+5≤cs.length by omega),bG]
   rw[zZ];refine⟨_,_,_,rfl,.inr ⟨m,ty,_,hm,rfl,by rw[aU,aS rfl],?_,?_⟩,aK _,fun a ha=>by rw[aU,aG (by omega)];exact zX a ha,fun a ha hn=>?_⟩
   ·rw[Cm];simp only[dZ,l0,Cs,gP,aO];omega
   ·rw[Cm,zY,hcu,←List.append_assoc,aO];refine List.take_left' ?_;rw[←zY,dZ,l0,Cs];omega
   ·rw[aU];split
    ·rename_i e;rw[e]at hn;exact hn.elim (by omega) fun hn=>absurd hs (hn _ _)
    ·rfl
  ·have Qk:Nat.ble ((st.length+1)*5) cs.length=false:=by rw[←gI,Nat.ble_eq];exact Et
   rw[Qk,cO,bO Ac,Lb (st.length+1) (by omega)]
   refine⟨_,_,_,rfl,.inr ⟨c,_,_,hB,rfl,by rw[aZ,aS rfl],?_,?_⟩,Nat.le_succ _,fun a ha=>?_,fun a ha hn=>?_⟩
   ·simp only[dZ,eI,Cs,aO];omega
   ·rw[hcu,zY];refine cS ?_;rw[←zY,dZ,eI,Cs,aO];omega
   ·have Fl:c+1≤a:=ha;rw[aZ,aG (by omega),hU]
    split
    ·rfl
    ·exact zX a (by omega)
   ·rw[aZ,aG (by omega),hU]
    split
    ·rename_i e;rw[e]at hn;exact hn.elim (by omega) fun hn=>absurd hs (hn _ _)
    ·rfl
def byE(K:Nat):List vI:=[(.int .i64 1,.fn (.func 83) [.ptr K 0] [],0),(.int .i64 3,.fn (.func 84) [.ptr K 0] [],1),(.int .i64 2,.fn (.func 85) [.ptr K 0] [],2),(.int .i64 4,.fn (.func 86) [.ptr K 0] [],3),(.int .i64 5,.fn (.func 87) [.ptr K 0] [],4),(.int .i64 6,.fn (.func 88) [.ptr K 0] [],5)]
def byF(k:Int):Nat:=if k=1 then 83 else if k=3 then 84 else if k=2 then 85 else if k=4 then 86 else if k=5 then 87 else 88
theorem by_find{k:Int}(h:1≤k∧k≤6)(K:Nat):∃p,mfind .int (.int .i64 k) (byE K) 0=some (some (p,.fn (.func (byF k)) [.ptr K 0] [])):=by
 have:k=1∨k=2∨k=3∨k=4∨k=5∨k=6:=by omega
 rcases this with rfl|rfl|rfl|rfl|rfl|rfl<;>exact⟨_,rfl⟩
structure SI (C:LkC) (K By R4 B:Nat) (s0:St) (c0:Nat) (sm:Lk) (st:List Tl) (q8 q:D) (s:St) (c:Nat):Prop where
 hK:sget s K=some (C.blk sm q)
 hM:sget s C.M=some (.mp (mpE 0 sm.lm) sm.lm.length)
 hBy:sget s By=some (.mp (byE K) 6)
 hR:sget s R4=some (.fix 37 ty0)
 old:∀m,m<c0→m≠K→m≠C.M→sget s m=sget s0 m
 stk:zI B s q8 st
 fr:kA s c
 le:B≤c
 nag:eG q=false
structure PI (C:LkC) (K By R4 B c0:Nat):Prop where
 pK:K<c0
 pM:C.M<c0
 pKM:K≠C.M
 pR:c0≤R4
 pBy:R4<By
 pB:By<B
structure Cal (C:LkC) (K:Nat) (sm:Lk) (q:D) (s:St) (c:Nat) (s':St) (c':Nat):Prop where
 le:c≤c'
 hK:sget s' K=some (C.blk sm q)
 hM:sget s' C.M=some (.mp (mpE 0 sm.lm) sm.lm.length)
 old:∀m,m<c→m≠K→m≠C.M→sget s' m=sget s m
 fr:kA s' c'
 nag:eG q=false
theorem SI.cal{C:LkC}{K c0:Nat}{s0:St}{sm Bx:Lk}{q8 q q':D}{s s':St}{c:Nat}(h:SI C K By R4 B s0 c0 sm st q8 q s c)(hP:PI C K By R4 B c0)(g:Cal C K Bx q' s c s' c'):SI C K By R4 B s0 c0 Bx st q8 q' s' c':=by
 obtain⟨p1,p2,p3,p4,p5,p6⟩:=hP;have Ac:=h.le;have gle:=g.le;refine⟨g.hK,g.hM,by rw[g.old _ (by omega) (by omega) (by omega),h.hBy],by rw[g.old _ (by omega) (by omega) (by omega),h.hR],fun m h1 h2 h3=>by rw[g.old m (by omega) h2 h3,h.old m h1 h2 h3],h.stk.keep fun m hm hb=>g.old m ?_ (by omega) (by omega),g.fr,by omega,g.nag⟩
 exact eC fun hc=>by obtain⟨b,hb⟩:=hb;rw[h.fr m hc]at hb;cases hb
theorem gC(n j:Nat)(C:LkC){K c0 i:Nat}{dx w q8 q:D}{t:Tm}(hT:TI K By R4 dx w L i q8 t)(Cr:tget t 11 = .ptr Kn 0){s s0:St}{c:Nat}{y:Nd}(hn:sget s Kn=some (.fix 57 (bK y)))(Ht:B≤Kn)(hk:1≤y.kind∧y.kind≤6) 
  {sm Bx:Lk} {st:List Tl} (hS:SI C K By R4 B s0 c0 sm st q8 q s c) (hP:PI C K By R4 B c0) (hl:st.length<1000) {u:Tl} {s1:St} {c1:Nat} {q1:D} (hc:fn n j (.fn (byF y.kind)) [.ptr K 0,.agg (bK y)] s c = .ok (.ret (.agg (tlC u))) s1 c1) (hC:Cal C K Bx q1 s c s1 c1) :
  ∃t' s' c' q',zC La7.b (cxn n) (fn n j) KK ⟨t,s,c,[],none⟩ = .ok .normal ⟨t',s',c',[],none⟩∧TI K By R4 dx w L i q' t'∧tget t' 11 = .ptr Kn 0∧sget s' Kn=some (.fix 57 (bK y))∧SI C K By R4 B s0 c0 Bx (u::st) q' q1 s' c':=by
 obtain⟨q0,Nr,q4,q5,Gi,q34,q35,q36⟩:=hT;obtain⟨p,hf⟩:=by_find hk K;have hB:=hS.hBy;have h1:=hS.cal hP hC;obtain⟨p1,p2,p3,p4,p5,p6⟩:=hP;have Ac:=hS.le;have hle1:=hC.le;have hKnc:Kn<c:=eC fun h=>by rw[hS.fr _ h]at hn;cases hn
 have Ey:sget s1 Kn=some (.fix 57 (bK y)):=by rw[hC.old _ hKnc (by omega) (by omega),hn]
 have Zi:zI B (sadd s1 c1 (.fix 0 (tlC u))) q8 st:=h1.stk.keep fun m hm hb=>by
  rw[aZ,aG];rintro rfl;obtain⟨b,hb⟩:=hb;rw[h1.fr m (aK _)]at hb;cases hb
 obtain⟨T8,hT8⟩:∃T8,T8=tput (tput (tput (tput (tput (tput (tput (tput t 90 q8) 91 (.mp By)) 92 (.ptr Kn 0)) 93 (.int .i64 y.kind)) 94 (.fn (.func (byF y.kind)) [.ptr K 0] [])) 95 (.agg (bK y))) 96 (.agg (tlC u))) 97 (.ms c1 0 5 1 1):=⟨_,rfl⟩
 obtain⟨q',s',c',ha,zZ,Bw,Dn,ho⟩:=stk_app (tm:=T8) (dd:=[]) (r:=none) (nb:=c1) (c:=c1+1) (u:=u) Zi (by grind [aZ]) (by omega) (fun m hm=>by rw[aZ,aG (by omega)];exact h1.fr m (by omega)) hl
 have gg:∀m,m<c1→(m<B∨∀ty cs,sget s1 m≠some (.grow ty cs))→sget s' m=sget s1 m:=fun m hm hg=>by
  grind [aZ]
 have Pb:∀m b,sget s1 m=some b→(∀ty cs,b≠.grow ty cs)→sget s' m=some b:=fun m b hb An=>by
  rw[gg m (eC fun h=>by rw[h1.fr m h]at hb;cases hb) (.inr fun ty cs h=>by grind),hb]
 have hSI:SI C K By R4 B s0 c0 Bx (u::st) q' q1 s' c':=⟨Pb _ _ h1.hK (fun _ _ h=>by cases h),Pb _ _ h1.hM (fun _ _ h=>by cases h),Pb _ _ h1.hBy (fun _ _ h=>by cases h),Pb _ _ h1.hR (fun _ _ h=>by cases h),?_,zZ,Dn,by omega,hC.nag⟩
 refine⟨tput (tput T8 98 q') 8 q',s',c',q',?_,⟨?_,?_,?_,?_,?_,?_,?_,?_⟩,?_,Pb _ _ Ey (fun _ _ h=>by cases h),hSI⟩
 ·simp only[La7,cI];unfold tlC tyC tl bK at *;simp only[z0,seval,q0,q5,Gi,Cr,hn,hB,hf,jB,cA,cK,dG,hc];rw[←hT8,ha];simp only[z0,seval]
 ·simpa[aA,hT8]using q0
 ·simpa[aA,hT8]using Nr
 ·simpa[aA,hT8]using q4
 ·simpa[aA,hT8]using q5
 ·simp[aA]
 ·simpa[aA,hT8]using q34
 ·simpa[aA,hT8]using q35
 ·simpa[aA,hT8]using q36
 ·simpa[aA,hT8]using Cr
 ·intro m m1 m2 m3;rw[gg m (by omega) (.inl (by omega)),h1.old m m1 m2 m3]
structure VO (us:List Nat) (C:LkC) (K:Nat) (s0:St) (c0:Nat) (vs:List Vr):Prop where
 nag:eG C.v=false
 fz:∃w,Sl 6 vrC vs w∧∀s2,(∀m,m<c0→m≠K→m≠C.M→sget s2 m=sget s0 m)→∀k,frz false (k+2) s2 C.v=some w
 len:vs.length<9223372036854775807
 good:∀x∈vs,tyE us (gY us) x.ty=0
def jY(C:LkC)(K:Nat)(r:Lo (Tl×Lk))(f:FR)(s:St)(c:Nat):Prop:=match r with
 | .ok p=>∃s1 c1 q1,f = .ok (.ret (.agg (tlC p.1))) s1 c1∧Cal C K p.2 q1 s c s1 c1
 | .bad a e=>∃s1 c1,f = .ok (.pan (jL a e)) s1 c1∧Bad C K s c s1 c1
theorem Bad.of{C:LkC}{K:Nat}{sm:Lk}{q:D}{s s':St}{c:Nat}(hA:Aft s c s' c')(hK:sget s K=some (C.blk sm q))(Al:K<c):Bad C K s c s' c':=⟨hA.le,hA.free,⟨_,by rw[hA.old K Al,hK];rfl,rfl⟩,fun m hm _ _=>hA.old m hm⟩
theorem Cal.of{C:LkC}{K:Nat}{sm:Lk}{q:D}{s s':St}{c:Nat}(hA:Aft s c s' c')(hK:sget s K=some (C.blk sm q))(hM:sget s C.M=some (.mp (mpE 0 sm.lm) sm.lm.length))(Al:K<c)(Jd:C.M<c)(hq:eG q=false):Cal C K sm q s c s' c':=
 ⟨hA.le,by rw[hA.old K Al,hK],by rw[hA.old _ Jd,hM],fun m hm _ _=>hA.old m hm,hA.free,hq⟩
theorem frz_arg{s:St}{c:Nat}(zX:kA s c){ts:List Tl}{a:Nat}(ha:sget s a=some (.grow 37 (cV tlC ts))):∀s2,(∀m,m<c→sget s2 m=sget s m)→∀k,frz false (k+2) s2 (.gs a 0 5 ts.length)=some (yZ ts):=by
 intro s2 hs k;have Ph:a<c:=eC fun h=>by rw[zX a h]at ha;cases ha
 rw[lP,hs a Ph,ha];simp only[bM,gQ];rw[bO (by rw[qC.cells_len];exact aK _),bG,cS (by rw[qC.cells_len];exact aK _),qC.cells_frz];rfl
section
variable (n j:Nat) {C:LkC} {K:Nat} {sm:Lk} {q:D} {s:St} {c:Nat} (hK:sget s K=some (C.blk sm q)) (hM:sget s C.M=some (.mp (mpE 0 sm.lm) sm.lm.length)) (Al:K<c) (Jd:C.M<c) (zX:kA s c) (Jl:eG q=false) (y:Nd)
include hK hM Al Jd zX Jl
theorem look_num:jY C K (.ok (⟨1,0,C.low,C.low,C.low⟩,sm)) (fn (n+1) (j+2) (.fn 83) [.ptr K 0,.agg (bK y)] s c) s c:=by
 obtain⟨s',c',h1,h2⟩:=f83 n j hK Al zX y;exact⟨s',c',q,h1,Cal.of h2 hK hM Al Jd Jl⟩
theorem look_list:jY C K (.ok (⟨1,1,C.low,C.low,C.low⟩,sm)) (fn (n+1) (j+3) (.fn 84) [.ptr K 0,.agg (bK y)] s c) s c:=by
 obtain⟨s',c',h1,h2⟩:=f84 n j hK Al zX y;exact⟨s',c',q,h1,Cal.of h2 hK hM Al Jd Jl⟩
theorem look_text:jY C K (.ok (⟨2,1,C.low,C.low,C.low⟩,sm)) (fn (n+1) (j+3) (.fn 85) [.ptr K 0,.agg (bK y)] s c) s c:=by
 obtain⟨s',c',h1,h2⟩:=f85 n j hK Al zX y;exact⟨s',c',q,h1,Cal.of h2 hK hM Al Jd Jl⟩
theorem look_name{us:List Nat}{vs:List Vr}(hV:VO us C K s c vs):jY C K (nameM vs y sm) (fn (n+1) (j+3) (.fn 86) [.ptr K 0,.agg (bK y)] s c) s c:=by
 obtain⟨w,hw,hz⟩:=hV.fz;have ho:=ofD_find vs y.name;unfold nameM;cases hf:vs.find? (fun v=>decide (v.name=y.name)) with
 | none=>
  rw[hf]at ho;obtain⟨s',c',h1,h2⟩:=f86 n j hK Al zX hV.nag (fun s2 hs=>hz s2 fun m hm _ _=>hs m hm) hw hV.len y ho
  exact⟨s',c',h1,Bad.of h2 hK Al⟩
 | some v=>
  rw[hf]at ho;obtain⟨s',c',h1,h2⟩:=f86 n j hK Al zX hV.nag (fun s2 hs=>hz s2 fun m hm _ _=>hs m hm) hw hV.len y ho
  have hg:=tl_toT (hV.good v (List.mem_of_find?_eq_some hf));refine⟨s',c',q,?_,Cal.of h2 hK hM Al Jd Jl⟩;show _=FR.ok (.ret (.agg (tyC (tl (toT v.ty))))) s' c';rw[hg.1];exact h1
theorem look_prim{ss:List (List UInt8)}{us:List Nat}(h:Lt ss us C.d C.e){ts:List Tl}{a:Nat}(hq:q = .gs a 0 5 ts.length)(ha:sget s a=some (.grow 37 (cV tlC ts)))(hl:ts.length=1∨ts.length=2)(hg:∀t∈ts,TG us t)(hp:C.pc<us.length)(Hb:sm.ec<us.length):
  jY C K (vN ⟨us,C.low,C.pc,RDl n C.d C.e⟩ y ts sm) (fn (n+13) (j+3) (.fn 87) [.ptr K 0,.agg (bK y)] s c) s c:=by
 obtain⟨ty,w,cc,er,h1,h2,h3⟩:=rd_ok n h y.prim hl hg;have hz:=frz_arg zX ha;rw[←hq]at hz;unfold vN;simp only[h1];by_cases h0:er=0
 ·subst h0;obtain⟨⟨w',rfl,hw⟩,⟨c',rfl,hc⟩⟩:=h3 rfl;obtain⟨s',c1,e1,e2,e3⟩:=f87 n j h hK Al zX Jl hz y hp Hb hw hc h2;rw[aG (fun h=>h rfl)]
  by_cases hE:tyE us (gY us) ty=0
  ·rw[aG (fun h=>h hE)]
   rw[aS hE]at e1;have hA:=e2 hE;have hg:=tl_toT hE;have hM2:C.M≠K:=by rintro e;rw[←e,hM]at hK;cases hK
   refine⟨s',c1,q,?_,⟨hA.le,by rw[hA.old K Al,aU,aS rfl];rfl,by rw[hA.old _ Jd,aU,aG hM2,hM],fun m hm h1 _=>by rw[hA.old m hm,aU,aG h1],hA.free,Jl⟩⟩
   show _=FR.ok (.ret (.agg (tyC (tl (toT ty))))) s' c1;rw[hg.1];exact e1
  ·rw[aS hE];rw[aG hE]at e1;have hA:=e3 hE;exact⟨s',c1,e1,hA.le,hA.free,⟨_,by rw[hA.old K Al,aU,aS rfl],rfl⟩,fun m hm h1 _=>by rw[hA.old m hm,aU,aG h1]⟩
 ·rw[aS h0];obtain⟨s',c1,e1,h2⟩:=f87e n j h hK Al zX Jl hz y h2 h0;exact⟨s',c1,e1,Bad.of h2 hK Al⟩
end
end
end Zv
namespace Zv
open Go Ab
noncomputable section
theorem qF(r:R)(f g:AS→R):zbind (zbind r f) g=zbind r fun x=>zbind (f x) g:=by
 cases r with
 | no=>rfl
 | ok o x=>cases o<;>rfl
theorem xA(a b:AC)(cx:Cx)(cl:CL)(k:Nat):zC (.seq a b) cx cl k=fun x=>zbind (zC a cx cl k x) (zC b cx cl k):=rfl
def LaB:AC:=s La1.b (s La2.b (s La3.b (s La4.b (s La5.b (s La6.b (s La7.b (s La8.b La9.b)))))))
theorem LaB_4(cx:Cx)(cl:CL)(k:Nat)(x:AS):zC LaB cx cl k x=zbind (zC (.seq La1.b (.seq La2.b (.seq La3.b La4.b))) cx cl k x) (zC (.seq La5.b (.seq La6.b (.seq La7.b (.seq La8.b La9.b)))) cx cl k):=by
 simp only[LaB,Ab.abq];simp only[xA,qF]
theorem LaB_5(cx:Cx)(cl:CL)(k:Nat)(x:AS):zC LaB cx cl k x=zbind (zC (.seq La1.b (.seq La2.b (.seq La3.b (.seq La4.b La5.b)))) cx cl k x) fun y=>zbind (zC La6.b cx cl k y) fun y=>zbind (zC La7.b cx cl k y) (zC (.seq La8.b La9.b) cx cl k):=by
 simp only[LaB,Ab.abq];simp only[xA,qF]
structure SG (us:List Nat) (sm:Lk):Prop where
 ec:sm.ec<us.length
 lb:wT us sm.lm
 lk:sm.lk≤2000
theorem gM(n j:Nat){ss:List (List UInt8)}{us:List Nat}(C:LkC)(h:Lt ss us C.d C.e)(hp:C.pc<us.length){K By R4 B c0 L i Kn:Nat}{dx w q8 q:D}{t:Tm}(hT:TI K By R4 dx w L i q8 t)(Cr:tget t 11 = .ptr Kn 0){s s0:St}{c:Nat}{y:Nd}(hn:sget s Kn=some (.fix 57 (bK y)))
  {sm:Lk} {st:List Tl} (hS:SI C K By R4 B s0 c0 sm st q8 q s c) (hP:PI C K By R4 B c0) (hg:sm.ec<us.length) (hb:wT us sm.lm) (R:Int→List Tl→Ty×Int×Int×Int) :
  ∃t' s' c',zC (.seq La8.b La9.b) (cxn (n+1)) (fn (n+1) (j+3)) KK ⟨t,s,c,[],none⟩ = .ok .normal ⟨t',s',c',[],none⟩∧TI K By R4 dx w L i q8 t'∧SI C K By R4 B s0 c0 (if y.kind=6 then sm else sm.mark ⟨us,C.low,C.pc,R⟩ y.site) st q8 q s' c':=by
 obtain⟨q0,Nr,q4,q5,Gi,q34,q35,q36⟩:=hT;obtain⟨p1,p2,p3,p4,p5,p6⟩:=hP;have Ac:=hS.le;unfold bK at hn;by_cases h6:y.kind=6
 ·rw[aS h6];simp only[La8,La9,cI];have hd:decide (y.kind≠6)=false:=by simp[h6]
  simp only[z0,seval,Cr,hn,hd];refine⟨_,_,_,rfl,⟨?_,?_,?_,?_,?_,?_,?_,?_⟩,hS⟩
  ·simpa[aA]using q0
  ·simpa[aA]using Nr
  ·simpa[aA]using q4
  ·simpa[aA]using q5
  ·simpa[aA]using Gi
  ·simpa[aA]using q34
  ·simpa[aA]using q35
  ·simpa[aA]using q36
 ·rw[aG h6];have hd:decide (y.kind≠6)=true:=by simp[h6]
  obtain⟨c1,Dt,h92⟩:=f92 n j h (K:=K) (M:=C.M) (s:=s) (c:=c) hS.hK hS.hM hp hg hb y.site;simp only[La8,La9,cI];simp only[z0,seval,Cr,hn,hd,q0,h92];refine⟨_,_,_,rfl,⟨?_,?_,?_,?_,?_,?_,?_,?_⟩,?_⟩
  ·simpa[aA]using q0
  ·simpa[aA]using Nr
  ·simpa[aA]using q4
  ·simpa[aA]using q5
  ·simpa[aA]using Gi
  ·simpa[aA]using q34
  ·simpa[aA]using q35
  ·simpa[aA]using q36
  ·refine⟨by rw[aU,aG (by omega),hS.hK];rfl,by rw[aU,aS rfl];rfl,by rw[aU,aG (by omega),hS.hBy],by rw[aU,aG (by omega),hS.hR],fun m m1 m2 m3=>by rw[aU,aG m3,hS.old m m1 m2 m3],hS.stk.keep fun m hm _=>by rw[aU,aG (by omega)],fun m hm=>by rw[aU,aG (by omega)];exact hS.fr m (by omega),by omega,hS.nag⟩
end
end Zv
namespace Zv
open Go
noncomputable section
variable {us:List Nat} {s1 s':St} {c1 B D1:Nat} {ss:List (List UInt8)} {fs:List Fd} {sm:Lk} {ts:List Tl}
theorem VO.go{C:LkC}{K:Nat}{s0 s:St}{c0 c:Nat}{vs:List Vr}(h:VO us C K s0 c0 vs)(hs:∀m,m<c0→m≠K→m≠C.M→sget s m=sget s0 m)(hc:c0≤c):VO us C K s c vs:=by
 obtain⟨w,hw,hz⟩:=h.fz;exact⟨h.nag,⟨w,hw,fun s2 h2=>hz s2 fun m m1 m2 m3=>by grind⟩,h.len,h.good⟩
theorem gCp(n j:Nat)(C:LkC){K By R4 L i Kn:Nat}{dx w q8:D}{t:Tm}(hT:TI K By R4 dx w L i q8 t)(Cr:tget t 11 = .ptr Kn 0){s:St}{c:Nat}{y:Nd}(hn:sget s Kn=some (.fix 57 (bK y)))(hk:1≤y.kind∧y.kind≤6)(hB:sget s By=some (.mp (byE K) 6)){ch:Ch} 
  (hc:fn n j (.fn (byF y.kind)) [.ptr K 0,.agg (bK y)] s c = .ok (.pan ch) s1 c1):∃t',zC La7.b (cxn n) (fn n j) KK ⟨t,s,c,[],none⟩ = .ok (.pan ch) ⟨t',s1,c1,[],none⟩:=by
 obtain⟨q0,Nr,q4,q5,Gi,q34,q35,q36⟩:=hT;obtain⟨p,hf⟩:=by_find hk K;simp only[La7,cI];unfold bK at *;simp only[z0,seval,q0,q5,Gi,Cr,hn,hB,hf,jB,cA,cK,dG,hc]
 grind
structure CI (us:List Nat) (C:LkC) (K:Nat) (sm:Lk) (vs:List Vr) (ts:List Tl) (s:St) (c:Nat):Prop where
 a:∃a,sget s K=some (C.blk sm (.gs a 0 5 ts.length))∧sget s a=some (.grow 37 (cV tlC ts))
 hM:sget s C.M=some (.mp (mpE 0 sm.lm) sm.lm.length)
 kc:K<c
 mc:C.M<c
 fr:kA s c
 v:VO us C K s c vs
 l:ts.length=1∨ts.length=2
 g:∀t∈ts,TG us t
def Stp(C:LkC)(K By R4 B c0:Nat)(s0:St)(dx w:D)(L i:Nat)(r:Lo (List Tl×Lk))(z:R):Prop:=match r with
 | .ok p=>∃t s c q8 q,z = .ok .normal ⟨t,s,c,[],none⟩∧TI K By R4 dx w L i q8 t∧SI C K By R4 B s0 c0 p.2 p.1 q8 q s c
 | .bad a e=>∃t s c,z = .ok (.pan (jL a e)) ⟨t,s,c,[],none⟩∧Bad C K s0 c0 s c
theorem node_step(n j:Nat)(C:LkC)(h:Lt ss us C.d C.e)(hp:C.pc<us.length){K By R4 c0:Nat}{s0:St}(hP:PI C K By R4 B c0){x:List Nd}{o:List Nat}{dx w:D}(hx:Sl 7 bK x dx)(hw:Sl 1 gU o w){i:Nat}(hi:i<o.length)(ho:o[i]<x.length) 
  {vs:List Vr} (hV:VO us C K s0 c0 vs) {fs:List Fd} {cal:Nat→List Vr→Lk→Lo (Tl×Lk)} {q8 q:D} {t:Tm} (hT:TI K By R4 dx w o.length i q8 t) {s:St} {c:Nat} {sm:Lk} {st:List Tl} (hS:SI C K By R4 B s0 c0 sm st q8 q s c) (hG:SG us sm) (zZ:∀u∈st,TG us u) (Km:st.length<1000)
  (hy:qM x[o[i]]) (hk:1≤x[o[i]].kind∧x[o[i]].kind≤6) (Ex:opN x[o[i]]≤st.length)
  (Gp:¬2000<sm.lk+1→∀p,mY ⟨us,C.low,C.pc,RDl n C.d C.e⟩ cal fs vs x[o[i]] (st.take (opN x[o[i]])) sm.tick = .ok p→p.2.ec<us.length∧wT us p.2.lm)
  (Au:¬2000<sm.lk+1→x[o[i]].kind=6→∀s c,CI us C K sm.tick vs (st.take (opN x[o[i]])) s c→jY C K (wN ⟨us,C.low,C.pc,RDl n C.d C.e⟩ cal fs x[o[i]] (st.take (opN x[o[i]])) sm.tick) (fn (n+13) (j+3) (.fn 88) [.ptr K 0,.agg (bK x[o[i]])] s c) s c) :
  Stp C K By R4 B c0 s0 dx w o.length i (oR ⟨us,C.low,C.pc,RDl n C.d C.e⟩ cal fs vs x[o[i]] st sm) (zC LaB (cxn (n+13)) (fn (n+13) (j+3)) KK ⟨t,s,c,[],none⟩):=by
 obtain⟨Lh,hA2⟩:=gA (n+13) (j+2) C (c:=c) hx hw hi ho hT hS.hK (by have:=hP.pK;have:=hP.pR;have:=hP.pBy;have:=hP.pB;have:=hS.le;omega) hS.fr hG.lk
 rw[show j+2+1=j+3 from rfl]at Lh hA2
 generalize x[o[i]]=y at *;unfold oR;by_cases hb:2000<sm.lk+1
 ·rw[aS hb];obtain⟨t',s',c',hz,hB⟩:=Lh hb;refine⟨t',s',c',?_,by have:=hB.le;have:=hP.pR;have:=hP.pBy;have:=hP.pB;have:=hS.le;omega,hB.fr,hB.hK,fun m m1 m2 m3=>by rw[hB.old m (by have:=hP.pR;have:=hP.pBy;have:=hP.pB;have:=hS.le;omega) m2 m3,hS.old m m1 m2 m3]⟩
  rw[LaB_4];exact congrArg (fun r=>zbind r _) hz
 rw[aG hb];obtain⟨t1,s1,Cl,hT1,Cr,Ey,Wu,ho1⟩:=hA2 hb;obtain⟨p1,p2,p3,p4,p5,p6⟩:=hP;have hP:PI C K By R4 B c0:=⟨p1,p2,p3,p4,p5,p6⟩;have Ac:=hS.le
 have Hd:SI C K By R4 B s0 c0 sm.tick st q8 .nils s1 (c+1):=⟨Wu,by rw[ho1 C.M (by omega) (by omega),hS.hM];rfl,by rw[ho1 By (by omega) (by omega),hS.hBy],by rw[ho1 R4 (by omega) (by omega),hS.hR],fun m m1 m2 m3=>by rw[ho1 m (by omega) m2,hS.old m m1 m2 m3],hS.stk.keep fun m hm ⟨b,hb⟩=>ho1 m (fun e=>by rw[e,hS.fr c (aK _)]at hb;cases hb) (by omega),fun m hm=>by rw[ho1 m (by omega) (by omega)];exact hS.fr m (by omega),by omega,rfl⟩
 have Sh:sm.tick.ec<us.length:=hG.ec;have Be:wT us sm.tick.lm:=hG.lb
 -- the operands
 have hB:∃t2 s2 c2 q2 Zn,zC La6.b (cxn (n+13)) (fn (n+13) (j+3)) KK ⟨t1,s1,c+1,[],none⟩ = .ok .normal ⟨t2,s2,c2,[],none⟩∧TI K By R4 dx w o.length i q2 t2∧tget t2 11 = .ptr c 0∧sget s2 c=some (.fix 57 (bK y))∧SI C K By R4 B s0 c0 sm.tick (st.drop (opN y)) q2 Zn s2 c2 ∧
   (y.kind=5∨y.kind=6→∃a,Zn = .gs a 0 5 (st.take (opN y)).length∧sget s2 a=some (.grow 37 (cV tlC (st.take (opN y))))∧((st.take (opN y)).length=1∨(st.take (opN y)).length=2)):=by
  by_cases Di:y.kind=5∨y.kind=6
  ·have Nw:=hy.kp Di;have Me:opN y=y.kids.toNat:=by unfold opN fO;rw[aS Di]
   have hk12:opN y=1∨opN y=2:=by rw[Me];omega
   have Yc:y.kids=(opN y:Nat):=by rw[Me];omega
   have Kd:(st.take (opN y)).length=opN y:=by rw[eI];omega
   obtain⟨t2,s2,c2,q2,e1,e2,e3,e4,e5,e6,e7,e8,e9⟩:=gB (n+13) (j+2) C hT1 Cr Ey Di hk12 Yc Ex Km Hd.stk (by omega) (by omega) (by omega) (by omega) Wu Hd.fr
   refine⟨t2,s2,c2,q2,_,e1,e2,e3,by grind,⟨e6,by rw[e8 C.M (by omega) (by omega),Hd.hM],by rw[e8 By (by omega) (by omega),Hd.hBy],by rw[e8 R4 (by omega) (by omega),Hd.hR],fun m m1 m2 m3=>by rw[e8 m (by omega) m2,Hd.old m m1 m2 m3],e4,e9,by omega,rfl⟩,fun _=>⟨_,by rw[Kd],e7,by omega⟩⟩
  ·have Me:opN y=0:=by unfold opN fO;rw[aG Di];rfl
   obtain⟨t2,e1,e2,e3⟩:=gB0 (n+13) (j+3) (s:=s1) (c:=c+1) hT1 Cr Ey (fun e=>Di (.inl e)) (fun e=>Di (.inr e))
   grind
 obtain⟨t2,s2,c2,q2,Zn,Bz,Uf,Dg,Eh,Bu,Cf⟩:=hB;have Ua:K<c2:=by have:=Bu.le;omega
 have Ez:C.M<c2:=by have:=Bu.le;omega
 have hV2:VO us C K s2 c2 vs:=hV.go Bu.old (by have:=Bu.le;omega)
 have hL:jY C K (mY ⟨us,C.low,C.pc,RDl n C.d C.e⟩ cal fs vs y (st.take (opN y)) sm.tick) (fn (n+13) (j+3) (.fn (byF y.kind)) [.ptr K 0,.agg (bK y)] s2 c2) s2 c2:=by
  unfold mY byF;by_cases k1:y.kind=1
  ·rw[aS k1,aS k1];exact look_num (n+12) (j+1) Bu.hK Bu.hM Ua Ez Bu.fr Bu.nag y
  rw[aG k1,aG k1];by_cases k3:y.kind=3
  ·rw[aS k3,aS k3];exact look_list (n+12) j Bu.hK Bu.hM Ua Ez Bu.fr Bu.nag y
  rw[aG k3,aG k3];by_cases k2:y.kind=2
  ·rw[aS k2,aS k2];exact look_text (n+12) j Bu.hK Bu.hM Ua Ez Bu.fr Bu.nag y
  rw[aG k2,aG k2];by_cases k4:y.kind=4
  ·rw[aS k4,aS k4];exact look_name (n+12) j Bu.hK Bu.hM Ua Ez Bu.fr Bu.nag y hV2
  rw[aG k4,aG k4];by_cases k5:y.kind=5
  ·rw[aS k5,aS k5];obtain⟨a,Ue,ha2,ha3⟩:=Cf (.inl k5);exact look_prim n j Bu.hK Bu.hM Ua Ez Bu.fr Bu.nag y h Ue ha2 ha3 (fun u hu=>zZ u (eH hu)) hp Sh
  rw[aG k5,aG k5];have k6:y.kind=6:=by omega
  obtain⟨a,Ue,ha2,ha3⟩:=Cf (.inr k6);exact Au hb k6 s2 c2 ⟨⟨a,by rw[←Ue];exact Bu.hK,ha2⟩,Bu.hM,Ua,Ez,Bu.fr,hV2,ha3,fun u hu=>zZ u (eH hu)⟩
 have Pe:(st.drop (opN y)).length<1000:=by rw[gP];omega
 have hcB:B≤c:=Ac;cases hr:mY ⟨us,C.low,C.pc,RDl n C.d C.e⟩ cal fs vs y (st.take (opN y)) sm.tick with
 | bad a e=>
  rw[hr]at hL;obtain⟨s3,c3,h3,hB3⟩:=hL;obtain⟨t3,Lr⟩:=gCp (n+13) (j+3) C Uf Dg Eh hk Bu.hBy h3
  exact⟨t3,s3,c3,by rw[LaB_5,Cl];exact(congrArg (fun r=>zbind r fun y=>zbind (zC La7.b _ _ _ y) (zC (.seq La8.b La9.b) _ _ _)) Bz).trans (congrArg (fun r=>zbind r (zC (.seq La8.b La9.b) _ _ _)) Lr),by have:=hB3.le;have:=Bu.le;omega,hB3.fr,hB3.hK,fun m m1 m2 m3=>by rw[hB3.old m (by have:=Bu.le;omega) m2 m3,Bu.old m m1 m2 m3]⟩
 | ok p=>
  rw[hr]at hL;obtain⟨s3,c3,q3,h3,hC3⟩:=hL;obtain⟨t4,s4,c4,q4,Uw,hT4,Eo,hn4,Jc⟩:=gC (n+13) (j+3) C Uf Dg Eh hcB hk Bu hP Pe h3 hC3;obtain⟨hg4,Qv⟩:=Gp hb p hr;obtain⟨t5,s5,c5,hz5,hT5,hS5⟩:=gM (n+12) j C h hp hT4 Eo hn4 Jc hP hg4 Qv (RDl n C.d C.e)
  exact⟨t5,s5,c5,q4,q3,by rw[LaB_5,Cl];exact(congrArg (fun r=>zbind r fun y=>zbind (zC La7.b _ _ _ y) (zC (.seq La8.b La9.b) _ _ _)) Bz).trans ((congrArg (fun r=>zbind r (zC (.seq La8.b La9.b) _ _ _)) Uw).trans hz5),hT5,hS5⟩
structure CF (K:Nat) (y:Nd) (s:St) (c:Nat) (t:Tm) (s1:St) (c1:Nat):Prop where
 t2:tget t 2 = .ptr c 0
 t3:tget t 3 = .ptr (c+1) 0
 t4:tget t 4 = .ptr (c+1+1) 0
 b2:sget s1 c=some (.fix 92 [.ptr K 0])
 b3:sget s1 (c+1)=some (.fix 57 (bK y))
 b4:sget s1 (c+1+1)=some (.fix 37 ty0)
 A:Aft s c s1 c1
 le:c+3≤c1
theorem CF.aft{K:Nat}{y:Nd}{s:St}{c:Nat}{t:Tm}{s2:St}{c2:Nat}(h:CF K y s c t s1 c1)(hA:Aft s1 c1 s2 c2):CF K y s c t s2 c2:=by
 have:=h.le;have:=hA.le;exact⟨h.t2,h.t3,h.t4,by rw[hA.old _ (by omega),h.b2],by rw[hA.old _ (by omega),h.b3],by rw[hA.old _ (by omega),h.b4],h.A.trans hA,by omega⟩
theorem CF.tm{K:Nat}{y:Nd}{s:St}{c:Nat}{t t':Tm}(h:CF K y s c t s1 c1)(h2:tget t' 2=tget t 2)(h3:tget t' 3=tget t 3)(h4:tget t' 4=tget t 4):CF K y s c t' s1 c1:=⟨by rw[h2,h.t2],by rw[h3,h.t3],by rw[h4,h.t4],h.b2,h.b3,h.b4,h.A,h.le⟩
theorem cB1(n j:Nat)(C:LkC){K:Nat}{y:Nd}(hf:Sl 3 fdC fs C.f)(hl:fs.length<9223372036854775807){s:St}{c:Nat}{q:D}(hK:sget s K=some (C.blk sm q))(Al:K<c)(zX:kA s c):
  ∃t s1 c1,zC (.seq Lb1.b Lb2.b) (cxn n) (fn n (j+2)) KK (start [.ptr K 0,.agg (bK y)] s c) = .ok .normal ⟨t,s1,c1,[],none⟩∧CF K y s c t s1 c1∧tget t 5 = .int .i64 (scan (fxP fs y.name) (-1) fs.length 0):=by
 have hA:=(((Aft.refl zX).add (.fix 92 [.ptr K 0])).add (.fix 57 (bK y))).add (.fix 37 ty0);obtain⟨s1,c1,h128,Lh⟩:=f128 n j hf hl y (K:=c+1) (S:=sadd (sadd (sadd s c (.fix 92 [.ptr K 0])) (c+1) (.fix 57 (bK y))) (c+1+1) (.fix 37 ty0)) (c:=c+1+1+1) (by grind [aZ]) (by omega) hA.free
 have Ac:=Lh.le
 have hCF:∀t:Tm,tget t 2 = .ptr c 0→tget t 3 = .ptr (c+1) 0→tget t 4 = .ptr (c+1+1) 0→CF K y s c t s1 c1:=fun t h2 h3 h4=>⟨h2,h3,h4,by rw[Lh.old _ (by omega),aZ,aG (by omega),aZ,aG (by omega),aZ,aS rfl],by rw[Lh.old _ (by omega),aZ,aG (by omega),aZ,aS rfl],by rw[Lh.old _ (by omega),aZ,aS rfl],hA.trans Lh,by omega⟩
 have kc:(K=c)=False:=aL (by omega)
 have Zs:(K=c+1)=False:=aL (by omega)
 have kc2:(K=c+1+1)=False:=aL (by omega)
 have c01:(c=c+1)=False:=aL (by omega)
 have c02:(c=c+1+1)=False:=aL (by omega)
 simp only[Lb1,Lb2,cI];unfold LkC.blk lrC at hK;unfold ty0 at h128;simp only[z0,seval,show(D.ptr K 0).cells?=some [.ptr K 0]from rfl,hK,kc,Zs,kc2,c01,c02,dP,dU,bS,h128]
 refine⟨_,_,_,rfl,hCF _ ?_ ?_ ?_,?_⟩<;>simp[aA]
theorem cB3(n j:Nat){K:Nat}{y:Nd}{s:St}{c:Nat}{t:Tm}(h:CF K y s c t s1 c1){i:Int}(h5:tget t 5 = .int .i64 i):
  (i<0→∃t',zC Lb3.b (cxn n) (fn n (j+1)) KK ⟨t,s1,c1,[],none⟩ = .ok (.pan (jL y.site 24)) ⟨t',s1,c1,[],none⟩) ∧
  (¬i<0→∃t',zC Lb3.b (cxn n) (fn n (j+1)) KK ⟨t,s1,c1,[],none⟩ = .ok .normal ⟨t',s1,c1,[],none⟩∧CF K y s c t' s1 c1∧tget t' 5 = .int .i64 i):=by
 have b3:=h.b3;unfold bK at b3;refine⟨fun hi=>?_,fun hi=>?_⟩
 ·simp only[Lb3,cI];simp only[z0,seval,h5,h.t3,b3,aH hi,fS,show((24:Int)=0)=False from aL (by decide)]
  grind
 ·simp only[Lb3,cI];simp only[z0,seval,h5,aE hi];refine⟨_,rfl,h.tm ?_ ?_ ?_,?_⟩
  all_goals simp[aA,h5]
theorem cB4(n j:Nat)(C:LkC){K:Nat}{y:Nd}(hf:Sl 3 fdC fs C.f)(Eb:∀f∈fs,FdOk f){s:St}{c:Nat}{t:Tm}(h:CF K y s c t s1 c1){i:Nat}(h5:tget t 5 = .int .i64 (i:Nat))(hi:i<fs.length){a k:Nat}(hK:sget s1 K=some (C.blk sm (.gs a 0 5 k)))(Al:K<c):
  (fs[i].ps.length≠k→∃t' s' c',zC (.seq Lb4.b Lb5.b) (cxn n) (fn n (j+1)) KK ⟨t,s1,c1,[],none⟩ = .ok (.pan (jL y.site 23)) ⟨t',s',c',[],none⟩∧Aft s1 c1 s' c') ∧
  (fs[i].ps.length=k→∃t' s' c',zC (.seq Lb4.b Lb5.b) (cxn n) (fn n (j+1)) KK ⟨t,s1,c1,[],none⟩ = .ok .normal ⟨t',s',c',[],none⟩∧Aft s1 c1 s' c'∧c1<c'∧CF K y s c t' s' c'∧tget t' 5 = .int .i64 (i:Nat)∧tget t' 6 = .ptr c1 0∧sget s' c1=some (.fix 79 (fdC fs[i]))):=by
 have b2:=h.b2;have b3:=h.b3;have Ac:=h.le;have zW:=hf.row hi;have ho:=Eb _ (bQ hi);have Fu:=ho.p;have np:=Fu.nag;have nb':=ho.b.nag;have kc:(K=c1)=False:=aL (by omega)
 have cc:(c=c1)=False:=aL (by omega)
 have cc1:(c+1=c1)=False:=aL (by omega)
 unfold bK at b3;unfold LkC.blk lrC at hK;have Kd:lenD false (.gs a 0 5 k)=some k:=rfl;generalize fs[i]=g at *;unfold fdC at *;refine⟨fun hk=>?_,fun hk=>?_⟩
 ·have hd:decide (((g.ps.length:Nat):Int)≠(k:Nat))=true:=aH (by omega)
  simp only[Lb4,Lb5,cI];simp only[z2,seval,nb,h5,h.t2,h.t3,b2,b3,hK,kc,cc,cc1,dP,hf.ia hi,zW,np,nb',Bool.or_false,dR,cN,AOp.kd,zop,tks,bP,dL,Fu.len,Kd,hd,fS,show((23:Int)=0)=False from aL (by decide)]
  exact⟨_,_,_,rfl,(((Aft.refl h.A.free).add _).set (aK _) (by omega) _).mono (by omega)⟩
 ·have hd:decide (((g.ps.length:Nat):Int)≠(k:Nat))=false:=aE (by omega)
  simp only[Lb4,Lb5,cI];simp only[z2,seval,nb,h5,h.t2,h.t3,b2,b3,hK,kc,cc,cc1,dP,hf.ia hi,zW,np,nb',Bool.or_false,dR,cN,AOp.kd,zop,tks,bP,dL,Fu.len,Kd,hd];have hA:∀C',c1+1≤C'→Aft s1 c1 (sset (sadd s1 c1 (.fix 79 [.str [],.nils,.nils])) c1 (.fix 79 [.str g.name,g.pd,g.bd])) C':=fun C' hC=>(((Aft.refl h.A.free).add _).set (aK _) (by omega) _).mono hC
  refine⟨_,_,_,rfl,hA _ ?_,?_,CF.tm (t:=t) (h.aft (hA _ ?_)) ?_ ?_ ?_,?_,?_,?_⟩
  ·omega
  ·omega
  ·omega
  all_goals simp[aA,h5]
def zdf(v:D)(dst:Option Nat)(l:List D)(t:Tm)(s:St)(c:Nat)(d:List (D×List D)):R:=match v with
 | .fn g p q=>.ok .normal ⟨iO dst t .un,s,c,(.fn g p q,l)::d,none⟩
 | _=>.no
theorem zo_df(cx:Cx)(cl:CL)(dst:Option Nat)(g:Option (Nat×Bool))(a:Arg)(l:List Arg)(t:Tm)(s:St)(c:Nat)(d:List (D×List D)):zOp cx cl ⟨dst,.dfr a l,g⟩ ⟨t,s,c,d,none⟩=zdf (a.ev cx.G t) dst (evs l cx.G t) t s c d:=by
 show zo_dfr a l cx cl dst ⟨t,s,c,d,none⟩=_
 grind [zo_dfr,zdf]
theorem zdf_fn(g:Fn)(p q:List D)(dst:Option Nat)(l:List D)(t:Tm)(s:St)(c:Nat)(d:List (D×List D)):zdf (.fn g p q) dst l t s c d = .ok .normal ⟨iO dst t .un,s,c,(.fn g p q,l)::d,none⟩:=rfl
structure CG (C:LkC) (K c D1 A B:Nat) (g:Fd) (t:Tm) (s1:St) (c1:Nat) (s:St) (k:Nat):Prop where
 t2:tget t 2 = .ptr c 0
 t4:tget t 4 = .ptr (c+1+1) 0
 t6:tget t 6 = .ptr D1 0
 b2:sget s c=some (.fix 92 [.ptr K 0])
 b4:sget s (c+1+1)=some (.fix 37 ty0)
 b6:sget s D1=some (.fix 79 (fdC g))
 bA:sget s A=some (.fix 27 [C.v])
 bB:sget s B=some (.fix 28 [C.f])
 old:∀m,m<c1→m≠K→m≠C.M→sget s m=sget s1 m
 fr:kA s k
 lA:c1≤A∧A<k
 lB:c1≤B∧B<k
theorem cB6(n j:Nat)(C:LkC)(h:Lt ss us C.d C.e)(hp:C.pc<us.length)(R:Int→List Tl→Ty×Int×Int×Int){K:Nat}{y:Nd}(hf:Sl 3 fdC fs C.f){s:St}{c:Nat}{t:Tm}(hF:CF K y s c t s1 c1){i:Nat}(h5:tget t 5 = .int .i64 (i:Nat))(hi:i<fs.length)(h6:tget t 6 = .ptr D1 0){g:Fd}(b6:sget s1 D1=some (.fix 79 (fdC g)))(hD:c≤D1) 
  {sm:Lk} {q:D} (hK:sget s1 K=some (C.blk sm q)) (hM:sget s1 C.M=some (.mp (mpE 0 sm.lm) sm.lm.length)) (Al:K<c) (Jd:C.M<c) (Hb:sm.ec<us.length) (Be:wT us sm.lm) (hv:eG C.v=false) (hq:eG q=false) :
  ∃t' s' c' A B fd,zC (.seq Lb6.b (.seq Lb7.b (.seq Lb8.b Lb9.b))) (cxn (n+1)) (fn (n+1) (j+3)) KK ⟨t,s1,c1,[],none⟩ = .ok .normal ⟨t',s',c',[(.fn (.func 130) [] [.ptr A 0,.ptr B 0,.ptr c 0],[])],none⟩∧CG C K c D1 A B g t' s1 c1 s' c'∧Sl 3 fdC (fs.take i) fd ∧
   sget s' K=some (LkC.blk ⟨C.d,C.e,C.low,C.pc,C.M,.nils,fd⟩ (sm.mark ⟨us,C.low,C.pc,R⟩ y.site) q)∧sget s' C.M=some (.mp (mpE 0 (sm.mark ⟨us,C.low,C.pc,R⟩ y.site).lm) (sm.mark ⟨us,C.low,C.pc,R⟩ y.site).lm.length):=by
 have b2:=hF.b2;have b3:=hF.b3;have b4:=hF.b4;have Ac:=hF.le;have hMK:C.M≠K:=by rintro e;rw[←e,hM]at hK;cases hK
 have hDc:D1<c1:=eC fun hh=>by rw[hF.A.free _ hh]at b6;cases b6
 obtain⟨c2,El,h92⟩:=f92 n j h (K:=K) (M:=C.M) (s:=s1) (c:=c1) hK hM hp Hb Be y.site;obtain⟨fd,Sj,Km⟩:=hf.head (Nat.le_of_lt hi) (k:=.i64);have kM:(K=C.M)=False:=aL (fun e=>hMK e.symm)
 have cM:(c=C.M)=False:=aL (by omega)
 have cM1:(c+1=C.M)=False:=aL (by omega)
 obtain⟨s2,Az⟩:∃s2,s2=sset s1 C.M (.mp (mpE 0 (mkL us sm.lm y.site (J us C.pc sm.ec))) (mkL us sm.lm y.site (J us C.pc sm.ec)).length):=⟨_,rfl⟩
 have g2:∀m,sget s2 m=if m=C.M then some (.mp (mpE 0 (mkL us sm.lm y.site (J us C.pc sm.ec))) (mkL us sm.lm y.site (J us C.pc sm.ec)).length) else sget s1 m:=fun m=>by rw[Az,aU]
 have eK:sget s2 K=some (C.blk sm q):=by grind
 have Xs:sget s2 c=some (.fix 92 [.ptr K 0]):=by grind
 have fr2:kA s2 c2:=fun m hm=>by rw[g2,aG (by omega)];exact hF.A.free m (by omega)
 have n4:sget s2 (c2+8)=none:=fr2 _ (by omega)
 have n5:sget s2 (c2+9)=none:=fr2 _ (by omega)
 have k1:(K=c2+8)=False:=aL (by omega)
 have k2:(K=c2+9)=False:=aL (by omega)
 have k3:(c=c2+8)=False:=aL (by omega)
 have k4:(c=c2+9)=False:=aL (by omega)
 have k5:(c2=c2+1)=False:=aL (by omega)
 have k6:(c2+1=c2)=False:=aL (by omega)
 have k7:(c=K)=False:=aL (by omega)
 have k8:(c2+8=K)=False:=aL (by omega)
 have k9:(c2+9=K)=False:=aL (by omega)
 have Dz:=hf.nag;have Wd:=Km.nag;unfold bK at b3;unfold LkC.blk lrC at eK;simp only[Lb6,Lb7,Lb8,Lb9,cI];simp only[z0,seval,hF.t2,hF.t3,b2,b3,h92];rw[←Az]
 simp only[z0,seval,hF.t2,Xs,eK,h5,dR,cN,AOp.kd,zop,tks,bP,dL,dC,dP,aO,aX,n4,n5,k1,k2,k3,k4,k5,k6,k7,k8,k9,cB,hv,hq,Dz,Wd,hY hv,hY Dz,hY Wd,Sj,zo_df,zdf_fn,bS,dU,show D.nils.cells?=some [D.nils]from rfl,show eG D.nils=false from rfl]
 refine⟨_,_,_,c2+8,c2+9,fd,rfl,⟨?_,?_,?_,?_,?_,?_,?_,?_,?_,?_,by omega,by omega⟩,Km,?_,?_⟩
 ·simp[aA,hF.t2]
 ·simp[aA,hF.t4]
 ·simp[aA,h6]
 ·grind [aU,aZ,g2,b2]
 ·grind [aU,aZ,g2]
 ·grind [aU,aZ,g2]
 ·grind [aU,aZ]
 ·grind [aU,aZ]
 ·grind [aU,aZ,g2]
 ·intro m hm;have Ei:c2+12+14≤m:=hm;simp only[aU,aZ];rw[aG (by omega),aG (by omega),aG (by omega),aG (by omega),aG (by omega),aG (by omega)];exact fr2 m (by omega)
 ·rw[aU,aS rfl];rfl
 ·simp only[aU,aZ];rw[aG hMK,aG hMK,aG (by omega),aG (by omega),aG (by omega),aG (by omega),g2,aS rfl];rfl
theorem enc_vr:sH 6 vrC:=⟨fun _=>rfl,by decide,fun _=>rfl,fun _ _ _ _=>rfl⟩
theorem oO{ps:List (List UInt8)}(h:ps.length=ts.length):(nU ps ts).length=ts.length:=by grind [nU,List.length_zipWith]
theorem zipV_get{ps:List (List UInt8)}(h:ps.length=ts.length){i:Nat}(hi:i<ts.length):(nU ps ts).take (i+1)=(nU ps ts).take i++[⟨ps[i],tl ts[i]⟩]:=by
 grind [List.take_succ_eq_append_getElem,oO,nU]
def LkC.vf(C:LkC)(v f:D):LkC:=⟨C.d,C.e,C.low,C.pc,C.M,v,f⟩
theorem CG.go{C:LkC}{K c A:Nat}{g:Fd}{t:Tm}{s:St}{k:Nat}(h:CG C K c D1 A B g t s1 c1 s k){k' kk:Nat}{t':Tm}(hA:A<kk)(hB:B<kk)(hc:c+1+1<c1)(hD:D1<c1)(hK:K<c)(hk:kk≤k')(hs:∀m,m<kk→m≠K→sget s' m=sget s m)(hf:kA s' k')(h2:tget t' 2=tget t 2)(h4:tget t' 4=tget t 4)(h6:tget t' 6=tget t 6)(hDK:D1≠K):CG C K c D1 A B g t' s1 c1 s' k':=by
 have:=h.lA;have:=h.lB;exact⟨by rw[h2,h.t2],by rw[h4,h.t4],by rw[h6,h.t6],by rw[hs c (by omega) (by omega),h.b2],by rw[hs _ (by omega) (by omega),h.b4],by rw[hs _ (by omega) hDK,h.b6],by rw[hs A (by omega) (by omega),h.bA],by rw[hs B (by omega) (by omega),h.bB],fun m m1 m2 m3=>by rw[hs m (by omega) m2,h.old m m1 m2 m3],hf,by omega,by omega⟩
theorem cB10(n j:Nat)(C:LkC){K c A:Nat}{g:Fd}{t:Tm}{s:St}{k:Nat}(h:CG C K c D1 A B g t s1 c1 s k)(hc:c+1+1<c1)(hD:D1<c1)(Al:K<c)(Jd:C.M<c)(hDc:c≤D1){f:D}{a:Nat} 
  (hK:sget s K=some ((C.vf .nils f).blk sm (.gs a 0 5 ts.length))) (ha:sget s a=some (.grow 37 (cV tlC ts))) (hl:ts.length<1000) (hg:Sl 1 fM g.ps g.pd) (Fk:g.ps.length=ts.length) (An:ts≠[]) (hMs:sget s C.M=some (.mp (mpE 0 sm.lm) sm.lm.length)) (dd:List (D×List D)) :
  ∃t' s' k' V,zC Lb10.b (cxn n) (fn n j) KK ⟨t,s,k,dd,none⟩ = .ok .normal ⟨t',s',k',dd,none⟩∧CG C K c D1 A B g t' s1 c1 s' k'∧sget s' K=some ((C.vf (.gs V 0 6 ts.length) f).blk sm (.gs a 0 5 ts.length))∧(∃ty,sget s' V=some (.grow ty (cV vrC (nU g.ps ts))))∧k≤V∧V<k'∧sget s' C.M=some (.mp (mpE 0 sm.lm) sm.lm.length):=by
 have hak:a<k:=eC fun hh=>by rw[h.fr _ hh]at ha;cases ha
 have Yg:=h.lA;have Yf:=h.lB;have Lg:a≠K:=by rintro rfl;rw[hK]at ha;cases ha
 have Bb:=h.b2;have Wt:C.M≠K:=by rintro e;rw[←e,hMs]at hK;cases hK
 unfold LkC.blk lrC LkC.vf at *;simp only[Lb10,cI];simp only[z0,seval,h.t2,Bb,hK,dP,show lenD false (.gs a 0 5 ts.length)=some ts.length from rfl]
 generalize hz:zloop KK _ _=rl
 refine zrange rl hz ts.length (dY (by omega)) (by omega) (fun i t' s' k'=>∃v,CG C K c D1 A B g t' s1 c1 s' k'∧k≤k'∧sget s' K=some (.fix 96 [C.d,C.e,.int .i64 1,.int .i64 0,.int .i64 (C.low:Nat),.int .i64 (C.low:Nat),.int .i64 (C.low:Nat),.int .i64 (C.pc:Nat),.int .i64 (sm.ec:Nat),.int .i64 (sm.lk:Nat),.mp C.M,v,f,.gs a 0 5 ts.length])∧jT 6 vrC k s' v ((nU g.ps ts).take i)∧sget s' a=some (.grow 37 (cV tlC ts))∧sget s' C.M=some (.mp (mpE 0 sm.lm) sm.lm.length)∧tget t' 69 = .gs a 0 5 ts.length) (by decide) (by simp[aA]) (by simp[aA]) ?_ ?_ ?_
 ·refine⟨.nils,CG.go h Yg.2 Yf.2 hc hD Al (aK _) (fun _ _ _=>rfl) h.fr ?_ ?_ ?_ (by omega),aK _,hK,.inl ⟨rfl,by simp⟩,ha,hMs,?_⟩
  all_goals simp[aA]
 ·rintro i t' s' k' hi ⟨v,h',Nw,Fg,hv,Fl,Ws,Zl⟩ Ag Ah;have hlA':=h'.lA;have ia:iJ 5 (.gs a 0 5 ts.length) (.int .i64 (i:Nat))=some (.ptr a (i*5)):=by
   simp only[iJ,fB hi,bE,eQ,bG,bM]
  have Zj:decide (i*5+5≤(cV tlC ts).length)=true:=aH (by rw[qC.cells_len];omega)
  have Jg:List.take 5 (List.drop (i*5) (cV tlC ts))=tlC ts[i]:=(lE (w:=5) (rows:=ts.map tlC) (i:=i) (r:=tlC ts[i]) (fun r hr=>by obtain⟨u,_,rfl⟩:=cY.1 hr;rfl) (by grind)).1
  have ig:=hg.ia1 (i:=i) (by omega) (k:=.i64)
  have ag:=hg.at1 (i:=i) (by omega)
  have hnv:=hv.nag;have b2:=h'.b2;have b6:=h'.b6;have n1:(c=k')=False:=aL (by omega)
  have n2:(a=k')=False:=aL (by omega)
  have n3:(K=k')=False:=aL (by omega)
  have n4:(D1=k')=False:=aL (by omega)
  have n5:(k'+1+12=k')=False:=aL (by omega)
  have n6:sget s' (k'+1+12)=none:=h'.fr _ (by omega)
  unfold fdC at b6;simp only[fM]at ag;unfold tlC tyC tl at Jg;rw[show cV (fun t=>[.int .i64 t.k,.int .i64 t.r,.int .i64 (t.x:Nat),.int .i64 (t.y:Nat),.int .i64 (t.z:Nat)]) ts=cV tlC ts from rfl]at Jg
  simp only[z0,seval,Zl,Ag,Ah,ia,Fl,Zj,Jg,n1,n2,n3,n4,h'.t2,h'.t6,b2,b6,Fg,dR,cN,AOp.kd,zop,tks,bP,dL,dC,dP,aO,aX,ig,ag,n5,n6,cB];generalize hA:iS _ 6 56 55 v _=Z
  obtain⟨S,hS⟩:∃S,S=sadd (sset (sadd s' k' (.fix 37 [.int .i64 0,.int .i64 0,.int .i64 0,.int .i64 0,.int .i64 0])) k' (.fix 37 [.int .i64 ts[i].k,.int .i64 ts[i].r,.int .i64 (ts[i].x:Nat),.int .i64 (ts[i].y:Nat),.int .i64 (ts[i].z:Nat)])) (k'+1+12) (.fix 0 [.str g.ps[i],.int .i64 ts[i].k,.int .i64 ts[i].r,.int .i64 (ts[i].x:Nat),.int .i64 (ts[i].y:Nat),.int .i64 (ts[i].z:Nat)]):=⟨_,rfl⟩
  have gS:∀m,m<k'→sget S m=sget s' m:=fun m hm=>by grind [aU,aZ]
  rw[←hS]at hA;obtain⟨v',s2,k2,hZ,hv2,Bn,ho2,Gz⟩:=lR enc_vr (B:=k) (l:=(nU g.ps ts).take i) (l':=[⟨g.ps[i],tl ts[i]⟩]) (by decide) hA (hv.keep fun m b hm hb=>by rw[gS m (eC fun hh=>by rw[h'.fr m hh]at hb;cases hb),hb]) (by simp only[cP,hS,aZ,aS];rfl) (by grind) (by grind) (fun m hm=>by
   have Ei:k'+1+17≤m:=hm;show sget S m=none;rw[hS];simp only[aU,aZ];rw[aG (by omega),aG (by omega),aG (by omega)];exact h'.fr m (by omega))
  have Sf:k'+1+17≤k2:=Bn;have Gk:∀m,m<k→sget s2 m=sget s' m:=fun m hm=>by grind
  subst hZ;rw[←zipV_get Fk hi]at hv2;have f1:sget s2 c=some (.fix 92 [.ptr K 0]):=by grind
  have f2:=Gk K (by omega)
  rw[Fg]at f2;have Vl:=hv2.nag;have f3:sget S c=some (.fix 92 [.ptr K 0]):=by grind
  have f4:sget S K=_:=(gS K (by omega)).trans Fg
  have pc:=h'.t2;have n7:(c=k'+1+12)=False:=aL (by omega)
  have n8:(K=k'+1+12)=False:=aL (by omega)
  simp only[z0,seval,n1,n3,n7,n8,b2,Fg,pc,f1,f2,f3,f4,Ag,Ah,Zl,dP,AOp.kd,zop,tks,bP,dL,Vl,hY Vl];refine⟨trivial,trivial,trivial,.inr (.inr trivial),nofun,nofun,v',?_,by omega,rfl,?_,?_,?_,trivial⟩
  ·refine CG.go h' Yg.2 Yf.2 hc hD Al (by omega) (fun m m1 m2=>by grind [aU]) (fun m hm=>by grind [aU]) ?_ ?_ ?_ (by omega)
   all_goals simp[aA]
  ·exact hv2.keep fun m b hm hb=>by grind [aU]
  ·rw[aG Lg,Gk a hak,Fl]
  ·rw[aG Wt,Gk C.M (by omega),Ws]
 ·rintro t' s' k' ⟨v,h',Nw,Fg,hv,Fl,Ws,Zl⟩ Ag Ah;rw[show ts.length=(nU g.ps ts).length from(oO Fk).symm,List.take_length]at hv
  have Ji:=oO Fk;rcases hv with⟨_,e⟩|⟨m,_,_,_,e⟩|⟨V,ty,hV,rfl,hs,_⟩
  ·grind
  ·grind
  ·rw[Ji]at Fg;have hVk:V<k':=eC fun hh=>by rw[h'.fr _ hh]at hs;cases hs
   simp only[z0,seval];refine⟨_,s',k',V,rfl,CG.go h' Yg.2 Yf.2 hc hD Al (by omega) (fun _ _ _=>rfl) h'.fr ?_ ?_ ?_ (by omega),Fg,⟨ty,hs⟩,hV,hVk,Ws⟩
   all_goals simp[aA]
theorem B88_z(cx:Cx)(cl:CL)(k:Nat)(x:AS):zC B88 cx cl k x=zbind (zC (.seq Lb1.b Lb2.b) cx cl k x) fun x=>zbind (zC Lb3.b cx cl k x) fun x=>zbind (zC (.seq Lb4.b Lb5.b) cx cl k x) fun x=>zbind (zC (.seq Lb6.b (.seq Lb7.b (.seq Lb8.b Lb9.b))) cx cl k x) fun x=>zbind (zC Lb10.b cx cl k x) (zC (.seq Lb11.b .ret) cx cl k):=by
 simp_all [B88,Ab.abq,xA,qF]
theorem zbody_ret1{df:Nat→List D→eU→St→Nat→DR}{A:AF}{t:Tm}{s:St}{c c' f:Nat}{r:Option Nat}{fs cs:List D}{v:D}(h:df f (fs++[]++cs) none s c = .ok (.ret v) none s' c'):
  zbody df A (.ok .ret ⟨t,s,c,[(.fn (.func f) fs cs,[])],r⟩)=match results A ⟨t,s',c',[(.fn (.func f) fs cs,[])],r⟩ with|some d=>.ok (.ret d) s' c'|none=>.no:=by
 show pU df A none ⟨t,s,c,[(.fn (.func f) fs cs,[])],r⟩=_
 grind [pU,zDs,settle,results,fn]
theorem zbody_pan1{df:Nat→List D→eU→St→Nat→DR}{A:AF}{t:Tm}{s:St}{c c' f:Nat}{r:Option Nat}{fs cs:List D}{v:D}{a e:Int}(h:df f (fs++[]++cs) (some (jL a e)) s c = .ok (.ret v) (some (jL a e)) s' c'):
  zbody df A (.ok (.pan (jL a e)) ⟨t,s,c,[(.fn (.func f) fs cs,[])],r⟩) = .ok (.pan (jL a e)) s' c':=by
 show pU df A (some (jL a e)) ⟨t,s,c,[(.fn (.func f) fs cs,[])],r⟩=_;unfold pU;simp only[zDs,h];rfl
theorem vo_zip{C:LkC}{K V k ty:Nat}{s:St}{ps:List (List UInt8)}{f:D}(hs:sget s V=some (.grow ty (cV vrC (nU ps ts))))(hl:ps.length=ts.length)(hb:ts.length<1000)(hVk:V<k)(hK:V≠K)(hM:V≠C.M)(hg:∀t∈ts,TG us t):VO us (C.vf (.gs V 0 6 ts.length) f) K s k (nU ps ts):=by
 have Ji:=oO hl;refine⟨rfl,⟨.sl false (nU ps ts).length (cV vrC (nU ps ts)),⟨fun r hr=>by obtain⟨u,_,rfl⟩:=cY.1 hr;rfl,.inr ⟨false,by rw[dB];rfl⟩⟩,fun s2 h2 k=>?_⟩,by omega,fun x hx=>?_⟩
 ·show frz false (k+2) s2 (.gs V 0 6 ts.length)=_;rw[lP,h2 V hVk hK hM,hs];simp only[bM,gQ];rw[bO (by rw[enc_vr.cells_len,Ji];exact aK _),bG,cS (by rw[enc_vr.cells_len,Ji];exact aK _),enc_vr.cells_frz,Ji];rfl
 ·obtain⟨i,hi,rfl⟩:=eV hx;have Bs:i<ts.length:=by omega
  have e:(nU ps ts)[i]=⟨ps[i],tl ts[i]⟩:=List.getElem_zipWith;rw[e];exact(hg _ (bQ Bs)).2.2
theorem f88(n j:Nat)(C:LkC)(h:Lt ss us C.d C.e)(hp:C.pc<us.length)(R:Int→List Tl→Ty×Int×Int×Int){K:Nat}{y:Nd}(hf:Sl 3 fdC fs C.f)(Eb:∀f∈fs,FdOk f)(Bj:fs.length<1000){vs:List Vr}{s:St}{c:Nat}(hI:CI us C K sm vs ts s c)(Hb:sm.ec<us.length)(Be:wT us sm.lm)(cal:Nat→List Vr→Lk→Lo (Tl×Lk)) 
  (Aa:∀(i:Nat) (hi:i<fs.length) (v' fd:D),Sl 3 fdC (fs.take i) fd→∀Ep q s c,VO us (C.vf v' fd) K s c Ep→sget s K=some ((C.vf v' fd).blk (sm.mark ⟨us,C.low,C.pc,R⟩ y.site) q)→eG q=false→sget s C.M=some (.mp (mpE 0 (sm.mark ⟨us,C.low,C.pc,R⟩ y.site).lm) (sm.mark ⟨us,C.low,C.pc,R⟩ y.site).lm.length)→K<c→C.M<c→kA s c →
   jY (C.vf v' fd) K (cal i Ep (sm.mark ⟨us,C.low,C.pc,R⟩ y.site)) (fn (n+1) (j+3) (.fn 44) [.ptr K 0,fs[i].bd] s c) s c) :
  jY C K (wN ⟨us,C.low,C.pc,R⟩ cal fs y ts sm) (fn (n+1) (j+4) (.fn 88) [.ptr K 0,.agg (bK y)] s c) s c:=by
 rw[iG (A:=A88) rfl rfl rfl rfl (n+1) (j+3) _ s c rfl,show A88.body=B88 from rfl,B88_z]
 obtain⟨a,hK,ha⟩:=hI.a;have Al:=hI.kc;have Jd:=hI.mc;have hl12:=hI.l;obtain⟨t1,s1,c1,Cl,hF1,h5⟩:=cB1 (n+1) (j+1) C hf (by omega) (y:=y) hK Al hI.fr
 rw[show j+1+2=j+3 from rfl]at Cl
 rw[Cl];show jY C K _ (zbody _ _ (zbind (zC Lb3.b _ _ _ _) _)) s c;have Wt:K≠C.M:=by rintro e;rw[e,hI.hM]at hK;cases hK
 have hle1:=hF1.le;have Wu:sget s1 K=some (C.blk sm (.gs a 0 5 ts.length)):=by rw[hF1.A.old K Al,hK]
 have Ph:a<c:=eC fun hh=>by rw[hI.fr _ hh]at ha;cases ha
 have Lg:a≠K:=by rintro rfl;rw[hK]at ha;cases ha
 have haM:a≠C.M:=by rintro rfl;rw[hI.hM]at ha;cases ha
 obtain⟨h3a,h3b⟩:=cB3 (n+1) (j+2) hF1 h5;rw[show j+2+1=j+3 from rfl]at h3a h3b
 rw[fx_find]at h3a h3b h5;unfold wN;cases We:fs.findIdx? (fun f=>decide (f.name=y.name)) with
 | none=>
  rw[We]at h3a;obtain⟨t2,Bz⟩:=h3a (by decide)
  rw[Bz];exact⟨s1,c1,rfl,Bad.of hF1.A hK Al⟩
 | some i=>
  rw[We]at h3b;obtain⟨hi,_⟩:=List.findIdx?_eq_some_iff_getElem.1 We;obtain⟨t2,Bz,hF2,h52⟩:=h3b (by grind)
  rw[Bz];show jY C K _ (zbody _ _ (zbind (zC (.seq Lb4.b Lb5.b) _ _ _ _) _)) s c;obtain⟨h4a,h4b⟩:=cB4 (n+1) (j+2) C hf Eb hF2 h52 hi Wu Al;rw[show j+2+1=j+3 from rfl]at h4a h4b
  simp only[aI hi];by_cases Fu:fs[i].ps.length=ts.length
  case neg=>
   rw[aS Fu];obtain⟨t3,s3,c3,Lr,Gu⟩:=h4a Fu;rw[Lr];exact⟨s3,c3,rfl,Bad.of (hF1.A.trans Gu) hK Al⟩
  rw[aG (fun e=>e Fu)]
  obtain⟨t3,s3,c3,Lr,Gu,Sq,hF3,h53,Dd,Gt⟩:=h4b Fu;rw[Lr];show jY C K _ (zbody _ _ (zbind (zC (.seq Lb6.b (.seq Lb7.b (.seq Lb8.b Lb9.b))) _ _ _ _) _)) s c;have hK3:sget s3 K=some (C.blk sm (.gs a 0 5 ts.length)):=by rw[Gu.old K (by omega),Wu]
  have hM3:sget s3 C.M=some (.mp (mpE 0 sm.lm) sm.lm.length):=by rw[Gu.old _ (by omega),hF1.A.old _ Jd,hI.hM]
  obtain⟨t4,s4,c4,A,B,fd,Uw,hG4,Sj,hK4,hM4⟩:=cB6 n j C h hp R hf hF3 h53 hi Dd Gt (by omega) hK3 hM3 Al Jd Hb Be hI.v.nag rfl
  rw[Uw];show jY C K _ (zbody _ _ (zbind (zC Lb10.b _ _ _ _) _)) s c;have hg:=Eb _ (bQ hi);have ha4:sget s4 a=some (.grow 37 (cV tlC ts)):=by rw[hG4.old a (by omega) Lg haM,Gu.old a (by omega),hF1.A.old a Ph,ha]
  obtain⟨t5,s5,c5,V,hz5,hG5,hK5,⟨ty,hV⟩,hkV,Ys,hM5⟩:=cB10 (n+1) (j+3) C hG4 (by omega) Sq Al Jd (by omega) (f:=fd) hK4 ha4 (by omega) hg.p Fu (by grind) hM4 [(.fn (.func 130) [] [.ptr A 0,.ptr B 0,.ptr c 0],[])]
  rw[hz5];show jY C K _ (zbody _ _ (zC (.seq Lb11.b .ret) _ _ _ _)) s c;have Yg:=hG5.lA;have Yf:=hG5.lB;have hlA4:=hG4.lA;have Wq:VO us (C.vf (.gs V 0 6 ts.length) fd) K s5 c5 (nU fs[i].ps ts):=vo_zip hV Fu (by omega) Ys (by omega) (by omega) hI.g
  have Au:=Aa i hi _ fd Sj _ _ s5 c5 Wq hK5 rfl hM5 (by omega) (by omega) hG5.fr
  have b2:=hG5.b2;have b6:=hG5.b6;have b4:=hG5.b4;unfold fdC at b6;unfold ty0 at b4;have Cv:∀m,m<c→m≠K→m≠C.M→sget s5 m=sget s m:=fun m m1 m2 m3=>by rw[hG5.old m (by omega) m2 m3,Gu.old m (by omega),hF1.A.old m m1]
  cases hr:cal i (nU fs[i].ps ts) (sm.mark ⟨us,C.low,C.pc,R⟩ y.site) with
  | bad e1 e2=>
   rw[hr]at Au;obtain⟨s6,c6,h6,Vv,hfr6,⟨cs,Fc,Bo⟩,ho6⟩:=Au;have Rj:∃t6,zC (.seq Lb11.b .ret) (cxn (n+1)) (fn (n+1) (j+3)) KK ⟨t5,s5,c5,[(.fn (.func 130) [] [.ptr A 0,.ptr B 0,.ptr c 0],[])],none⟩ = .ok (.pan (jL e1 e2)) ⟨t6,s6,c6,[(.fn (.func 130) [] [.ptr A 0,.ptr B 0,.ptr c 0],[])],none⟩:=by
    simp only[Lb11,cI];simp only[z0,seval,hG5.t2,hG5.t6,b2,b6,h6];exact⟨_,rfl⟩
   obtain⟨t6,hz6⟩:=Rj;rw[hz6];have Tc:=f130 (n+1) (j+2) (md:=some (jL e1 e2)) (c:=c6) (by rw[ho6 A (by omega) (by omega) (by show A≠C.M;omega),hG5.bA]) (by rw[ho6 B (by omega) (by omega) (by show B≠C.M;omega),hG5.bB]) (by rw[ho6 c (by omega) (by omega) (by show c≠C.M;omega),b2]) Fc Bo hI.v.nag hf.nag (by omega) (by omega)
   rw[zbody_pan1 Tc];exact⟨_,_,rfl,by omega,fun m hm=>by grind [aU],⟨_,by rw[aU,aS rfl],by simp[Bo]⟩,fun m m1 m2 m3=>by rw[aU,aG m2,aU,aG m2,ho6 m (by omega) m2 m3,Cv m m1 m2 m3]⟩
  | ok p=>
   rw[hr]at Au;obtain⟨s6,c6,q6,h6,hC6⟩:=Au;have Vv:=hC6.le;have e4:sget s6 (c+1+1)=some (.fix 37 [.int .i64 0,.int .i64 0,.int .i64 0,.int .i64 0,.int .i64 0]):=by rw[hC6.old _ (by omega) (by omega) (by show c+1+1≠C.M;omega),b4]
   have Rj:∃t6,zC (.seq Lb11.b .ret) (cxn (n+1)) (fn (n+1) (j+3)) KK ⟨t5,s5,c5,[(.fn (.func 130) [] [.ptr A 0,.ptr B 0,.ptr c 0],[])],none⟩ = .ok .ret ⟨t6,sset s6 (c+1+1) (.fix 37 (tlC p.1)),c6,[(.fn (.func 130) [] [.ptr A 0,.ptr B 0,.ptr c 0],[])],none⟩∧tget t6 4 = .ptr (c+1+1) 0:=by
    simp only[Lb11,cI];unfold tlC tyC tl at *;simp only[z0,seval,hG5.t2,hG5.t4,hG5.t6,b2,b6,h6,e4];exact⟨_,rfl,by simp[aA,hG5.t4]⟩
   obtain⟨t6,hz6,h46⟩:=Rj;rw[hz6]
   have Tc:=f130 (n+1) (j+2) (md:=none) (s:=sset s6 (c+1+1) (.fix 37 (tlC p.1))) (c:=c6) (a:=A) (b:=B) (e:=c) (K:=K) (by rw[aU,aG (by omega),hC6.old A (by omega) (by omega) (by show A≠C.M;omega),hG5.bA]) (by rw[aU,aG (by omega),hC6.old B (by omega) (by omega) (by show B≠C.M;omega),hG5.bB]) (by rw[aU,aG (by omega),hC6.old c (by omega) (by omega) (by show c≠C.M;omega),b2]) (by rw[aU,aG (by omega),hC6.hK];rfl) rfl hI.v.nag hf.nag (by omega) (by omega)
   rw[zbody_ret1 Tc];obtain⟨s8,hs8⟩:∃s8,s8=sset (sset (sset s6 (c+1+1) (.fix 37 (tlC p.1))) K (.fix 96 ((lrC C.d C.e C.low C.pc p.2.ec (p.2.lk:Nat) (.mp C.M) (.gs V 0 6 ts.length) fd q6).set 11 C.v))) K (.fix 96 (((lrC C.d C.e C.low C.pc p.2.ec (p.2.lk:Nat) (.mp C.M) (.gs V 0 6 ts.length) fd q6).set 11 C.v).set 12 C.f)):=⟨_,rfl⟩
   have g8:∀m,sget s8 m=if m=K then some (C.blk p.2 q6) else if m=c+1+1 then some (.fix 37 (tlC p.1)) else sget s6 m:=fun m=>by
    rw[hs8,aU];split
    ·rfl
    grind [aU]
   have e8:sget s8 (c+1+1)=some (.fix 37 (tlC p.1)):=by grind
   have Ba:results A88 ⟨t6,s8,c6,[(.fn (.func 130) [] [.ptr A 0,.ptr B 0,.ptr c 0],[])],none⟩=some (.agg (tlC p.1)):=by
    unfold tlC tyC tl at *;simp only[z0,seval,A88,h46,e8]
   show jY C K (.ok p) (match results A88 ⟨t6,sset (sset (sset s6 (c+1+1) (.fix 37 (tlC p.1))) K _) K _,c6,_,none⟩ with|some d=>FR.ok (.ret d) _ c6|none=>FR.no) s c
   have hs8':=hs8.symm;unfold LkC.vf at *;refine⟨s8,c6,q6,?_,by omega,by grind,by rw[g8,aG (fun e=>Wt e.symm),aG (by omega),hC6.hM],fun m m1 m2 m3=>by rw[g8,aG m2,aG (by omega),hC6.old m (by omega) m2 m3,Cv m m1 m2 m3],fun m hm=>by rw[g8,aG (by omega),aG (by omega)];exact hC6.fr m hm,hC6.nag⟩
   grind
def sD:List Nd→Nat→Nat→Prop
 | [],a,b=>a=b
 | x::r,a,b=>opN x≤a∧sD r (a-opN x+1) b
theorem sD.app:∀{l l':List Nd} {a b c:Nat},sD l a b→sD l' b c→sD (l++l') a c
 | [],_,_,_,_,h,h'=>by cases h;exact h'
 | _::_,_,_,_,_,h,h'=>⟨h.1,sD.app h.2 h'⟩
def ndAt(x:List Nd)(i:Nat):Nd:=(x[i]?).getD ⟨0,0,0,[],[],0,0⟩
theorem ndAt_eq{x:List Nd}{i:Nat}(h:i<x.length):ndAt x i=x[i]:=by grind [ndAt,aI]
theorem ch_stk{l:List Nd}(hg:iT l):∀(f i k:Nat),i<l.length→l.length≤f+i→itE l (k+1) i=l.length→sD ((chN l i).reverse.map (ndAt l)) 0 (k+1)
 | 0,i,k,h,hf,_=>by omega
 | f+1,i,k,h,hf,he=>by
  rw[op_step hg h]at he;have hn:=nx_le hg h;rw[chN_eq hg h,List.reverse_cons,List.map_append];refine sD.app (b:=opN l[i]+k) ?_ ?_
  ·by_cases hx:nxN l i<l.length
   ·cases hk:opN l[i]+k with
    | zero=>rw[hk]at he;have:nxN l i=l.length:=he;omega
    | succ m=>rw[hk]at he;exact ch_stk hg f (nxN l i) m hx (by omega) he
   ·rw[chN_ge (by omega)]
    cases hk:opN l[i]+k with
    | zero=>rfl
    | succ m=>grind [itE_out]
  ·show opN (ndAt l i)≤_∧_=_
   grind [ndAt_eq]
theorem oJ{l:List Nd}(h:wU l):sD (fC l) 0 1:=by
 have:=ch_stk h.g l.length 0 0 h.pos (by omega) (by show itE l 0 (eN l 0)=_;exact h.e)
 exact this
theorem chF_mem{l:List Nd}:∀(f i k:Nat),k∈chF l f i→k<l.length
 | 0,i,k,h=>by simp[chF]at h
 | f+1,i,k,h=>by
  rw[chF]at h;split at h
  ·rcases cH.1 h with rfl|h
   ·assumption
   ·exact chF_mem f _ k h
  ·simp at h
theorem ord_mem{l:List Nd}{k:Nat}(h:k∈gN l):k<l.length:=chF_mem l.length 0 k (List.mem_reverse.1 h)
theorem nodes_get{l:List Nd}{i:Nat}(h:i<(gN l).length):∃hk:(gN l)[i]<l.length,(fC l)[i]?=some l[(gN l)[i]]:=by
 have hk:=ord_mem (bQ h)
 grind [fC,aI,ndAt,ndAt_eq]
theorem nodes_len(l:List Nd):(fC l).length=(gN l).length:=by unfold fC;grind
structure EOk (E:LEn) (ss:List (List UInt8)) (d e:D):Prop where
 lt:Lt ss E.us d e
 low:gY E.us=(E.low:Nat)
 ll:E.low<E.us.length
 lb:∀i,i<E.us.length→(uM E.us E.low).testBit i=true
 pc:E.pc<E.us.length
 R:∀p ts,(ts.length=1∨ts.length=2)→(∀t∈ts,TG E.us t)→(E.R p ts).2.2.2=0→Rg E.us.length (E.R p ts).2.1∧Rg E.us.length (E.R p ts).2.2.1
theorem EOk.tg{E:LEn}{d e:D}(h:EOk E ss d e){k r:Int}(hk:k=1∨k=2)(hr:r=0∨r=1):TG E.us ⟨k,r,E.low,E.low,E.low⟩:=by
 have hl:=h.ll;refine⟨⟨hl,hl,hl⟩,⟨hk,by grind,by grind⟩,?_⟩
 have hb:mQ E.us.length ((E.low:Nat):Int)=true:=by unfold mQ;simp only[bW,bZ];omega
 have hq:rJ E.us (E.low:Nat) (E.low:Nat)=true:=by unfold rJ;rw[cQ];exact h.lb _ hl
 unfold tyE tl;simp only[h.low]
 grind
theorem setM_mem:∀{l:List (Int×Int)} {j:Nat} {v:Int} {p:Int×Int},p∈setM l j v→p∈l∨p.2=v
 | [],_,_,_,h=>by simp[setM]at h
 | q::r,0,v,p,h=>by
  rcases cH.1 h with rfl|h
  ·exact .inr rfl
  ·exact .inl (dA _ h)
 | q::r,j+1,v,p,h=>by
  rcases cH.1 h with rfl|h
  ·grind
  ·exact(setM_mem h).imp (dA _) id
theorem mkL_lab{E:LEn}{d e:D}(h:EOk E ss d e){lm:List (Int×Int)}(hl:wT E.us lm){x:Int}{Hr:Nat}(hn:Hr<E.us.length):wT E.us (mkL E.us lm x Hr):=by
 unfold mkL;cases hq:qI lm x 0 with
 | none=>
  intro p hp;rcases List.mem_append.1 hp with hp|hp
  ·exact hl p hp
  grind
 | some q=>
  obtain⟨p',h1,h2,h3⟩:=uX hq;obtain⟨k,hk,Bn⟩:=hl p' h1;have:q.2.toNat=k:=by omega
  intro p hp;rcases setM_mem hp with hp|hp
  ·exact hl p hp
  ·exact⟨_,hp,by rw[this];exact(h.lt.j hn Bn).2⟩
theorem SG.mark{E:LEn}{d e:D}(h:EOk E ss d e)(hs:SG E.us sm)(x:Int):SG E.us (sm.mark E x):=⟨hs.ec,mkL_lab h hs.lb (h.lt.j h.pc hs.ec).2,hs.lk⟩
section
variable {E:LEn} {ss:List (List UInt8)} {d e:D} (h:EOk E ss d e)
include h
def CalOk(E:LEn)(cal:Nat→List Vr→Lk→Lo (Tl×Lk)):Prop:=∀i vs s p,(∀v∈vs,tyE E.us (gY E.us) v.ty=0)→SG E.us s→cal i vs s = .ok p→TG E.us p.1∧SG E.us p.2
theorem prim_inv{x:Nd}{ts:List Tl}{s:Lk}{p:Tl×Lk}(hl:ts.length=1∨ts.length=2)(hg:∀t∈ts,TG E.us t)(hs:SG E.us s)(hp:vN E x ts s = .ok p):TG E.us p.1∧SG E.us p.2:=by
 unfold vN at hp;split at hp
 ·cases hp
 split at hp
 ·cases hp
 rename_i h0 hE;obtain⟨⟨w,hw,hw2⟩,⟨c,hc,El⟩⟩:=h.R x.prim ts hl hg (Decidable.not_not.1 h0);cases hp;refine⟨(tl_toT (Decidable.not_not.1 hE)).2,?_,hs.lb,hs.lk⟩;show afN E.us s.ec _ _<_;rw[hw,hc,cQ,cQ];exact(h.lt.j (h.lt.j hs.ec hw2).2 El).2
theorem look_inv{cal:Nat→List Vr→Lk→Lo (Tl×Lk)}(hc:CalOk E cal){fs:List Fd}{vs:List Vr}(hv:∀v∈vs,tyE E.us (gY E.us) v.ty=0){x:Nd}{ts:List Tl}{s:Lk}{p:Tl×Lk}(hl:x.kind=5∨x.kind=6→ts.length=1∨ts.length=2)(hk:1≤x.kind∧x.kind≤6)(hg:∀t∈ts,TG E.us t)(hs:SG E.us s)(hp:mY E cal fs vs x ts s = .ok p):TG E.us p.1∧SG E.us p.2:=by
 unfold mY at hp;split at hp
 ·cases hp;exact⟨h.tg (.inl rfl) (.inl rfl),hs⟩
 split at hp
 ·cases hp;exact⟨h.tg (.inl rfl) (.inr rfl),hs⟩
 split at hp
 ·cases hp;exact⟨h.tg (.inr rfl) (.inr rfl),hs⟩
 split at hp
 ·grind [nameM,tl_toT,List.mem_of_find?_eq_some]
 split at hp
 ·grind [prim_inv]
 ·unfold wN at hp;split at hp
  ·cases hp
  split at hp
  ·cases hp
  split at hp
  ·cases hp
  rename_i g _ Fu;refine hc _ _ _ _ (fun v hv=>?_) (hs.mark h _) hp
  obtain⟨i,hi,rfl⟩:=eV hv;have Fk:g.ps.length=ts.length:=Decidable.not_not.1 Fu;have Bs:i<ts.length:=by rw[oO Fk]at hi;exact hi
  have e:(nU g.ps ts)[i]=⟨g.ps[i],tl ts[i]⟩:=List.getElem_zipWith;rw[e];exact(hg _ (bQ Bs)).2.2
theorem node_inv{cal:Nat→List Vr→Lk→Lo (Tl×Lk)}(hc:CalOk E cal){fs:List Fd}{vs:List Vr}(hv:∀v∈vs,tyE E.us (gY E.us) v.ty=0){x:Nd}{st:List Tl}{s:Lk}{p:List Tl×Lk}(hx:qM x)(Ex:opN x≤st.length)(hk:1≤x.kind∧x.kind≤6)(hg:∀t∈st,TG E.us t)(hs:SG E.us s)(hp:oR E cal fs vs x st s = .ok p):
  (∀t∈p.1,TG E.us t)∧SG E.us p.2∧p.1.length=st.length-opN x+1:=by
 unfold oR at hp;split at hp
 ·cases hp
 rename_i hb;have zY:SG E.us s.tick:=⟨hs.ec,hs.lb,by show s.lk+1≤2000;omega⟩
 split at hp
 ·rename_i q hq;have Cf:x.kind=5∨x.kind=6→(st.take (opN x)).length=1∨(st.take (opN x)).length=2:=fun Di=>by
   have Nw:=hx.kp Di
   grind [opN,fO,eI]
  obtain⟨h1,h2⟩:=look_inv h hc hv Cf hk (fun t ht=>hg t (eH ht)) zY hq
  cases hp;refine⟨fun t ht=>?_,?_,by simp⟩
  ·grind
  ·show SG E.us (if x.kind=6 then q.2 else q.2.mark E x.site)
   split
   ·exact h2
   ·exact h2.mark h _
 ·cases hp
theorem run_inv{cal:Nat→List Vr→Lk→Lo (Tl×Lk)}(hc:CalOk E cal){fs:List Fd}{vs:List Vr}(hv:∀v∈vs,tyE E.us (gY E.us) v.ty=0):∀(l:List Nd) (st:List Tl) (s:Lk) (p:List Tl×Lk) (b:Nat),(∀x∈l,qM x∧1≤x.kind∧x.kind≤6)→sD l st.length b→(∀t∈st,TG E.us t)→SG E.us s→lO E cal fs vs l st s = .ok p →
  (∀t∈p.1,TG E.us t)∧SG E.us p.2∧p.1.length=b
 | [],st,s,p,b,_,hS,hg,hs,hp=>by cases hp;exact⟨hg,hs,hS⟩
 | x::r,st,s,p,b,hx,hS,hg,hs,hp=>by
  rw[lO]at hp;split at hp
  ·rename_i q hq;obtain⟨h1,h2,h3⟩:=hx x (cE ..);obtain⟨g1,g2,g3⟩:=node_inv h hc hv h1 hS.1 ⟨h2,h3⟩ hg hs hq;exact run_inv hc hv r q.1 q.2 p b (fun y hy=>hx y (dA _ hy)) (by rw[g3];exact hS.2) g1 g2 hp
  ·cases hp
end
end
end Zv
