/- The reference's look at an expression: the steps of a round. Conditions: none. -/
import Derived.Test.YtnpoohbeicakkaaGreatDoorZAY
set_option linter.unusedSimpArgs false
set_option linter.unusedVariables false
set_option linter.unusedSectionVars false
set_option maxRecDepth 100000
namespace Zv
open Go
noncomputable section
theorem AgB_z(cx:Cx)(cl:CL)(k:Nat)(x:AS):zC AgB cx cl k x=zbind (zC (.seq Ag1.b (.seq Ag2.b Ag3.b)) cx cl k x) fun x=>zbind (zC (.seq Ag4.b (.seq Ag5.b (.seq Ag6.b Ag7))) cx cl k x) fun x=>zbind (zC Ag8.b cx cl k x) fun x=>zbind (zC (.seq Ag9.b Ag10.b) cx cl k x) fun x=>zC Ag11.b cx cl k x:=by
 simp_all [AgB,Ab.abq,xA,qF]
structure AI (C:RC) (K:Nat) (v f dx w:D) (s0:St) (c0:Nat) (sm:Lk) (st:List Tl) (q:D) (t:Tm) (s:St) (c:Nat):Prop where
 af:Af K s0 c0 s c
 hc:c0+1≤c
 t0:tget t 0 = .ptr K 0
 t1:tget t 1=v
 t2:tget t 2=f
 t3:tget t 3=dx
 t8:tget t 8 = .ptr c0 0
 t9:tget t 9 = .int .i64 0
 t10:tget t 10 = .int .i64 0
 t11:tget t 11=w
 t13:tget t 13=q
 stk:zI (c0+1) s q st
 s8:sget s c0=some (.fix 37 z5)
 rs:RSt C K sm s
section
variable (n j:Nat) {C:RC} {K:Nat} {v f dx w:D} {s0:St} {c0:Nat} (Al:K<c0) {sm:Lk} {st:List Tl} {q:D} {t:Tm} {s:St} {c:Nat}
include Al
theorem stepA{x:List Nd}{o:List Nat}(hx:Sl 7 bK x dx)(hw:Sl 1 gU o w){i:Nat}(hi:i<o.length)(ho:o[i]<x.length)(hA:AI C K v f dx w s0 c0 sm st q t s c)(Aq:tget t 14 = .int .i64 (i:Nat))(Kr:sm.lk≤2000):
  if 2000<sm.lk+1 then ∃t' s' c',zC (.seq Ag1.b (.seq Ag2.b Ag3.b)) (cxn (n+8)) (fn (n+8) (j+5)) KK ⟨t,s,c,[],none⟩ = .ok .ret ⟨t',s',c',[],none⟩∧Af K s0 c0 s' c'∧sget s' c0=some (.fix 37 z5)∧tget t' 8 = .ptr c0 0∧tget t' 9 = .int .i64 x[o[i]].site∧tget t' 10 = .int .i64 3
  else ∃t' s' Kn,zC (.seq Ag1.b (.seq Ag2.b Ag3.b)) (cxn (n+8)) (fn (n+8) (j+5)) KK ⟨t,s,c,[],none⟩ = .ok .normal ⟨t',s',Kn+1,[],none⟩∧AI C K v f dx w s0 c0 sm.tick st q t' s' (Kn+1)∧tget t' 14 = .int .i64 (i:Nat)∧tget t' 15 = .ptr Kn 0∧sget s' Kn=some (.fix 57 (bK x[o[i]]))∧c≤Kn:=by
 have hc:=hA.hc;have zW:=hx.row ho;have Iy:=hw.ia1 hi (k:=.i64);have Dh:=hw.at1 hi;simp only[gU]at Dh;have Ub:=hx.ia ho (k:=.i64);obtain⟨q0,hq0,hs⟩:=hA.rs;have Hs:=hq0;unfold RC.blk at Hs;have s8:=hA.s8;unfold z5 at s8;have k1:(K=c)=False:=aL (by omega)
 have k2:(c0=c)=False:=aL (by omega)
 have k3:(c=K)=False:=aL (by omega)
 have k4:(c0=K)=False:=aL (by omega)
 have k5:(c=c0)=False:=aL (by omega)
 have Gq:bX .i64 ((sm.lk:Int)+1)=((sm.lk+1:Nat):Int):=gW (by omega)
 have Vn:∀y:Nd,bK y=[.int .i64 y.kind,.int .i64 y.prim,.int .i64 y.kids,.str y.name,.str y.text,.int .i64 y.n,.int .i64 y.site]:=fun _=>rfl
 by_cases hb:2000<sm.lk+1
 ·rw[aS hb];have hd:∀Fs:Decidable ((2000:Int)<((sm.lk+1:Nat):Int)),@decide _ Fs=true:=fun _=>aH (by omega)
  simp only[Ag1,Ag2,Ag3,cI];simp only[z2,seval,hA.t0,hA.t3,hA.t8,hA.t11,Aq,Iy,Dh,Ub,zW,Vn,Hs,k1,k2,k3,k4,k5,Gq,hd,s8,dR,cN,AOp.kd,zop,tks,bP,aO,aX];refine⟨_,_,_,rfl,((((hA.af.add _).set (.inl (by omega)) (by omega) _).set (.inr rfl) (by omega) _).set (.inl (by omega)) (by omega) _).up (by omega),?_,?_,?_,?_⟩
  all_goals simp[aA,z5,hA.t8]
 ·rw[aG hb];have hd:∀Fs:Decidable ((2000:Int)<((sm.lk+1:Nat):Int)),@decide _ Fs=false:=fun _=>aE (by omega)
  simp only[Ag1,Ag2,Ag3,cI];simp only[z2,seval,hA.t0,hA.t3,hA.t11,Aq,Iy,Dh,Ub,zW,Vn,Hs,k1,Gq,hd,aO,aX];have Lx:∀b1 b2 b3:Blk,zI (c0+1) (sset (sset (sadd s c b1) c b2) K b3) q st:=fun b1 b2 b3=>hA.stk.keep fun m hm hb=>by
   obtain⟨b,hb⟩:=hb;have Ez:m≠c:=fun e=>by rw[e,hA.af.free _ (aK _)]at hb;cases hb
   grind [aU,aZ]
  refine⟨_,_,c,rfl,⟨((hA.af.add _).set (.inl (by omega)) (by omega) _).set (.inr rfl) (by omega) _,by omega,?_,?_,?_,?_,?_,?_,?_,?_,?_,Lx _ _ _,?_,⟨q0,?_,hs⟩⟩,?_,?_,?_,aK _⟩
  all_goals simp[aA,hA.t0,hA.t1,hA.t2,hA.t3,hA.t8,hA.t9,hA.t10,hA.t11,hA.t13,Aq,hA.s8,z5,k2,k3,k4,RC.blk,Lk.tick]
omit Al in
theorem stk_row{cs:List D}{st:List Tl}(h1:st.length*5≤cs.length)(h2:cs.take (st.length*5)=cV tlC st.reverse){k:Nat}(hk:k<st.length):cX cs ((st.length-1-k)*5) (some 5)=some (.agg [.int .i64 st[k].k,.int .i64 st[k].r,.int .i64 (st[k].x:Nat),.int .i64 (st[k].y:Nat),.int .i64 (st[k].z:Nat)]):=by
 have hr:st.length-1-k<st.reverse.length:=by rw[List.length_reverse];omega
 have e:List.take 5 (List.drop ((st.length-1-k)*5) cs)=tlC st[k]:=by
  have h3:List.take 5 (List.drop ((st.length-1-k)*5) (cV tlC st.reverse))=tlC st.reverse[st.length-1-k]:=(lE (w:=5) (rows:=st.reverse.map tlC) (i:=st.length-1-k) (r:=tlC st.reverse[st.length-1-k]) (fun r hr=>by obtain⟨u,_,rfl⟩:=cY.1 hr;rfl) (by rw[List.getElem?_map,aI hr];rfl)).1
  have h4:st.reverse[st.length-1-k]=st[k]:=by
   rw[List.getElem_reverse]
   congr 1
   omega
  rw[←h2,List.drop_take,List.take_take,Nat.min_eq_left (by omega),h4]at h3
  exact h3
 simp only[cX];rw[bO (by omega),bG,e];rfl
def keepT(t t':Tm):Prop:=∀r∈[0,1,2,3,8,9,10,11,13,14,15,16],tget t' r=tget t r
omit Al in
theorem argL{M m ty:Nat}{cs:List D}{q:D}(hq:q = .gs m 0 5 st.length)(hM:M≤st.length)(zZ:st.length<1000)(Nh:tget t 13=q)(De:tget t 16 = .int .i64 (M:Nat))(Kx:tget t 17 = .nils)(Ta:tget t 18 = .int .i64 0)(Ez:m<c)(Sb:sget s m=some (.grow ty cs))(Qn:st.length*5≤cs.length)(zY:cs.take (st.length*5)=cV tlC st.reverse)(zX:kA s c):
  ∃t' s' c' qa,lL 4 (zloop KK (zC AgL.b (cxn (n+8)) (fn (n+8) (j+5)) KK) ⟨t,s,c,[],none⟩) = .ok .normal ⟨t',s',c',[],none⟩∧keepT t t'∧tget t' 17=qa∧Aft s c s' c'∧jT 5 tlC c s' qa (st.take M):=by
 subst hq;simp only[AgL,cI];generalize hz:zloop KK _ _=rl;refine zfor rl hz M (dY (by omega)) (by omega) (fun k t' s' c'=>∃qa,tget t' 17=qa∧keepT t t'∧Aft s c s' c'∧jT 5 tlC c s' qa (st.take k)) Ta ⟨.nils,Kx,fun _ _=>rfl,.refl zX,.inl ⟨rfl,by simp⟩⟩ ?_
 rintro k t' s' c' hkM ⟨qa,Xz,Kg,hA,hv⟩ q18;have Ac:=hA.le;have q13:=(Kg 13 (by simp)).trans Nh
 have Pz:=(Kg 16 (by simp)).trans De
 by_cases hk:k<M
 ·have hks:k<st.length:=by omega
  have Ax:bX .i64 ((st.length:Int)-1)=((st.length-1:Nat):Int):=by rw[cL (by omega) (by omega)];omega
  have Az:bX .i64 (((st.length-1:Nat):Int)-(k:Nat))=((st.length-1-k:Nat):Int):=by rw[cL (by omega) (by omega)];omega
  have ia:iJ 5 (.gs m 0 5 st.length) (.int .i64 ((st.length-1-k:Nat):Int))=some (.ptr m ((st.length-1-k)*5)):=by
   simp only[iJ,fB (show st.length-1-k<st.length by omega),bE,eQ,bG,bM]
  have row:=stk_row Qn zY hks;have hms':sget s' m=some (.grow ty cs):=(hA.old m Ez).trans Sb;have mc:(m=c')=False:=aL (by omega)
  have Uc:sget s' c'=none:=hA.free c' (aK _);simp only[z2,seval,q13,Pz,Xz,q18,dH hk,show lenD false (.gs m 0 5 st.length)=some st.length from rfl,Ax,Az,ia,hms',row]
  generalize hX:iS _ 5 40 37 qa _=Z;obtain⟨S,hS⟩:∃S,S=sadd s' c' (.fix 0 [.int .i64 st[k].k,.int .i64 st[k].r,.int .i64 (st[k].x:Nat),.int .i64 (st[k].y:Nat),.int .i64 (st[k].z:Nat)]):=⟨_,rfl⟩
  have gS:∀m,m<c'→sget S m=sget s' m:=fun m hm=>by grind [aZ]
  rw[←hS]at hX;obtain⟨v',s4,c4,hZ,hv2,Bn,ho2,Gz⟩:=lR qC (B:=c) (l:=st.take k) (l':=[st[k]]) (by decide) hX (hv.keep fun m b hm hb=>by rw[gS m (eC fun hh=>by rw[hA.free m hh]at hb;cases hb),hb]) (by simp only[cP,hS,aZ,aS];rfl) (by grind) (by grind) (fun m hm=>by
   have Ei:c'+1≤m:=hm;show sget S m=none;rw[hS,aZ,aG (by omega)];exact hA.free m (by omega))
  have Sf:c'+1≤c4:=Bn;subst hZ;rw[←List.take_succ_eq_append_getElem hks]at hv2;simp only[z2,seval];refine⟨hk,trivial,trivial,?_,v',?_,?_,⟨by omega,fun m hm=>by rw[ho2 m hm,gS m (by omega)];exact hA.old m hm,Gz⟩,hv2⟩
  ·omega
  ·simp[]
  ·intro r hr;have Bk:=Kg r hr;simp only[cH,List.not_mem_nil,or_false]at hr;rcases hr with rfl|rfl|rfl|rfl|rfl|rfl|rfl|rfl|rfl|rfl|rfl|rfl<;>simpa[aA]using Bk
 ·have e:k=M:=by omega
  subst e;simp only[z2,seval,Pz,q18,gG (aK k)];refine⟨_,_,_,qa,rfl,?_,?_,hA,hv⟩
  ·intro r hr;have Bk:=Kg r hr;simp only[cH,List.not_mem_nil,or_false]at hr;rcases hr with rfl|rfl|rfl|rfl|rfl|rfl|rfl|rfl|rfl|rfl|rfl|rfl<;>simpa[aA]using Bk
  ·simp[aA,Xz]
theorem AI.keep{s':St}{c':Nat}{t':Tm}(hA:AI C K v f dx w s0 c0 sm st q t s c)(hk:keepT t t')(hS:Aft s c s' c'):AI C K v f dx w s0 c0 sm st q t' s' c':=by
 have hc:=hA.hc;have Ac:=hS.le;obtain⟨q0,hq0,hs⟩:=hA.rs
 exact⟨hA.af.trans ⟨hS.le,fun m hm _=>hS.old m hm,hS.free⟩,by omega,(hk 0 (by simp)).trans hA.t0,(hk 1 (by simp)).trans hA.t1,(hk 2 (by simp)).trans hA.t2,(hk 3 (by simp)).trans hA.t3,(hk 8 (by simp)).trans hA.t8,(hk 9 (by simp)).trans hA.t9,(hk 10 (by simp)).trans hA.t10,(hk 11 (by simp)).trans hA.t11,(hk 13 (by simp)).trans hA.t13,hA.stk.keep fun m hm hb=>hS.old m (by
  obtain⟨b,hb⟩:=hb;exact eC fun hh=>by rw[hA.af.free m hh]at hb;cases hb),(hS.old c0 (by omega)).trans hA.s8,q0,(hS.old K (by omega)).trans hq0,hs⟩
theorem stepB{y:Nd}{i Kn:Nat}(hy:qM y)(hk:1≤y.kind∧y.kind≤6)(hA:AI C K v f dx w s0 c0 sm st q t s c)(Aq:tget t 14 = .int .i64 (i:Nat))(Nf:tget t 15 = .ptr Kn 0)(hn:sget s Kn=some (.fix 57 (bK y)))(hnc:Kn<c)(Ex:opN y≤st.length)(zZ:st.length<1000):
  ∃t' s' c' qa,zC (.seq Ag4.b (.seq Ag5.b (.seq Ag6.b Ag7))) (cxn (n+8)) (fn (n+8) (j+5)) KK ⟨t,s,c,[],none⟩ = .ok .normal ⟨t',s',c',[],none⟩∧AI C K v f dx w s0 c0 sm st q t' s' c'∧tget t' 14 = .int .i64 (i:Nat)∧tget t' 15 = .ptr Kn 0∧sget s' Kn=some (.fix 57 (bK y))∧Kn<c'∧tget t' 16 = .int .i64 (opN y:Nat)∧tget t' 17=qa∧eG qa=false ∧
   (y.kind=5∨y.kind=6→∃a ty,qa = .gs a 0 5 (st.take (opN y)).length∧sget s' a=some (.grow ty (cV tlC (st.take (opN y))))∧a≠K∧a<c'):=by
 have hc:=hA.hc;have Ij:=hn;unfold bK at Ij;by_cases Di:y.kind=5∨y.kind=6
 ·have Nw:=hy.kp Di;have hm:opN y=y.kids.toNat:=by unfold opN fO;rw[aS Di]
  have hmi:y.kids=(opN y:Nat):=by omega
  generalize hM:opN y=M at *;have hM12:M=1∨M=2:=by omega
  have hh:(decide (y.kind=5)=true)∨(decide (y.kind=5)=false∧decide (y.kind=6)=true):=by
   rcases Di with h|h
   ·grind
   ·grind
  rcases hA.stk with⟨_,h0⟩|⟨m,ty,cs,hmB,hq,Sb,Qn,zY⟩
  ·grind
  have Ez:m<c:=eC fun hh=>by rw[hA.af.free _ hh]at Sb;cases Sb
  have Bm:∀(t1:Tm),tget t1 16 = .int .i64 (M:Nat)→tget t1 17 = .nils→tget t1 18 = .int .i64 0→(∀r∈[0,1,2,3,8,9,10,11,13,14,15],tget t1 r=tget t r)→∃t' s' c' qa,lL 4 (zloop KK (zC AgL.b (cxn (n+8)) (fn (n+8) (j+5)) KK) ⟨t1,s,c,[],none⟩) = .ok .normal ⟨t',s',c',[],none⟩∧AI C K v f dx w s0 c0 sm st q t' s' c'∧tget t' 14 = .int .i64 (i:Nat)∧tget t' 15 = .ptr Kn 0∧sget s' Kn=some (.fix 57 (bK y))∧Kn<c'∧tget t' 16 = .int .i64 (M:Nat)∧tget t' 17=qa∧eG qa=false ∧
   (y.kind=5∨y.kind=6→∃a ty,qa = .gs a 0 5 (st.take M).length∧sget s' a=some (.grow ty (cV tlC (st.take M)))∧a≠K∧a<c'):=fun t1 De Kx Ta hT=>by
   obtain⟨t',s',c',qa,hz,Kg,Xz,hS,hv⟩:=argL n j (st:=st) hq Ex zZ ((hT 13 (by simp)).trans hA.t13) De Kx Ta Ez Sb Qn zY hA.af.free
   have Ac:=hS.le;have Lh:AI C K v f dx w s0 c0 sm st q t1 s c:=⟨hA.af,hA.hc,(hT 0 (by simp)).trans hA.t0,(hT 1 (by simp)).trans hA.t1,(hT 2 (by simp)).trans hA.t2,(hT 3 (by simp)).trans hA.t3,(hT 8 (by simp)).trans hA.t8,(hT 9 (by simp)).trans hA.t9,(hT 10 (by simp)).trans hA.t10,(hT 11 (by simp)).trans hA.t11,(hT 13 (by simp)).trans hA.t13,hA.stk,hA.s8,hA.rs⟩
   refine⟨t',s',c',qa,hz,AI.keep Al Lh Kg hS,(Kg 14 (by simp)).trans ((hT 14 (by simp)).trans Aq),(Kg 15 (by simp)).trans ((hT 15 (by simp)).trans Nf),(hS.old Kn hnc).trans hn,by omega,(Kg 16 (by simp)).trans De,Xz,hv.nag,fun _=>?_⟩
   have htl:(st.take M).length=M:=by rw[eI];omega
   rcases hv with⟨_,hh⟩|⟨_,_,_,_,hh⟩|⟨a,ty,ha,e,hs,_⟩
   ·grind
   ·grind
   ·exact⟨a,ty,e,hs,by omega,eC fun hh=>by rw[hS.free a hh]at hs;cases hs⟩
  simp only[Ag7,Ab.abq];simp only[Ag4,Ag5,Ag6,cI];rcases hh with hh|⟨hh,hh6⟩
  ·simp only[z2,seval,Nf,Ij,hh,hmi];refine Bm _ ?_ ?_ ?_ fun r hr=>?_
   case refine_4=>
    simp only[cH,List.not_mem_nil,or_false]at hr;rcases hr with rfl|rfl|rfl|rfl|rfl|rfl|rfl|rfl|rfl|rfl|rfl<;>simp[aA]
   all_goals simp[aA]
  ·simp only[z2,seval,Nf,Ij,hh,hh6,hmi];refine Bm _ ?_ ?_ ?_ fun r hr=>?_
   case refine_4=>
    simp only[cH,List.not_mem_nil,or_false]at hr;rcases hr with rfl|rfl|rfl|rfl|rfl|rfl|rfl|rfl|rfl|rfl|rfl<;>simp[aA]
   all_goals simp[aA]
 ·have hm:opN y=0:=by unfold opN fO;rw[aG Di];rfl
  have d5:decide (y.kind=5)=false:=aE (by omega)
  have d6:decide (y.kind=6)=false:=aE (by omega)
  simp only[Ag7,Ab.abq];simp only[Ag4,Ag5,Ag6,AgL,cI];simp only[z2,seval,Nf,Ij,d5,d6,zun];refine⟨_,_,_,.nils,rfl,⟨hA.af,hc,?_,?_,?_,?_,?_,?_,?_,?_,?_,hA.stk,hA.s8,hA.rs⟩,?_,?_,hn,hnc,?_,?_,rfl,fun hh=>absurd hh Di⟩
  all_goals simp[aA,hA.t0,hA.t1,hA.t2,hA.t3,hA.t8,hA.t9,hA.t10,hA.t11,hA.t13,Aq,Nf,hm]
theorem stepC{M i Kn:Nat}{qa:D}(hA:AI C K v f dx w s0 c0 sm st q t s c)(Aq:tget t 14 = .int .i64 (i:Nat))(Nf:tget t 15 = .ptr Kn 0)(De:tget t 16 = .int .i64 (M:Nat))(Kx:tget t 17=qa)(Ex:M≤st.length)(zZ:st.length<1000):
  ∃t' q',zC Ag8.b (cxn (n+8)) (fn (n+8) (j+5)) KK ⟨t,s,c,[],none⟩ = .ok .normal ⟨t',s,c,[],none⟩∧AI C K v f dx w s0 c0 sm (st.drop M) q' t' s c∧tget t' 14 = .int .i64 (i:Nat)∧tget t' 15 = .ptr Kn 0∧tget t' 17=qa:=by
 have Ax:bX .i64 ((st.length:Int)-(M:Nat))=((st.length-M:Nat):Int):=by rw[cL (by omega) (by omega)];omega
 have Ye:(st.drop M).length=st.length-M:=gP ..;simp only[Ag8,cI];rcases hA.stk with⟨hq,h0⟩|⟨m,ty,cs,hmB,hq,Sb,Qn,zY⟩
 ·subst hq;subst h0;have hM0:M=0:=by simp only[aX]at Ex;omega
  subst hM0;simp only[z0,seval,hA.t13,De,show pX 5 .nils none (some (.int .i64 0)) none=some .nils from rfl,show lenD false .nils=some 0 from rfl,show bX .i64 0=0 from rfl]
  refine⟨_,.nils,rfl,⟨hA.af,hA.hc,?_,?_,?_,?_,?_,?_,?_,?_,?_,.inl ⟨rfl,rfl⟩,hA.s8,hA.rs⟩,?_,?_,?_⟩
  all_goals simp[aA,hA.t0,hA.t1,hA.t2,hA.t3,hA.t8,hA.t9,hA.t10,hA.t11,Aq,Nf,Kx]
 ·subst hq;simp only[z0,seval,hA.t13,De,show lenD false (.gs m 0 5 st.length)=some st.length from rfl,Ax,slv_hi (show st.length-M≤st.length by omega)]
  refine⟨_,.gs m 0 5 (st.length-M),rfl,⟨hA.af,hA.hc,?_,?_,?_,?_,?_,?_,?_,?_,?_,.inr ⟨m,ty,cs,hmB,by rw[Ye],Sb,by omega,?_⟩,hA.s8,hA.rs⟩,?_,?_,?_⟩
  case refine_10=>
   have e:st.reverse=(st.drop M).reverse++(st.take M).reverse:=by rw[←List.reverse_append,List.take_append_drop]
   have htl:(st.take M).length=M:=by rw[eI];omega
   rw[e]at zY;have:=(part_cells (cs:=cs) (a:=(st.drop M).reverse) (b:=(st.take M).reverse) (by grind) (by grind)).2
   grind
  all_goals simp[aA,hA.t0,hA.t1,hA.t2,hA.t3,hA.t8,hA.t9,hA.t10,hA.t11,Aq,Nf,Kx]
theorem stepE{T:Tl}{i Kt:Nat}(hA:AI C K v f dx w s0 c0 sm st q t s c)(Aq:tget t 14 = .int .i64 (i:Nat))(h19:tget t 19 = .ptr Kt 0)(hT:sget s Kt=some (.fix 37 (tlC T)))(zZ:st.length<1000):
  ∃t' s' c' q',zC Ag11.b (cxn (n+8)) (fn (n+8) (j+5)) KK ⟨t,s,c,[],none⟩ = .ok .normal ⟨t',s',c',[],none⟩∧AI C K v f dx w s0 c0 sm (T::st) q' t' s' c'∧tget t' 14 = .int .i64 (i:Nat):=by
 have hc:=hA.hc;simp only[Ag11,cI];unfold tlC tyC tl at hT;have Jl:eG q=false:=by rcases hA.stk with⟨rfl,_⟩|⟨m,ty,cs,_,rfl,_⟩<;>rfl
 simp only[z0,seval,hA.t13,h19,hT];obtain⟨S,hS⟩:∃S,S=sadd s c (.fix 0 [.int .i64 T.k,.int .i64 T.r,.int .i64 (T.x:Nat),.int .i64 (T.y:Nat),.int .i64 (T.z:Nat)]):=⟨_,rfl⟩
 have gS:∀m,m≠c→sget S m=sget s m:=fun m hm=>by grind [aZ]
 have Lx:zI (c0+1) S q st:=hA.stk.keep fun m hm hb=>gS m fun e=>by
  obtain⟨b,hb⟩:=hb;rw[e,hA.af.free _ (aK _)]at hb;cases hb
 rw[←hS];generalize hX:iS _ 5 40 37 q _=Z;obtain⟨q',s',c',h1,h2,h3,h4,h5⟩:=stk_app (tm:=_) (s:=S) (c:=c+1) (nb:=c) (dd:=[]) (r:=none) (u:=T) Lx (by rw[hS,aZ,aS rfl];rfl) (by omega) (fun m hm=>by rw[gS m (by omega)];exact hA.af.free m (by omega)) zZ
 rw[←hX,h1];have hKS:sget s' K=sget s K:=by grind
 obtain⟨q0,hq0,hs⟩:=hA.rs;simp only[z0,seval];refine⟨_,s',c',q',rfl,⟨⟨by have:=hA.af.le;omega,fun m hm hk=>by rw[h5 m (by omega) (.inl (by omega)),gS m (by omega)];exact hA.af.old m hm hk,h4⟩,by omega,?_,?_,?_,?_,?_,?_,?_,?_,?_,h2,?_,q0,by grind,hs⟩,?_⟩
 case refine_10=>rw[h5 c0 (by omega) (.inl (by omega)),gS c0 (by omega)];exact hA.s8
 all_goals simp[aA,hA.t0,hA.t1,hA.t2,hA.t3,hA.t8,hA.t9,hA.t10,hA.t11,Aq]
end
theorem ev_len{l:List Nd}(hg:iT l):∀(f i:Nat),i<l.length→eN l i≤l.length→l.length≤f+i→(evN l f i).length≤l.length:=fun f i h he hf=>by
 have:=ev_ch hg f i h he hf
 grind [chF_len,List.length,dZ,List.length_reverse,chN]
theorem app_sl{B:Nat}{t:Tm}{s:St}{c:Nat}{dd:List (D×List D)}{r:Option Nat}{q b:D}{L L':List Nat}{ty:Nat}{A:Option (D×AS)}(hA:iS ⟨t,s,c,dd,r⟩ 1 8 ty q b=A)(hb:Sl 1 gU L' b)(hO:jT 1 gU B s q L)(hL:L.length+L'.length≤4294967296)(hc:B≤c)(zX:∀m,c≤m→sget s m=none):
  ∃q' s' c',A=some (q',⟨t,s',c',dd,r⟩)∧jT 1 gU B s' q' (L++L')∧c≤c'∧(∀m,m<B→sget s' m=sget s m)∧∀m,c'≤m→sget s' m=none:=by
 subst hA;exact lR kU (by decide) rfl hO (hb.scG kU s) hL hc zX
theorem c177{l:List Nd}{d:D}(hd:Sl 7 bK l d)(hg:iT l)(hl:l.length<4294967)(n:Nat):∀(f i:Nat),i<l.length→eN l i≤l.length→l.length≤f+i→∃r,cl (n+f+2) 177 [d,.int .i64 (i:Nat)]=some (r,true)∧Sl 1 gU (evN l f i) r:=by
 intro f
 induction f with
 | zero=>omega
 | succ f ih=>
  intro i hi he hf;show ∃r,cl (n+f+3) 177 _=_∧_
  obtain⟨r,h149,hr⟩:∃r,cl (n+f+2) 149 [d,.int .i64 (i:Nat)]=some (r,true)∧Sl 1 gU (pN l i) r:=c149 hd hg (by omega) n (f+1) i hi he (by omega)
  have Cy:=pL hg hi he;have Pc:evN l (f+1) i=(pN l i).reverse.flatMap (evN l f)++[i]:=by grind [evN,gK_kids]
  rw[kG 177 A177 B177,B177];rcases kids_cases hg hi with hk|⟨a,hk⟩|⟨a,b,hk⟩
  ·rw[hk]at hr Pc;simp only[z2,seval,zun,aF 149,aJ,hd.fz,h149,hr.len,aX,show((0:Nat):Int)=0 from rfl,show bX .i64 (-1) = -1 from rfl]
   generalize hA:iS _ 1 8 4 _ _=A;obtain⟨q',s',c',rfl,hO,Bw,_,Dn⟩:=vE (B:=0) (L:=[]) (k:=i) hA rfl (.inl ⟨rfl,rfl⟩) (by decide) (aK _) (fun m _=>dX m)
   simp only[z2,seval,A177];obtain⟨r',Ge,Cb⟩:=hO.fz kU true
   grind [pout]
  ·rw[hk]at hr Pc Cy;obtain⟨h1,h2,h3⟩:=Cy a (fV.2 rfl);obtain⟨r1,e1,Ax⟩:=ih a h2 h3 (by omega)
   have l1:=ev_len hg f a h2 h3 (by omega)
   have ia:iJ 1 r (.int .i64 0)=some (.iptr ([a].map gU).flatten 0):=hr.ia1 (i:=0) (by simp)
   have Jf:([a].map gU).flatten[0]?=some (.int .i64 (a:Int)):=rfl;simp only[z2,seval,zun,aF 149,aF 177,aJ,hd.fz,h149,hr.len,aO,aX,show((1:Nat):Int)=1 from rfl,show bX .i64 0=0 from rfl,ia,Jf,e1]
   generalize hA:iS _ 1 8 4 _ _=A;obtain⟨q1,s1,c1,rfl,hO,Dt,_,Mp⟩:=app_sl (B:=0) (L:=[]) hA Ax (.inl ⟨rfl,rfl⟩) (by grind) (dM _) (fun m _=>dX m)
   simp only[z2,seval,zun,show bX .i64 (-1) = -1 from rfl]
   generalize hA:iS _ 1 8 4 _ _=A;obtain⟨q',s',c',rfl,hO',Bw,_,Dn⟩:=vE (B:=0) (L:=[]++evN l f a) (k:=i) hA rfl hO (by grind) (dM _) Mp
   simp only[z2,seval,A177];obtain⟨r',Ge,Cb⟩:=hO'.fz kU true
   grind [pout]
  ·rw[hk]at hr Pc Cy;obtain⟨h1,h2,h3⟩:=Cy a (by simp)
   obtain⟨g1,g2,g3⟩:=Cy b (by simp)
   obtain⟨r1,e1,Ax⟩:=ih a h2 h3 (by omega)
   obtain⟨r2,e2,Az⟩:=ih b g2 g3 (by omega)
   have l1:=ev_len hg f a h2 h3 (by omega)
   have l2:=ev_len hg f b g2 g3 (by omega)
   have ia:iJ 1 r (.int .i64 0)=some (.iptr ([a,b].map gU).flatten 0):=hr.ia1 (i:=0) (by simp)
   have ib:iJ 1 r (.int .i64 1)=some (.iptr ([a,b].map gU).flatten 1):=hr.ia1 (i:=1) (by simp)
   have Jf:([a,b].map gU).flatten[0]?=some (.int .i64 (a:Int)):=rfl;have at1:([a,b].map gU).flatten[1]?=some (.int .i64 (b:Int)):=rfl;simp only[z2,seval,zun,aF 149,aF 177,aJ,hd.fz,h149,hr.len,aO,aX,show((2:Nat):Int)=2 from rfl,show bX .i64 1=1 from rfl,ib,at1,e2]
   generalize hA:iS _ 1 8 4 _ _=A;obtain⟨q1,s1,c1,rfl,hO,Dt,_,Mp⟩:=app_sl (B:=0) (L:=[]) hA Az (.inl ⟨rfl,rfl⟩) (by grind) (dM _) (fun m _=>dX m)
   simp only[z2,seval,zun,aF 177,aJ,hd.fz,show bX .i64 0=0 from rfl,ia,Jf,e1]
   generalize hA:iS _ 1 8 4 _ _=A;obtain⟨q2,s2,c2,rfl,hO2,El,_,Gz⟩:=app_sl (B:=0) (L:=[]++evN l f b) hA Ax hO (by grind) (dM _) Mp
   simp only[z2,seval,zun,show bX .i64 (-1) = -1 from rfl]
   generalize hA:iS _ 1 8 4 _ _=A;obtain⟨q',s',c',rfl,hO',Bw,_,Dn⟩:=vE (B:=0) (L:=[]++evN l f b++evN l f a) (k:=i) hA rfl hO2 (by grind) (dM _) Gz
   simp only[z2,seval,A177];obtain⟨r',Ge,Cb⟩:=hO'.fz kU true
   grind [List.flatMap,pout]
theorem c150{l:List Nd}{d:D}(hd:Sl 7 bK l d)(hl:l.length<4294967)(hN:NdOk l){x:Int}(h:exD l=e2 x 0)(n:Nat):∃w fl,cl (n+404) 150 [d]=some (.tup [w,.int .i64 0],fl)∧Sl 1 gU (gN l) w:=by
 have ho:=ex_ok h;have Ac:=ho.le;obtain⟨r,h177,hr⟩:∃r,cl (n+403) 177 [d,.int .i64 ((0:Nat):Int)]=some (r,true)∧Sl 1 gU (evN l l.length 0) r:=by
  obtain⟨k,hk⟩:∃k,n+403=k+l.length+2:=⟨n+401-l.length,by omega⟩
  rw[hk];exact c177 hd ho.g hl k l.length 0 ho.pos (by rw[ho.e];omega) (by omega)
 rw[ev_ord ho.g ho.pos ho.e]at hr;have Je:=c48 n hd (by omega) fun _=>hN
 rw[h]at Je;rw[show((0:Nat):Int)=0 from rfl]at h177
 obtain⟨fl,Bj⟩:∃fl,pout (.ok (.ret (.tup [r,.int .i64 0])) st0 0)=some (.tup [r,.int .i64 0],fl):=by
  rcases hr.2 with⟨e,_⟩|⟨ex,e⟩
  ·rw[e];exact⟨true,rfl⟩
  ·rw[e];exact⟨false,rfl⟩
 refine⟨r,fl,?_,hr⟩;rw[iP 150 A150 B150,B150];simp only[z0,seval,aF 48,aF 177,aJ,hd.fz,Je,e2,nb,h177,A150];rw[←Bj]
theorem VR.go{us:List Nat}{K c0 c:Nat}{s0 s:St}{v:D}{vs:List Vr}(h:VR us K c0 s0 v vs)(hA:Af K s0 c0 s c):VR us K c s v vs:=by
 obtain⟨w,h1,h2⟩:=h.fz;exact⟨h.nag,⟨w,h1,fun s2 hs k=>h2 s2 (fun m hm hk=>by rw[hs m (bY hm hA.le) hk,hA.old m hm hk]) k⟩,h.len,h.good⟩
section
variable (n j:Nat) {ss:List (List UInt8)} {us:List Nat} {C:RC} (h:Lt ss us C.d C.e) (hp:C.pc<us.length) (Ao:C.low<us.length) (hl:gY us=(C.low:Nat)) (hb:∀i,i<us.length→(uM us C.low).testBit i=true) {K:Nat} {v f dx w:D} {s0:St} {c0:Nat} (Al:K<c0)
include h hp Ao hl hb Al
def StpD(C:RC)(K:Nat)(v f dx w:D)(s0:St)(c0:Nat)(st:List Tl)(q:D)(i:Nat)(r:Lo (Tl×Lk))(z:R):Prop:=match r with
 | .ok p=>∃t s c Kt,z = .ok .normal ⟨t,s,c,[],none⟩∧AI C K v f dx w s0 c0 p.2 st q t s c∧tget t 14 = .int .i64 (i:Nat)∧tget t 19 = .ptr Kt 0∧sget s Kt=some (.fix 37 (tlC p.1))
 | .bad a e=>∃t s c,z = .ok .ret ⟨t,s,c,[],none⟩∧Af K s0 c0 s c∧sget s c0=some (.fix 37 z5)∧tget t 8 = .ptr c0 0∧tget t 9 = .int .i64 a∧tget t 10 = .int .i64 e∧e≠0
theorem stepD(mR:Nat){vs:List Vr}{fs:List Fd}(hv:VR us K c0 s0 v vs)(hf:Sl 3 fdC fs f)(Bj:fs.length<1000)(Eb:∀g∈fs,FdOk g){sm:Lk}{st:List Tl}{q:D}{t:Tm}{s:St}{c:Nat}{y:Nd}{i Kn:Nat}{qa:D}(hA:AI C K v f dx w s0 c0 sm st q t s c)(hS:SK us sm)(hk:1≤y.kind∧y.kind≤6)(Aq:tget t 14 = .int .i64 (i:Nat))(Nf:tget t 15 = .ptr Kn 0)(hn:sget s Kn=some (.fix 57 (bK y)))(Kx:tget t 17=qa)(hq:eG qa=false){ts:List Tl}
  (Di:y.kind=5∨y.kind=6→(ts.length=1∨ts.length=2)∧(∀t∈ts,TG us t)∧∃a ty,qa = .gs a 0 5 ts.length∧sget s a=some (.grow ty (cV tlC ts))∧a≠K∧a<c)
  {cal:Nat→List Vr→Lk→Lo (Tl×Lk)} (Aw:∀i (hi:i<fs.length) (v' fd:D),Sl 3 fdC (fs.take i) fd→∀(Ep:List Vr) (s':St) (c':Nat),VR us K c' s' v' Ep→RSt C K (sm.mark ⟨us,C.low,C.pc,RDl mR C.d C.e⟩ y.site) s'→K<c'→kA s' c'→LkR C K (cal i Ep (sm.mark ⟨us,C.low,C.pc,RDl mR C.d C.e⟩ y.site)) (fn (n+8) (j+3) (.fn 101) [.ptr K 0,v',fd,fs[i].bd] s' c') s' c') :
  StpD C K v f dx w s0 c0 st q i (vO ⟨us,C.low,C.pc,RDl mR C.d C.e⟩ cal fs vs y ts sm) (zC (.seq Ag9.b Ag10.b) (cxn (n+8)) (fn (n+8) (j+5)) KK ⟨t,s,c,[],none⟩):=by
 have hc:=hA.hc;have Nc:=f151 n j h hp Ao hl hb (by omega) hA.af.free mR (hv.go hA.af) hf Bj Eb hA.rs hS hk hq Di Aw
 have Ij:=hn;unfold bK at Ij Nc;have s8:=hA.s8;unfold z5 at s8;simp only[Ag9,Ag10,cI];cases hr:vO ⟨us,C.low,C.pc,RDl mR C.d C.e⟩ cal fs vs y ts sm with
 | ok p=>
  rw[hr]at Nc;obtain⟨s5,c5,h1,hA5,hR5⟩:=Nc;have Ac:=hA5.le;unfold tlC tyC tl at h1;simp only[z0,seval,hA.t0,hA.t1,hA.t2,Nf,Ij,Kx,h1];obtain⟨q5,hq5,hs5⟩:=hR5;have Lx:∀b1 b2:Blk,zI (c0+1) (sset (sadd s5 c5 b1) c5 b2) q st:=fun b1 b2=>hA.stk.keep fun m hm hb=>by
   obtain⟨b,hb⟩:=hb;have Ez:m<c:=eC fun hh=>by rw[hA.af.free m hh]at hb;cases hb
   rw[aU,aG (by omega),aZ,aG (by omega),hA5.old m Ez (by omega)]
  have k1:(c0=c5)=False:=aL (by omega)
  have k2:(K=c5)=False:=aL (by omega)
  refine⟨_,_,_,c5,rfl,⟨((hA.af.trans hA5).add _).set (.inl (by omega)) (by omega) _,by omega,?_,?_,?_,?_,?_,?_,?_,?_,?_,Lx _ _,?_,q5,?_,hs5⟩,?_,?_,?_⟩
  case refine_10=>simp only[aU,aZ,k1,iV];rw[hA5.old c0 (by omega) (by omega)];exact hA.s8
  case refine_11=>grind [aU,aZ,k2]
  all_goals simp[aA,hA.t0,hA.t1,hA.t2,hA.t3,hA.t8,hA.t9,hA.t10,hA.t11,hA.t13,Aq,tlC,tyC,tl]
 | bad a e=>
  rw[hr]at Nc;obtain⟨s5,c5,h1,hA5,he⟩:=Nc;have Ac:=hA5.le;unfold z5 at h1;have g8:sget s5 c0=_:=(hA5.old c0 (by omega) (by omega)).trans s8
  have k1:(c0=c5)=False:=aL (by omega)
  have k2:(c5=c0)=False:=aL (by omega)
  simp only[z0,seval,hA.t0,hA.t1,hA.t2,hA.t8,Nf,Ij,Kx,h1,aH he,g8,k1];refine⟨_,_,_,rfl,(((hA.af.trans hA5).add _).set (.inl (by omega)) (by omega) _).set (.inl (aK _)) (by omega) _,?_,?_,?_,?_,he⟩
  all_goals simp[aA,hA.t8,z5]
omit h hp Ao hl hb Al in
theorem nodeM_R(E:LEn)(cal:Nat→List Vr→Lk→Lo (Tl×Lk))(fs:List Fd)(vs:List Vr)(x:Nd)(st:List Tl)(s:Lk):oR E cal fs vs x st s=if 2000<s.lk+1 then .bad x.site 3 else match vO E cal fs vs x (st.take (opN x)) s.tick with | .ok p=>.ok (p.1::st.drop (opN x),p.2) | .bad a e=>.bad a e:=by
 grind [oR,vO,mY,opN]
def LpR(C:RC)(K:Nat)(v f dx w:D)(s0:St)(c0:Nat)(r:Lo (List Tl×Lk))(z:R):Prop:=match r with
 | .ok p=>∃t s c q,z = .ok .normal ⟨t,s,c,[],none⟩∧AI C K v f dx w s0 c0 p.2 p.1 q t s c
 | .bad a e=>∃t s c,z = .ok .ret ⟨t,s,c,[],none⟩∧Af K s0 c0 s c∧sget s c0=some (.fix 37 z5)∧tget t 8 = .ptr c0 0∧tget t 9 = .int .i64 a∧tget t 10 = .int .i64 e∧e≠0
theorem loop101(mR:Nat)(hE:EOk ⟨us,C.low,C.pc,RDl mR C.d C.e⟩ ss C.d C.e){vs:List Vr}{fs:List Fd}(hv:VR us K c0 s0 v vs)(hf:Sl 3 fdC fs f)(Bj:fs.length<1000)(Eb:∀g∈fs,FdOk g){x:List Nd}(hx:Sl 7 bK x dx)(Fj:wU x)(hw:Sl 1 gU (gN x) w)
  {cal:Nat→List Vr→Lk→Lo (Tl×Lk)} (Wl:CalOk ⟨us,C.low,C.pc,RDl mR C.d C.e⟩ cal) (Wk:∀i vs s p,KP s→cal i vs s = .ok p→KP p.2)
  (Aw:∀(y:Nd) (sm:Lk),SG us sm→KP' sm→∀i (hi:i<fs.length) (v' fd:D),Sl 3 fdC (fs.take i) fd→∀(Ep:List Vr) (s':St) (c':Nat),VR us K c' s' v' Ep→RSt C K (sm.mark ⟨us,C.low,C.pc,RDl mR C.d C.e⟩ y.site) s'→K<c'→kA s' c'→LkR C K (cal i Ep (sm.mark ⟨us,C.low,C.pc,RDl mR C.d C.e⟩ y.site)) (fn (n+8) (j+3) (.fn 101) [.ptr K 0,v',fd,fs[i].bd] s' c') s' c')
  {q:D} {t:Tm} {s:St} {c:Nat} {sm:Lk} (hA:AI C K v f dx w s0 c0 sm [] q t s c) (Aq:tget t 14 = .int .i64 0) (hG:SG us sm) (hKP:KP sm) :
  LpR C K v f dx w s0 c0 (lO ⟨us,C.low,C.pc,RDl mR C.d C.e⟩ cal fs vs (fC x) [] sm) (lL 0 (zloop KK (zC (.seq (.seq (.reg none [⟨some 27,(.mv (.t 14)),none⟩,⟨some 28,(.mv (.t 11)),none⟩,⟨some 29,(.len false (.t 28)),none⟩,⟨some 30,(.bin .lss (.t 27) (.t 29)),none⟩]) (.cond (.t 30) .skip (.exit 0))) (.seq (.block 2 AgB) (.reg none [⟨some 31,(.mv (.t 14)),none⟩,⟨some 32,(.bin .add (.t 31) (.c (.int .i64 1))),none⟩,⟨some 14,(.mv (.t 32)),none⟩]))) (cxn (n+8)) (fn (n+8) (j+5)) KK) ⟨t,s,c,[],none⟩)):=by
 have Kq:=ord_len Fj.g;have Ac:=Fj.le;have Vm:=nodes_len x;generalize hE0:(⟨us,C.low,C.pc,RDl mR C.d C.e⟩:LEn)=E at *;have Pi:E.us=us:=by rw[←hE0]
 generalize hz:zloop KK _ _=rl;refine zfor rl hz (gN x).length (dY (by omega)) (by omega) (fun i t s c=>∃st Bx q,lO E cal fs vs ((fC x).take i) [] sm = .ok (st,Bx)∧SG us Bx∧KP Bx∧(∀u∈st,TG us u)∧sD ((fC x).drop i) st.length 1∧st.length≤i∧AI C K v f dx w s0 c0 Bx st q t s c) Aq ?_ ?_
 ·exact⟨[],sm,q,rfl,hG,hKP,nofun,oJ Fj,aK _,hA⟩
 ·rintro i t s c hi ⟨st,Bx,q',hr,Mx,hP',zZ,Lz,Km,Dv⟩ Lj;by_cases zQ:i<(gN x).length
  ·obtain⟨hk,Dy⟩:=nodes_get zQ;have Vy:i<(fC x).length:=by omega
   have hy:(fC x)[i]=x[(gN x)[i]]:=by rw[aI Vy]at Dy;exact Option.some.inj Dy
   have Mv:(fC x).drop i=x[(gN x)[i]]::(fC x).drop (i+1):=by rw[List.drop_eq_getElem_cons Vy,hy]
   rw[Mv]at Lz;obtain⟨g1,g2,g3⟩:=nd_ok Fj hk;have Ft:fC x=(fC x).take i++x[(gN x)[i]]::(fC x).drop (i+1):=by grind [List.take_append_drop]
   have zV:∀r,oR E cal fs vs x[(gN x)[i]] st Bx=r→lO E cal fs vs (fC x) [] sm=match r with | .ok p=>lO E cal fs vs ((fC x).drop (i+1)) p.1 p.2 | .bad a e=>.bad a e:=fun r Bk=>by
    refine(congrArg (fun l=>lO E cal fs vs l [] sm) Ft).trans ?_
    simp only[xS,hr,lO,Bk];cases r<;>rfl
   simp only[z2,seval,Lj,Dv.t11,hw.len,dH zQ];obtain⟨t1,ht1⟩:∃t1,t1=tput (tput (tput (tput t 27 (.int .i64 (i:Nat))) 28 w) 29 (.int .i64 ((gN x).length:Nat))) 30 (.bool true):=⟨_,rfl⟩
   rw[←ht1];have Lh:AI C K v f dx w s0 c0 Bx st q' t1 s c:=by
    rw[ht1];refine⟨Dv.af,Dv.hc,?_,?_,?_,?_,?_,?_,?_,?_,?_,Dv.stk,Dv.s8,Dv.rs⟩
    all_goals simp[aA,Dv.t0,Dv.t1,Dv.t2,Dv.t3,Dv.t8,Dv.t9,Dv.t10,Dv.t11,Dv.t13]
   have h14':tget t1 14 = .int .i64 (i:Nat):=by rw[ht1];simp[aA,Lj]
   have Hd:=stepA n j Al hx hw zQ hk Lh h14' Mx.lk;by_cases Et:2000<Bx.lk+1
   ·rw[aS Et]at Hd;obtain⟨t',s',c',Cl,a1,a2,a3,a4,a5⟩:=Hd;rw[AgB_z,Cl];have hn:oR E cal fs vs x[(gN x)[i]] st Bx = .bad x[(gN x)[i]].site 3:=by grind [nodeM_R]
    show LpR C K v f dx w s0 c0 (lO E cal fs vs (fC x) [] sm) (.ok .ret ⟨t',s',c',[],none⟩);rw[zV _ hn];exact⟨t',s',c',rfl,a1,a2,a3,a4,a5,by decide⟩
   ·rw[aG Et]at Hd;obtain⟨t2,s2,Kn,Cl,hA2,b14,b15,bn,hcn⟩:=Hd;have Ex:opN x[(gN x)[i]]≤st.length:=Lz.1;obtain⟨t3,s3,c3,qa,Bz,Gu,d14,d15,dn,dnc,d16,d17,dq,d56⟩:=stepB n j Al g1 ⟨g2,g3⟩ hA2 b14 b15 bn (Nat.lt_succ_self _) Ex (by omega)
    obtain⟨t4,q4,Lr,hA4,e14,e15,e17⟩:=stepC n j Al Gu d14 d15 d16 d17 Ex (by omega)
    have hGt:SG us Bx.tick:=⟨Mx.ec,Mx.lb,by show Bx.lk+1≤2000;omega⟩
    have hKt:=vB Bx hP';have hSK:SK us Bx.tick:=⟨Mx.ec,Mx.lb,hP'.1,by have:=hP'.2;show Bx.lm.length<1000000;omega⟩
    have Cf:x[(gN x)[i]].kind=5∨x[(gN x)[i]].kind=6→(st.take (opN x[(gN x)[i]])).length=1∨(st.take (opN x[(gN x)[i]])).length=2:=fun Di=>by
     have Nw:=g1.kp Di;have:opN x[(gN x)[i]]=x[(gN x)[i]].kids.toNat:=by unfold opN fO;rw[aS Di]
     rw[eI];omega
    have Jc:=stepD n j h hp Ao hl hb Al mR hv hf Bj Eb hA4 hSK ⟨g2,g3⟩ e14 e15 dn e17 dq (ts:=st.take (opN x[(gN x)[i]])) (fun Di=>⟨Cf Di,fun u hu=>zZ u (eH hu),d56 Di⟩) (cal:=cal) (by grind)
    rw[hE0]at Jc;rw[AgB_z,Cl,zb_ok,Bz,zb_ok,Lr,zb_ok];have Vo:oR E cal fs vs x[(gN x)[i]] st Bx=match vO E cal fs vs x[(gN x)[i]] (st.take (opN x[(gN x)[i]])) Bx.tick with | .ok p=>.ok (p.1::st.drop (opN x[(gN x)[i]]),p.2) | .bad a e=>.bad a e:=by rw[nodeM_R,aG Et]
    cases Cb:vO E cal fs vs x[(gN x)[i]] (st.take (opN x[(gN x)[i]])) Bx.tick with
    | bad a e=>
     rw[Cb]at Jc Vo;obtain⟨t5,s5,c5,hz5,a1,a2,a3,a4,a5,a6⟩:=Jc;rw[hz5];show LpR C K v f dx w s0 c0 (lO E cal fs vs (fC x) [] sm) (.ok .ret ⟨t5,s5,c5,[],none⟩);rw[zV _ Vo];exact⟨t5,s5,c5,rfl,a1,a2,a3,a4,a5,a6⟩
    | ok p=>
     rw[Cb]at Jc Vo;obtain⟨t5,s5,c5,Kt,hz5,hA5,f14,f19,fT⟩:=Jc;obtain⟨t6,s6,c6,q6,hz6,hA6,Te⟩:=stepE n j Al hA5 f14 f19 fT (by grind)
     rw[hz5,zb_ok,hz6];obtain⟨i1,i2,i3⟩:=node_inv hE Wl (by rw[Pi];exact hv.good) g1 Lz.1 ⟨g2,g3⟩ (by grind) (by grind) Vo
     rw[Pi]at i1 i2;have i4:=node_pres (yE E) Wk ⟨g2,g3⟩ hKt Vo;refine⟨zQ,rfl,rfl,Te,p.1::st.drop (opN x[(gN x)[i]]),p.2,q6,?_,i2,i4,i1,by rw[i3];exact Lz.2,by grind,⟨hA6.af,hA6.hc,?_,?_,?_,?_,?_,?_,?_,?_,?_,hA6.stk,hA6.s8,hA6.rs⟩⟩
     ·grind [List.take_succ_eq_append_getElem,xS,lO]
     all_goals simp[aA,hA6.t0,hA6.t1,hA6.t2,hA6.t3,hA6.t8,hA6.t9,hA6.t10,hA6.t11,hA6.t13]
  ·have e1:i=(gN x).length:=by omega
   subst e1;rw[show(gN x).length=(fC x).length from Vm.symm,List.take_length]at hr
   rw[hr];simp only[z2,seval,Lj,Dv.t11,hw.len,gG (aK (gN x).length)];refine⟨_,s,c,q',rfl,Dv.af,Dv.hc,?_,?_,?_,?_,?_,?_,?_,?_,?_,Dv.stk,Dv.s8,Dv.rs⟩
   all_goals simp[aA,Dv.t0,Dv.t1,Dv.t2,Dv.t3,Dv.t8,Dv.t9,Dv.t10,Dv.t11,Dv.t13]
omit h hp Ao hl hb Al in
theorem f101(n:Nat)(mR:Nat){ss:List (List UInt8)}{us:List Nat}{C:RC}(hE:EOk ⟨us,C.low,C.pc,RDl mR C.d C.e⟩ ss C.d C.e):∀(F j:Nat),3*F+6≤j→∀(fs:List Fd) (f:D),fs.length<F→fs.length<1000→Sl 3 fdC fs f→(∀g∈fs,FdOk g)→(∀g∈fs,XOk g.body) →
  ∀(vs:List Vr) (v:D) (x:List Nd) (dx:D),Sl 7 bK x dx→NdOk x→XOk x→∀(sm:Lk) (s:St) (c K:Nat),SG us sm→KP sm→VR us K c s v vs→RSt C K sm s→K<c→kA s c →
   LkR C K (tN ⟨us,C.low,C.pc,RDl mR C.d C.e⟩ F fs vs x sm) (fn (n+405) j (.fn 101) [.ptr K 0,v,f,dx] s c) s c
 | 0=>fun j _ fs f h=>by omega
 | F+1=>fun j hj fs f hfF Bj hf Eb Iz vs v x dx hx hN Qd sm s c K hG hKP hV hK Al zX=>by
  obtain⟨j2,rfl⟩:∃j2,j=j2+6:=⟨j-6,by omega⟩
  have Fj:=Qd.ex;obtain⟨xa,Ls⟩:=Qd;have Ac:=Fj.le;obtain⟨w,fl,h150,hw⟩:=c150 hx (by omega) hN Ls n
  rw[iG (A:=A101) rfl rfl rfl rfl (n+405) (j2+5) _ s c rfl,show A101.body=B101 from rfl,B101]
  have Gp:=yD hE F fs (fun g hg=>(Iz g hg).ex)
  have Qj:D.pures [dx]=true:=by simp[D.pures,hx.pure]
  have Jo:=hV.nag;have Bm:∀t:Tm,AI C K v f dx w s c sm [] .nils t (sadd s c (.fix 37 z5)) (c+1)→tget t 14 = .int .i64 0 →
    LkR C K (tN ⟨us,C.low,C.pc,RDl mR C.d C.e⟩ (F+1) fs vs x sm) (zbody (dfn (n+405) (j2+5)) A101 (zbind (lL 0 (zloop KK (zC (.seq (.seq (.reg none [⟨some 27,(.mv (.t 14)),none⟩,⟨some 28,(.mv (.t 11)),none⟩,⟨some 29,(.len false (.t 28)),none⟩,⟨some 30,(.bin .lss (.t 27) (.t 29)),none⟩]) (.cond (.t 30) .skip (.exit 0))) (.seq (.block 2 AgB) (.reg none [⟨some 31,(.mv (.t 14)),none⟩,⟨some 32,(.bin .add (.t 31) (.c (.int .i64 1))),none⟩,⟨some 14,(.mv (.t 32)),none⟩]))) (cxn (n+405)) (fn (n+405) (j2+5)) KK) ⟨t,sadd s c (.fix 37 z5),c+1,[],none⟩)) (zC (.seq Al4.b .ret) (cxn (n+405)) (fn (n+405) (j2+5)) KK))) s c:=fun t hA Aq=>by
   have Ej:=loop101 (n+397) j2 hE.lt hE.pc hE.ll hE.low hE.lb Al mR hE hV hf Bj Eb hx Fj hw Gp.1 (fun i vs s p hs hp=>by
    unfold tJ at hp;split at hp
    ·rename_i g hg;obtain⟨hi,rfl⟩:=dE.1 hg;exact tM (yE _) vB F (fs.take i) (fun g hg=>(Iz g (eH hg)).ex) vs _ s p (Iz _ (bQ hi)).ex (vB s hs) hp
    ·cases hp) (fun y sm hG hP i hi v' fd Sj Ep s' c' Cu Bk Br Ha=>by
    have Jq:=bQ hi;have hb:=(Iz _ Jq).ex.le;have Ig:tJ ⟨us,C.low,C.pc,RDl mR C.d C.e⟩ F fs i Ep (sm.mark ⟨us,C.low,C.pc,RDl mR C.d C.e⟩ y.site)=tN ⟨us,C.low,C.pc,RDl mR C.d C.e⟩ F (fs.take i) Ep fs[i].body (sm.mark ⟨us,C.low,C.pc,RDl mR C.d C.e⟩ y.site):=by
     unfold tJ;rw[aI hi]
    rw[Ig];exact f101 n mR hE F (j2+3) (by omega) (fs.take i) fd (by grind) (by grind) Sj (fun g hg=>Eb g (eH hg)) (fun g hg=>Iz g (eH hg)) Ep v' fs[i].body fs[i].bd (Eb _ Jq).b ((Eb _ Jq).nd hb) (Iz _ Jq) (sm.mark ⟨us,C.low,C.pc,RDl mR C.d C.e⟩ y.site) s' c' K (SG.mark hE hG _) ((yE _).mark _ _ hP) Cu Bk Br Ha) hA Aq hG hKP
   rw[lokM_eq];cases hr:lO ⟨us,C.low,C.pc,RDl mR C.d C.e⟩ (tJ ⟨us,C.low,C.pc,RDl mR C.d C.e⟩ F fs) fs vs (fC x) [] sm with
   | bad a b=>
    rw[hr]at Ej;obtain⟨t4,s4,c4,h4,a1,a2,a3,a4,a5,a6⟩:=Ej;unfold z5 at a2;rw[h4];simp only[z0,seval,a2,a3,a4,a5,A101];exact⟨_,_,rfl,a1,a6⟩
   | ok p=>
    rw[hr]at Ej;obtain⟨t4,s4,c4,q',h4,hA4⟩:=Ej;obtain⟨_,_,g3⟩:=run_inv hE Gp.1 hV.good (fC x) [] sm p 1 (yA Fj) (oJ Fj) nofun hG hr;obtain⟨st,Bx⟩:=p
    match st,g3 with
    | [u],_=>
     rw[h4];rcases hA4.stk with⟨_,h⟩|⟨m,ty,cs,hm,hq,hs,hl,zY⟩
     ·cases h
     have Qn:decide (5≤cs.length)=true:=aH (by simpa using hl)
     have Gj:cs.take 5=tlC u:=by have:cs.take (1*5)=cV tlC [u]:=zY;simpa[cV]using this
     have s8:=hA4.s8;have Pf:=hA4.hc;unfold z5 at s8;have Hs:q' = .gs m 0 5 1:=hq;obtain⟨q2,Qi,Az⟩:=hA4.rs;unfold tlC tyC tl at Gj;simp only[Al4,cI];simp only[z0,seval,hA4.t13,Hs,hA4.t8,show iJ 5 (.gs m 0 5 1) (.int .i64 0)=some (.ptr m 0) from rfl,hs,Qn,Gj,s8,aO,aX,A101]
     exact⟨_,_,rfl,hA4.af.set (.inl (aK _)) (by omega) _,q2,by grind [aU],Az⟩
  simp only[Al1,Al2,Al3,cI];simp only[z0,seval,aF 150,aJ,hx.fz,h150,Qj];refine Bm _ ⟨(Af.refl zX).add _,aK _,?_,?_,?_,?_,?_,?_,?_,?_,?_,.inl ⟨rfl,rfl⟩,?_,?_⟩ ?_
  case refine_11=>
   obtain⟨q0,hq0,hs⟩:=hK;exact⟨q0,by grind [aZ],hs⟩
  all_goals simp[aA,z5]
end
variable {ss:List (List UInt8)} {us:List Nat} {vs:List Vr} {fs:List Fd}
theorem latD_cases(n:Nat)(u:Nat→Nat):sF n u=e2 0 0∨∃a:Int,sF n u=e2 a 4:=by
 grind [sF,eX,latP,e2,latB]
theorem CHK_cases(ss:List (List UInt8))(us:List Nat):(CHK ss us=e2 0 0∧us.length=ss.length∧1≤ss.length∧ss.length≤8∧(∀a,a<ss.length→mI ss.length (uM us) a=true))∨∃a er:Int,CHK ss us=e2 a er∧er≠0:=by
 unfold CHK;rcases mO ss with⟨h1,h2⟩|⟨h1,a,er,h2,h3⟩
 ·rw[aS h1];have hn:=oS.1 h1;by_cases hl:us.length=ss.length
  ·rw[aS hl];unfold ordD
   grind [eX,sE,uM,sF,latD_cases,mI]
  grind
 grind
structure FdIn (f:Fd):Prop where
 p:Sl 1 fM f.ps f.pd
 b:Sl 7 bK f.body f.bd
structure FdSm (f:Fd):Prop where
 nm:f.name.length≤100
 pl:f.ps.length≤4
 b:NotLong f.body
 pn:∀s∈f.ps,s.length≤100
def NotLarge(ss:List (List UInt8))(us:List Nat)(vs:List Vr)(fs:List Fd):Prop:=wR ss us=false∧vs.length≤40∧fs.length≤20∧(∀x∈vs,x.name.length≤100)∧∀x∈fs,FdSm x
def Out10(n:Nat)(ss:List (List UInt8))(us:List Nat)(vs:List Vr)(fs:List Fd)(r:R):Prop:=∃b,pout (zbody (dfn n MM) A10 r)=some (.bool b,true)∧(b=false→NotLarge ss us vs fs)
theorem out10{n:Nat}{t:Tm}{s:St}{c:Nat}(h:tget t 2 = .bool true):Out10 n ss us vs fs (.ok .ret ⟨t,s,c,[],none⟩):=
 ⟨true,by simp only[z2,seval,A10,h];rfl,nofun⟩
theorem Z10_ok(n:Nat){d e v f:D}(hd:Sl 1 fM ss d)(he:Sl 1 u8C us e)(hv:Sl 6 vrC vs v)(hf:Sl 3 fdC fs f){t:Tm}{s:St}{c:Nat}(s0:sget s 0=some (.fix 30 [d,e,v,f]))(q1:tget t 1 = .ptr 0 0) 
  (La:vs.length≤50→∀x∈vs,x.name.length≤100) (Dz:fs.length≤30→∀x∈fs,FdSm x):Out10 (n+1) ss us vs fs (zC Z10.b (cxn (n+1)) (fn (n+1) 4096) KK ⟨t,s,c,[],none⟩):=by
 simp only[Z10,cI];have Uj:=c28 n hd he;have zY:cX [d,e,v,f] 0 (some 2)=some (.agg [d,e]):=rfl;cases hL:wR ss us
 ·rw[hL]at Uj;by_cases h40:40<vs.length
  ·have k1:decide ((40:Int)<(vs.length:Nat))=true:=dT (by omega)
   simp only[z2,seval,s0,q1,zY,aF 28,aJ,hd.fz,he.fz,Uj,hv.len,k1];exact out10 (by simp[aA])
  ·have k1:decide ((40:Int)<(vs.length:Nat))=false:=dF (by omega)
   by_cases Pk:20<fs.length
   ·have k2:decide ((20:Int)<(fs.length:Nat))=true:=dT (by omega)
    simp only[z2,seval,s0,q1,zY,aF 28,aJ,hd.fz,he.fz,Uj,hv.len,hf.len,k1,k2];exact out10 (by simp[aA])
   ·have k2:decide ((20:Int)<(fs.length:Nat))=false:=dF (by omega)
    simp only[z2,seval,s0,q1,zY,aF 28,aJ,hd.fz,he.fz,Uj,hv.len,hf.len,k1,k2];exact⟨false,by simp only[z2,seval,A10];rfl,fun _=>⟨hL,by omega,by omega,La (by omega),Dz (by omega)⟩⟩
 ·rw[hL]at Uj;simp only[z2,seval,s0,q1,zY,aF 28,aJ,hd.fz,he.fz,Uj];exact out10 (by simp[aA])
theorem W10_ok(n:Nat){d e v f:D}(hd:Sl 1 fM ss d)(he:Sl 1 u8C us e)(hv:Sl 6 vrC vs v)(hf:Sl 3 fdC fs f)(Gr:∀x∈fs,FdIn x){t:Tm}{s:St}{c:Nat}(s0:sget s 0=some (.fix 30 [d,e,v,f]))(hc:1≤c)(q1:tget t 1 = .ptr 0 0) 
  (La:vs.length≤50→∀x∈vs,x.name.length≤100):Out10 (n+1) ss us vs fs (zC W10 (cxn (n+1)) (fn (n+1) 4096) KK ⟨t,s,c,[],none⟩):=by
 simp only[W10,Ab.abq];simp only[z2,seval];generalize hz:zloop KK _ _=rl;have hN:min fs.length 30≤30:=Nat.min_le_right _ _;refine zfor rl hz (min fs.length 30) (dY (by omega)) (by omega) (fun i t s c=>sget s 0=some (.fix 30 [d,e,v,f])∧1≤c∧tget t 1 = .ptr 0 0∧∀j,j<i→∀h:j<fs.length,FdSm fs[j]) (by simp[aA]) ⟨s0,hc,by simp[aA,q1],nofun⟩ ?_
 clear hz s0 hc q1;rintro i t s c hi ⟨s0,hc,q1,hn⟩ q4;by_cases zQ:i<fs.length
 ·by_cases h30:i<30
  ·have k1:decide ((i:Int)<30)=true:=dT (by omega)
   have zW:=hf.row zQ;have hx:=Gr _ (bQ zQ);have Jn:=hx.p.nag;have Iu:=hx.b.nag;have f0:(0=c)=False:=aL (by omega)
   have zY:∀a b c:D,cX [a,b,c] 0 (some 3)=some (.agg [a,b,c]):=fun _ _ _=>rfl
   obtain⟨b,Cr,hb⟩:=c11 n hx.b;by_cases e1:100<fs[i].name.length
   ·have k2:decide ((100:Int)<(fs[i].name.length:Nat))=true:=dT (by omega)
    simp only[z2,seval,s0,q1,q4,hf.len,dH zQ,k1,hf.ia zQ,zW,fdC,Jn,Iu,k2];exact out10 (by simp[aA])
   ·have k2:decide ((100:Int)<(fs[i].name.length:Nat))=false:=dF (by omega)
    by_cases e2:4<fs[i].ps.length
    ·have k3:decide ((4:Int)<(fs[i].ps.length:Nat))=true:=dT (by omega)
     simp only[z2,seval,s0,q1,q4,hf.len,dH zQ,k1,hf.ia zQ,zW,fdC,Jn,Iu,k2,hx.p.len,k3];exact out10 (by simp[aA])
    ·have k3:decide ((4:Int)<(fs[i].ps.length:Nat))=false:=dF (by omega)
     cases b
     ·have hB:=hb rfl;have hp:=hx.p;have zU:=hp.len;simp only[z2,seval,s0,q1,q4,hf.len,dH zQ,k1,hf.ia zQ,zW,fdC,Jn,Iu,k2,zU,k3,aF 11,aJ,hx.b.fz,Cr];generalize hS:sset (sadd s c _) c _=S;generalize hz:zloop KK _ _=rl2;have sc:sget S c=some (.fix 79 [.str fs[i].name,fs[i].pd,fs[i].bd]):=by rw[←hS];simp[aA]
      have Px:sget S 0=some (.fix 30 [d,e,v,f]):=by rw[←hS];simp only[aA,f0,iV];exact s0
      refine zfor rl2 hz fs[i].ps.length (dY (by omega)) (by omega) (fun k t s' c'=>s'=S∧c'=c+1∧tget t 1 = .ptr 0 0∧tget t 4 = .int .i64 (i:Nat)∧tget t 5 = .ptr c 0∧∀j,j<k→∀h:j<fs[i].ps.length,fs[i].ps[j].length≤100) (by simp[aA]) ⟨rfl,rfl,by simp[aA,q1],by simp[aA,q4],by simp[aA],nofun⟩ ?_
      clear hz q4 hS;rintro k t s' c' hk ⟨rfl,rfl,q1,q4,q5,Eh⟩ q6;by_cases Ek:k<fs[i].ps.length
      ·by_cases e3:100<fs[i].ps[k].length
       ·have k4:decide ((100:Int)<(fs[i].ps[k].length:Nat))=true:=dT (by omega)
        simp only[z2,seval,sc,q5,q6,zU,dH Ek,hp.ia1 Ek,hp.at1 Ek,fM,k4];exact out10 (by simp[aA])
       ·have k4:decide ((100:Int)<(fs[i].ps[k].length:Nat))=false:=dF (by omega)
        simp only[z2,seval,sc,q1,q4,q5,q6,zU,dH Ek,hp.ia1 Ek,hp.at1 Ek,fM,k4]
        grind
      ·have e1':k=fs[i].ps.length:=by omega
       subst e1';simp only[z2,seval,sc,Px,q1,q4,q5,q6,zU,gG (aK fs[i].ps.length)];refine⟨by omega,trivial,trivial,trivial,trivial,by grind,trivial,fun j hj h=>?_⟩
       rcases iI.1 hj with h'|rfl
       ·grind
       ·exact⟨by omega,by omega,hB,fun y hy=>by
         grind [eV]⟩
     ·simp only[z2,seval,s0,q1,q4,hf.len,dH zQ,k1,hf.ia zQ,zW,fdC,Jn,Iu,k2,hx.p.len,k3,aF 11,aJ,hx.b.fz,Cr];exact out10 (by simp[aA])
  ·have k1:decide ((i:Int)<30)=false:=dF (by omega)
   simp only[z2,seval,s0,q1,q4,hf.len,dH zQ,k1];exact Z10_ok n hd he hv hf s0 (by simp[aA,q1]) La fun h=>absurd h (by omega)
 ·have e1:i=fs.length:=by omega
  subst e1;simp only[z2,seval,s0,q1,q4,hf.len,gG (aK fs.length)];exact Z10_ok n hd he hv hf s0 (by simp[aA,q1]) La fun h x hx=>by
   grind [eV]
theorem c10(n:Nat){d e v f:D}(hd:Sl 1 fM ss d)(he:Sl 1 u8C us e)(hv:Sl 6 vrC vs v)(hf:Sl 3 fdC fs f)(Gr:∀x∈fs,FdIn x):∃b,cl (n+1) 10 [.agg [d,e,v,f]]=some (.bool b,true)∧(b=false→NotLarge ss us vs fs):=by
 rw[uG 10 A10 B10];show Out10 (n+1) ss us vs fs _;rw[B10];simp only[z2,seval];generalize hz:zloop KK _ _=rl;have hN:min vs.length 50≤50:=Nat.min_le_right _ _
 refine zfor rl hz (min vs.length 50) (dY (by omega)) (by omega) (fun i t s c=>sget s 0=some (.fix 30 [d,e,v,f])∧1≤c∧tget t 1 = .ptr 0 0∧∀j,j<i→∀h:j<vs.length,vs[j].name.length≤100) (by simp[aA]) ⟨by simp[aA],by decide,by simp[aA],nofun⟩ ?_
 clear hz;rintro i t s c hi ⟨s0,hc,q1,hn⟩ q3;by_cases Ny:i<vs.length∧i<50
 ·obtain⟨zQ,Xa⟩:=Ny;have k1:decide ((i:Int)<50)=true:=dT (by omega)
  have g0:=hv.cell zQ (show 0<6 by omega)
  by_cases e1:100<vs[i].name.length
  ·have k2:decide ((100:Int)<(vs[i].name.length:Nat))=true:=dT (by omega)
   simp only[z2,seval,s0,q1,q3,hv.len,dH zQ,k1,hv.ia zQ,g0,vrC,k2];exact out10 (by simp[aA])
  ·have k2:decide ((100:Int)<(vs[i].name.length:Nat))=false:=dF (by omega)
   simp only[z2,seval,s0,q1,q3,hv.len,dH zQ,k1,hv.ia zQ,g0,vrC,k2]
   grind
 ·have La:vs.length≤50→∀x∈vs,x.name.length≤100:=fun h x hx=>by
   grind [eV]
  by_cases zQ:i<vs.length
  ·have k1:decide ((i:Int)<50)=false:=dF (by omega)
   simp only[z2,seval,s0,q1,q3,hv.len,dH zQ,k1];exact W10_ok n hd he hv hf Gr s0 hc (by simp[aA,q1]) La
  ·simp only[z2,seval,s0,q1,q3,hv.len,gG (Nat.le_of_not_lt zQ)];exact W10_ok n hd he hv hf Gr s0 hc (by simp[aA,q1]) La
end
end Zv
namespace Zv
open Go Ab
noncomputable section
theorem k12(n j:Nat)(s:St)(c:Nat):fn n (j+1) (.fn 12) [] s c = .ok (.ret (.bool true)) s c:=fn_known (f:=12) rfl rfl rfl rfl rfl n j c
theorem sites_sl(lm:List (Int×Int)):Sl 2 kI (fA lm) (.sl false lm.length (en2 (fA lm))):=by
 refine⟨fun r hr=>by obtain⟨k,_,rfl⟩:=cY.1 hr;rfl,.inr ⟨false,?_⟩⟩
 rw[dB,(gL lm).length_eq,←wJ];rfl
structure In22 (ss:List (List UInt8)) (us:List Nat) (d e v f dx:D) (vs:List Vr) (fs:List Fd) (x:List Nd):Prop where
 hd:Sl 1 fM ss d
 he:Sl 1 u8C us e
 hu:fY us
 hs:oZ ss
 hE:mZ vs fs v f
 hx:Sl 7 bK x dx
 hxl:x.length<4294967296
 hxn:x.length≤400→NdOk x
theorem in22{ss:List (List UInt8)}{us:List Nat}{d e v f dx:D}{vs:List Vr}{fs:List Fd}{x:List Nd}(hd:Sl 1 fM ss d)(he:Sl 1 u8C us e)(hu:fY us)(hv:Sl 6 vrC vs v)(hf:Sl 3 fdC fs f)(Gr:∀x∈fs,FdIn x)(hx:Sl 7 bK x dx)(h:NotLarge ss us vs fs)(hl:NotLong x):In22 ss us d e v f dx vs fs x:=by
 obtain⟨hL,h40,Pk,La,Dz⟩:=h;refine⟨hd,he,hu,?_,⟨hv,hf,by omega,by omega,fun x hx=>by have:=La x hx;omega,fun x hx=>?_⟩,hx,by have:=hl.1;omega,fun h y hy=>by have:=hl.2 h y hy;omega⟩
 ·unfold wR at hL;simp only[Bool.or_eq_false_iff,cD,List.any_eq_false,List.mem_range]at hL;obtain⟨h1,h2,_⟩:=hL;intro s hs;obtain⟨i,hi,rfl⟩:=List.mem_iff_getElem.1 hs;have:=h1 i (by omega)
  rw[jK hi,bZ]at this;omega
 ·have h:=Dz x hx;have hi:=Gr x hx;have hb:=h.b;exact⟨by have:=h.nm;omega,hi.p,hi.b,fun s hs=>by have:=h.pn s hs;omega,by have:=h.pl;omega,by have:=hb.1;omega,fun hl y hy=>by have:=hb.2 hl y hy;omega⟩
theorem eqTs_c{off:Nat}{sz:Option Nat}{t:ET}{r:List (Nat×Option Nat×ET)}{xs:List D}{a:D}(h1:cX xs off sz=some a)(h3:eqT t a a=some true):uC ((off,sz,t)::r) xs xs=uC r xs xs:=by
 rw[uC,h1];simp only[h3];rfl
theorem eqT_i(a:Int):eqT .int (.int .i64 a) (.int .i64 a)=some true:=by
 rw[eqT,aS rfl,show(a==a)=true by simp]
theorem cmp5(a b c d e:Int):oW (.ty (.parts [(0,none,.int),(1,none,.int),(2,some 2,.parts [(0,none,.int),(1,none,.int)]),(4,none,.int)])) (.agg [.int .i64 a,.int .i64 b,.int .i64 c,.int .i64 d,.int .i64 e]) (.agg [.int .i64 a,.int .i64 b,.int .i64 c,.int .i64 d,.int .i64 e])=some true:=by
 rw[oW,eqT];rw[eqTs_c (a:=.int .i64 a) rfl (eqT_i a),eqTs_c (a:=.int .i64 b) rfl (eqT_i b),eqTs_c (a:=.agg [.int .i64 c,.int .i64 d]) rfl,eqTs_c (a:=.int .i64 e) rfl (eqT_i e)]
 ·rw[uC]
 ·rw[eqT,eqTs_c (a:=.int .i64 c) rfl (eqT_i c),eqTs_c (a:=.int .i64 d) rfl (eqT_i d),uC]
structure IB (d e v f dx ds:D) (p q:Nat) (J1 J0:Nat) (k r a b c' ec lk:Int) (t:Tm) (s:St) (c:Nat):Prop where
 s0:sget s 0=some (.fix 30 [d,e,v,f])
 s1:sget s 1=some (.fix 31 [.int .i64 (p:Nat),.int .i64 (q:Nat)])
 s2:sget s 2=some (.fix 40 [.int .i64 k,.int .i64 r,.int .i64 a,.int .i64 b,.int .i64 c',.int .i64 ec,ds,.int .i64 lk])
 fr:kA s c
 hc:3≤c
 t2:tget t 2=dx
 t3:tget t 3 = .ptr 0 0
 t4:tget t 4 = .ptr 1 0
 t7:tget t 7 = .ptr 2 0
 t10:tget t 10 = .int .i64 (J1:Nat)
 t11:tget t 11 = .int .i64 (J0:Nat)
end
end Zv
namespace Zv
open Go
noncomputable section
def RfR(r:Lo (Tl×Lk))(x:D):Prop:=match r with
 | .ok p=>∃q,x = .tup [.agg [.int .i64 p.1.k,.int .i64 p.1.r,.int .i64 (p.1.x:Nat),.int .i64 (p.1.y:Nat),.int .i64 (p.1.z:Nat),.int .i64 (p.2.ec:Nat),q,.int .i64 (p.2.lk:Nat)],.int .i64 0,.int .i64 0]∧Sl 2 kI (fA p.2.lm) q
 | .bad a e=>x = .tup [.agg zl0,.int .i64 a,.int .i64 e]∧e≠0
theorem c49(n mR:Nat){ss:List (List UInt8)}{us:List Nat}{d e v f dx:D}{vs:List Vr}{fs:List Fd}{x:List Nd}{low pc ec:Nat}(hE:EOk ⟨us,low,pc,RDl mR d e⟩ ss d e)(hO:mZ vs fs v f)(hG:EnvG us vs fs)(hx:Sl 7 bK x dx)(hN:NdOk x)(hX:XOk x)(Hb:ec<us.length):
  ∃r fl,cl (n+406) 49 [.agg [d,e,v,f],.int .i64 (pc:Nat),.int .i64 (ec:Nat),dx]=some (r,fl)∧RfR (tN ⟨us,low,pc,RDl mR d e⟩ (fs.length+1) fs vs x ⟨ec,0,[]⟩) r:=by
 have hL:Lt ss us d e:=hE.lt;have Ao:low<us.length:=hE.ll;have Bf:=c100 (n+405) hL.d hL.e hL.u (by omega) (by have:=hL.l;have:=hL.h8;omega)
 rw[show gY us=(low:Nat) from hE.low]at Bf
 rw[cl_4 49 A49 B49,B49];obtain⟨S,hS⟩:∃S,S=sadd (sadd (sadd st0 0 (.fix 30 [d,e,v,f])) 1 (.fix 40 zl0)) 10 (.fix 163 [d,e,.int .i64 (low:Nat),.int .i64 (pc:Nat),.int .i64 (ec:Nat),.int .i64 0,.nils]):=⟨_,rfl⟩
 have gS:∀m,11≤m→sget S m=none:=fun m hm=>by grind [aZ,dX]
 have gS1:sget S 1=some (.fix 40 zl0):=by rw[hS];simp[aZ]
 have gSK:RSt ⟨d,e,low,pc⟩ 10 ⟨ec,0,[]⟩ S:=⟨.nils,by grind [aZ,RC.blk],fun r hr=>by simp[fA]at hr,.inl ⟨rfl,rfl⟩⟩
 have hVR:VR us 10 12 S v vs:=⟨hO.v.nag,⟨v,hO.v,fun s2 _ k=>hO.v.fz (k+1) s2⟩,by have:=hO.vl;omega,hG.vt⟩
 have Fh:=f101 (n+1) mR (C:=⟨d,e,low,pc⟩) hE (fs.length+1) 4096 (by have:=hG.fl;omega) fs f (Nat.lt_succ_self _) (by have:=hG.fl;omega) hO.f hO.fo hG.fb vs v x dx hx hN hX ⟨ec,0,[]⟩ S 12 10 ⟨Hb,nofun,dM _⟩ ⟨List.nodup_nil,aK _⟩ hVR gSK (by decide) (fun m hm=>gS m (by omega))
 rw[hS]at Fh;unfold zl0 at Fh;cases hr:tN ⟨us,low,pc,RDl mR d e⟩ (fs.length+1) fs vs x ⟨ec,0,[]⟩ with
 | bad a b=>
  rw[hr]at Fh;obtain⟨s4,c4,h1,hA,hb⟩:=Fh;have Ac:=hA.le;have g1:sget s4 1=some (.fix 40 zl0):=(hA.old 1 (by decide) (by decide)).trans (by rw[←gS1,hS];rfl)
  unfold zl0 at g1;unfold z5 at h1;have k1:(1=c4)=False:=aL (by omega)
  refine⟨.tup [.agg zl0,.int .i64 a,.int .i64 b],true,?_,rfl,hb⟩;simp only[z0,seval,aF 100,aJ,hL.d.fz,hL.e.fz,Bf,dR,cN,AOp.kd,zop,tks,bP,dC,dX,cB,aO,aX,h1,aH hb,g1,k1,A49];rfl
 | ok p=>
  rw[hr]at Fh;obtain⟨s4,c4,h1,hA,q,hq,hs⟩:=Fh;have Ac:=hA.le;have g1:sget s4 1=some (.fix 40 zl0):=(hA.old 1 (by decide) (by decide)).trans (by rw[←gS1,hS];rfl)
  unfold zl0 at g1;unfold tlC tyC tl at h1;unfold RC.blk at hq;have k1:(1=c4)=False:=aL (by omega)
  have k2:(10=c4)=False:=aL (by omega)
  have k3:(c4=1)=False:=aL (by omega)
  obtain⟨fl,Bj⟩:∃fl,∀s c,pout (.ok (.ret (.tup [.agg [.int .i64 p.1.k,.int .i64 p.1.r,.int .i64 (p.1.x:Nat),.int .i64 (p.1.y:Nat),.int .i64 (p.1.z:Nat),.int .i64 (p.2.ec:Nat),q,.int .i64 (p.2.lk:Nat)],.int .i64 0,.int .i64 0])) s c)=some (.tup [.agg [.int .i64 p.1.k,.int .i64 p.1.r,.int .i64 (p.1.x:Nat),.int .i64 (p.1.y:Nat),.int .i64 (p.1.z:Nat),.int .i64 (p.2.ec:Nat),q,.int .i64 (p.2.lk:Nat)],.int .i64 0,.int .i64 0],fl):=by
   rcases hs.2 with⟨e,_⟩|⟨ex,e⟩
   ·rw[e];exact⟨true,fun _ _=>rfl⟩
   ·rw[e];exact⟨false,fun _ _=>rfl⟩
  refine⟨_,fl,?_,q,rfl,hs⟩;simp only[z0,seval,aF 100,aJ,hL.d.fz,hL.e.fz,Bf,dR,cN,AOp.kd,zop,tks,bP,dC,dX,cB,aO,aX,h1,g1,hq,hs.nag,hY hs.nag,k1,k2,dP,A49];exact Bj _ _
theorem rf_fl{r:Lo (Tl×Lk)}{x:D}(h:RfR r x):∃fl a b c,x = .tup [.agg a,.int .i64 b,.int .i64 c]∧(∀y∈a,eG y=false)∧a.length=8∧∀s k,pout (.ok (.ret x) s k)=some (x,fl):=by
 cases r with
 | bad a e=>
  obtain⟨rfl,_⟩:=h;exact⟨true,zl0,a,e,rfl,by intro y hy;simp[zl0]at hy;rcases hy with rfl|rfl|rfl|rfl|rfl|rfl|rfl|rfl<;>rfl,rfl,fun _ _=>rfl⟩
 | ok p=>
  obtain⟨q,rfl,hs⟩:=h;have hq:=hs.nag;rcases hs.2 with⟨e,_⟩|⟨ex,e⟩
  ·subst e;exact⟨true,_,0,0,rfl,by intro y hy;simp at hy;rcases hy with rfl|rfl|rfl|rfl|rfl|rfl|rfl|rfl<;>first|rfl|exact hq,rfl,fun _ _=>rfl⟩
  ·subst e;exact⟨false,_,0,0,rfl,by intro y hy;simp at hy;rcases hy with rfl|rfl|rfl|rfl|rfl|rfl|rfl|rfl<;>first|rfl|exact hq,rfl,fun _ _=>rfl⟩
section
variable (n:Nat) {ss:List (List UInt8)} {us:List Nat} {d e v f dx:D} {vs:List Vr} {fs:List Fd} {x:List Nd} (pc ec:Int) (hd:Sl 1 fM ss d) (he:Sl 1 u8C us e) (hO:mZ vs fs v f) (hx:Sl 7 bK x dx)
include hd he hO hx
theorem c14e{er:Int}(Dj:cl (n+405) 23 [.agg [d,e,v,f]]=some (.int .i64 er,true))(h0:er≠0):cl (n+406) 14 [.agg [d,e,v,f],.int .i64 pc,.int .i64 ec,dx]=some (.tup [.agg zl0,.int .i64 0,.int .i64 er],true):=by
 have zY:cX [d,e,v,f] 0 (some 4)=some (.agg [d,e,v,f]):=rfl;rw[cl_4 14 A14 B14,B14];simp only[z0,seval,aF 23,aJ,hd.fz,he.fz,hO.v.fz,hO.f.fz,Dj,aE h0,aH h0,A14];rfl
theorem c14r(Dj:cl (n+405) 23 [.agg [d,e,v,f]]=some (.int .i64 0,true))(hr:¬((0≤pc∧pc<us.length)∧0≤ec∧ec<us.length))(Cs:us.length=ss.length):cl (n+406) 14 [.agg [d,e,v,f],.int .i64 pc,.int .i64 ec,dx]=some (.tup [.agg zl0,.int .i64 0,.int .i64 7],true):=by
 have Ct:=fun a=>c47 (n+405) hd he a
 rw[cl_4 14 A14 B14,B14];have hb:∀a:Int,(decide (0≤a)&&decide (a<(ss.length:Int)))=decide (0≤a∧a<us.length):=fun a=>by grind
 simp only[hb]at Ct;by_cases h1:0≤pc∧pc<us.length
 ·have h2:¬(0≤ec∧ec<us.length):=fun h2=>hr ⟨h1,h2⟩
  have g1:=Ct pc;have g2:=Ct ec;rw[aH h1]at g1;rw[aE h2]at g2;simp only[z0,seval,aF 23,aF 47,aJ,hd.fz,he.fz,hO.v.fz,hO.f.fz,Dj,g1,g2,A14];rfl
 ·have g1:=Ct pc;rw[aE h1]at g1;simp only[z0,seval,aF 23,aF 47,aJ,hd.fz,he.fz,hO.v.fz,hO.f.fz,Dj,g1,A14];rfl
theorem c14x(Dj:cl (n+405) 23 [.agg [d,e,v,f]]=some (.int .i64 0,true))(hr:(0≤pc∧pc<us.length)∧0≤ec∧ec<us.length)(Cs:us.length=ss.length){a y:Int}(Je:cl (n+405) 48 [dx]=some (e2 a y,true))(h0:y≠0):cl (n+406) 14 [.agg [d,e,v,f],.int .i64 pc,.int .i64 ec,dx]=some (.tup [.agg zl0,.int .i64 0,.int .i64 y],true):=by
 have Ct:=fun a=>c47 (n+405) hd he a
 rw[cl_4 14 A14 B14,B14];have hb:∀a:Int,(decide (0≤a)&&decide (a<(ss.length:Int)))=decide (0≤a∧a<us.length):=fun a=>by grind
 simp only[hb]at Ct;have g1:=Ct pc;have g2:=Ct ec;rw[aH hr.1]at g1;rw[aH hr.2]at g2;unfold e2 at Je;simp only[z0,seval,aF 23,aF 47,aF 48,aJ,hd.fz,he.fz,hO.v.fz,hO.f.fz,hx.fz,Dj,g1,g2,Je,aH h0,A14];rfl
theorem c14o(Dj:cl (n+406) 23 [.agg [d,e,v,f]]=some (.int .i64 0,true))(hr:(0≤pc∧pc<us.length)∧0≤ec∧ec<us.length)(Cs:us.length=ss.length){a:Int}(Je:cl (n+406) 48 [dx]=some (e2 a 0,true)){r:Lo (Tl×Lk)}{z:D}{fl:Bool}(Za:cl (n+406) 49 [.agg [d,e,v,f],.int .i64 pc,.int .i64 ec,dx]=some (z,fl))(hR:RfR r z):
  ∃fl,cl (n+407) 14 [.agg [d,e,v,f],.int .i64 pc,.int .i64 ec,dx]=some (z,fl):=by
 have Ct:=fun a=>c47 (n+406) hd he a
 obtain⟨fl',z1,b,c,rfl,Cl,Bz,hp⟩:=rf_fl hR;refine⟨fl',?_⟩;rw[cl_4 14 A14 B14,B14];have hb:∀a:Int,(decide (0≤a)&&decide (a<(ss.length:Int)))=decide (0≤a∧a<us.length):=fun a=>by grind
 simp only[hb]at Ct;have g1:=Ct pc;have g2:=Ct ec;rw[aH hr.1]at g1;rw[aH hr.2]at g2;unfold e2 at Je;have Ff:D.pures [.agg [d,e,v,f],.int .i64 pc,.int .i64 ec,dx]=true:=by simp[D.pures,D.pure,hd.pure,he.pure,hO.v.pure,hO.f.pure,hx.pure]
 have han:z1.any eG=false:=by rw[List.any_eq_false];intro y hy;rw[Cl y hy];decide
 match z1,Bz with
 | [a1,a2,a3,a4,a5,a6,a7,a8],_=>
  have n1:=Cl a1 (by simp);have n2:=Cl a2 (by simp);have n3:=Cl a3 (by simp);have n4:=Cl a4 (by simp);have n5:=Cl a5 (by simp);have n6:=Cl a6 (by simp);have n7:=Cl a7 (by simp);have n8:=Cl a8 (by simp)
  simp only[z0,seval,aF 23,aF 47,aF 48,aF 49,aJ,hd.fz,he.fz,hO.v.fz,hO.f.fz,hx.fz,Dj,g1,g2,Je,Za,Ff,n1,n2,n3,n4,n5,n6,n7,n8,A14];exact hp _ _
end
theorem looks_both(n:Nat){ss:List (List UInt8)}{us:List Nat}{d e v f dx:D}{vs:List Vr}{fs:List Fd}{x:List Nd}(h:In22 ss us d e v f dx vs fs x)(pc ec:Int):
  (∃a er:Int,er≠0∧∃fl,cl (n+407) 13 [.agg [d,e,v,f],.int .i64 pc,.int .i64 ec,dx]=some (.tup [.agg zl0,.int .i64 a,.int .i64 er],true)∧cl (n+407) 14 [.agg [d,e,v,f],.int .i64 pc,.int .i64 ec,dx]=some (.tup [.agg zl0,.int .i64 a,.int .i64 er],fl)) ∨
  ∃(p:Tl×Lk) (q:D) (fl:Bool),cl (n+407) 13 [.agg [d,e,v,f],.int .i64 pc,.int .i64 ec,dx]=some (lookR p,true)∧Sl 2 kI (fA p.2.lm) q∧p.2.lm.length<1000000∧wT us p.2.lm ∧
   cl (n+407) 14 [.agg [d,e,v,f],.int .i64 pc,.int .i64 ec,dx]=some (.tup [.agg [.int .i64 p.1.k,.int .i64 p.1.r,.int .i64 (p.1.x:Nat),.int .i64 (p.1.y:Nat),.int .i64 (p.1.z:Nat),.int .i64 (p.2.ec:Nat),q,.int .i64 (p.2.lk:Nat)],.int .i64 0,.int .i64 0],fl):=by
 rcases CHK_cases ss us with⟨hC,Cs,h1,h8,_⟩|⟨x',er,hC,An⟩
 case inr=>exact .inl ⟨0,er,An,true,c13e (n+406) pc ec h.hd h.he h.hE (c22e (n+394) h.hd h.he h.hu h.hs hC An h.hE) An,c14e (n+1) pc ec h.hd h.he h.hE h.hx (c23e (n+1) h.hd h.he h.hu h.hs hC An h.hE) An⟩
 have hL:Lt ss us d e:=⟨h.hd,h.he,h.hu,h.hs,hC,Cs,h1,h8⟩;have Bq:=c22 (n+394) h.hd h.he h.hu h.hs hC h.hE;have Dj:=c23 (n+1) h.hd h.he h.hu h.hs hC h.hE;by_cases h0:envE us vs fs=0
 case neg=>exact .inl ⟨0,_,h0,true,c13e (n+406) pc ec h.hd h.he h.hE Bq h0,c14e (n+1) pc ec h.hd h.he h.hE h.hx Dj h0⟩
 rw[h0]at Dj;obtain⟨low,Io,Kf,_,hl4⟩:=rI hC;rw[←Cs]at Io hl4;have hc:=c13 (n+394) pc ec hL h.hE h0 Kf Io hl4 h.hx h.hxl h.hxn;have hG:=env_ok h0;unfold lookD at hc;by_cases hr:¬((0≤pc∧pc<us.length)∧0≤ec∧ec<us.length)
 ·rw[aS hr]at hc;exact .inl ⟨0,7,by decide,true,hc,c14r (n+1) pc ec h.hd h.he h.hE h.hx Dj hr Cs⟩
 rw[aG hr]at hc;have Bk:=Decidable.not_not.1 hr;have Je:=c48 (n+3) h.hx h.hxl h.hxn;obtain⟨xa,xe,Ls⟩:=exD_form x;rw[Ls]at Je;by_cases Jj:exE x≠0
 ·rw[aS Jj]at hc;exact .inl ⟨0,_,Jj,true,hc,by rw[exE_eq Ls]at Jj ⊢;exact c14x (n+1) pc ec h.hd h.he h.hE h.hx Dj Bk Cs Je Jj⟩
 rw[aG Jj]at hc;have Yr:=exE_ok (Decidable.not_not.1 Jj);have Zy:xe=0:=by rw[exE_eq Ls]at Jj;exact Decidable.not_not.1 Jj
 subst Zy;obtain⟨⟨p1,p2⟩,p3,p4⟩:=Bk;have hE:EOk ⟨us,low,pc.toNat,RDl (n+394) d e⟩ ss d e:=⟨hL,Kf,Io,hl4,by grind,fun p ts hl hg h0=>by
  obtain⟨t,w,c,er,e1,e2,e3⟩:=rd_ok (n+394) hL p hl hg
  grind⟩
 obtain⟨z,fl,Za,hR⟩:=c49 n (n+394) hE h.hE hG h.hx (h.hxn Yr.ex.le) Yr (show ec.toNat<us.length by omega)
 rw[Int.toNat_of_nonneg p1,Int.toNat_of_nonneg p3]at Za;obtain⟨fl2,Aq⟩:=c14o n pc ec h.hd h.he h.hE h.hx (by omega) ⟨⟨p1,p2⟩,p3,p4⟩ Cs (by have:=c48 (n+3) h.hx h.hxl h.hxn;rw[Ls]at this;exact this) Za hR
 cases Cb:tN ⟨us,low,pc.toNat,RDl (n+394) d e⟩ (fs.length+1) fs vs x ⟨ec.toNat,0,[]⟩ with
 | bad a b=>
  rw[Cb]at hc hR;obtain⟨rfl,hb⟩:=hR
  grind
 | ok r=>
  rw[Cb]at hc hR;obtain⟨q,rfl,hs⟩:=hR;have Kg:=tM (yE ⟨us,low,pc.toNat,RDl (n+394) d e⟩) vB (fs.length+1) fs (fun g hg=>(hG.fb g hg).ex) vs x ⟨ec.toNat,0,[]⟩ r Yr.ex ⟨List.nodup_nil,aK _⟩ Cb
  have Gp:=(yD hE (fs.length+1) fs fun g hg=>(hG.fb g hg).ex).2 vs x ⟨ec.toNat,0,[]⟩ r Yr.ex hG.vt ⟨by show ec.toNat<us.length;omega,nofun,dM _⟩ Cb
  exact .inr ⟨r,q,fl2,hc,hs,by have:=Kg.2;have:=Gp.2.lk;omega,Gp.2.lb,Aq⟩
end
end Zv
