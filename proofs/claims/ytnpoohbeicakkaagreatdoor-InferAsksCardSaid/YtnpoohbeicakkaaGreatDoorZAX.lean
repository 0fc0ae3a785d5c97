/- looker.all. Conditions: none. -/
import Derived.Test.YtnpoohbeicakkaaGreatDoorZAW
set_option linter.unusedVariables false
set_option linter.unusedSimpArgs false
set_option maxRecDepth 100000
namespace Zv
open Go Ab
noncomputable section
theorem nd_ok{l:List Nd}(h:wU l){i:Nat}(hi:i<l.length):qM l[i]∧1≤l[i].kind∧l[i].kind≤6:=by
 refine⟨h.g.nd i hi,?_⟩;have hw:=h.w i hi;rw[iZ,aI hi]at hw
 grind [iU,decide,surB,Bool.or_eq_false_iff,cD]
theorem yA{l:List Nd}(h:wU l):∀x∈fC l,qM x∧1≤x.kind∧x.kind≤6:=fun x hx=>by
 obtain⟨i,hi,rfl⟩:=eV hx;obtain⟨hk,e⟩:=nodes_get (l:=l) (i:=i) (by grind [nodes_len])
 grind [aI,Option.some.inj,nd_ok]
def tJ(E:LEn)(f:Nat)(fs:List Fd)(i:Nat)(vs:List Vr)(s:Lk):Lo (Tl×Lk):=match fs[i]? with|some g=>tN E f (fs.take i) vs g.body s|none=>.bad 0 0
theorem lokM_eq(E:LEn)(f:Nat)(fs:List Fd)(vs:List Vr)(x:List Nd)(s:Lk):tN E (f+1) fs vs x s=match lO E (tJ E f fs) fs vs (fC x) [] s with
  | .ok (t::_,s')=>.ok (t,s')
  | .ok ([],_)=>.bad 0 0
  | .bad a e=>.bad a e:=rfl
theorem yD{E:LEn}{ss:List (List UInt8)}{d e:D}(h:EOk E ss d e):∀(f:Nat) (fs:List Fd),(∀g∈fs,wU g.body)→CalOk E (tJ E f fs)∧∀(vs:List Vr) (x:List Nd) (s:Lk) (p:Tl×Lk),wU x→(∀v∈vs,tyE E.us (gY E.us) v.ty=0)→SG E.us s→tN E f fs vs x s = .ok p→TG E.us p.1∧SG E.us p.2
 | 0,fs,hf=>by
  refine⟨fun i vs s p _ _ hp=>?_,fun vs x s p _ _ _ hp=>by cases hp⟩
  unfold tJ at hp;split at hp<;>cases hp
 | f+1,fs,hf=>by
  have Hj:∀(fs:List Fd),(∀g∈fs,wU g.body)→∀(vs:List Vr) (x:List Nd) (s:Lk) (p:Tl×Lk),wU x→(∀v∈vs,tyE E.us (gY E.us) v.ty=0)→SG E.us s→tN E (f+1) fs vs x s = .ok p→TG E.us p.1∧SG E.us p.2:=fun fs hf vs x s p hx hv hs hp=>by
   rw[lokM_eq]at hp;cases hr:lO E (tJ E f fs) fs vs (fC x) [] s with
   | bad a e=>grind
   | ok q=>
    obtain⟨g1,g2,g3⟩:=run_inv h (yD h f fs hf).1 hv (fC x) [] s q 1 (yA hx) (oJ hx) nofun hs hr
    grind
  refine⟨fun i vs s p hv hs hp=>?_,Hj fs hf⟩
  grind [tJ,dE,eH,bQ]
theorem xS{E:LEn}{cal:Nat→List Vr→Lk→Lo (Tl×Lk)}{fs:List Fd}{vs:List Vr}:∀(l l':List Nd) (st:List Tl) (s:Lk),lO E cal fs vs (l++l') st s=match lO E cal fs vs l st s with | .ok p=>lO E cal fs vs l' p.1 p.2 | .bad a e=>.bad a e
 | [],l',st,s=>rfl
 | x::r,l',st,s=>by
  rw[cA,lO,lO];cases oR E cal fs vs x st s with
  | ok p=>exact xS r l' p.1 p.2
  | bad a e=>rfl
def Lp44:AC:=.loop (s (r [b 37 .lss 36 35]) (s (.cond (.t 37) .skip (.exit 0)) (s (.block 2 LaB) (r [d 106 .add 36 (i 1),m 36 106]))))
def EC(n:Nat)(us:List Nat)(C:LkC):LEn:=⟨us,C.low,C.pc,RDl n C.d C.e⟩
def LoopR(C:LkC)(K By R4 B c0:Nat)(s0:St)(r:Lo (List Tl×Lk))(z:R):Prop:=match r with
 | .ok p=>∃t s c q8 q,z = .ok .normal ⟨t,s,c,[],none⟩∧SI C K By R4 B s0 c0 p.2 p.1 q8 q s c∧tget t 8=q8∧tget t 4 = .ptr R4 0
 | .bad a e=>∃t s c,z = .ok (.pan (jL a e)) ⟨t,s,c,[],none⟩∧Bad C K s0 c0 s c
theorem loop44(n j:Nat){ss:List (List UInt8)}{us:List Nat}(C:LkC)(hE:EOk (EC n us C) ss C.d C.e){K By R4 B c0:Nat}{s0:St}(hP:PI C K By R4 B c0){x:List Nd}{dx w:D}(hx:Sl 7 bK x dx)(Fj:wU x)(hw:Sl 1 gU (gN x) w)
  {vs:List Vr} (hV:VO us C K s0 c0 vs) {fs:List Fd} {cal:Nat→List Vr→Lk→Lo (Tl×Lk)} (Aw:CalOk (EC n us C) cal) {q:D} {t:Tm} {s:St} {c:Nat} {sm:Lk} (hT:TI K By R4 dx w (gN x).length 0 .nils t) (hS:SI C K By R4 B s0 c0 sm [] .nils q s c) (hG:SG us sm)
  (Au:∀(y:Nd) (ts:List Tl) (sm:Lk),SG us sm→∀s c,CI us C K sm vs ts s c→jY C K (wN (EC n us C) cal fs y ts sm) (fn (n+13) (j+3) (.fn 88) [.ptr K 0,.agg (bK y)] s c) s c) :
  LoopR C K By R4 B c0 s0 (lO (EC n us C) cal fs vs (fC x) [] sm) (lL 0 (zC Lp44 (cxn (n+13)) (fn (n+13) (j+3)) KK ⟨t,s,c,[],none⟩)):=by
 have Kq:=ord_len Fj.g;have Ac:=Fj.le;have Vm:=nodes_len x;simp only[Lp44,Ab.abq];rw[fU.2.2.2.2.2.1];generalize hz:zloop KK _ _=rl
 refine zrange rl hz (gN x).length (dY (by omega)) (by omega) (fun i t s c=>∃st Bx q8 q,lO (EC n us C) cal fs vs ((fC x).take i) [] sm = .ok (st,Bx)∧SG us Bx∧(∀u∈st,TG us u)∧sD ((fC x).drop i) st.length 1∧st.length≤i∧SI C K By R4 B s0 c0 Bx st q8 q s c∧TI K By R4 dx w (gN x).length i q8 t) (by decide) hT.q36 hT.q35 ?_ ?_ ?_
 ·exact⟨[],sm,.nils,q,rfl,hG,nofun,oJ Fj,aK _,hS,hT⟩
 ·rintro i t s c hi ⟨st,Bx,q8,q',hr,Mx,zZ,Lz,Km,Eu,Fm⟩ Ag Ah;obtain⟨hk,Dy⟩:=nodes_get hi;have Vy:i<(fC x).length:=by omega
  have hy:(fC x)[i]=x[(gN x)[i]]:=by rw[aI Vy]at Dy;exact Option.some.inj Dy
  have Mv:(fC x).drop i=x[(gN x)[i]]::(fC x).drop (i+1):=by rw[List.drop_eq_getElem_cons Vy,hy]
  rw[Mv]at Lz;obtain⟨g1,g2,g3⟩:=nd_ok Fj hk;have Uf:TI K By R4 dx w (gN x).length i q8 (tput t 37 (.bool true)):=⟨by simpa[aA]using Fm.q0,by simpa[aA]using Fm.q1,by simpa[aA]using Fm.q4,by simpa[aA]using Fm.q5,by simpa[aA]using Fm.q8,by simpa[aA]using Fm.q34,by simpa[aA]using Fm.q35,by simpa[aA]using Fm.q36⟩
  have zY:¬2000<Bx.lk+1→SG us Bx.tick:=fun hb=>⟨Mx.ec,Mx.lb,by show Bx.lk+1≤2000;omega⟩
  have Cf:x[(gN x)[i]].kind=5∨x[(gN x)[i]].kind=6→(st.take (opN x[(gN x)[i]])).length=1∨(st.take (opN x[(gN x)[i]])).length=2:=fun Di=>by
   have Nw:=g1.kp Di;have:opN x[(gN x)[i]]=x[(gN x)[i]].kids.toNat:=by unfold opN fO;rw[aS Di]
   have:=Lz.1
   grind
  have Ok:=node_step n j (us:=us) C hE.lt hE.pc hP hx hw hi hk hV (fs:=fs) (cal:=cal) Uf Eu Mx zZ (by omega) g1 ⟨g2,g3⟩ Lz.1 (fun hb p hp=>by
    obtain⟨_,h2⟩:=look_inv hE Aw hV.good Cf ⟨g2,g3⟩ (fun u hu=>zZ u (eH hu)) (zY hb) hp
    exact⟨h2.ec,h2.lb⟩) (fun hb _ s c hCI=>Au _ _ _ (zY hb) s c hCI)
  have Ft:fC x=(fC x).take i++x[(gN x)[i]]::(fC x).drop (i+1):=by grind [List.take_append_drop]
  have zV:∀r,oR (EC n us C) cal fs vs x[(gN x)[i]] st Bx=r→lO (EC n us C) cal fs vs (fC x) [] sm=match r with | .ok p=>lO (EC n us C) cal fs vs ((fC x).drop (i+1)) p.1 p.2 | .bad a e=>.bad a e:=fun r Bk=>by
   refine(congrArg (fun l=>lO (EC n us C) cal fs vs l [] sm) Ft).trans ?_
   simp only[xS,hr,lO,Bk];cases r<;>rfl
  cases hn:oR (EC n us C) cal fs vs x[(gN x)[i]] st Bx with
  | bad a e=>
   rw[show(⟨us,C.low,C.pc,RDl n C.d C.e⟩:LEn)=EC n us C from rfl,hn]at Ok
   obtain⟨t',s',c',Gw,hB⟩:=Ok;rw[Gw];show LoopR C K By R4 B c0 s0 (lO (EC n us C) cal fs vs (fC x) [] sm) (.ok (.pan (jL a e)) ⟨t',s',c',[],none⟩);rw[zV _ hn];exact⟨t',s',c',rfl,hB⟩
  | ok p=>
   rw[show(⟨us,C.low,C.pc,RDl n C.d C.e⟩:LEn)=EC n us C from rfl,hn]at Ok
   obtain⟨t',s',c',Gi,q'',Gw,hT3,hS3⟩:=Ok;rw[Gw];obtain⟨i1,i2,i3⟩:=node_inv hE Aw hV.good g1 Lz.1 ⟨g2,g3⟩ zZ Mx hn;show _∧_;refine⟨rfl,rfl,hT3.q36,.inr (.inr hT3.q35),by decide,by decide,p.1,p.2,Gi,q'',?_,i2,i1,by rw[i3];exact Lz.2,by omega,hS3,⟨?_,?_,?_,?_,?_,?_,?_,?_⟩⟩
   ·grind [List.take_succ_eq_append_getElem,xS,lO]
   ·simpa[aA]using hT3.q0
   ·simpa[aA]using hT3.q1
   ·simpa[aA]using hT3.q4
   ·simpa[aA]using hT3.q5
   ·simpa[aA]using hT3.q8
   ·simpa[aA]using hT3.q34
   ·simpa[aA]using hT3.q35
   ·simp[aA]
 ·rintro t s c ⟨st,Bx,q8,q',hr,Mx,zZ,Lz,Km,Eu,Fm⟩ Ag Ah;rw[show(gN x).length=(fC x).length from Vm.symm,List.take_length]at hr
  rw[hr];exact⟨_,s,c,q8,q',rfl,Eu,by simpa[aA]using Fm.q8,by simpa[aA]using Fm.q4⟩
end
end Zv
namespace Zv
open Go
noncomputable section
variable {B c':Nat} {s':St}
theorem B44_eq2:∃P1 P2,B44 = .seq P1 (.seq P2 (.seq (.reg none [⟨some 28,.mv (.t 1),none⟩,⟨some 29,.call 89 [.t 28],none⟩,⟨some 27,.mv (.t 29),none⟩,⟨some 30,.ext 0 (.t 27),none⟩,⟨some 31,.ext 1 (.t 27),none⟩,⟨some 6,.mv (.t 30),none⟩,⟨some 7,.mv (.t 31),none⟩]) (.seq (.reg none [⟨some 32,.mv (.t 7),none⟩,⟨some 33,.call 41 [.c (.int .i64 0),.t 32],none⟩]) (.seq (.reg none [⟨some 8,.mv (.c .nils),none⟩]) (.seq (.seq (.reg none [⟨some 34,.mv (.t 6),none⟩,⟨some 35,.len false (.t 34),none⟩,⟨some 36,.mv (.c (.int .i64 0)),none⟩]) (.block 0 Lp44)) (.seq (.reg none [⟨some 107,.mv (.t 8),none⟩,⟨some 108,.iaS 5 (.t 107) (.c (.int .i64 0)),none⟩,⟨some 109,.ld (some 5) (.t 108),none⟩,⟨none,.st 5 (.t 4) (.t 109),none⟩]) .ret)))))) ∧
  ∀(cx:Cx) (cl:CL) (k K:Nat) (dx:D) (s:St) (c:Nat),∃t s' ,zC (.seq P1 P2) cx cl k (start [.ptr K 0,dx] s c) = .ok .normal ⟨t,s',c+1+1,[],none⟩∧tget t 0 = .ptr K 0∧tget t 1=dx∧tget t 4 = .ptr c 0∧tget t 5 = .mp (c+1)∧sget s' c=some (.fix 37 ty0)∧sget s' (c+1)=some (.mp (byE K) 6)∧∀m,m≠c→m≠c+1→sget s' m=sget s m:=by
 refine⟨_,_,rfl,fun cx cl k K dx s c=>?_⟩
 have m0:mfind .int (.int .i64 1) [] 0=some none:=rfl;have m1:mfind .int (.int .i64 3) [(.int .i64 1,.fn (.func 83) [.ptr K 0] [],0)] 0=some none:=rfl;have m2:mfind .int (.int .i64 2) [(.int .i64 1,.fn (.func 83) [.ptr K 0] [],0),(.int .i64 3,.fn (.func 84) [.ptr K 0] [],1)] 0=some none:=rfl
 have m3:mfind .int (.int .i64 4) [(.int .i64 1,.fn (.func 83) [.ptr K 0] [],0),(.int .i64 3,.fn (.func 84) [.ptr K 0] [],1),(.int .i64 2,.fn (.func 85) [.ptr K 0] [],2)] 0=some none:=rfl
 have m4:mfind .int (.int .i64 5) [(.int .i64 1,.fn (.func 83) [.ptr K 0] [],0),(.int .i64 3,.fn (.func 84) [.ptr K 0] [],1),(.int .i64 2,.fn (.func 85) [.ptr K 0] [],2),(.int .i64 4,.fn (.func 86) [.ptr K 0] [],3)] 0=some none:=rfl
 have m5:mfind .int (.int .i64 6) [(.int .i64 1,.fn (.func 83) [.ptr K 0] [],0),(.int .i64 3,.fn (.func 84) [.ptr K 0] [],1),(.int .i64 2,.fn (.func 85) [.ptr K 0] [],2),(.int .i64 4,.fn (.func 86) [.ptr K 0] [],3),(.int .i64 5,.fn (.func 87) [.ptr K 0] [],4)] 0=some none:=rfl;simp only[z0,seval,m0,m1,m2,m3,m4,m5,bS,dU,cK,cA];have hc:c≠c+1:=by omega
 refine⟨_,_,rfl,?_,?_,?_,?_,?_,?_,fun m h1 h2=>?_⟩
 ·simp[aA]
 ·simp[aA]
 ·simp[aA]
 ·simp[aA]
 ·simp only[aU,aZ,aG hc];rfl
 ·rw[aU,aS rfl];rfl
 simp_all [aU,aZ]
def XOk(l:List Nd):Prop:=∃a,exD l=e2 a 0
theorem XOk.ex{l:List Nd}(h:XOk l):wU l:=by obtain⟨a,h⟩:=h;exact ex_ok h
set_option maxHeartbeats 1000000 in
theorem f44(n:Nat){ss:List (List UInt8)}{us:List Nat}{d e:D}{low pc M:Nat}:∀(F j:Nat),2*F+6≤j→∀(v f:D),EOk (EC n us ⟨d,e,low,pc,M,v,f⟩) ss d e→∀(fs:List Fd),fs.length<F→fs.length<1000→Sl 3 fdC fs f→(∀g∈fs,FdOk g)→(∀g∈fs,XOk g.body) →
  ∀(vs:List Vr) (x:List Nd) (dx:D),Sl 7 bK x dx→NdOk x→XOk x→∀(sm:Lk) (q:D) (s:St) (c K:Nat),SG us sm→VO us ⟨d,e,low,pc,M,v,f⟩ K s c vs→sget s K=some (LkC.blk ⟨d,e,low,pc,M,v,f⟩ sm q)→eG q=false→sget s M=some (.mp (mpE 0 sm.lm) sm.lm.length)→K<c→M<c→kA s c →
   jY ⟨d,e,low,pc,M,v,f⟩ K (tN (EC n us ⟨d,e,low,pc,M,v,f⟩) F fs vs x sm) (fn (n+13) j (.fn 44) [.ptr K 0,dx] s c) s c
 | 0=>fun j _ v f _ fs h=>by omega
 | F+1=>fun j hj v f hE fs hfF Bj hf Eb Iz vs x dx hx hN Qd sm q s c K hG hV hK hq hM Al Jd zX=>by
  obtain⟨j2,rfl⟩:∃j2,j=j2+5:=⟨j-5,by omega⟩
  obtain⟨P1,P2,hB,hP⟩:=B44_eq2;rw[iG (A:=A44) rfl rfl rfl rfl (n+13) (j2+4) _ s c rfl,show A44.body=B44 from rfl,hB]
  obtain⟨t0,s0,Hk,q0,q1,q4,q5,r4,rby,ro⟩:=hP (cxn (n+13)) (fn (n+13) (j2+4)) KK K dx s c;have Fj:=Qd.ex;obtain⟨xa,Ls⟩:=Qd;obtain⟨w,h89,hw⟩:=c89 (n+1) hx hN Ls;have Wt:K≠M:=by rintro e;rw[e,hM]at hK;cases hK
  have hPI:PI ⟨d,e,low,pc,M,v,f⟩ K (c+1) c (c+1+1) c:=⟨Al,Jd,Wt,aK _,Nat.lt_succ_self _,Nat.lt_succ_self _⟩;have ho:∀m,m<c→sget s0 m=sget s m:=fun m hm=>ro m (by omega) (by omega)
  have hSI:SI ⟨d,e,low,pc,M,v,f⟩ K (c+1) c (c+1+1) s c sm [] .nils q s0 (c+1+1):=⟨by rw[ho K Al,hK],by grind,rby,r4,fun m m1 _ _=>ho m m1,.inl ⟨rfl,rfl⟩,fun m hm=>by rw[ro m (by omega) (by omega)];exact zX m (by omega),aK _,hq⟩
  have Gp:=yD hE F fs (fun g hg=>(Iz g hg).ex)
  have Au:∀(y:Nd) (ts:List Tl) (sm:Lk),SG us sm→∀s c,CI us ⟨d,e,low,pc,M,v,f⟩ K sm vs ts s c→jY ⟨d,e,low,pc,M,v,f⟩ K (wN (EC n us ⟨d,e,low,pc,M,v,f⟩) (tJ (EC n us ⟨d,e,low,pc,M,v,f⟩) F fs) fs y ts sm) (fn (n+13) (j2+1+3) (.fn 88) [.ptr K 0,.agg (bK y)] s c) s c:=fun y ts sm hG s c hCI=>
   f88 (n+12) j2 ⟨d,e,low,pc,M,v,f⟩ hE.lt hE.pc (RDl n d e) hf Eb Bj hCI hG.ec hG.lb (tJ (EC n us ⟨d,e,low,pc,M,v,f⟩) F fs) fun i hi v' fd Sj Ep q s c hV' Fg Hs Ws hKc' hMc' Dn=>by
    have Jq:=bQ hi;have ht:(fs.take i).length<F:=by rw[eI];omega
    have Ig:tJ (EC n us ⟨d,e,low,pc,M,v,f⟩) F fs i Ep (sm.mark ⟨us,low,pc,RDl n d e⟩ y.site)=tN (EC n us ⟨d,e,low,pc,M,v',fd⟩) F (fs.take i) Ep fs[i].body (sm.mark ⟨us,low,pc,RDl n d e⟩ y.site):=by
     unfold tJ;rw[aI hi];rfl
    have hb:=(Iz _ Jq).ex.le;have:=f44 n F (j2+3) (by omega) v' fd hE (fs.take i) ht (by grind) Sj (fun g hg=>Eb g (eH hg)) (fun g hg=>Iz g (eH hg)) Ep fs[i].body fs[i].bd (Eb _ Jq).b ((Eb _ Jq).nd hb) (Iz _ Jq) (sm.mark ⟨us,low,pc,RDl n d e⟩ y.site) q s c K (hG.mark hE _) hV' Fg Hs Ws hKc' hMc' Dn
    rw[←Ig]at this;exact this
  obtain⟨t3,ht3⟩:∃t3,t3=tput (tput (tput (tput (tput (tput (tput (tput (tput (tput (tput (tput (tput t0 28 dx) 29 (.tup [w,.int .i64 0])) 27 (.tup [w,.int .i64 0])) 30 w) 31 (.int .i64 0)) 6 w) 7 (.int .i64 0)) 32 (.int .i64 0)) 33 (.tup [])) 8 .nils) 34 w) 35 (.int .i64 ((gN x).length:Nat))) 36 (.int .i64 0):=⟨_,rfl⟩
  have hTI:TI K (c+1) c dx w (gN x).length 0 .nils t3:=by
   rw[ht3];refine⟨?_,?_,?_,?_,?_,?_,?_,?_⟩
   ·simpa[aA]using q0
   ·simpa[aA]using q1
   ·simpa[aA]using q4
   ·simpa[aA]using q5
   all_goals simp[aA]
  have Ej:=loop44 n (j2+1) ⟨d,e,low,pc,M,v,f⟩ hE hPI hx Fj hw hV (fs:=fs) Gp.1 hTI hSI hG Au;rw[lokM_eq]
  have hz:∀R:AC,zC (.seq P1 (.seq P2 (.seq (.reg none [⟨some 28,.mv (.t 1),none⟩,⟨some 29,.call 89 [.t 28],none⟩,⟨some 27,.mv (.t 29),none⟩,⟨some 30,.ext 0 (.t 27),none⟩,⟨some 31,.ext 1 (.t 27),none⟩,⟨some 6,.mv (.t 30),none⟩,⟨some 7,.mv (.t 31),none⟩]) (.seq (.reg none [⟨some 32,.mv (.t 7),none⟩,⟨some 33,.call 41 [.c (.int .i64 0),.t 32],none⟩]) (.seq (.reg none [⟨some 8,.mv (.c .nils),none⟩]) (.seq (.seq (.reg none [⟨some 34,.mv (.t 6),none⟩,⟨some 35,.len false (.t 34),none⟩,⟨some 36,.mv (.c (.int .i64 0)),none⟩]) (.block 0 Lp44)) R)))))) (cxn (n+13)) (fn (n+13) (j2+4)) KK (start [.ptr K 0,dx] s c) =
    zbind (lL 0 (zC Lp44 (cxn (n+13)) (fn (n+13) (j2+1+3)) KK ⟨t3,s0,c+1+1,[],none⟩)) (zC R (cxn (n+13)) (fn (n+13) (j2+1+3)) KK):=fun R=>by
   have Cl:∀R:AC,zC (.seq P1 (.seq P2 R)) (cxn (n+13)) (fn (n+13) (j2+4)) KK (start [.ptr K 0,dx] s c)=zC R (cxn (n+13)) (fn (n+13) (j2+4)) KK ⟨t0,s0,c+1+1,[],none⟩:=fun R=>by
    rw[xA]at Hk ⊢;rw[xA P2 R];simp only at Hk ⊢;rw[←qF,Hk];rfl
   rw[Cl];have hf89:fn (n+13) (j2+4) (.fn 89) [dx] s0 (c+1+1) = .ok (.ret (.tup [w,.int .i64 0])) s0 (c+1+1):=by
    rw[show j2+4=j2+3+1 from rfl,show n+13=n+12+1 from rfl,aF 89]
    simp only[aJ,hx.fz,bE,bR,h89,Bool.true_or,bG]
   simp only[z0,seval,q1,hf89,fS,hw.len];rw[←ht3]
  rw[hz];cases hr:lO (EC n us ⟨d,e,low,pc,M,v,f⟩) (tJ (EC n us ⟨d,e,low,pc,M,v,f⟩) F fs) fs vs (fC x) [] sm with
  | bad a b=>
   rw[hr]at Ej;obtain⟨t4,s4,c4,h4,hB4⟩:=Ej;rw[h4];exact⟨s4,c4,rfl,hB4⟩
  | ok p=>
   rw[hr]at Ej;obtain⟨t4,s4,c4,q8,q',h4,Jc,q48,q44⟩:=Ej;obtain⟨_,_,g3⟩:=run_inv hE Gp.1 hV.good (fC x) [] sm p 1 (yA Fj) (oJ Fj) nofun hG hr;obtain⟨st,Bx⟩:=p
   match st,g3 with
   | [u],_=>
    rw[h4];have zZ:=Jc.stk;rcases zZ with⟨_,h⟩|⟨m,ty,cs,hm,rfl,hs,hl,zY⟩
    ·cases h
    have Qn:decide (5≤cs.length)=true:=aH (by simpa using hl)
    have Gj:cs.take 5=tlC u:=by have:cs.take (1*5)=cV tlC [u]:=zY;simpa[cV]using this
    have hR:=Jc.hR;have Ox:=Jc.le;unfold ty0 at hR;have mc:(c=m)=False:=aL (by omega)
    refine⟨sset s4 c (.fix 37 (tlC u)),c4,q',?_,?_⟩
    ·unfold tlC tyC tl at *;simp only[z0,seval,q48,q44,show iJ 5 (.gs m 0 5 1) (.int .i64 0)=some (.ptr m 0) from rfl,hs,Qn,Gj,hR,aO,aX,A44]
    ·exact⟨by show c≤c4;omega,by rw[aU,aG (by omega),Jc.hK],by rw[aU,aG (by show M≠c;omega),Jc.hM],fun m m1 m2 m3=>by rw[aU,aG (by omega),Jc.old m m1 m2 m3],fun m hm=>by rw[aU,aG (by omega)];exact Jc.fr m hm,Jc.nag⟩
theorem caughtN(n j:Nat)(p q:Nat)(s:St)(c:Nat):dfn n (j+1) 40 [.ptr p 0,.ptr q 0] none s c = .ok (.ret (.tup [])) none s c:=by
 rw[dfn_in (A:=A40) rfl n j _ _ s c rfl];rfl
theorem caughtS(n j:Nat)(a e x y:Int){k k' p q:Nat}{s:St}{c:Nat}(h1:sget s q=some (.fix k [.int .i64 x]))(h2:sget s p=some (.fix k' [.int .i64 y]))(hf:kA s c)(hp:p<q)(hq:q<c):
  ∃s' c',dfn n (j+1) 40 [.ptr p 0,.ptr q 0] (some (jL a e)) s c = .ok (.ret (.tup [])) (some [(.iface 130 (.agg [.int .i64 a,.int .i64 e]),true)]) s' c'∧sget s' q=some (.fix k [.int .i64 e])∧sget s' p=some (.fix k' [.int .i64 a])∧∀m,m<c→m≠p→m≠q→sget s' m=sget s m:=by
 rw[dfn_in (A:=A40) rfl n j _ _ s c rfl,show A40.body=B40.b from rfl]
 unfold jL;simp only[B40,cI];have f1:(p=c)=False:=aL (by omega)
 have f2:(q=c)=False:=aL (by omega)
 have g1:(c=p)=False:=aL (by omega)
 have g2:(c=q)=False:=aL (by omega)
 have g3:(p=q)=False:=aL (by omega)
 have g4:(q=p)=False:=aL (by omega)
 have Yo:∀d,oW (.ifc true) (.iface 130 d) .nilif=some false:=fun _=>rfl
 simp only[z2,seval,ex_S,f1,f2,g1,g2,g3,g4,h1,h2,Yo,cA,cK,AC.noRcv,dR,cN,AOp.kd,zop,dP,tks,bP,dL,nb];refine⟨_,_,rfl,?_,?_,fun m m1 m2 m3=>?_⟩
 all_goals grind [g3,aU,aZ]
structure Pres (E:LEn) (P P':Lk→Prop):Prop where
 ec:∀s ec,P' s→P' ⟨ec,s.lk,s.lm⟩
 mark:∀s x,P' s→P (s.mark E x)
theorem node_pres{E:LEn}{P P':Lk→Prop}(h:Pres E P P'){cal:Nat→List Vr→Lk→Lo (Tl×Lk)}(hc:∀i vs s p,P s→cal i vs s = .ok p→P p.2){fs:List Fd}{vs:List Vr}{x:Nd}(hk:1≤x.kind∧x.kind≤6){st:List Tl}{s:Lk}{p:List Tl×Lk}(hs:P' s.tick)(hp:oR E cal fs vs x st s = .ok p):P p.2:=by
 unfold oR at hp;split at hp
 ·cases hp
 split at hp
 case h_2=>cases hp
 rename_i q hq;cases hp;show P (if x.kind=6 then q.2 else q.2.mark E x.site)
 unfold mY at hq;by_cases h6:x.kind=6
 ·rw[aS h6];rw[aG (by omega),aG (by omega),aG (by omega),aG (by omega),aG (by omega)]at hq
  unfold wN at hq;split at hq
  ·cases hq
  split at hq
  ·cases hq
  split at hq
  ·cases hq
  exact hc _ _ _ _ (h.mark _ _ hs) hq
 ·rw[aG h6];refine h.mark _ _ ?_;split at hq
  ·grind
  split at hq
  ·grind
  split at hq
  ·grind
  split at hq
  ·grind [nameM]
  split at hq
  ·unfold vN at hq;split at hq
   ·cases hq
   split at hq
   ·cases hq
   cases hq;exact h.ec _ _ hs
  ·omega
theorem run_pres{E:LEn}{P P':Lk→Prop}(h:Pres E P P')(ht:∀s,P s→P' s.tick){cal:Nat→List Vr→Lk→Lo (Tl×Lk)}(hc:∀i vs s p,P s→cal i vs s = .ok p→P p.2){fs:List Fd}{vs:List Vr}:∀(l:List Nd) (st:List Tl) (s:Lk) (p:List Tl×Lk),(∀x∈l,qM x∧1≤x.kind∧x.kind≤6)→(l≠[]∧P' s.tick∨P s)→lO E cal fs vs l st s = .ok p→P p.2
 | [],st,s,p,_,hs,hp=>by
  cases hp
  grind
 | x::r,st,s,p,hx,hs,hp=>by
  rw[lO]at hp;split at hp
  ·rename_i q hq;have:=node_pres h hc (hx x (cE ..)).2 (hs.elim (fun h=>h.2) (ht s)) hq
   exact run_pres h ht hc r q.1 q.2 p (fun y hy=>hx y (dA _ hy)) (.inr this) hp
  ·cases hp
theorem nodes_ne{x:List Nd}(h:wU x):fC x≠[]:=by
 intro e;have:=oJ h;rw[e]at this;cases this
theorem tM{E:LEn}{P P':Lk→Prop}(h:Pres E P P')(ht:∀s,P s→P' s.tick):∀(f:Nat) (fs:List Fd),(∀g∈fs,wU g.body)→∀(vs:List Vr) (x:List Nd) (s:Lk) (p:Tl×Lk),wU x→P' s.tick→tN E f fs vs x s = .ok p→P p.2
 | 0,_,_,_,_,_,_,_,_,hp=>by cases hp
 | f+1,fs,hf,vs,x,s,p,hx,hs,hp=>by
  rw[lokM_eq]at hp;have hc:∀i vs s p,P s→tJ E f fs i vs s = .ok p→P p.2:=fun i vs s p hs hp=>by
   unfold tJ at hp;split at hp
   ·rename_i g hg;obtain⟨hi,rfl⟩:=dE.1 hg;exact tM h ht f (fs.take i) (fun g hg=>hf g (eH hg)) vs _ s p (hf _ (bQ hi)) (ht s hs) hp
   ·cases hp
  cases hr:lO E (tJ E f fs) fs vs (fC x) [] s with
  | bad a e=>grind
  | ok q=>
   have:=run_pres h ht hc (fC x) [] s q (yA hx) (.inl ⟨nodes_ne hx,hs⟩) hr;rw[hr]at hp;obtain⟨st,sm⟩:=q
   match st with
   | []=>cases hp
   | t::r=>cases hp;exact this
def KeyL(l:List (Int×Int))(x:Int):List Int:=match qI l x 0 with|none=>l.map Prod.fst++[x]|some _=>l.map Prod.fst
theorem yB(us:List Nat)(lm:List (Int×Int))(x:Int)(Hr:Nat):(mkL us lm x Hr).map Prod.fst=KeyL lm x:=by
 grind [mkL,KeyL,qI,setM_keys]
theorem key_nodup{lm:List (Int×Int)}{x:Int}(h:(lm.map Prod.fst).Nodup):(KeyL lm x).Nodup:=by
 grind [KeyL,qI,posM_none,List.nodup_append,fV]
def KP(s:Lk):Prop:=(s.lm.map Prod.fst).Nodup∧s.lm.length≤s.lk
def KP'(s:Lk):Prop:=(s.lm.map Prod.fst).Nodup∧s.lm.length+1≤s.lk
theorem yE(E:LEn):Pres E KP KP' where
 ec s ec h:=h
 mark s x h:=by
  refine⟨?_,?_⟩
  ·show((mkL E.us s.lm x _).map Prod.fst).Nodup;rw[yB];exact key_nodup h.1
  ·show(mkL E.us s.lm x _).length≤s.lk;have:(mkL E.us s.lm x (J E.us E.pc s.ec)).length=(KeyL s.lm x).length:=by grind [yB,J,dB]
   rw[this];have:=h.2
   grind [KeyL]
theorem vB(s:Lk)(h:KP s):KP' s.tick:=⟨h.1,by show s.lm.length+1≤s.lk+1;have:=h.2;omega⟩
theorem ne_pres(E:LEn):Pres E (fun s=>s.lm≠[]) (fun _=>True) where
 ec _ _ _:=trivial
 mark s x _:=by
  show mkL E.us s.lm x _≠[];intro e;have:=yB E.us s.lm x (J E.us E.pc s.ec);rw[e]at this;unfold KeyL at this;split at this
  ·simp at this
  ·rename_i hq;obtain⟨p,hp,_⟩:=uX hq
   simp_all
theorem en2_flat:∀(l:List (Int×Int)),(l.map kI).flatten=en2 l
 | []=>rfl
 | p::r=>by rw[bS,dO,en2_flat r];rfl
theorem en2_app:∀(l l':List (Int×Int)),en2 (l++l')=en2 l++en2 l'
 | [],_=>rfl
 | p::r,l'=>by rw[cA];simp only[en2,en2_app r l',cA]
theorem Sl.sc2{l:List (Int×Int)}{a:D}(ha:Sl 2 kI l a)(s:St):cP s 2 a=some (en2 l,l.length):=by
 obtain⟨_,⟨rfl,h⟩|⟨ex,rfl⟩⟩:=ha
 ·rw[List.map_eq_nil_iff]at h;subst h;rfl
 ·simp only[cP,dB,en2_flat];rw[bO (by rw[jU];omega),bG,cS (by rw[jU];omega)]
def OwnS(B:Nat)(s:St)(q:D)(l:List (Int×Int)):Prop:=
 (∃m,B≤m∧q = .ms m 0 2 0 0∧sget s m=some (.fix 0 [])∧l=[])∨(∃m ty,B≤m∧q = .gs m 0 2 l.length∧sget s m=some (.grow ty (en2 l))∧l≠[])
theorem OwnS.frz(p:Bool){s:St}{q:D}{l:List (Int×Int)}(h:OwnS B s q l):∃r,(∀k,Zv.frz p (k+2) s q=some r)∧Sl 2 kI l r:=by
 have hm:∀(l:List (Int×Int)) (k:Nat),(en2 l).mapM (Zv.frz p (k+1) s)=some (en2 l):=fun l k=>by
  induction l with
  | nil=>rfl
  | cons p r ih=>simp only[en2,List.mapM_cons,ih];rfl
 rcases h with⟨m,_,rfl,hs,rfl⟩|⟨m,ty,_,rfl,hs,An⟩
 ·exact⟨.sl true 0 [],fun k=>by rw[mS,hs];rfl,fun r hr=>by simp at hr,.inr ⟨true,rfl⟩⟩
 ·refine⟨.sl false l.length (en2 l),?_,fun r hr=>?_,.inr ⟨false,by rw[en2_flat,dB]⟩⟩
  ·intro k;rw[lP,hs];simp only[bM,gQ];rw[bO (by rw[jU];omega),bG,cS (by rw[jU];omega),hm];rfl
  ·obtain⟨p,_,rfl⟩:=cY.1 hr;rfl
theorem own_app{x:AS}{q b:D}{l l':List (Int×Int)}(h:OwnS B x.s q l)(hb:cP x.s 2 b=some (en2 l',l'.length))(zU:l.length+l'.length≤4294967296)(hc:B≤x.c)(zX:∀m,x.c≤m→sget x.s m=none):
  ∃q' s' c',iS x 2 16 50 q b=some (q',⟨x.t,s',c',x.d,x.r⟩)∧OwnS B s' q' (l++l')∧x.c≤c'∧(∀nm,nm<B→sget s' nm=sget x.s nm)∧∀m,c'≤m→sget s' m=none:=by
 unfold iS;rw[hb];simp only[aC,bE];rcases h with⟨m,hm,rfl,hs,rfl⟩|⟨m,ty,hm,rfl,hs,An⟩
 ·simp only[hs,eQ,bG,bM,eA,gQ,cC,cK,aX];cases l' with
  | nil=>
   refine⟨.ms m 0 2 0 0,sset x.s m (.fix 0 []),x.c,rfl,.inl ⟨m,hm,rfl,by rw[aU,aS rfl],rfl⟩,aK _,fun nm hn=>by rw[aU,aG (by omega)],fun k hk=>by
    have Ez:m<x.c:=eC fun h=>by rw[zX m h]at hs;cases hs
    rw[aU,aG (by omega)];exact zX k hk⟩
  | cons p r=>
   have hr:room (p::r).length 16=true:=by
    unfold room;rw[bO (by simp only[aX]at zU;omega)];rfl
   rw[show Nat.ble (p::r).length 0=false from rfl,cO,hr]
   refine⟨.gs x.c 0 2 (p::r).length,sadd x.s x.c (.grow 50 (en2 (p::r))),x.c+1,rfl,.inr ⟨x.c,50,hc,rfl,by rw[aZ,aS rfl],nofun⟩,by omega,fun nm hn=>by rw[aZ,aG (by omega)],fun k hk=>by rw[aZ,aG (by omega)];exact zX k (by omega)⟩
 ·simp only[hs];cases l' with
  | nil=>
   refine⟨.gs m 0 2 l.length,x.s,x.c,rfl,.inr ⟨m,ty,hm,by rw[dG],by rw[dG];exact hs,by rw[dG];exact An⟩,aK _,fun nm hn=>rfl,zX⟩
  | cons p r=>
   have hr:room (l.length+(p::r).length) 16=true:=by
    unfold room;rw[bO zU];rfl
   have h1:Nat.ble (0+(l.length+(p::r).length)*2) (en2 l).length=false:=by
    rw[←gI,Nat.ble_eq,jU,aO];omega
   have h2:Nat.ble (l.length*2) (en2 l).length=true:=bO (by rw[jU];omega)
   have zY:(en2 l).take (l.length*2)=en2 l:=cS (by rw[jU];omega)
   rw[show Nat.beq (p::r).length 0=false from rfl,cO,en2_nag,eQ,aW,Bool.and_true,bG,h1,cO,h2,hr,eQ,zY]
   simp only[Bool.and_true,bG];refine⟨_,_,_,rfl,.inr ⟨x.c,_,hc,by rw[dZ],by rw[aZ,aS rfl,en2_app],by simp⟩,Nat.le_succ _,fun nm hn=>?_,fun k hk=>?_⟩
   ·rw[aZ,aG (by omega),hU,aG (by omega)]
   ·rw[aZ,aG (by have:x.c+1≤k:=hk;omega),hU]
    split
    ·rfl
    ·exact zX k (by have:x.c+1≤k:=hk;omega)
theorem rF{x:AS}{q b:D}{l l':List (Int×Int)}{A:Option (D×AS)}(hA:iS x 2 16 50 q b=A)(h:OwnS B x.s q l)(hb:cP x.s 2 b=some (en2 l',l'.length))(zU:l.length+l'.length≤4294967296)(hc:B≤x.c)(zX:∀m,x.c≤m→sget x.s m=none):
  ∃q' s' c',A=some (q',⟨x.t,s',c',x.d,x.r⟩)∧OwnS B s' q' (l++l')∧x.c≤c'∧(∀nm,nm<B→sget s' nm=sget x.s nm)∧∀m,c'≤m→sget s' m=none:=by
 grind [own_app]
theorem OwnS.mono{s:St}{q:D}{l:List (Int×Int)}(h:OwnS B s q l)(hs:∀m b,B≤m→sget s m=some b→sget s' m=some b):OwnS B s' q l:=by
 rcases h with⟨m,h1,h2,h3,h4⟩|⟨m,ty,h1,h2,h3,h4⟩
 ·exact .inl ⟨m,h1,h2,hs _ _ h1 h3,h4⟩
 ·exact .inr ⟨m,ty,h1,h2,hs _ _ h1 h3,h4⟩
def yL(l:List (Int×Int))(x:Int):Bool:=match l[jS l x]? with|some p=>decide (p.1=x)|none=>false
def xW(us:List Nat)(l:List (Int×Int))(x:Int)(lab:Nat):List (Int×Int):=
 l.take (jS l x)++[(x,bif yL l x then upD us lab ((l.getD (jS l x) (0,0)).2).toNat else(lab:Int))]++l.drop (bif yL l x then jS l x+1 else jS l x)
theorem fin71(n:Nat){l L:List (Int×Int)}{a q:D}(ha:Sl 2 kI l a)(hl:l.length<1000000)(hL:L.length<1000000){x v:Int}{k:Nat}(hk:k≤l.length){t:Tm}{s:St}{c:Nat}(hc:2≤c)(Cc:∀m,c≤m→sget s m=none) 
  (s1:sget s 1=some (.fix 50 [.int .i64 x,.int .i64 v])) (hO:OwnS 2 s q L) (q1:tget t 1=a) (q5:tget t 5 = .ptr 1 0) (q7:tget t 7 = .int .i64 (k:Nat)) (q8:tget t 8=q) :
  ∃r,pout (zbody (dfn (n+1) MM) A71 (zC F71.b (cxn (n+1)) (fn (n+1) 4096) KK ⟨t,s,c,[],none⟩))=some (r,true)∧Sl 2 kI (L++[(x,v)]++l.drop k) r:=by
 simp only[F71,cI];obtain⟨d2,Fx,Fb⟩:=ha.tail (i:=k) hk (k:=.i64);have zY:cX [D.int .i64 x,.int .i64 v] 0 (some 2)=some (.agg [.int .i64 x,.int .i64 v]):=rfl;have Dl:sget s (c+2)=none:=Cc _ (by omega)
 simp only[z2,seval,s1,q1,q5,q7,q8,dR,cN,fX,iY,AOp.kd,eE,fQ,fG,eY,qH,eJ,dW,jO,cC,List.take_succ_cons,dD,List.all_cons,zY,dC,Dl,cB,Fx];generalize hA:iS _ 2 16 50 _ _=A
 obtain⟨q',s',c',rfl,hO',Bw,zX,hfree'⟩:=rF (B:=2) (l:=L) (l':=[(x,v)]) hA (hO.mono (fun m b _ hb=>by simp only[aA];grind)) (by simp only[cP,aA,↓reduceIte];rfl) (by grind) (by grind)
  (fun m hm=>by simp only at hm;simp only[aA];grind)
 clear hA;simp only[z2,seval,q1,q5,q7,q8,dR,cN,fX,iY,AOp.kd,eE,fQ,fG,eY,qH,eJ,dW,jO,cC,List.take_succ_cons,dD,List.all_cons,Fx,bP,dL];generalize hA:iS _ 2 16 50 _ _=A;obtain⟨q2,s2,c2,rfl,hO2,El,hfr2,hfree2⟩:=rF (B:=2) (l:=L++[(x,v)]) (l':=l.drop k) hA hO' (Fb.sc2 _) (by grind) (by grind) hfree'
 clear hA;simp only[z2,seval,fX,AOp.kd,eE,cC,dD,A71];obtain⟨r,Ge,Cb⟩:=hO2.frz true
 grind [pout]
theorem c71(n:Nat){ss:List (List UInt8)}{us:List Nat}{d e:D}(hd:Sl 1 fM ss d)(he:Sl 1 u8C us e)(hu:fY us)(Cs:us.length<9223372036854775807){l:List (Int×Int)}{a:D}(ha:Sl 2 kI l a)(hl:l.length<1000000) 
  {x:Int} {lab:Nat} (Mk:lab<us.length) (hls:∀p∈l,∃k:Nat,p.2=k∧k<us.length) :
  ∃r,cl (n+1) 71 [.agg [d,e],a,.agg [.int .i64 x,.int .i64 (lab:Int)]]=some (r,true)∧Sl 2 kI (xW us l x lab) r:=by
 rw[cl_s3 71 A71 B71];rw[B71];simp only[z0,seval,hd.nag,he.nag];generalize hz:zloop KK _ _=rl
 refine zwhile rl hz l.length (dY (by omega)) (fun i z=>∃t s c,z=⟨t,s,c,[],none⟩∧sget s 0=some (.fix 26 [d,e])∧sget s 1=some (.fix 50 [.int .i64 x,.int .i64 (lab:Int)])∧2≤c∧(∀m,2≤m→sget s m=none)∧tget t 1=a∧tget t 3 = .ptr 0 0∧tget t 5 = .ptr 1 0∧tget t 7 = .int .i64 (i:Nat)∧∀j (h:j<l.length),j<i→l[j].1<x)
  ⟨_,_,_,rfl,by simp[aA],by simp[aA],aK _,fun m hm=>by simp only[aA];grind [dX],by simp[aA],by simp[aA],by simp[aA],by simp[aA],nofun⟩ ?_
 rintro i z hi ⟨t,s,c,rfl,s0,s1,hc,Cc,q1,q3,q5,q7,hn⟩;by_cases Ny:∃h:i<l.length,l[i].1<x
 ·obtain⟨zQ,hx⟩:=Ny;have g0:=ha.cell zQ (show 0<2 by omega)
  simp only[z2,seval,s0,s1,q1,q3,q5,q7,ha.len,dH zQ,dR,cN,fX,iY,AOp.kd,eE,fQ,fG,eY,eJ,dW,nV,jO,cC,dD,ha.ia zQ,g0,kI,aH hx,gW (show i<9223372036854775807 by omega)]
  refine⟨zQ,_,_,_,rfl,s0,s1,by omega,Cc,by simp[aA,q1],by simp[aA,q3],by simp[aA,q5],by simp[aA],fun j hj Qo=>?_⟩
  grind
 ·have hk:i=jS l x:=putAt_uniq hi hn fun h hx=>Ny ⟨h,hx⟩
  obtain⟨d1,Fx,Fb⟩:=ha.head (j:=i) hi (k:=.i64);have zV:∃g:Bool,decide ((i:Int)<(l.length:Int))=g:=⟨_,rfl⟩
  have Ly:∀(z:D),@decide (z=z) (Classical.propDecidable _)=true:=fun z=>by simp
  by_cases zQ:i<l.length
  ·have hx:¬l[i].1<x:=fun h=>Ny ⟨zQ,h⟩
   have g0:=ha.cell zQ (show 0<2 by omega)
   have g1:=ha.cell zQ (show 1<2 by omega)
   simp only[z2,seval,s0,s1,q1,q3,q5,q7,ha.len,dH zQ,dR,cN,fX,iY,AOp.kd,eE,fQ,fG,eY,eJ,dW,nV,jO,cC,dD,ha.ia zQ,g0,kI,aE hx,Fx];generalize hA:iS _ 2 16 50 _ _=A
   obtain⟨q',s',c',rfl,hO,Bw,zX,hfree'⟩:=rF (B:=2) (l:=[]) (l':=l.take i) hA (.inl ⟨_,by omega,rfl,by simp[aA],rfl⟩) (Fb.sc2 _) (by grind) (by grind) (fun m hm=>by simp only at hm;simp only[aA];grind)
   clear hA;dsimp only at Bw;have Px:sget s' 0=some (.fix 26 [d,e]):=by rw[zX 0 (by omega)];simp only[aA];rw[aG (by omega)];exact s0
   have Pw:sget s' 1=some (.fix 50 [.int .i64 x,.int .i64 (lab:Int)]):=by rw[zX 1 (by omega)];simp only[aA];rw[aG (by omega)];exact s1
   have Dy:l[jS l x]?=some l[i]:=by rw[←hk];exact aI zQ
   have Wb:l.getD (jS l x) (0,0)=l[i]:=by rw[←hk];exact jK zQ _
   by_cases Kh:l[i].1=x
   ·have hE:yL l x=true:=by unfold yL;rw[Dy];exact aH Kh
    obtain⟨kl,Ek,hklt⟩:=hls _ (bQ zQ);have h113:=c113 n hd he hu Cs Mk hklt;have zY:cX [d,e] 0 (some 2)=some (.agg [d,e]):=rfl
    simp only[z2,seval,Px,Pw,q1,q3,q5,q7,ha.len,dH zQ,dR,cN,fX,iY,AOp.kd,eE,fQ,fG,eY,eJ,dW,jO,cC,dD,ha.ia zQ,g0,g1,kI,aH Kh,zY,Ek,aF 113,aJ,hd.fz,he.fz,h113,gW (show i<9223372036854775807 by omega)]
    have Bp:xW us l x lab=[]++l.take i++[(x,upD us lab kl)]++l.drop (i+1):=by
     unfold xW;rw[hE,Wb,←hk,Ek,cQ];rfl
    rw[Bp];refine fin71 n ha hl (by grind) (k:=i+1) (by omega) (by omega) (fun m hm=>by grind [aU]) (by simp[aA]) (hO.mono fun m b hm hb=>by grind [aU]) ?_ ?_ ?_ ?_
    all_goals (simp[aA,q1,q5,q7])
   ·have hE:yL l x=false:=by unfold yL;rw[Dy];exact aE Kh
    have Bp:xW us l x lab=[]++l.take i++[(x,(lab:Int))]++l.drop i:=by
     unfold xW;rw[hE,←hk];rfl
    rw[Bp];simp only[z2,seval,Px,Pw,q1,q3,q5,q7,ha.len,dH zQ,dR,cN,fX,iY,AOp.kd,eE,fQ,fG,eY,eJ,dW,jO,cC,dD,ha.ia zQ,g0,kI,aE Kh];refine fin71 n ha hl (by grind) (k:=i) hi ?_ ?_ Pw hO ?_ ?_ ?_ ?_
    ·omega
    ·grind
    all_goals (simp[aA,q1,q5,q7])
  ·have e1:i=l.length:=by omega
   have hE:yL l x=false:=by unfold yL;rw[←hk,kH (by omega)]
   have Bp:xW us l x lab=[]++l.take i++[(x,(lab:Int))]++l.drop i:=by
    unfold xW;rw[hE,←hk];rfl
   rw[Bp];simp only[z2,seval,s0,s1,q1,q3,q5,q7,ha.len,gG (show l.length≤i by omega),dR,cN,fX,iY,AOp.kd,eE,fQ,fG,eY,eJ,dW,nV,jO,cC,dD,Fx]
   generalize hA:iS _ 2 16 50 _ _=A;obtain⟨q',s',c',rfl,hO,Bw,zX,hfree'⟩:=rF (B:=2) (l:=[]) (l':=l.take i) hA (.inl ⟨_,by omega,rfl,by simp[aA],rfl⟩) (Fb.sc2 _) (by grind) (by grind) (fun m hm=>by simp only at hm;simp only[aA];grind)
   clear hA;dsimp only at Bw;have Pw:sget s' 1=some (.fix 50 [.int .i64 x,.int .i64 (lab:Int)]):=by rw[zX 1 (by omega)];simp only[aA];rw[aG (by omega)];exact s1
   simp only[z2,seval,Pw,q1,q3,q5,q7,ha.len,gG (show l.length≤i by omega),dR,cN,fX,iY,AOp.kd,eE,fQ,fG,eY,eJ,dW,jO,cC,dD]
   refine fin71 n ha hl (by grind) (k:=i) hi ?_ ?_ Pw hO ?_ ?_ ?_ ?_
   ·omega
   ·grind
   all_goals (simp[aA,q1,q5,q7])
def lk:List (Int×Int)→Int→Option Int
 | [],_=>none
 | p::r,x=>if x=p.1 then some p.2 else lk r x
def xV(us:List Nat)(x:Int)(lab:Nat):List (Int×Int)→List (Int×Int)
 | []=>[(x,lab)]
 | p::r=>if p.1<x then p::xV us x lab r else if p.1=x then(x,upD us lab p.2.toNat)::r else(x,(lab:Int))::p::r
theorem eqAt_cons(p:Int×Int)(r:List (Int×Int))(x:Int)(h:p.1<x):yL (p::r) x=yL r x:=by
 grind [yL,jS,List.getElem?_cons_succ]
theorem putL_cons(us:List Nat)(p:Int×Int)(r:List (Int×Int))(x:Int)(lab:Nat)(h:p.1<x):xW us (p::r) x lab=p::xW us r x lab:=by
 unfold xW
 grind [eqAt_cons,jS,List.getD_cons_succ,yL]
theorem putL_putR(us:List Nat)(x:Int)(lab:Nat):∀l,xW us l x lab=xV us x lab l
 | []=>by simp[xW,xV,yL,jS]
 | p::r=>by
  by_cases h:p.1<x
  ·rw[putL_cons us p r x lab h,putL_putR us x lab r,xV,aS h]
  grind [xV,xW,yL,jS]
theorem lk_none{l:List (Int×Int)}{y:Int}(h:∀q∈l,y<q.1):lk l y=none:=by
 induction l with
 | nil=>rfl
 | cons p r ih=>
  grind [lk]
theorem lk_mem:∀{l:List (Int×Int)} {y v:Int},lk l y=some v→(y,v)∈l
 | [],_,_,h=>by cases h
 | p::r,y,v,h=>by
  unfold lk at h;split at h
  ·grind
  ·exact dA _ (lk_mem h)
theorem mem_lk:∀{l:List (Int×Int)} {y v:Int},(l.map Prod.fst).Nodup→(y,v)∈l→lk l y=some v
 | [],_,_,_,h=>by cases h
 | p::r,y,v,hn,h=>by
  rw[bS,List.nodup_cons]at hn;unfold lk;rcases cH.1 h with e|h
  ·grind
  ·have hm:y∈r.map Prod.fst:=List.mem_map_of_mem (f:=Prod.fst) h;rw[aG fun(e:y=p.1)=>hn.1 (e▸hm)]
   exact mem_lk hn.2 h
theorem asc_nodup{l:List (Int×Int)}(h:Asc l):(l.map Prod.fst).Nodup:=List.pairwise_map.2 (h.imp fun h=>by omega)
theorem lk_sort{l:List (Int×Int)}(hn:(l.map Prod.fst).Nodup)(y:Int):lk (fA l) y=lk l y:=by
 have Ij:=asc_nodup (nD hn);cases h:lk l y with
 | some v=>grind [mem_lk,gL,lk_mem]
 | none=>
  cases h':lk (fA l) y with
  | none=>rfl
  | some v=>grind [mem_lk,gL,lk_mem]
theorem lk_ext:∀{l l':List (Int×Int)},Asc l→Asc l'→(∀y,lk l y=lk l' y)→l=l'
 | [],[],_,_,_=>rfl
 | [],p::r,_,_,h=>by have:=h p.1;grind [lk]
 | p::r,[],_,_,h=>by have:=h p.1;grind [lk]
 | p::r,q::r',h1,h2,h=>by
  have p1:=List.pairwise_cons.1 h1;have p2:=List.pairwise_cons.1 h2;have e:p.1=q.1:=by
   have a:=h p.1;have b:=h q.1;rcases Int.lt_trichotomy p.1 q.1 with hc|hc|hc
   ·grind [lk,lk_none]
   ·exact hc
   ·grind [lk,lk_none]
  have ev:p.2=q.2:=by
   have a:=h p.1;rw[lk,aS rfl,lk,aS e]at a;exact Option.some.inj a
  have er:r=r':=lk_ext p1.2 p2.2 fun y=>by
   by_cases hy:y=p.1
   ·grind [lk_none]
   ·have a:=h y
    grind [lk]
  grind
theorem lk_posM:∀(l:List (Int×Int)) (x:Int) (n:Nat),lk l x=(qI l x n).map Prod.snd
 | [],_,_=>rfl
 | p::r,x,n=>by
  unfold lk qI;split
  ·rfl
  ·exact lk_posM r x (n+1)
theorem posM_le:∀{l:List (Int×Int)} {x:Int} {n:Nat} {q:Nat×Int},qI l x n=some q→n≤q.1
 | [],_,_,_,h=>by cases h
 | p::r,x,n,q,h=>by
  unfold qI at h;split at h
  ·grind
  ·have:=posM_le h;omega
theorem lk_setM:∀{l:List (Int×Int)} {x:Int} {n:Nat} {q:Nat×Int} (v y:Int),qI l x n=some q→lk (setM l (q.1-n) v) y=if y=x then some v else lk l y
 | [],_,_,_,_,_,h=>by cases h
 | p::r,x,n,q,v,y,h=>by
  have h0:=h;unfold qI at h;split at h
  ·rename_i e;cases h
   grind [setM,lk]
  ·rename_i An;have Ac:=posM_le h;rw[show q.1-n=(q.1-(n+1))+1 by omega,setM,lk,lk_setM v y h]
   grind [lk]
theorem lk_app(l:List (Int×Int))(p:Int×Int)(y:Int):lk (l++[p]) y=match lk l y with|some v=>some v|none=>if y=p.1 then some p.2 else none:=by
 induction l with
 | nil=>simp[lk]
 | cons q r ih=>
  grind [lk]
theorem putR_mem{us:List Nat}{x:Int}{lab:Nat}:∀{l:List (Int×Int)} {q:Int×Int},q∈xV us x lab l→q.1=x∨q∈l
 | [],q,h=>by grind [xV,fV]
 | p::r,q,h=>by
  unfold xV at h;split at h
  ·rcases cH.1 h with rfl|h
   ·grind
   ·exact(putR_mem h).imp id fun h=>dA _ h
  grind
theorem putR_asc{us:List Nat}{x:Int}{lab:Nat}:∀{l:List (Int×Int)},Asc l→Asc (xV us x lab l)
 | [],_=>by simp[xV,Asc]
 | p::r,h=>by
  have h1:=List.pairwise_cons.1 h;unfold xV;split
  ·rename_i zQ;refine List.pairwise_cons.2 ⟨fun q hq=>?_,putR_asc h1.2⟩
   grind [putR_mem]
  ·split
   ·rename_i e;exact List.pairwise_cons.2 ⟨fun q hq=>e▸h1.1 q hq,h1.2⟩
   ·refine List.pairwise_cons.2 ⟨fun q hq=>?_,h⟩
    grind
theorem lk_putR(us:List Nat)(x:Int)(lab:Nat)(y:Int):∀{l:List (Int×Int)},Asc l→lk (xV us x lab l) y=if y=x then some (match lk l x with|some h=>upD us lab h.toNat|none=>(lab:Int)) else lk l y
 | [],_=>by simp[xV,lk]
 | p::r,h=>by
  have h1:=List.pairwise_cons.1 h;unfold xV;split
  ·rename_i zQ;rw[lk,lk_putR us x lab y h1.2,lk,aG (show ¬x=p.1 by omega),lk]
   grind
  grind [lk,lk_none]
theorem lk_mkL(us:List Nat)(lm:List (Int×Int))(x:Int)(Hr:Nat)(y:Int):lk (mkL us lm x Hr) y=if y=x then some (match lk lm x with|some h=>((J us Hr h.toNat:Nat):Int)|none=>(Hr:Int)) else lk lm y:=by
 have h1:=lk_posM lm x 0;unfold mkL;cases hq:qI lm x 0 with
 | none=>
  grind [lk_app,lk]
 | some q=>
  rw[hq]at h1;simp only[h1,bR];have:=lk_setM (J us Hr q.2.toNat:Nat) y hq;omega
theorem put_mk{ss:List (List UInt8)}{us:List Nat}{d e:D}(h:Lt ss us d e){lm:List (Int×Int)}(hn:(lm.map Prod.fst).Nodup)(hl:wT us lm)(x:Int){Hr:Nat}(hw:Hr<us.length):xW us (fA lm) x Hr=fA (mkL us lm x Hr):=by
 have Eh:((mkL us lm x Hr).map Prod.fst).Nodup:=by rw[yB];exact key_nodup hn
 have hA:=nD hn;rw[putL_putR];refine lk_ext (putR_asc hA) (nD Eh) fun y=>?_
 rw[lk_putR us x Hr y hA,lk_sort Eh,lk_mkL,lk_sort hn,lk_sort hn];by_cases e:y=x
 ·rw[aS e,aS e];cases hk:lk lm x with
  | none=>rfl
  | some v=>
   obtain⟨k,hk1,Bn⟩:=hl (x,v) (lk_mem hk)
   grind [cQ,uJ]
 grind
structure RC where
 d:D
 e:D
 low:Nat
 pc:Nat
def RC.blk(C:RC)(s:Lk)(q:D):Blk:=.fix 163 [C.d,C.e,.int .i64 (C.low:Nat),.int .i64 (C.pc:Nat),.int .i64 (s.ec:Nat),.int .i64 (s.lk:Nat),q]
def RSt(C:RC)(K:Nat)(sm:Lk)(s:St):Prop:=∃q,sget s K=some (C.blk sm q)∧Sl 2 kI (fA sm.lm) q
structure Af (K:Nat) (s:St) (c:Nat) (s':St) (c':Nat):Prop where
 le:c≤c'
 old:∀m,m<c→m≠K→sget s' m=sget s m
 free:kA s' c'
theorem Af.refl{K:Nat}{s:St}{c:Nat}(h:kA s c):Af K s c s c:=⟨aK _,fun _ _ _=>rfl,h⟩
theorem Af.add{K:Nat}{s:St}{c:Nat}(h:Af K s c s' c')(b:Blk):Af K s c (sadd s' c' b) (c'+1):=⟨Nat.le_succ_of_le h.le,fun m hm hk=>by rw[aZ,aG (by have:=h.le;omega)];exact h.old m hm hk,fun m hm=>by rw[aZ,aG (by omega)];exact h.free m (by omega)⟩
theorem Af.set{K:Nat}{s:St}{c:Nat}(h:Af K s c s' c'){nm:Nat}(h1:c≤nm∨nm=K)(h2:nm<c')(b:Blk):Af K s c (sset s' nm b) c':=⟨h.le,fun m hm hk=>by rw[aU,aG (by omega)];exact h.old m hm hk,fun m hm=>by rw[aU,aG (by omega)];exact h.free m hm⟩
theorem Af.trans{K:Nat}{s s2:St}{c c2:Nat}(h:Af K s c s' c')(g:Af K s' c' s2 c2):Af K s c s2 c2:=⟨fZ h.le g.le,fun m hm hk=>by rw[g.old m (bY hm h.le) hk,h.old m hm hk],g.free⟩
theorem Af.up{K:Nat}{s:St}{c c2:Nat}(h:Af K s c s' c')(h2:c'≤c2):Af K s c s' c2:=⟨fZ h.le h2,h.old,fun m hm=>h.free m (fZ h2 hm)⟩
section
variable (n j:Nat) {ss:List (List UInt8)} {us:List Nat} {C:RC} (h:Lt ss us C.d C.e) {K:Nat} {sm:Lk} {s:St} {c:Nat}
include h
theorem f180{q:D}(hK:sget s K=some (C.blk sm q)){a b:Nat}(ha:a<us.length)(hb:b<us.length):fn (n+1) (j+2) (.fn 180) [.ptr K 0,.int .i64 (a:Nat),.int .i64 (b:Nat)] s c = .ok (.ret (.int .i64 (J us a b:Nat))) s c:=by
 rw[iG (A:=A180) rfl rfl rfl rfl (n+1) (j+1) _ s c rfl,show A180.body=B180.b from rfl]
 simp only[B180,cI];have h1:=c113 n h.d h.e h.u (by have:=h.l;have:=h.h8;omega) ha hb
 rw[uJ h ha hb]at h1;unfold RC.blk at hK;simp only[z0,seval,hK,dP,h.d.nag,h.e.nag,aF 113,aJ,h.d.fz,h.e.fz,h1,A180]
set_option maxHeartbeats 1000000 in
theorem f182(hpc:C.pc<us.length)(hK:RSt C K sm s)(Al:K<c)(zX:kA s c)(Hb:sm.ec<us.length)(hn:(sm.lm.map Prod.fst).Nodup)(hl:wT us sm.lm)(zU:sm.lm.length<1000000)(x:Int):
  ∃s' c',fn (n+2) (j+3) (.fn 182) [.ptr K 0,.int .i64 x] s c = .ok (.ret (.tup [])) s' c'∧Af K s c s' c'∧RSt C K ⟨sm.ec,sm.lk,mkL us sm.lm x (J us C.pc sm.ec)⟩ s':=by
 obtain⟨q,hq,hs⟩:=hK;obtain⟨j1,j2⟩:=h.j hpc Hb;have hJ:∀c,fn (n+2) (j+2) (.fn 180) [.ptr K 0,.int .i64 (C.pc:Nat),.int .i64 (sm.ec:Nat)] s c = .ok (.ret (.int .i64 (J us C.pc sm.ec:Nat))) s c:=fun c=>f180 (n+1) j h hq hpc Hb
 obtain⟨r,h71,hr⟩:=c71 n h.d h.e h.u (by have:=h.l;have:=h.h8;omega) hs (by rw[(gL sm.lm).length_eq];exact zU) (x:=x) j2 (fun p hp=>hl p ((gL sm.lm).mem_iff.1 hp))
 rw[put_mk h hn hl x j2]at hr;rw[iG (A:=A182) rfl rfl rfl rfl (n+2) (j+2) _ s c rfl,show A182.body=B182.b from rfl]
 simp only[B182,cI];have Hs:=hq;unfold RC.blk at Hs;simp only[z0,seval,Hs,dR,cN,AOp.kd,zop,tks,bP,dL,dC,dP,fH,aO,aX,hJ,h.d.nag,h.e.nag,hs.nag,aF 71,aJ,h.d.fz,h.e.fz,hs.fz,h71,hr.nag,hY hr.nag,A182];refine⟨_,_,rfl,((Af.refl zX).set (.inr rfl) Al _).up (by omega),r,?_,hr⟩
 rw[aU,aS rfl];rfl
end
structure MS where
 kd:Int
 rk:Int
 k:Int
 n:Int
 f:Bool
 s:Bool
def msS(K:List (Int×Int))(m:MS)(i:Nat)(c:UInt8):MS:=
 if i / 2=K.length then
  (if c=105 then { m with kd:=1 } else if c=107 then { m with kd:=m.k } else if c=110 then { m with rk:=m.n } else { m with rk:=(c.toNat:Int)-48 })
 else
  let p:=K.getD (i / 2) (0,0)
  if c=105 then { m with f:=m.f&&decide (p.1=1) }
  else if c=107 then { m with f:=m.f&&((decide (p.1=1)||decide (p.1=2))&&(decide (m.k=0)||decide (m.k=p.1))),k:=p.1 }
  else if c=110 then { m with s:=m.s&&(decide (0≤p.2)&&(decide (p.2≤2)&&(decide (m.n<0)||decide (m.n=p.2)))),n:=p.2 }
  else { m with s:=m.s&&decide (p.2=(c.toNat:Int)-48) }
def msR(K:List (Int×Int)):List UInt8→Nat→MS→MS
 | [],_,m=>m
 | c::r,i,m=>msR K r (i+1) (msS K m i c)
def mtL(K:List (Int×Int))(s:List UInt8):Int×Int×Bool×Bool:=let m:=msR K s 0 ⟨0,0,0,-1,true,true⟩;(m.kd,m.rk,m.f,m.s)
def scF(m:List UInt8→Int×Int×Bool×Bool):List (List UInt8)→Int→Int×Int×Int
 | [],e=>(0,0,e)
 | s::r,e=>if(m s).2.2.1=true then(if(m s).2.2.2=true then((m s).1,(m s).2.1,0) else scF m r 22) else scF m r e
def lnD(x:Option (D×Bool)):List (List UInt8):=match x with
 | some (.tup [.agg [_,.sl _ _ cs,_,_,_],_],_)=>cs.map fun d=>match d with | .str s=>s|_=>[]
 | _=>[]
theorem ln_go:∀L:List (List UInt8),((L.map fM).flatten.map fun d=>match d with | .str s=>s|_=>([]:List UInt8))=L
 | []=>rfl
 | a::L=>congrArg (a :: ·) (ln_go L)
theorem lnD_eq{i:Nat}{l:List D}{L:List (List UInt8)}(h:PrD i l L)(d:D)(fl:Bool):lnD (some (.tup [.agg l,d],fl))=L:=by
 obtain⟨nm,q,er,f1,f2,rfl,hq,_⟩:=h.ex;obtain⟨_,⟨rfl,h0⟩|⟨ex,rfl⟩⟩:=hq
 all_goals grind [List.map_eq_nil_iff,lnD,ln_go]
def lnI:List (List Nat):=[[0],[0],[0],[1],[2],[3,4],[4],[5],[6,7],[6,7],[6,7],[8,9],[10,11],[10]]++List.replicate 8 [0,1,2]++List.replicate 2 [3,4,5]++List.replicate 8 [0,1,2]++[[6],[6],[7],[8],[9,10],[11,12],[13],[14]]
def lnT(i:Nat):List (List UInt8):=(lnI.getD i []).map fun k=>(if i<14 then l1 else l2).getD k []
theorem x213(n:Nat):((List.range 40).all fun i=>decide (lnD (cl (n+3) 213 [.int .i64 ((i+1:Nat):Int)])=lnT i))=true:=by kernel_rfl
def eqM(x:Option (D×Bool))(m:Int×Int×Bool×Bool):Bool:=match x with
 | some (.tup [.int .i64 k,.int .i64 r,.bool a,.bool b],true)=>decide (k=m.1)&&(decide (r=m.2.1)&&(decide (a=m.2.2.1)&&decide (b=m.2.2.2)))
 | _=>false
theorem x215(n:Nat):(l1.all fun s=>kr.all fun p=>eqM (cl (n+1) 215 [.str s,.sl false 1 [.int .i64 p.1],.sl false 1 [.int .i64 p.2]]) (mtL [p] s))=true:=by kernel_rfl
def xB(n:Nat)(s:List UInt8):Bool:=kr.all fun p=>kr.all fun q=>eqM (cl (n+1) 215 [.str s,.sl false 2 [.int .i64 p.1,.int .i64 q.1],.sl false 2 [.int .i64 p.2,.int .i64 q.2]]) (mtL [p,q] s)
theorem xB0(n:Nat):(l2.take 5).all (xB n)=true:=by kernel_rfl
theorem xB1(n:Nat):((l2.drop 5).take 5).all (xB n)=true:=by kernel_rfl
theorem xB2(n:Nat):(l2.drop 10).all (xB n)=true:=by kernel_rfl
def eqF(x:Option (D×Bool))(f:Int×Int×Int):Bool:=match x with
 | some (.tup [.int .i64 a,.int .i64 b,.int .i64 c],true)=>decide (a=f.1)&&(decide (b=f.2.1)&&decide (c=f.2.2))
 | _=>false
def rP(i:Nat)(K:List (Int×Int)):Int×Int×Int:=scF (mtL K) (lnT i) 21
theorem x235(n:Nat):((List.range 14).all fun i=>kr.all fun p=>eqF (cl (n+4) 235 [.int .i64 ((i+1:Nat):Int),.sl false 1 [.int .i64 p.1],.sl false 1 [.int .i64 p.2]]) (rP i [p]))=true:=by kernel_rfl
def xF(n i:Nat):Bool:=kr.all fun p=>kr.all fun q=>eqF (cl (n+4) 235 [.int .i64 ((i+1:Nat):Int),.sl false 2 [.int .i64 p.1,.int .i64 q.1],.sl false 2 [.int .i64 p.2,.int .i64 q.2]]) (rP i [p,q])
theorem xF0(n:Nat):((List.range 26).take 7).all (fun k=>xF n (k+14))=true:=by kernel_rfl
theorem xF1(n:Nat):(((List.range 26).drop 7).take 7).all (fun k=>xF n (k+14))=true:=by kernel_rfl
theorem xF2(n:Nat):(((List.range 26).drop 14).take 6).all (fun k=>xF n (k+14))=true:=by kernel_rfl
theorem xF3(n:Nat):((List.range 26).drop 20).all (fun k=>xF n (k+14))=true:=by kernel_rfl
theorem iH{α:Type}{l:List α}{f:α→Bool}(h:l.all f=true){x:α}(hx:x∈l):f x=true:=by grind
theorem uF{α:Type}{l:List α}{k:Nat}{x:α}(h:x∈l):x∈l.take k∨x∈l.drop k:=by grind [List.take_append_drop]
theorem eqM_ex{x:Option (D×Bool)}{m:Int×Int×Bool×Bool}(h:eqM x m=true):x=some (.tup [.int .i64 m.1,.int .i64 m.2.1,.bool m.2.2.1,.bool m.2.2.2],true):=by
 unfold eqM at h
 grind
theorem eqF_ex{x:Option (D×Bool)}{m:Int×Int×Int}(h:eqF x m=true):x=some (.tup [.int .i64 m.1,.int .i64 m.2.1,.int .i64 m.2.2],true):=by
 unfold eqF at h
 grind
theorem K_cases{i:Nat}{K:List (Int×Int)}(hl:K.length=arN i)(hK:∀p∈K,KR p.1 p.2):(i<14∧∃p,p∈kr∧K=[p])∨(¬i<14∧∃p q,p∈kr∧q∈kr∧K=[p,q]):=by
 unfold arN at hl;by_cases hi:i<14
 ·rw[aS hi]at hl
  match K,hl with
  | [p],_=>grind [kr_mem]
 ·rw[aG hi]at hl
  match K,hl with
  | [p,q],_=>grind [kr_mem]
theorem c215x(n:Nat){i:Nat}{s:List UInt8}(hs:s∈(if i<14 then l1 else l2)){K:List (Int×Int)}(hl:K.length=arN i)(hK:∀p∈K,KR p.1 p.2):cl (n+1) 215 [.str s,kD K,rD K]=some (.tup [.int .i64 (mtL K s).1,.int .i64 (mtL K s).2.1,.bool (mtL K s).2.2.1,.bool (mtL K s).2.2.2],true):=by
 rcases K_cases hl hK with⟨hi,p,hp,rfl⟩|⟨hi,p,q,hp,hq,rfl⟩
 ·rw[aS hi]at hs;exact eqM_ex (iH (iH (x215 n) hs) hp)
 ·rw[aG hi]at hs;have h:xB n s=true:=by
   rcases uF (k:=5) hs with h|h
   ·exact iH (xB0 n) h
   ·grind [uF,iH,xB1,List.drop_drop,xB2]
  exact eqM_ex (iH (iH h hp) hq)
theorem x235K(n:Nat){i:Nat}(hi:i<40){K:List (Int×Int)}(hl:K.length=arN i)(hK:∀p∈K,KR p.1 p.2):cl (n+4) 235 [.int .i64 ((i+1:Nat):Int),kD K,rD K]=some (.tup [.int .i64 (rP i K).1,.int .i64 (rP i K).2.1,.int .i64 (rP i K).2.2],true):=by
 rcases K_cases hl hK with⟨Aq,p,hp,rfl⟩|⟨Aq,p,q,hp,hq,rfl⟩
 ·exact eqF_ex (iH (iH (x235 n) (List.mem_range.2 Aq)) hp)
 ·obtain⟨k,rfl⟩:∃k,i=k+14:=⟨i-14,by omega⟩
  have hk:k∈List.range 26:=List.mem_range.2 (by omega)
  have h:xF n (k+14)=true:=by
   rcases uF (k:=7) hk with h|h
   ·exact iH (xF0 n) h
   ·rcases uF (k:=7) h with h|h
    ·exact iH (xF1 n) h
    ·rw[List.drop_drop]at h;rcases uF (k:=6) h with h|h
     ·exact iH (xF2 n) h
     ·rw[List.drop_drop]at h;exact iH (xF3 n) h
  exact eqF_ex (iH (iH h hp) hq)
def nG(p:Int)(K:List (Int×Int)):Int×Int×Int:=if p<1∨40<p then(0,0,2) else if K.length=arN (p.toNat-1) then rP (p.toNat-1) K else(0,0,23)
def fitD(p:Int)(K:List (Int×Int)):D:=.tup [.int .i64 (nG p K).1,.int .i64 (nG p K).2.1,.int .i64 (nG p K).2.2]
theorem c235x(n:Nat)(p:Int){K:List (Int×Int)}(hl:K.length<1000)(hK:∀p∈K,KR p.1 p.2):cl (n+4) 235 [.int .i64 p,kD K,rD K]=some (fitD p K,true):=by
 have Ng:=c147 (n+3) p;unfold fitD nG;by_cases hp:p<1∨40<p
 ·rw[aS hp];rw[nY 235 A235 B235,B235];unfold arD at Ng;rw[aS hp]at Ng;simp only[z0,seval,aF 147,aJ,Ng,e2,nb,(kD_nag K).1,(kD_nag K).2,show decide ((2:Int)≠0)=true from rfl,A235]
  rfl
 ·rw[aG hp];obtain⟨i,hi,rfl⟩:∃i:Nat,i<40∧p=((i+1:Nat):Int):=⟨(p-1).toNat,by omega,by omega⟩
  rw[cQ,Nat.add_sub_cancel];by_cases hm:K.length=arN i
  ·grind [x235K]
  ·rw[aG hm];rw[nY 235 A235 B235,B235];have hA:arD ((i+1:Nat):Int)=e2 (arN i:Nat) 0:=by
    unfold arD arN;rw[aG hp];split<;>split<;>first|rfl|omega
   rw[hA]at Ng;simp only[z0,seval,aF 147,aJ,Ng,e2,nb,(kD_nag K).1,(kD_nag K).2,(pZ K).1,(pZ K).2,aE (show ¬((K.length:Int)=(arN i:Nat)) from fun h=>hm (Int.ofNat_inj.1 h)),A235]
   rfl
theorem c166x(n:Nat)(p:Int){K:List (Int×Int)}(hl:K.length<1000)(hK:∀p∈K,KR p.1 p.2):cl (n+4) 166 [.int .i64 p,kD K,rD K]=some (fitD p K,true):=by
 rw[nY 166 wV B166];unfold fitD nG;simp only[B166,cI];by_cases hp:p<1∨40<p
 ·rw[aS hp];simp only[z0,seval,aF 213,aJ,c213e (n+3) hp,D.pures,D.pure,nb,wV];rfl
 rw[aG hp];obtain⟨i,hi,rfl⟩:∃i:Nat,i<40∧p=((i+1:Nat):Int):=⟨(p-1).toNat,by omega,by omega⟩
 rw[cQ,Nat.add_sub_cancel];obtain⟨l,L,fl,h213,hP⟩:=c213 n hi;have hL:L=lnT i:=by
  have:=iH (x213 n) (List.mem_range.2 hi);rw[bZ,h213,lnD_eq hP]at this;exact this
 have Na:=c214 (n+3) hP;obtain⟨nm,q,er,f1,f2,rfl,hq,g1,g2,g3⟩:=hP.ex;have Xp:=uV g1;have Tf:=uV g2;have Xo:=uV g3;have zQ:=hP.lt;by_cases hm:K.length=arN i
 ·rw[aS hm];simp only[z0,seval,aF 213,aJ,h213,D.pures,D.pure,Bool.or_true,nb,aF 214,Na,hq.nag,iL g1,iL g2,iL g3,hq.fz,Xp,Tf,Xo,(pZ K).1,(pZ K).2,hm,hq.len];generalize hz:zloop KK _ _=rl
  refine zrange rl hz L.length (dY (by omega)) (by omega) (fun j t s c=>tget t 37=q∧tget t 1=kD K∧tget t 2=rD K∧∃v:Int,tget t 8 = .int .i64 v∧scF (mtL K) (L.drop j) v=rP i K) (by decide) (by simp[aA]) (by simp[aA]) (by simp[aA];grind [rP]) ?_ ?_
  ·rintro j t s c hj ⟨Dk,q1,q2,v,q8,hv⟩ Ag Ah;have Gv:=c215x (n+2) (hP.mem _ (bQ hj)) hm hK;rw[List.drop_eq_getElem_cons hj,scF]at hv;cases ha:(mtL K L[j]).2.2.1
   ·rw[ha,aG (by decide)]at hv
    rw[ha]at Gv;simp only[z0,seval,Dk,q1,q2,q8,Ag,Ah,hq.ia1 hj,hq.at1 hj,fM,aF 215,aJ,(rZ K 19 s).1,(rZ K 19 s).2,Gv,wV]
    grind
   ·rw[ha,aS rfl]at hv;cases hb:(mtL K L[j]).2.2.2
    ·rw[hb,aG (by decide)]at hv
     rw[ha,hb]at Gv;simp only[z0,seval,Dk,q1,q2,q8,Ag,Ah,hq.ia1 hj,hq.at1 hj,fM,aF 215,aJ,(rZ K 19 s).1,(rZ K 19 s).2,Gv,wV]
     grind
    ·rw[hb,aS rfl]at hv;rw[ha,hb]at Gv;simp only[z0,seval,Dk,q1,q2,q8,Ag,Ah,hq.ia1 hj,hq.at1 hj,fM,aF 215,aJ,(rZ K 19 s).1,(rZ K 19 s).2,Gv,←hv,wV];rfl
  ·rintro t s c ⟨Dk,q1,q2,v,q8,hv⟩ Ag Ah;rw[List.drop_length,scF]at hv;simp only[z0,seval,q8,←hv,wV];rfl
 ·rw[aG hm];simp only[z0,seval,aF 213,aJ,h213,D.pures,D.pure,Bool.or_true,nb,aF 214,Na,hq.nag,iL g1,iL g2,iL g3,hq.fz,Xp,Tf,Xo,(pZ K).1,(pZ K).2,hq.len,aE (show ¬((K.length:Int)=(arN i:Nat)) from fun h=>hm (Int.ofNat_inj.1 h)),wV]
  rfl
def NotLong(l:List Nd):Prop:=l.length≤405∧(l.length≤400→∀x∈l,x.name.length≤500∧x.text.length≤500)
theorem c11(n:Nat){l:List Nd}{d:D}(hd:Sl 7 bK l d):∃b,cl n 11 [d]=some (.bool b,true)∧(b=false→NotLong l):=by
 rw[iP 11 A11 B11,B11];simp only[z2,seval];generalize hz:zloop KK _ _=rl;have hN:min l.length 80≤80:=Nat.min_le_right _ _;refine zfor rl hz (min l.length 80) (dY (by omega)) (by omega) (fun i t s c=>tget t 0=d∧∀j,j<i→∀h:j<l.length,l[j].name.length≤500∧l[j].text.length≤500) (by simp[aA]) ⟨by simp[aA],nofun⟩ ?_
 rintro i t s c hi ⟨q0,hn⟩ q3;by_cases zQ:i<l.length
 ·by_cases Yy:i<80
  ·have k1:decide ((i:Int)<80)=true:=dT (by omega)
   have g3:=hd.cell zQ (show 3<7 by omega)
   have g4:=hd.cell zQ (show 4<7 by omega)
   by_cases e1:500<l[i].name.length
   ·have k2:decide ((500:Int)<(l[i].name.length:Nat))=true:=dT (by omega)
    simp only[z2,seval,q0,q3,hd.len,dH zQ,k1,hd.ia zQ,g3,g4,bK,k2,nb,A11];exact⟨true,rfl,nofun⟩
   ·have k2:decide ((500:Int)<(l[i].name.length:Nat))=false:=dF (by omega)
    by_cases e2:500<l[i].text.length
    ·have k3:decide ((500:Int)<(l[i].text.length:Nat))=true:=dT (by omega)
     simp only[z2,seval,q0,q3,hd.len,dH zQ,k1,hd.ia zQ,g3,g4,bK,k2,k3,nb,A11];exact⟨true,rfl,nofun⟩
    ·have k3:decide ((500:Int)<(l[i].text.length:Nat))=false:=dF (by omega)
     simp only[z2,seval,q0,q3,hd.len,dH zQ,k1,hd.ia zQ,g3,g4,bK,k2,k3,nb];refine⟨by omega,trivial,trivial,trivial,trivial,fun j hj h=>?_⟩
     rcases iI.1 hj with h'|rfl
     ·exact hn j h' h
     ·exact⟨by omega,by omega⟩
  ·have k1:decide ((i:Int)<80)=false:=dF (by omega)
   have Tn:decide ((60:Int)<(l.length:Nat))=true:=dT (by omega)
   by_cases e4:l.length≤400
   ·have k4:decide (((l.length:Nat):Int)≤400)=true:=dT (by omega)
    simp only[z2,seval,q0,q3,hd.len,dH zQ,k1,Tn,k4,nb,A11];exact⟨true,rfl,nofun⟩
   ·have k4:decide (((l.length:Nat):Int)≤400)=false:=dF (by omega)
    simp only[z2,seval,q0,q3,hd.len,dH zQ,k1,Tn,k4,nb,A11];exact⟨decide ((405:Int)<(l.length:Nat)),rfl,fun h=>⟨by rw[cD]at h;omega,fun h'=>absurd h' e4⟩⟩
 ·have e1:i=l.length:=by omega
  subst e1;have h60:l.length≤80:=by omega
  have Aa:∀x∈l,x.name.length≤500∧x.text.length≤500:=fun x hx=>by
   obtain⟨j,hj,rfl⟩:=eV hx;exact hn j hj hj
  have k4:decide (((l.length:Nat):Int)≤400)=true:=dT (by omega)
  have k5:decide ((405:Int)<(l.length:Nat))=false:=dF (by omega)
  by_cases e:60<l.length
  ·have Tn:decide ((60:Int)<(l.length:Nat))=true:=dT (by omega)
   simp only[z2,seval,q0,q3,hd.len,gG (aK l.length),Tn,k4,k5,nb,A11];exact⟨true,rfl,nofun⟩
  ·have Tn:decide ((60:Int)<(l.length:Nat))=false:=dF (by omega)
   simp only[z2,seval,q0,q3,hd.len,gG (aK l.length),Tn,k4,k5,nb,A11];exact⟨false,rfl,fun _=>⟨by omega,fun _=>Aa⟩⟩
end
end Zv
namespace Zv
open Go Ab
noncomputable section
def H13:AC:=s Lk1.b (s Lk2.b (s Lk3.b (s Lk4.b (s Lk5.b (s Lk6.b (s Lk7.b (s Lk8.b (s Lk9.b Lk10.b))))))))
def T13:AC:=s Lk11.b (s Lk12.b (s Lk13.b (s Lk14.b .ret)))
theorem zq_bind(K:AS→Prop)(Q:R→Prop)(r:R)(f:AS→R):zq (fun y=>zq K Q (f y)) Q r↔zq K Q (zbind r f):=by
 cases r with
 | no=>exact Iff.rfl
 | ok o x=>cases o<;>exact Iff.rfl
theorem W_h13{cx:Cx}{cl:CL}{k:Nat}{x:AS}{Q:R→Prop}(h:zq (fun y=>oA (bC cx cl k T13 y) Q) Q (zC H13 cx cl k x)):oA (bC cx cl k B13 x) Q:=by
 rw[B13];simp only[Ab.abq];simp only[H13,Ab.abq]at h;rw[xA]at h;rw[W_seq1 (by rfl) (by rfl)]
 simp only[xA]at h;rw[←zq_bind]at h;have step:∀{r:R} {K K':AS→Prop},(∀y,K y→K' y)→zq K Q r→zq K' Q r:=fun {r} {K} {K'} hk hq=>by
  cases r with
  | no=>exact hq
  | ok o x=>cases o<;>first|exact hk _ hq|exact hq
 refine step (fun y hy=>?_) h
 iterate 8
  rw[W_seq1 (by rfl) (by rfl)]
  rw[←zq_bind]at hy;refine step (fun y hy=>?_) hy
 rw[W_seq1 (by rfl) (by rfl)]
 exact hy
def D13:List (D×List D):=[(.fn (.func 40) [] [],[.ptr 2 0,.ptr 3 0])]
def zl0:List D:=[.int .i64 0,.int .i64 0,.int .i64 0,.int .i64 0,.int .i64 0,.int .i64 0,.nils,.int .i64 0]
structure LF (t:Tm) (s:St) (c:Nat):Prop where
 t8:tget t 8 = .ptr 1 0
 t9:tget t 9 = .ptr 2 0
 t10:tget t 10 = .ptr 3 0
 s1:sget s 1=some (.fix 40 zl0)
 s2:sget s 2=some (.fix 4 [.int .i64 0])
 s3:∃z:Int,sget s 3=some (.fix 41 [.int .i64 z])
 fr:kA s c
 le:4≤c
def zL(n:Nat)(p:D)(r:R):Prop:=pout (zbody (dfn n MM) A13 r)=some (p,true)
theorem vC(n:Nat)(a e:Int){t:Tm}{s:St}{c:Nat}(h:LF t s c):zL n (.tup [.agg zl0,.int .i64 a,.int .i64 e]) (.ok (.pan (jL a e)) ⟨t,s,c,D13,none⟩):=by
 obtain⟨z,s3⟩:=h.s3;have Ac:=h.le;obtain⟨s',c',h1,e3,e2,ho⟩:=caughtS n 4095 a e z 0 s3 h.s2 h.fr (by decide) (by omega)
 have h1:dfn n MM 40 [.ptr 2 0,.ptr 3 0] (some (jL a e)) s c=_:=h1;have e1:sget s' 1=some (.fix 40 zl0):=by rw[ho 1 (by omega) (by decide) (by decide),h.s1]
 have:zbody (dfn n MM) A13 (.ok (.pan (jL a e)) ⟨t,s,c,D13,none⟩) = .ok (.ret (.tup [.agg zl0,.int .i64 a,.int .i64 e])) s' c':=by
  show pU (dfn n MM) A13 (some (jL a e)) ⟨t,s,c,D13,none⟩=_;unfold pU D13;unfold zl0 at *;simp only[zDs,cK,dG,h1,settle];simp only[z0,seval,A13,h.t8,h.t9,h.t10,e1,e2,e3]
 unfold zL;rw[this];rfl
section
variable (n:Nat) {ss:List (List UInt8)} {us:List Nat} {d e v f dx:D} {vs:List Vr} {fs:List Fd} (pc ec:Int)
theorem h13_env(hd:eG d=false∧∀k s,frz false (k+1) s d=some d)(he:eG e=false∧∀k s,frz false (k+1) s e=some e)(hv:eG v=false∧∀k s,frz false (k+1) s v=some v)(hf:eG f=false∧∀k s,frz false (k+1) s f=some f){er:Int}(Bq:cl n 22 [.agg [d,e,v,f]]=some (.int .i64 er,true))(h0:er≠0):
  ∃t s c,zC H13 (cxn (n+1)) (fn (n+1) 4096) KK (start [.agg [d,e,v,f],.int .i64 pc,.int .i64 ec,dx] st0 0) = .ok (.pan (jL 0 er)) ⟨t,s,c,D13,none⟩∧LF t s c:=by
 simp only[H13,Ab.abq];simp only[Lk1,Lk2,Lk3,cI];simp only[z0,seval,hd.1,he.1,hv.1,hf.1,hd.2,he.2,hv.2,hf.2,aF 22,aJ,jB,Bq,fS,aG h0];refine⟨_,_,_,rfl,?_,?_,?_,?_,?_,⟨0,?_⟩,?_,by decide⟩
 ·simp[aA]
 ·simp[aA]
 ·simp[aA]
 ·simp[aA];rfl
 ·simp[aA]
 ·simp[aA]
 ·intro m hm
  grind [aZ,dX]
theorem h13_rng(h:Lt ss us d e)(hE:mZ vs fs v f)(Bq:cl n 22 [.agg [d,e,v,f]]=some (.int .i64 0,true))(hr:¬((0≤pc∧pc<us.length)∧0≤ec∧ec<us.length)):
  ∃t s c,zC H13 (cxn (n+1)) (fn (n+1) 4096) KK (start [.agg [d,e,v,f],.int .i64 pc,.int .i64 ec,dx] st0 0) = .ok (.pan (jL 0 7)) ⟨t,s,c,D13,none⟩∧LF t s c:=by
 have ld:=h.d.len;rw[←h.l]at ld;have i0:iJ 1 (.ms 4 0 1 2 2) (.int .i64 0)=some (.ptr 4 0):=rfl;have i1:iJ 1 (.ms 4 0 1 2 2) (.int .i64 1)=some (.ptr 4 1):=rfl;have l2:lenD false (.ms 4 0 1 2 2)=some 2:=rfl;have z7:((7:Int)=0)=False:=aL (by decide)
 have w1:bX .i64 (0+1)=1:=rfl;have Bm:∀(t:Tm) (s:St) (c:Nat),tget t 8 = .ptr 1 0→tget t 9 = .ptr 2 0→tget t 10 = .ptr 3 0→s=sadd (sadd (sadd (sadd (sadd st0 0 (.fix 30 [d,e,v,f])) 1 (.fix 40 zl0)) 2 (.fix 4 [.int .i64 0])) 3 (.fix 41 [.int .i64 0])) 4 (.fix 0 [.int .i64 pc,.int .i64 ec])→5≤c→LF t s c:=fun t s c h1 h2 h3 hs hc=>by
  subst hs;refine⟨h1,h2,h3,?_,?_,⟨0,?_⟩,?_,by omega⟩
  ·simp[aA]
  ·simp[aA]
  ·simp[aA]
  ·intro m hm
   grind [aZ,dX]
 simp only[H13,Ab.abq];simp only[Lk1,Lk2,Lk3,Lk4,cI];by_cases p1:pc<0
 ·simp only[z0,↓reduceIte,Nat.reduceEqDiff,Nat.reduceAdd,Nat.reduceLeDiff,reduceCtorEq,h.d.nag,h.e.nag,hE.v.nag,hE.f.nag,h.d.fz,h.e.fz,hE.v.fz,hE.f.fz,aF 22,aJ,jB,Bq,fS,l2,show((2:Nat):Int)=2 from rfl,show decide ((0:Int)<2)=true from rfl,show decide ((1:Int)<2)=true from rfl,show decide ((2:Int)<2)=false from rfl,zun,i0,i1,aH p1,z7]
  refine⟨_,_,_,rfl,Bm _ _ _ ?_ ?_ ?_ rfl (by decide)⟩<;>simp[aA]
 by_cases p2:((us.length:Nat):Int)≤pc
 ·simp only[z0,↓reduceIte,Nat.reduceEqDiff,Nat.reduceAdd,Nat.reduceLeDiff,reduceCtorEq,h.d.nag,h.e.nag,hE.v.nag,hE.f.nag,h.d.fz,h.e.fz,hE.v.fz,hE.f.fz,aF 22,aJ,jB,Bq,fS,l2,show((2:Nat):Int)=2 from rfl,show decide ((0:Int)<2)=true from rfl,show decide ((1:Int)<2)=true from rfl,show decide ((2:Int)<2)=false from rfl,zun,i0,i1,aE p1,ld,aH p2,z7,Int.reduceLT,aQ]
  refine⟨_,_,_,rfl,Bm _ _ _ ?_ ?_ ?_ rfl (by decide)⟩<;>simp[aA]
 by_cases p3:ec<0
 ·simp only[z0,↓reduceIte,Nat.reduceEqDiff,Nat.reduceAdd,Nat.reduceLeDiff,reduceCtorEq,h.d.nag,h.e.nag,hE.v.nag,hE.f.nag,h.d.fz,h.e.fz,hE.v.fz,hE.f.fz,aF 22,aJ,jB,Bq,fS,l2,show((2:Nat):Int)=2 from rfl,show decide ((0:Int)<2)=true from rfl,show decide ((1:Int)<2)=true from rfl,show decide ((2:Int)<2)=false from rfl,zun,i0,i1,aE p1,ld,aE p2,aH p3,z7,w1,Int.reduceLT,aQ]
  refine⟨_,_,_,rfl,Bm _ _ _ ?_ ?_ ?_ rfl (by decide)⟩<;>simp[aA]
 have p4:((us.length:Nat):Int)≤ec:=by omega
 simp only[z0,↓reduceIte,Nat.reduceEqDiff,Nat.reduceAdd,Nat.reduceLeDiff,reduceCtorEq,h.d.nag,h.e.nag,hE.v.nag,hE.f.nag,h.d.fz,h.e.fz,hE.v.fz,hE.f.fz,aF 22,aJ,jB,Bq,fS,l2,show((2:Nat):Int)=2 from rfl,show decide ((0:Int)<2)=true from rfl,show decide ((1:Int)<2)=true from rfl,show decide ((2:Int)<2)=false from rfl,zun,i0,i1,aE p1,ld,aE p2,aE p3,aH p4,z7,w1,Int.reduceLT,aQ]
 refine⟨_,_,_,rfl,Bm _ _ _ ?_ ?_ ?_ rfl (by decide)⟩<;>simp[aA]
end
end
end Zv
namespace Zv
open Go
noncomputable section
section
variable (n:Nat) {ss:List (List UInt8)} {us:List Nat} {d e v f dx:D} {vs:List Vr} {fs:List Fd} {x:List Nd} (pc ec:Nat)
theorem h13_exp(h:Lt ss us d e)(hE:mZ vs fs v f)(Bq:cl n 22 [.agg [d,e,v,f]]=some (.int .i64 0,true))(hp:pc<us.length)(he:ec<us.length)(hx:Sl 7 bK x dx){a y:Int}(Hw:cl n 42 [dx]=some (e2 a y,true))(h0:y≠0):
  ∃t s c,zC H13 (cxn (n+1)) (fn (n+1) 4096) KK (start [.agg [d,e,v,f],.int .i64 (pc:Nat),.int .i64 (ec:Nat),dx] st0 0) = .ok (.pan (jL 0 y)) ⟨t,s,c,D13,none⟩∧LF t s c:=by
 have ld:=h.d.len;rw[←h.l]at ld;have i0:iJ 1 (.ms 4 0 1 2 2) (.int .i64 0)=some (.ptr 4 0):=rfl;have i1:iJ 1 (.ms 4 0 1 2 2) (.int .i64 1)=some (.ptr 4 1):=rfl;have l2:lenD false (.ms 4 0 1 2 2)=some 2:=rfl;have w1:bX .i64 (0+1)=1:=rfl;have w2:bX .i64 (1+1)=2:=rfl;have p1:decide (((pc:Nat):Int)<0)=false:=aE (by omega)
 have p2:decide (((us.length:Nat):Int)≤(pc:Nat))=false:=aE (by omega)
 have p3:decide (((ec:Nat):Int)<0)=false:=aE (by omega)
 have p4:decide (((us.length:Nat):Int)≤(ec:Nat))=false:=aE (by omega)
 simp only[H13,Ab.abq];simp only[Lk1,Lk2,Lk3,Lk4,Lk5,Lk6,cI];unfold e2 at Hw
 simp only[z0,↓reduceIte,Nat.reduceEqDiff,Nat.reduceAdd,Nat.reduceLeDiff,reduceCtorEq,h.d.nag,h.e.nag,hE.v.nag,hE.f.nag,h.d.fz,h.e.fz,hE.v.fz,hE.f.fz,hx.fz,aF 22,aF 42,aJ,jB,Bq,Hw,fS,l2,show((2:Nat):Int)=2 from rfl,show decide ((0:Int)<2)=true from rfl,show decide ((1:Int)<2)=true from rfl,show decide ((2:Int)<2)=false from rfl,zun,i0,i1,p1,p2,p3,p4,ld,w1,w2,aG h0]
 refine⟨_,_,_,rfl,?_,?_,?_,?_,?_,⟨y,?_⟩,?_,?_⟩
 ·simp[aA]
 ·simp[aA]
 ·simp[aA]
 ·simp[aA];rfl
 ·simp[aA]
 ·simp[aA]
 ·intro m hm
  grind [aU,aZ,dX]
 ·decide
def S44(d e v f:D)(low pc ec:Nat):St:=sadd (sadd (sset (sset (sadd (sadd (sadd (sadd (sadd st0 0 (.fix 30 [d,e,v,f])) 1 (.fix 40 [.int .i64 0,.int .i64 0,.int .i64 0,.int .i64 0,.int .i64 0,.int .i64 0,.nils,.int .i64 0])) 2 (.fix 4 [.int .i64 0])) 3 (.fix 41 [.int .i64 0])) 4 (.fix 0 [.int .i64 (pc:Nat),.int .i64 (ec:Nat)])) 3 (.fix 41 [.int .i64 0])) 3 (.fix 41 [.int .i64 0])) 5 (.mp [] 0)) 6 (.fix 96 [d,e,.int .i64 1,.int .i64 0,.int .i64 (low:Nat),.int .i64 (low:Nat),.int .i64 (low:Nat),.int .i64 (pc:Nat),.int .i64 (ec:Nat),.int .i64 0,.mp 5,v,f,.nils])
theorem S44_get(d e v f:D)(low pc ec:Nat):sget (S44 d e v f low pc ec) 1=some (.fix 40 zl0)∧sget (S44 d e v f low pc ec) 2=some (.fix 4 [.int .i64 0])∧sget (S44 d e v f low pc ec) 3=some (.fix 41 [.int .i64 0])∧sget (S44 d e v f low pc ec) 5=some (.mp [] 0)∧sget (S44 d e v f low pc ec) 6=some (LkC.blk ⟨d,e,low,pc,5,v,f⟩ ⟨ec,0,[]⟩ .nils)∧kA (S44 d e v f low pc ec) 7:=by
 unfold S44;refine⟨?_,?_,?_,?_,?_,fun m hm=>?_⟩
 ·simp[aA];rfl
 ·simp[aA]
 ·simp[aA]
 ·simp[aA]
 ·simp[aA];rfl
 ·simp only[aU,aZ]
  grind [dX]
structure LG (C:LkC) (p:Tl×Lk) (t:Tm) (s:St) (c:Nat):Prop where
 lf:LF t s c
 t14:tget t 14 = .ptr 6 0
 w:∃W,tget t 15 = .ptr W 0∧sget s W=some (.fix 37 (tlC p.1))∧7≤W∧W<c
 q:∃q,sget s 6=some (C.blk p.2 q)
 m:sget s 5=some (.mp (mpE 0 p.2.lm) p.2.lm.length)
theorem h13_ok(h:Lt ss us d e)(hE:mZ vs fs v f)(Bq:cl n 22 [.agg [d,e,v,f]]=some (.int .i64 0,true))(hp:pc<us.length)(he:ec<us.length)(hx:Sl 7 bK x dx){a:Int}(Hw:cl n 42 [dx]=some (e2 a 0,true)){low:Nat}(Ew:cl n 43 [.agg [d,e]]=some (e2 low 0,true)){r:Lo (Tl×Lk)}
  (Uh:jY ⟨d,e,low,pc,5,v,f⟩ 6 r (fn (n+1) 4096 (.fn 44) [.ptr 6 0,dx] (S44 d e v f low pc ec) 7) (S44 d e v f low pc ec) 7) :
  match r with
  | .bad a b=>∃t s c,zC H13 (cxn (n+1)) (fn (n+1) 4096) KK (start [.agg [d,e,v,f],.int .i64 (pc:Nat),.int .i64 (ec:Nat),dx] st0 0) = .ok (.pan (jL a b)) ⟨t,s,c,D13,none⟩∧LF t s c
  | .ok p=>∃t s c,zC H13 (cxn (n+1)) (fn (n+1) 4096) KK (start [.agg [d,e,v,f],.int .i64 (pc:Nat),.int .i64 (ec:Nat),dx] st0 0) = .ok .normal ⟨t,s,c,D13,none⟩∧LG ⟨d,e,low,pc,5,v,f⟩ p t s c:=by
 have ld:=h.d.len;rw[←h.l]at ld;have i0:iJ 1 (.ms 4 0 1 2 2) (.int .i64 0)=some (.ptr 4 0):=rfl;have i1:iJ 1 (.ms 4 0 1 2 2) (.int .i64 1)=some (.ptr 4 1):=rfl;have l2:lenD false (.ms 4 0 1 2 2)=some 2:=rfl;have w1:bX .i64 (0+1)=1:=rfl;have w2:bX .i64 (1+1)=2:=rfl;have p1:decide (((pc:Nat):Int)<0)=false:=aE (by omega)
 have p2:decide (((us.length:Nat):Int)≤(pc:Nat))=false:=aE (by omega)
 have p3:decide (((ec:Nat):Int)<0)=false:=aE (by omega)
 have p4:decide (((us.length:Nat):Int)≤(ec:Nat))=false:=aE (by omega)
 obtain⟨g1,g2,g3,g5,g6,gf⟩:=S44_get d e v f low pc ec;have hS:S44 d e v f low pc ec=_:=rfl;rw[S44]at hS;simp only[H13,Ab.abq];simp only[Lk1,Lk2,Lk3,Lk4,Lk5,Lk6,Lk7,Lk8,Lk9,Lk10,cI];unfold e2 at Hw Ew;cases r with
 | bad b1 b2=>
  obtain⟨s',c',h6,hB⟩:=Uh;rw[S44]at h6
  simp only[z0,↓reduceIte,Nat.reduceEqDiff,Nat.reduceAdd,Nat.reduceLeDiff,reduceCtorEq,h.d.nag,h.e.nag,hE.v.nag,hE.f.nag,h.d.fz,h.e.fz,hE.v.fz,hE.f.fz,hY h.d.nag,hY h.e.nag,hY hE.v.nag,hY hE.f.nag,show(D.mp 5).cells?=some [.mp 5]from rfl,hx.fz,aF 22,aF 42,aF 43,aJ,jB,Bq,Hw,Ew,fS,l2,show((2:Nat):Int)=2 from rfl,show decide ((0:Int)<2)=true from rfl,show decide ((1:Int)<2)=true from rfl,show decide ((2:Int)<2)=false from rfl,zun,i0,i1,p1,p2,p3,p4,ld,w1,w2,h6]
  refine⟨_,s',c',rfl,?_,?_,?_,by rw[hB.old 1 (by decide) (by decide) (by grind),g1],by rw[hB.old 2 (by decide) (by decide) (by grind),g2],⟨0,by rw[hB.old 3 (by decide) (by decide) (by grind),g3]⟩,hB.fr,by have:=hB.le;omega⟩
  all_goals simp[aA]
 | ok p=>
  obtain⟨s',c',q',h6,hC⟩:=Uh;rw[S44]at h6;have Ac:=hC.le;have e5:(5=c')=False:=aL (by omega)
  unfold tlC tyC tl at h6
  simp only[z0,↓reduceIte,Nat.reduceEqDiff,Nat.reduceAdd,Nat.reduceLeDiff,reduceCtorEq,h.d.nag,h.e.nag,hE.v.nag,hE.f.nag,h.d.fz,h.e.fz,hE.v.fz,hE.f.fz,hY h.d.nag,hY h.e.nag,hY hE.v.nag,hY hE.f.nag,show(D.mp 5).cells?=some [.mp 5]from rfl,hx.fz,aF 22,aF 42,aF 43,aJ,jB,Bq,Hw,Ew,fS,l2,show((2:Nat):Int)=2 from rfl,show decide ((0:Int)<2)=true from rfl,show decide ((1:Int)<2)=true from rfl,show decide ((2:Int)<2)=false from rfl,zun,i0,i1,p1,p2,p3,p4,ld,w1,w2,h6]
  have o:∀(b b':Blk) m,m<7→sget (sset (sadd s' c' b) c' b') m=sget s' m:=fun b b' m hm=>by grind [aU,aZ]
  refine⟨_,_,_,rfl,⟨?_,?_,?_,by rw[o _ _ 1 (by decide),hC.old 1 (by decide) (by decide) (by grind),g1],by rw[o _ _ 2 (by decide),hC.old 2 (by decide) (by decide) (by grind),g2],⟨0,by rw[o _ _ 3 (by decide),hC.old 3 (by decide) (by decide) (by grind),g3]⟩,fun m hm=>?_,?_⟩,?_,⟨c',?_,?_,Ac,Nat.lt_succ_self _⟩,⟨q',by rw[o _ _ 6 (by decide),hC.hK]⟩,by rw[o _ _ 5 (by decide)];exact hC.hM⟩
  ·simp[aA]
  ·simp[aA]
  ·simp[aA]
  ·have Ei:c'+1≤m:=hm;rw[aU,aG (by omega),aZ,aG (by omega)];exact hC.fr m (by omega)
  ·omega
  ·simp[aA]
  ·simp[aA]
  ·rw[aU,aS rfl];rfl
end
end
end Zv
