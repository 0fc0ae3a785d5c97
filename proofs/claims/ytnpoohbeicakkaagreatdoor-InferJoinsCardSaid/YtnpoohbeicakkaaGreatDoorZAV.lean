/- looker.all. Conditions: none. -/
import Derived.Test.YtnpoohbeicakkaaGreatDoorZAU
set_option linter.unusedVariables false
set_option linter.unusedSimpArgs false
set_option maxRecDepth 100000
namespace Zv
open Go Ab
noncomputable section
theorem nd_ok{l:List Nd}(h:rM l){i:Nat}(hi:i<l.length):oR l[i]∧1≤l[i].kind∧l[i].kind≤6:=by
 refine⟨h.g.nd i hi,?_⟩;have hw:=h.w i hi;rw[jZ,aI hi]at hw;simp only at hw;split at hw
 case isFalse=>cases hw
 rename_i hz;unfold mF at hz;cases h1:decide (l[i].kind<1)||(decide (6<l[i].kind)||surB l[i])
 case true=>rw[h1]at hz;cases hz
 simp only[Bool.or_eq_false_iff,cB]at h1;omega
theorem pS{l:List Nd}(h:rM l):∀x∈gJ l,oR x∧1≤x.kind∧x.kind≤6:=fun x hx=>by
 obtain⟨i,hi,rfl⟩:=fA hx;obtain⟨hk,e⟩:=nodes_get (l:=l) (i:=i) (by rw[←nodes_len];exact hi)
 rw[aI hi]at e;rw[Option.some.inj e];exact nd_ok h hk
def pO(E:LEn)(f:Nat)(fs:List Fd)(i:Nat)(vs:List Vr)(s:Lk):Lo (Tl×Lk):=match fs[i]? with|some g=>uF E f (fs.take i) vs g.body s|none=>.bad 0 0
theorem wX(E:LEn)(f:Nat)(fs:List Fd)(vs:List Vr)(x:List Nd)(s:Lk):uF E (f+1) fs vs x s=match kT E (pO E f fs) fs vs (gJ x) [] s with
  | .ok (t::_,s')=>.ok (t,s')
  | .ok ([],_)=>.bad 0 0
  | .bad a e=>.bad a e:=rfl
theorem wW{E:LEn}{ss:List (List UInt8)}{d e:D}(h:EOk E ss d e):∀(f:Nat) (fs:List Fd),(∀g∈fs,rM g.body)→CalOk E (pO E f fs)∧∀(vs:List Vr) (x:List Nd) (s:Lk) (p:Tl×Lk),rM x→(∀v∈vs,tyE E.us (jK E.us) v.ty=0)→SG E.us s→uF E f fs vs x s = .ok p→TG E.us p.1∧SG E.us p.2
 | 0,fs,hf=>by
  refine⟨fun i vs s p _ _ hp=>?_,fun vs x s p _ _ _ hp=>by cases hp⟩
  unfold pO at hp;split at hp<;>cases hp
 | f+1,fs,hf=>by
  have main:∀(fs:List Fd),(∀g∈fs,rM g.body)→∀(vs:List Vr) (x:List Nd) (s:Lk) (p:Tl×Lk),rM x→(∀v∈vs,tyE E.us (jK E.us) v.ty=0)→SG E.us s→uF E (f+1) fs vs x s = .ok p→TG E.us p.1∧SG E.us p.2:=fun fs hf vs x s p hx hv hs hp=>by
   rw[wX]at hp;cases hr:kT E (pO E f fs) fs vs (gJ x) [] s with
   | bad a e=>rw[hr]at hp;cases hp
   | ok q=>
    obtain⟨g1,g2,g3⟩:=run_inv h (wW h f fs hf).1 hv (gJ x) [] s q 1 (pS hx) (mG hx) nofun hs hr;rw[hr]at hp;obtain⟨st,sm⟩:=q
    match st,g3 with
    | [t],_=>cases hp;exact⟨g1 t (by simp),g2⟩
  refine⟨fun i vs s p hv hs hp=>?_,main fs hf⟩
  unfold pO at hp;split at hp
  ·rename_i g hg;obtain⟨hi,rfl⟩:=cF.1 hg;exact main (fs.take i) (fun g hg=>hf g (eP hg)) vs _ s p (hf _ (cG hi)) hv hs hp
  ·cases hp
theorem run_app{E:LEn}{cal:Nat→List Vr→Lk→Lo (Tl×Lk)}{fs:List Fd}{vs:List Vr}:∀(l l':List Nd) (st:List Tl) (s:Lk),kT E cal fs vs (l++l') st s=match kT E cal fs vs l st s with | .ok p=>kT E cal fs vs l' p.1 p.2 | .bad a e=>.bad a e
 | [],l',st,s=>rfl
 | x::r,l',st,s=>by
  rw[bY,kT,kT];cases mS E cal fs vs x st s with
  | ok p=>exact run_app r l' p.1 p.2
  | bad a e=>rfl
def Lp44:AC:=.loop (s (r [b 37 .lss 36 35]) (s (.cond (.t 37) .skip (.exit 0)) (s (.block 2 LaB) (r [d 106 .add 36 (i 1),m 36 106]))))
def EC(n:Nat)(us:List Nat)(C:LkC):LEn:=⟨us,C.low,C.pc,RDl n C.d C.e⟩
def LoopR(C:LkC)(K By R4 B c0:Nat)(s0:St)(r:Lo (List Tl×Lk))(z:R):Prop:=match r with
 | .ok p=>∃t s c q8 q,z = .ok .normal ⟨t,s,c,[],none⟩∧SI C K By R4 B s0 c0 p.2 p.1 q8 q s c∧tget t 8=q8∧tget t 4 = .ptr R4 0
 | .bad a e=>∃t s c,z = .ok (.pan (iZ a e)) ⟨t,s,c,[],none⟩∧Bad C K s0 c0 s c
theorem loop44(n j:Nat){ss:List (List UInt8)}{us:List Nat}(C:LkC)(hE:EOk (EC n us C) ss C.d C.e){K By R4 B c0:Nat}{s0:St}(hP:PI C K By R4 B c0){x:List Nd}{dx w:D}(hx:Sl 7 bU x dx)(hxo:rM x)(hw:Sl 1 jH (jA x) w)
  {vs:List Vr} (hV:VO us C K s0 c0 vs) {fs:List Fd} {cal:Nat→List Vr→Lk→Lo (Tl×Lk)} (hcal:CalOk (EC n us C) cal) {q:D} {t:Tm} {s:St} {c:Nat} {sm:Lk} (hT:TI K By R4 dx w (jA x).length 0 .nils t) (hS:SI C K By R4 B s0 c0 sm [] .nils q s c) (hG:SG us sm)
  (hcall:∀(y:Nd) (ts:List Tl) (sm:Lk),SG us sm→∀s c,CI us C K sm vs ts s c→jP C K (calM (EC n us C) cal fs y ts sm) (fn (n+13) (j+3) (.fn 88) [.ptr K 0,.agg (bU y)] s c) s c) :
  LoopR C K By R4 B c0 s0 (kT (EC n us C) cal fs vs (gJ x) [] sm) (mA 0 (zC Lp44 (cxn (n+13)) (fn (n+13) (j+3)) KK ⟨t,s,c,[],none⟩)):=by
 have hol:=ord_len hxo.g;have hle:=hxo.le;have hnl:=nodes_len x;simp only[Lp44,Ab.abq];rw[eW.2.2.2.2.2.1];generalize hz:zloop KK _ _=rl
 refine zrange rl hz (jA x).length (fM (by omega)) (by omega) (fun i t s c=>∃st sm' q8 q,kT (EC n us C) cal fs vs ((gJ x).take i) [] sm = .ok (st,sm')∧SG us sm'∧(∀u∈st,TG us u)∧pV ((gJ x).drop i) st.length 1∧st.length≤i∧SI C K By R4 B s0 c0 sm' st q8 q s c∧TI K By R4 dx w (jA x).length i q8 t) (by decide) hT.q36 hT.q35 ?_ ?_ ?_
 ·exact⟨[],sm,.nils,q,rfl,hG,nofun,mG hxo,aJ _,hS,hT⟩
 ·rintro i t s c hi ⟨st,sm',q8,q',hr,hG',hst,hsk,hsl,hS',hT'⟩ hti htn;obtain⟨hk,hget⟩:=nodes_get hi;have hil:i<(gJ x).length:=by omega
  have hy:(gJ x)[i]=x[(jA x)[i]]:=by rw[aI hil]at hget;exact Option.some.inj hget
  have hdrop:(gJ x).drop i=x[(jA x)[i]]::(gJ x).drop (i+1):=by rw[List.drop_eq_getElem_cons hil,hy]
  rw[hdrop]at hsk;obtain⟨g1,g2,g3⟩:=nd_ok hxo hk;have hT2:TI K By R4 dx w (jA x).length i q8 (tput t 37 (.bool true)):=⟨by simpa[aE]using hT'.q0,by simpa[aE]using hT'.q1,by simpa[aE]using hT'.q4,by simpa[aE]using hT'.q5,by simpa[aE]using hT'.q8,by simpa[aE]using hT'.q34,by simpa[aE]using hT'.q35,by simpa[aE]using hT'.q36⟩
  have htk:¬2000<sm'.lk+1→SG us sm'.tick:=fun hb=>⟨hG'.ec,hG'.lb,by show sm'.lk+1≤2000;omega⟩
  have hargs:x[(jA x)[i]].kind=5∨x[(jA x)[i]].kind=6→(st.take (opN x[(jA x)[i]])).length=1∨(st.take (opN x[(jA x)[i]])).length=2:=fun h56=>by
   have hkk:=g1.kp h56;have:opN x[(jA x)[i]]=x[(jA x)[i]].kids.toNat:=by unfold opN fH;rw[aH h56]
   have:=hsk.1;rw[dI];omega
  have hst':=node_step n j (us:=us) C hE.lt hE.pc hP hx hw hi hk hV (fs:=fs) (cal:=cal) hT2 hS' hG' hst (by omega) g1 ⟨g2,g3⟩ hsk.1 (fun hb p hp=>by
    obtain⟨_,h2⟩:=look_inv hE hcal hV.good hargs ⟨g2,g3⟩ (fun u hu=>hst u (eP hu)) (htk hb) hp
    exact⟨h2.ec,h2.lb⟩) (fun hb _ s c hCI=>hcall _ _ _ (htk hb) s c hCI)
  have hsplit:gJ x=(gJ x).take i++x[(jA x)[i]]::(gJ x).drop (i+1):=by rw[←hdrop,List.take_append_drop]
  have hrun:∀r,mS (EC n us C) cal fs vs x[(jA x)[i]] st sm'=r→kT (EC n us C) cal fs vs (gJ x) [] sm=match r with | .ok p=>kT (EC n us C) cal fs vs ((gJ x).drop (i+1)) p.1 p.2 | .bad a e=>.bad a e:=fun r hr'=>by
   refine(congrArg (fun l=>kT (EC n us C) cal fs vs l [] sm) hsplit).trans ?_
   simp only[run_app,hr,kT,hr'];cases r<;>rfl
  cases hn:mS (EC n us C) cal fs vs x[(jA x)[i]] st sm' with
  | bad a e=>
   rw[show(⟨us,C.low,C.pc,RDl n C.d C.e⟩:LEn)=EC n us C from rfl,hn]at hst'
   obtain⟨t',s',c',hz',hB⟩:=hst';rw[hz'];show LoopR C K By R4 B c0 s0 (kT (EC n us C) cal fs vs (gJ x) [] sm) (.ok (.pan (iZ a e)) ⟨t',s',c',[],none⟩);rw[hrun _ hn];exact⟨t',s',c',rfl,hB⟩
  | ok p=>
   rw[show(⟨us,C.low,C.pc,RDl n C.d C.e⟩:LEn)=EC n us C from rfl,hn]at hst'
   obtain⟨t',s',c',q8',q'',hz',hT3,hS3⟩:=hst';rw[hz'];obtain⟨i1,i2,i3⟩:=node_inv hE hcal hV.good g1 hsk.1 ⟨g2,g3⟩ hst hG' hn;show _∧_;refine⟨rfl,rfl,hT3.q36,.inr (.inr hT3.q35),by decide,by decide,p.1,p.2,q8',q'',?_,i2,i1,by rw[i3];exact hsk.2,by omega,hS3,⟨?_,?_,?_,?_,?_,?_,?_,?_⟩⟩
   ·rw[List.take_succ_eq_append_getElem hil,hy,run_app,hr];show kT _ _ _ _ [_] st sm'=_;rw[kT,hn];rfl
   ·simpa[aE]using hT3.q0
   ·simpa[aE]using hT3.q1
   ·simpa[aE]using hT3.q4
   ·simpa[aE]using hT3.q5
   ·simpa[aE]using hT3.q8
   ·simpa[aE]using hT3.q34
   ·simpa[aE]using hT3.q35
   ·simp[aE]
 ·rintro t s c ⟨st,sm',q8,q',hr,hG',hst,hsk,hsl,hS',hT'⟩ hti htn;rw[show(jA x).length=(gJ x).length from hnl.symm,List.take_length]at hr
  rw[hr];exact⟨_,s,c,q8,q',rfl,hS',by simpa[aE]using hT'.q8,by simpa[aE]using hT'.q4⟩
end
end Zv
namespace Zv
open Go
noncomputable section
theorem B44_eq2:∃P1 P2,B44 = .seq P1 (.seq P2 (.seq (.reg none [⟨some 28,.mv (.t 1),none⟩,⟨some 29,.call 89 [.t 28],none⟩,⟨some 27,.mv (.t 29),none⟩,⟨some 30,.ext 0 (.t 27),none⟩,⟨some 31,.ext 1 (.t 27),none⟩,⟨some 6,.mv (.t 30),none⟩,⟨some 7,.mv (.t 31),none⟩]) (.seq (.reg none [⟨some 32,.mv (.t 7),none⟩,⟨some 33,.call 41 [.c (.int .i64 0),.t 32],none⟩]) (.seq (.reg none [⟨some 8,.mv (.c .nils),none⟩]) (.seq (.seq (.reg none [⟨some 34,.mv (.t 6),none⟩,⟨some 35,.len false (.t 34),none⟩,⟨some 36,.mv (.c (.int .i64 0)),none⟩]) (.block 0 Lp44)) (.seq (.reg none [⟨some 107,.mv (.t 8),none⟩,⟨some 108,.iaS 5 (.t 107) (.c (.int .i64 0)),none⟩,⟨some 109,.ld (some 5) (.t 108),none⟩,⟨none,.st 5 (.t 4) (.t 109),none⟩]) .ret)))))) ∧
  ∀(cx:Cx) (cl:CL) (k K:Nat) (dx:D) (s:St) (c:Nat),∃t s' ,zC (.seq P1 P2) cx cl k (start [.ptr K 0,dx] s c) = .ok .normal ⟨t,s',c+1+1,[],none⟩∧tget t 0 = .ptr K 0∧tget t 1=dx∧tget t 4 = .ptr c 0∧tget t 5 = .mp (c+1)∧sget s' c=some (.fix 37 ty0)∧sget s' (c+1)=some (.mp (byE K) 6)∧∀m,m≠c→m≠c+1→sget s' m=sget s m:=by
 refine⟨_,_,B44_eq,fun cx cl k K dx s c=>?_⟩
 have m0:mfind .int (.int .i64 1) [] 0=some none:=rfl;have m1:mfind .int (.int .i64 3) [(.int .i64 1,.fn (.func 83) [.ptr K 0] [],0)] 0=some none:=rfl;have m2:mfind .int (.int .i64 2) [(.int .i64 1,.fn (.func 83) [.ptr K 0] [],0),(.int .i64 3,.fn (.func 84) [.ptr K 0] [],1)] 0=some none:=rfl
 have m3:mfind .int (.int .i64 4) [(.int .i64 1,.fn (.func 83) [.ptr K 0] [],0),(.int .i64 3,.fn (.func 84) [.ptr K 0] [],1),(.int .i64 2,.fn (.func 85) [.ptr K 0] [],2)] 0=some none:=rfl
 have m4:mfind .int (.int .i64 5) [(.int .i64 1,.fn (.func 83) [.ptr K 0] [],0),(.int .i64 3,.fn (.func 84) [.ptr K 0] [],1),(.int .i64 2,.fn (.func 85) [.ptr K 0] [],2),(.int .i64 4,.fn (.func 86) [.ptr K 0] [],3)] 0=some none:=rfl
 have m5:mfind .int (.int .i64 6) [(.int .i64 1,.fn (.func 83) [.ptr K 0] [],0),(.int .i64 3,.fn (.func 84) [.ptr K 0] [],1),(.int .i64 2,.fn (.func 85) [.ptr K 0] [],2),(.int .i64 4,.fn (.func 86) [.ptr K 0] [],3),(.int .i64 5,.fn (.func 87) [.ptr K 0] [],4)] 0=some none:=rfl;simp only[z0,seval,m0,m1,m2,m3,m4,m5,bO,eS,bX,bY];have hc:c≠c+1:=by omega
 refine⟨_,_,rfl,?_,?_,?_,?_,?_,?_,fun m h1 h2=>?_⟩
 ·simp[aE]
 ·simp[aE]
 ·simp[aE]
 ·simp[aE]
 ·simp only[aO,aX,aD hc];rfl
 ·rw[aO,aH rfl];rfl
 ·simp only[aO,aX,aD h1,aD h2]
def XOk(l:List Nd):Prop:=∃a,exD l=e2 a 0
theorem XOk.ex{l:List Nd}(h:XOk l):rM l:=by obtain⟨a,h⟩:=h;exact ex_ok h
set_option maxHeartbeats 1000000 in
theorem f44(n:Nat){ss:List (List UInt8)}{us:List Nat}{d e:D}{low pc M:Nat}:∀(F j:Nat),2*F+6≤j→∀(v f:D),EOk (EC n us ⟨d,e,low,pc,M,v,f⟩) ss d e→∀(fs:List Fd),fs.length<F→fs.length<1000→Sl 3 fdC fs f→(∀g∈fs,FdOk g)→(∀g∈fs,XOk g.body) →
  ∀(vs:List Vr) (x:List Nd) (dx:D),Sl 7 bU x dx→NdOk x→XOk x→∀(sm:Lk) (q:D) (s:St) (c K:Nat),SG us sm→VO us ⟨d,e,low,pc,M,v,f⟩ K s c vs→sget s K=some (LkC.blk ⟨d,e,low,pc,M,v,f⟩ sm q)→eR q=false→sget s M=some (.mp (mpE 0 sm.lm) sm.lm.length)→K<c→M<c→mW s c →
   jP ⟨d,e,low,pc,M,v,f⟩ K (uF (EC n us ⟨d,e,low,pc,M,v,f⟩) F fs vs x sm) (fn (n+13) j (.fn 44) [.ptr K 0,dx] s c) s c
 | 0=>fun j _ v f _ fs h=>by omega
 | F+1=>fun j hj v f hE fs hfF hfl hf hfo hfx vs x dx hx hN hxx sm q s c K hG hV hK hq hM hKc hMc hfr=>by
  obtain⟨j2,rfl⟩:∃j2,j=j2+5:=⟨j-5,by omega⟩
  obtain⟨P1,P2,hB,hP⟩:=B44_eq2;rw[iJ (A:=A44) rfl rfl rfl rfl (n+13) (j2+4) _ s c rfl,show A44.body=B44 from rfl,hB]
  obtain⟨t0,s0,hz0,q0,q1,q4,q5,r4,rby,ro⟩:=hP (cxn (n+13)) (fn (n+13) (j2+4)) KK K dx s c;have hxo:=hxx.ex;obtain⟨xa,hxe⟩:=hxx;obtain⟨w,h89,hw⟩:=c89 (n+1) hx hN hxe;have hKM:K≠M:=by rintro e;rw[e,hM]at hK;cases hK
  have hPI:PI ⟨d,e,low,pc,M,v,f⟩ K (c+1) c (c+1+1) c:=⟨hKc,hMc,hKM,aJ _,Nat.lt_succ_self _,Nat.lt_succ_self _⟩;have ho:∀m,m<c→sget s0 m=sget s m:=fun m hm=>ro m (by omega) (by omega)
  have hSI:SI ⟨d,e,low,pc,M,v,f⟩ K (c+1) c (c+1+1) s c sm [] .nils q s0 (c+1+1):=⟨by rw[ho K hKc,hK],by rw[ho M hMc,hM],rby,r4,fun m m1 _ _=>ho m m1,.inl ⟨rfl,rfl⟩,fun m hm=>by rw[ro m (by omega) (by omega)];exact hfr m (by omega),aJ _,hq⟩
  have hinv:=wW hE F fs (fun g hg=>(hfx g hg).ex)
  have hcall:∀(y:Nd) (ts:List Tl) (sm:Lk),SG us sm→∀s c,CI us ⟨d,e,low,pc,M,v,f⟩ K sm vs ts s c→jP ⟨d,e,low,pc,M,v,f⟩ K (calM (EC n us ⟨d,e,low,pc,M,v,f⟩) (pO (EC n us ⟨d,e,low,pc,M,v,f⟩) F fs) fs y ts sm) (fn (n+13) (j2+1+3) (.fn 88) [.ptr K 0,.agg (bU y)] s c) s c:=fun y ts sm hG s c hCI=>
   f88 (n+12) j2 ⟨d,e,low,pc,M,v,f⟩ hE.lt hE.pc (RDl n d e) hf hfo hfl hCI hG.ec hG.lb (pO (EC n us ⟨d,e,low,pc,M,v,f⟩) F fs) fun i hi v' fd hfd vs' q s c hV' hK' hq' hM' hKc' hMc' hfr'=>by
    have hgi:=cG hi;have ht:(fs.take i).length<F:=by rw[dI];omega
    have hrec:pO (EC n us ⟨d,e,low,pc,M,v,f⟩) F fs i vs' (sm.mark ⟨us,low,pc,RDl n d e⟩ y.site)=uF (EC n us ⟨d,e,low,pc,M,v',fd⟩) F (fs.take i) vs' fs[i].body (sm.mark ⟨us,low,pc,RDl n d e⟩ y.site):=by
     unfold pO;rw[aI hi];rfl
    have hb:=(hfx _ hgi).ex.le;have:=f44 n F (j2+3) (by omega) v' fd hE (fs.take i) ht (by rw[dI];omega) hfd (fun g hg=>hfo g (eP hg)) (fun g hg=>hfx g (eP hg)) vs' fs[i].body fs[i].bd (hfo _ hgi).b ((hfo _ hgi).nd hb) (hfx _ hgi) (sm.mark ⟨us,low,pc,RDl n d e⟩ y.site) q s c K (hG.mark hE _) hV' hK' hq' hM' hKc' hMc' hfr'
    rw[←hrec]at this;exact this
  obtain⟨t3,ht3⟩:∃t3,t3=tput (tput (tput (tput (tput (tput (tput (tput (tput (tput (tput (tput (tput t0 28 dx) 29 (.tup [w,.int .i64 0])) 27 (.tup [w,.int .i64 0])) 30 w) 31 (.int .i64 0)) 6 w) 7 (.int .i64 0)) 32 (.int .i64 0)) 33 (.tup [])) 8 .nils) 34 w) 35 (.int .i64 ((jA x).length:Nat))) 36 (.int .i64 0):=⟨_,rfl⟩
  have hTI:TI K (c+1) c dx w (jA x).length 0 .nils t3:=by
   rw[ht3];refine⟨?_,?_,?_,?_,?_,?_,?_,?_⟩
   ·simpa[aE]using q0
   ·simpa[aE]using q1
   ·simpa[aE]using q4
   ·simpa[aE]using q5
   all_goals simp[aE]
  have hloop:=loop44 n (j2+1) ⟨d,e,low,pc,M,v,f⟩ hE hPI hx hxo hw hV (fs:=fs) hinv.1 hTI hSI hG hcall;rw[wX]
  have hz:∀R:AC,zC (.seq P1 (.seq P2 (.seq (.reg none [⟨some 28,.mv (.t 1),none⟩,⟨some 29,.call 89 [.t 28],none⟩,⟨some 27,.mv (.t 29),none⟩,⟨some 30,.ext 0 (.t 27),none⟩,⟨some 31,.ext 1 (.t 27),none⟩,⟨some 6,.mv (.t 30),none⟩,⟨some 7,.mv (.t 31),none⟩]) (.seq (.reg none [⟨some 32,.mv (.t 7),none⟩,⟨some 33,.call 41 [.c (.int .i64 0),.t 32],none⟩]) (.seq (.reg none [⟨some 8,.mv (.c .nils),none⟩]) (.seq (.seq (.reg none [⟨some 34,.mv (.t 6),none⟩,⟨some 35,.len false (.t 34),none⟩,⟨some 36,.mv (.c (.int .i64 0)),none⟩]) (.block 0 Lp44)) R)))))) (cxn (n+13)) (fn (n+13) (j2+4)) KK (start [.ptr K 0,dx] s c) =
    zbind (mA 0 (zC Lp44 (cxn (n+13)) (fn (n+13) (j2+1+3)) KK ⟨t3,s0,c+1+1,[],none⟩)) (zC R (cxn (n+13)) (fn (n+13) (j2+1+3)) KK):=fun R=>by
   have hz1:∀R:AC,zC (.seq P1 (.seq P2 R)) (cxn (n+13)) (fn (n+13) (j2+4)) KK (start [.ptr K 0,dx] s c)=zC R (cxn (n+13)) (fn (n+13) (j2+4)) KK ⟨t0,s0,c+1+1,[],none⟩:=fun R=>by
    rw[zC_sq]at hz0 ⊢;rw[zC_sq P2 R];simp only at hz0 ⊢;rw[←vS,hz0];rfl
   rw[hz1];have hf89:fn (n+13) (j2+4) (.fn 89) [dx] s0 (c+1+1) = .ok (.ret (.tup [w,.int .i64 0])) s0 (c+1+1):=by
    rw[show j2+4=j2+3+1 from rfl,show n+13=n+12+1 from rfl,aF (f:=89) rfl]
    simp only[aR,hx.fz,aN,bI,h89,Bool.true_or,aS]
   simp only[z0,seval,q1,hf89,eV,hw.len];rw[←ht3]
  rw[hz];cases hr:kT (EC n us ⟨d,e,low,pc,M,v,f⟩) (pO (EC n us ⟨d,e,low,pc,M,v,f⟩) F fs) fs vs (gJ x) [] sm with
  | bad a b=>
   rw[hr]at hloop;obtain⟨t4,s4,c4,h4,hB4⟩:=hloop;rw[h4];exact⟨s4,c4,rfl,hB4⟩
  | ok p=>
   rw[hr]at hloop;obtain⟨t4,s4,c4,q8,q',h4,hS4,q48,q44⟩:=hloop;obtain⟨_,_,g3⟩:=run_inv hE hinv.1 hV.good (gJ x) [] sm p 1 (pS hxo) (mG hxo) nofun hG hr;obtain⟨st,sm'⟩:=p
   match st,g3 with
   | [u],_=>
    rw[h4];have hst:=hS4.stk;rcases hst with⟨_,h⟩|⟨m,ty,cs,hm,rfl,hs,hl,htk⟩
    ·cases h
    have hl5:decide (5≤cs.length)=true:=bH (by simpa using hl)
    have htk5:cs.take 5=tlC u:=by have:cs.take (1*5)=cY tlC [u]:=htk;simpa[cY]using this
    have hR:=hS4.hR;have hle4:=hS4.le;unfold ty0 at hR;have mc:(c=m)=False:=aM (by omega)
    refine⟨sset s4 c (.fix 37 (tlC u)),c4,q',?_,?_⟩
    ·unfold tlC tyC tl at *;simp only[z0,seval,q48,q44,show kF 5 (.gs m 0 5 1) (.int .i64 0)=some (.ptr m 0) from rfl,hs,hl5,htk5,hR,aT,bP,A44]
    ·exact⟨by show c≤c4;omega,by rw[aO,aD (by omega),hS4.hK],by rw[aO,aD (by show M≠c;omega),hS4.hM],fun m m1 m2 m3=>by rw[aO,aD (by omega),hS4.old m m1 m2 m3],fun m hm=>by rw[aO,aD (by omega)];exact hS4.fr m hm,hS4.nag⟩
theorem caughtN(n j:Nat)(p q:Nat)(s:St)(c:Nat):dfn n (j+1) 40 [.ptr p 0,.ptr q 0] none s c = .ok (.ret (.tup [])) none s c:=by
 rw[dfn_in (A:=A40) rfl n j _ _ s c rfl];rfl
theorem caughtS(n j:Nat)(a e x y:Int){k k' p q:Nat}{s:St}{c:Nat}(h1:sget s q=some (.fix k [.int .i64 x]))(h2:sget s p=some (.fix k' [.int .i64 y]))(hf:mW s c)(hp:p<q)(hq:q<c):
  ∃s' c',dfn n (j+1) 40 [.ptr p 0,.ptr q 0] (some (iZ a e)) s c = .ok (.ret (.tup [])) (some [(.iface 130 (.agg [.int .i64 a,.int .i64 e]),true)]) s' c'∧sget s' q=some (.fix k [.int .i64 e])∧sget s' p=some (.fix k' [.int .i64 a])∧∀m,m<c→m≠p→m≠q→sget s' m=sget s m:=by
 rw[dfn_in (A:=A40) rfl n j _ _ s c rfl,show A40.body=B40 from rfl]
 unfold B40 iZ;have f1:(p=c)=False:=aM (by omega)
 have f2:(q=c)=False:=aM (by omega)
 have g1:(c=p)=False:=aM (by omega)
 have g2:(c=q)=False:=aM (by omega)
 have g3:(p=q)=False:=aM (by omega)
 have g4:(q=p)=False:=aM (by omega)
 have hcm:∀d,pI (.ifc true) (.iface 130 d) .nilif=some false:=fun _=>rfl
 simp only[z2,seval,ex_S,f1,f2,g1,g2,g3,g4,h1,h2,hcm,bY,bX,AC.noRcv,eJ,cV,AOp.kd,zop,dO,tks,cD,eA,nb];refine⟨_,_,rfl,?_,?_,fun m m1 m2 m3=>?_⟩
 ·simp only[aE];simp
 ·simp only[aE];simp[g3]
 ·simp only[aO,aX];rw[aD m3,aD m2,aD (by omega),aD (by omega)]
structure Pres (E:LEn) (P P':Lk→Prop):Prop where
 ec:∀s ec,P' s→P' ⟨ec,s.lk,s.lm⟩
 mark:∀s x,P' s→P (s.mark E x)
theorem node_pres{E:LEn}{P P':Lk→Prop}(h:Pres E P P'){cal:Nat→List Vr→Lk→Lo (Tl×Lk)}(hc:∀i vs s p,P s→cal i vs s = .ok p→P p.2){fs:List Fd}{vs:List Vr}{x:Nd}(hk:1≤x.kind∧x.kind≤6){st:List Tl}{s:Lk}{p:List Tl×Lk}(hs:P' s.tick)(hp:mS E cal fs vs x st s = .ok p):P p.2:=by
 unfold mS at hp;split at hp
 ·cases hp
 split at hp
 case h_2=>cases hp
 rename_i q hq;cases hp;show P (if x.kind=6 then q.2 else q.2.mark E x.site)
 unfold rQ at hq;by_cases h6:x.kind=6
 ·rw[aH h6];rw[aD (by omega),aD (by omega),aD (by omega),aD (by omega),aD (by omega)]at hq
  unfold calM at hq;split at hq
  ·cases hq
  split at hq
  ·cases hq
  split at hq
  ·cases hq
  exact hc _ _ _ _ (h.mark _ _ hs) hq
 ·rw[aD h6];refine h.mark _ _ ?_;split at hq
  ·cases hq;exact hs
  split at hq
  ·cases hq;exact hs
  split at hq
  ·cases hq;exact hs
  split at hq
  ·unfold nameM at hq;split at hq
   ·cases hq
   ·cases hq;exact hs
  split at hq
  ·unfold nC at hq;split at hq
   ·cases hq
   split at hq
   ·cases hq
   cases hq;exact h.ec _ _ hs
  ·omega
theorem run_pres{E:LEn}{P P':Lk→Prop}(h:Pres E P P')(ht:∀s,P s→P' s.tick){cal:Nat→List Vr→Lk→Lo (Tl×Lk)}(hc:∀i vs s p,P s→cal i vs s = .ok p→P p.2){fs:List Fd}{vs:List Vr}:∀(l:List Nd) (st:List Tl) (s:Lk) (p:List Tl×Lk),(∀x∈l,oR x∧1≤x.kind∧x.kind≤6)→(l≠[]∧P' s.tick∨P s)→kT E cal fs vs l st s = .ok p→P p.2
 | [],st,s,p,_,hs,hp=>by
  cases hp;rcases hs with⟨h,_⟩|hs
  ·exact absurd rfl h
  ·exact hs
 | x::r,st,s,p,hx,hs,hp=>by
  rw[kT]at hp;split at hp
  ·rename_i q hq;have:=node_pres h hc (hx x (bG ..)).2 (hs.elim (fun h=>h.2) (ht s)) hq
   exact run_pres h ht hc r q.1 q.2 p (fun y hy=>hx y (bD _ hy)) (.inr this) hp
  ·cases hp
theorem nodes_ne{x:List Nd}(h:rM x):gJ x≠[]:=by
 intro e;have:=mG h;rw[e]at this;cases this
theorem wV{E:LEn}{P P':Lk→Prop}(h:Pres E P P')(ht:∀s,P s→P' s.tick):∀(f:Nat) (fs:List Fd),(∀g∈fs,rM g.body)→∀(vs:List Vr) (x:List Nd) (s:Lk) (p:Tl×Lk),rM x→P' s.tick→uF E f fs vs x s = .ok p→P p.2
 | 0,_,_,_,_,_,_,_,_,hp=>by cases hp
 | f+1,fs,hf,vs,x,s,p,hx,hs,hp=>by
  rw[wX]at hp;have hc:∀i vs s p,P s→pO E f fs i vs s = .ok p→P p.2:=fun i vs s p hs hp=>by
   unfold pO at hp;split at hp
   ·rename_i g hg;obtain⟨hi,rfl⟩:=cF.1 hg;exact wV h ht f (fs.take i) (fun g hg=>hf g (eP hg)) vs _ s p (hf _ (cG hi)) (ht s hs) hp
   ·cases hp
  cases hr:kT E (pO E f fs) fs vs (gJ x) [] s with
  | bad a e=>rw[hr]at hp;cases hp
  | ok q=>
   have:=run_pres h ht hc (gJ x) [] s q (pS hx) (.inl ⟨nodes_ne hx,hs⟩) hr;rw[hr]at hp;obtain⟨st,sm⟩:=q
   match st with
   | []=>cases hp
   | t::r=>cases hp;exact this
def KeyL(l:List (Int×Int))(x:Int):List Int:=match nZ l x 0 with|none=>l.map Prod.fst++[x]|some _=>l.map Prod.fst
theorem mkL_keys(us:List Nat)(lm:List (Int×Int))(x:Int)(now:Nat):(mkL us lm x now).map Prod.fst=KeyL lm x:=by
 unfold mkL KeyL;cases nZ lm x 0 with
 | none=>simp
 | some q=>simp only[setM_keys]
theorem key_nodup{lm:List (Int×Int)}{x:Int}(h:(lm.map Prod.fst).Nodup):(KeyL lm x).Nodup:=by
 unfold KeyL;cases hq:nZ lm x 0 with
 | none=>
  have:=posM_none hq;refine List.nodup_append.2 ⟨h,by simp,fun a ha b hb=>?_⟩
  rw[dR.1 hb];rintro rfl;exact this ha
 | some q=>exact h
def KP(s:Lk):Prop:=(s.lm.map Prod.fst).Nodup∧s.lm.length≤s.lk
def KP'(s:Lk):Prop:=(s.lm.map Prod.fst).Nodup∧s.lm.length+1≤s.lk
theorem kp_pres(E:LEn):Pres E KP KP' where
 ec s ec h:=h
 mark s x h:=by
  refine⟨?_,?_⟩
  ·show((mkL E.us s.lm x _).map Prod.fst).Nodup;rw[mkL_keys];exact key_nodup h.1
  ·show(mkL E.us s.lm x _).length≤s.lk;have:(mkL E.us s.lm x (J E.us E.pc s.ec)).length=(KeyL s.lm x).length:=by rw[←mkL_keys E.us s.lm x (J E.us E.pc s.ec),eY]
   rw[this];have:=h.2;unfold KeyL;split<;>simp<;>omega
theorem kp_tick(s:Lk)(h:KP s):KP' s.tick:=⟨h.1,by show s.lm.length+1≤s.lk+1;have:=h.2;omega⟩
theorem ne_pres(E:LEn):Pres E (fun s=>s.lm≠[]) (fun _=>True) where
 ec _ _ _:=trivial
 mark s x _:=by
  show mkL E.us s.lm x _≠[];intro e;have:=mkL_keys E.us s.lm x (J E.us E.pc s.ec);rw[e]at this;unfold KeyL at this;split at this
  ·simp at this
  ·rename_i hq;obtain⟨p,hp,_⟩:=pP hq;have:s.lm=[]:=by simpa using this.symm
   rw[this]at hp;cases hp
def NotLong(l:List Nd):Prop:=l.length≤405∧(l.length≤400→∀x∈l,x.name.length≤500∧x.text.length≤500)
theorem c11(n:Nat){l:List Nd}{d:D}(hd:Sl 7 bU l d):∃b,cl n 11 [d]=some (.bool b,true)∧(b=false→NotLong l):=by
 rw[cN (A:=A11) rfl n _ rfl,show A11.body=B11 from rfl]
 simp only[B11,Ab.abq];simp only[z2,seval];generalize hz:zloop KK _ _=rl;have hN:min l.length 80≤80:=Nat.min_le_right _ _;refine zfor rl hz (min l.length 80) (fM (by omega)) (by omega) (fun i t s c=>tget t 0=d∧∀j,j<i→∀h:j<l.length,l[j].name.length≤500∧l[j].text.length≤500) (by simp[aE]) ⟨by simp[aE],nofun⟩ ?_
 rintro i t s c hi ⟨q0,hn⟩ q3;by_cases hlt:i<l.length
 ·by_cases h80:i<80
  ·have k1:decide ((i:Int)<80)=true:=dT (by omega)
   have g3:=hd.cell hlt (show 3<7 by omega)
   have g4:=hd.cell hlt (show 4<7 by omega)
   by_cases e1:500<l[i].name.length
   ·have k2:decide ((500:Int)<(l[i].name.length:Nat))=true:=dT (by omega)
    simp only[z2,seval,q0,q3,hd.len,eD hlt,k1,hd.ia hlt,g3,g4,bU,k2,nb,A11];exact⟨true,rfl,nofun⟩
   ·have k2:decide ((500:Int)<(l[i].name.length:Nat))=false:=dF (by omega)
    by_cases e2:500<l[i].text.length
    ·have k3:decide ((500:Int)<(l[i].text.length:Nat))=true:=dT (by omega)
     simp only[z2,seval,q0,q3,hd.len,eD hlt,k1,hd.ia hlt,g3,g4,bU,k2,k3,nb,A11];exact⟨true,rfl,nofun⟩
    ·have k3:decide ((500:Int)<(l[i].text.length:Nat))=false:=dF (by omega)
     simp only[z2,seval,q0,q3,hd.len,eD hlt,k1,hd.ia hlt,g3,g4,bU,k2,k3,nb];refine⟨by omega,trivial,trivial,trivial,trivial,fun j hj h=>?_⟩
     rcases cU.1 hj with h'|rfl
     ·exact hn j h' h
     ·exact⟨by omega,by omega⟩
  ·have k1:decide ((i:Int)<80)=false:=dF (by omega)
   have k60:decide ((60:Int)<(l.length:Nat))=true:=dT (by omega)
   by_cases e4:l.length≤400
   ·have k4:decide (((l.length:Nat):Int)≤400)=true:=dT (by omega)
    simp only[z2,seval,q0,q3,hd.len,eD hlt,k1,k60,k4,nb,A11];exact⟨true,rfl,nofun⟩
   ·have k4:decide (((l.length:Nat):Int)≤400)=false:=dF (by omega)
    simp only[z2,seval,q0,q3,hd.len,eD hlt,k1,k60,k4,nb,A11];exact⟨decide ((405:Int)<(l.length:Nat)),rfl,fun h=>⟨by rw[cB]at h;omega,fun h'=>absurd h' e4⟩⟩
 ·have e1:i=l.length:=by omega
  subst e1;have h60:l.length≤80:=by omega
  have hall:∀x∈l,x.name.length≤500∧x.text.length≤500:=fun x hx=>by
   obtain⟨j,hj,rfl⟩:=fA hx;exact hn j hj hj
  have k4:decide (((l.length:Nat):Int)≤400)=true:=dT (by omega)
  have k5:decide ((405:Int)<(l.length:Nat))=false:=dF (by omega)
  by_cases e:60<l.length
  ·have k60:decide ((60:Int)<(l.length:Nat))=true:=dT (by omega)
   simp only[z2,seval,q0,q3,hd.len,kC (aJ l.length),k60,k4,k5,nb,A11];exact⟨true,rfl,nofun⟩
  ·have k60:decide ((60:Int)<(l.length:Nat))=false:=dF (by omega)
   simp only[z2,seval,q0,q3,hd.len,kC (aJ l.length),k60,k4,k5,nb,A11];exact⟨false,rfl,fun _=>⟨by omega,fun _=>hall⟩⟩
end
end Zv
namespace Zv
open Go Ab
noncomputable section
theorem B13_eq:B13=(s Lk1 (s Lk2 (s Lk3 (s Lk4 (s Lk5 (s Lk6 (s Lk7 (s Lk8 (s Lk9 (s Lk10 (s Lk11 (s Lk12 (s Lk13 (s Lk14 .ret)))))))))))))):=rfl
def H13:AC:=s Lk1 (s Lk2 (s Lk3 (s Lk4 (s Lk5 (s Lk6 (s Lk7 (s Lk8 (s Lk9 Lk10))))))))
def T13:AC:=s Lk11 (s Lk12 (s Lk13 (s Lk14 .ret)))
theorem zq_bind(K:AS→Prop)(Q:R→Prop)(r:R)(f:AS→R):zq (fun y=>zq K Q (f y)) Q r↔zq K Q (zbind r f):=by
 cases r with
 | no=>exact Iff.rfl
 | ok o x=>cases o<;>exact Iff.rfl
theorem W_h13{cx:Cx}{cl:CL}{k:Nat}{x:AS}{Q:R→Prop}(h:zq (fun y=>mX (bC cx cl k T13 y) Q) Q (zC H13 cx cl k x)):mX (bC cx cl k B13 x) Q:=by
 rw[B13_eq];simp only[Ab.abq];simp only[H13,Ab.abq]at h;rw[zC_sq]at h;rw[W_seq1 (by rfl) (by rfl)]
 simp only[zC_sq]at h;rw[←zq_bind]at h;have step:∀{r:R} {K K':AS→Prop},(∀y,K y→K' y)→zq K Q r→zq K' Q r:=fun {r} {K} {K'} hk hq=>by
  cases r with
  | no=>exact hq
  | ok o x=>cases o<;>first|exact hk _ hq|exact hq
 refine step (fun y hy=>?_) h
 iterate 8
  rw[W_seq1 (by rfl) (by rfl)]
  rw[←zq_bind]at hy;refine step (fun y hy=>?_) hy
 rw[W_seq1 (by rfl) (by rfl)]
 exact hy
def D13:List (D×List D):=[(.fn (.func 40) [] [],[.ptr 2 0,.ptr 3 0])]
def zl0:List D:=[.int .i64 0,.int .i64 0,.int .i64 0,.int .i64 0,.int .i64 0,.int .i64 0,.nils,.int .i64 0]
structure LF (t:Tm) (s:St) (c:Nat):Prop where
 t8:tget t 8 = .ptr 1 0
 t9:tget t 9 = .ptr 2 0
 t10:tget t 10 = .ptr 3 0
 s1:sget s 1=some (.fix 40 zl0)
 s2:sget s 2=some (.fix 4 [.int .i64 0])
 s3:∃z:Int,sget s 3=some (.fix 41 [.int .i64 z])
 fr:mW s c
 le:4≤c
def xS(n:Nat)(p:D)(r:R):Prop:=pout (zbody (dfn n MM) A13 r)=some (p,true)
theorem uB(n:Nat)(a e:Int){t:Tm}{s:St}{c:Nat}(h:LF t s c):xS n (.tup [.agg zl0,.int .i64 a,.int .i64 e]) (.ok (.pan (iZ a e)) ⟨t,s,c,D13,none⟩):=by
 obtain⟨z,s3⟩:=h.s3;have hle:=h.le;obtain⟨s',c',h1,e3,e2,ho⟩:=caughtS n 4095 a e z 0 s3 h.s2 h.fr (by decide) (by omega)
 have h1:dfn n MM 40 [.ptr 2 0,.ptr 3 0] (some (iZ a e)) s c=_:=h1;have e1:sget s' 1=some (.fix 40 zl0):=by rw[ho 1 (by omega) (by decide) (by decide),h.s1]
 have:zbody (dfn n MM) A13 (.ok (.pan (iZ a e)) ⟨t,s,c,D13,none⟩) = .ok (.ret (.tup [.agg zl0,.int .i64 a,.int .i64 e])) s' c':=by
  show oU (dfn n MM) A13 (some (iZ a e)) ⟨t,s,c,D13,none⟩=_;unfold oU D13;unfold zl0 at *;simp only[zDs,bX,dC,h1,settle];simp only[z0,↓reduceIte,Nat.reduceEqDiff,Nat.reduceAdd,Nat.reduceLeDiff,reduceCtorEq,A13,h.t8,h.t9,h.t10,e1,e2,e3]
 unfold xS;rw[this];rfl
section
variable (n:Nat) {ss:List (List UInt8)} {us:List Nat} {d e v f dx:D} {vs:List Vr} {fs:List Fd} (pc ec:Int)
theorem h13_env(hd:eR d=false∧∀k s,frz false (k+1) s d=some d)(he:eR e=false∧∀k s,frz false (k+1) s e=some e)(hv:eR v=false∧∀k s,frz false (k+1) s v=some v)(hf:eR f=false∧∀k s,frz false (k+1) s f=some f){er:Int}(h22:cl n 22 [.agg [d,e,v,f]]=some (.int .i64 er,true))(h0:er≠0):
  ∃t s c,zC H13 (cxn (n+1)) (fn (n+1) 4096) KK (start [.agg [d,e,v,f],.int .i64 pc,.int .i64 ec,dx] st0 0) = .ok (.pan (iZ 0 er)) ⟨t,s,c,D13,none⟩∧LF t s c:=by
 simp only[H13,Lk1,Lk2,Lk3,Ab.abq];simp only[z0,↓reduceIte,Nat.reduceEqDiff,Nat.reduceAdd,Nat.reduceLeDiff,reduceCtorEq,hd.1,he.1,hv.1,hf.1,hd.2,he.2,hv.2,hf.2,aF (f:=22) rfl,aR,iR,h22,eV,aD h0];refine⟨_,_,_,rfl,?_,?_,?_,?_,?_,⟨0,?_⟩,?_,by decide⟩
 ·simp[aE]
 ·simp[aE]
 ·simp[aE]
 ·simp[aE];rfl
 ·simp[aE]
 ·simp[aE]
 ·intro m hm;have hm':4≤m:=hm;simp only[aX];rw[aD (by omega),aD (by omega),aD (by omega),aD (by omega)];exact dU m
theorem h13_rng(h:Lt ss us d e)(hE:uU vs fs v f)(h22:cl n 22 [.agg [d,e,v,f]]=some (.int .i64 0,true))(hr:¬((0≤pc∧pc<us.length)∧0≤ec∧ec<us.length)):
  ∃t s c,zC H13 (cxn (n+1)) (fn (n+1) 4096) KK (start [.agg [d,e,v,f],.int .i64 pc,.int .i64 ec,dx] st0 0) = .ok (.pan (iZ 0 7)) ⟨t,s,c,D13,none⟩∧LF t s c:=by
 have ld:=h.d.len;rw[←h.l]at ld;have i0:kF 1 (.ms 4 0 1 2 2) (.int .i64 0)=some (.ptr 4 0):=rfl;have i1:kF 1 (.ms 4 0 1 2 2) (.int .i64 1)=some (.ptr 4 1):=rfl;have l2:lenD false (.ms 4 0 1 2 2)=some 2:=rfl;have z7:((7:Int)=0)=False:=aM (by decide)
 have w1:dL .i64 (0+1)=1:=rfl;have fin:∀(t:Tm) (s:St) (c:Nat),tget t 8 = .ptr 1 0→tget t 9 = .ptr 2 0→tget t 10 = .ptr 3 0→s=sadd (sadd (sadd (sadd (sadd st0 0 (.fix 30 [d,e,v,f])) 1 (.fix 40 zl0)) 2 (.fix 4 [.int .i64 0])) 3 (.fix 41 [.int .i64 0])) 4 (.fix 0 [.int .i64 pc,.int .i64 ec])→5≤c→LF t s c:=fun t s c h1 h2 h3 hs hc=>by
  subst hs;refine⟨h1,h2,h3,?_,?_,⟨0,?_⟩,?_,by omega⟩
  ·simp[aE]
  ·simp[aE]
  ·simp[aE]
  ·intro m hm;simp only[aX];rw[aD (by omega),aD (by omega),aD (by omega),aD (by omega),aD (by omega)];exact dU m
 simp only[H13,Lk1,Lk2,Lk3,Lk4,Ab.abq];by_cases p1:pc<0
 ·simp only[z0,↓reduceIte,Nat.reduceEqDiff,Nat.reduceAdd,Nat.reduceLeDiff,reduceCtorEq,h.d.nag,h.e.nag,hE.v.nag,hE.f.nag,h.d.fz,h.e.fz,hE.v.fz,hE.f.fz,aF (f:=22) rfl,aR,iR,h22,eV,l2,show((2:Nat):Int)=2 from rfl,show decide ((0:Int)<2)=true from rfl,show decide ((1:Int)<2)=true from rfl,show decide ((2:Int)<2)=false from rfl,zun,i0,i1,bH p1,z7]
  refine⟨_,_,_,rfl,fin _ _ _ ?_ ?_ ?_ rfl (by decide)⟩<;>simp[aE]
 by_cases p2:((us.length:Nat):Int)≤pc
 ·simp only[z0,↓reduceIte,Nat.reduceEqDiff,Nat.reduceAdd,Nat.reduceLeDiff,reduceCtorEq,h.d.nag,h.e.nag,hE.v.nag,hE.f.nag,h.d.fz,h.e.fz,hE.v.fz,hE.f.fz,aF (f:=22) rfl,aR,iR,h22,eV,l2,show((2:Nat):Int)=2 from rfl,show decide ((0:Int)<2)=true from rfl,show decide ((1:Int)<2)=true from rfl,show decide ((2:Int)<2)=false from rfl,zun,i0,i1,aK p1,ld,bH p2,z7,Int.reduceLT,aW]
  refine⟨_,_,_,rfl,fin _ _ _ ?_ ?_ ?_ rfl (by decide)⟩<;>simp[aE]
 by_cases p3:ec<0
 ·simp only[z0,↓reduceIte,Nat.reduceEqDiff,Nat.reduceAdd,Nat.reduceLeDiff,reduceCtorEq,h.d.nag,h.e.nag,hE.v.nag,hE.f.nag,h.d.fz,h.e.fz,hE.v.fz,hE.f.fz,aF (f:=22) rfl,aR,iR,h22,eV,l2,show((2:Nat):Int)=2 from rfl,show decide ((0:Int)<2)=true from rfl,show decide ((1:Int)<2)=true from rfl,show decide ((2:Int)<2)=false from rfl,zun,i0,i1,aK p1,ld,aK p2,bH p3,z7,w1,Int.reduceLT,aW]
  refine⟨_,_,_,rfl,fin _ _ _ ?_ ?_ ?_ rfl (by decide)⟩<;>simp[aE]
 have p4:((us.length:Nat):Int)≤ec:=by omega
 simp only[z0,↓reduceIte,Nat.reduceEqDiff,Nat.reduceAdd,Nat.reduceLeDiff,reduceCtorEq,h.d.nag,h.e.nag,hE.v.nag,hE.f.nag,h.d.fz,h.e.fz,hE.v.fz,hE.f.fz,aF (f:=22) rfl,aR,iR,h22,eV,l2,show((2:Nat):Int)=2 from rfl,show decide ((0:Int)<2)=true from rfl,show decide ((1:Int)<2)=true from rfl,show decide ((2:Int)<2)=false from rfl,zun,i0,i1,aK p1,ld,aK p2,aK p3,bH p4,z7,w1,Int.reduceLT,aW]
 refine⟨_,_,_,rfl,fin _ _ _ ?_ ?_ ?_ rfl (by decide)⟩<;>simp[aE]
end
end
end Zv
namespace Zv
open Go
noncomputable section
section
variable (n:Nat) {ss:List (List UInt8)} {us:List Nat} {d e v f dx:D} {vs:List Vr} {fs:List Fd} {x:List Nd} (pc ec:Nat)
theorem h13_exp(h:Lt ss us d e)(hE:uU vs fs v f)(h22:cl n 22 [.agg [d,e,v,f]]=some (.int .i64 0,true))(hp:pc<us.length)(he:ec<us.length)(hx:Sl 7 bU x dx){a y:Int}(h42:cl n 42 [dx]=some (e2 a y,true))(h0:y≠0):
  ∃t s c,zC H13 (cxn (n+1)) (fn (n+1) 4096) KK (start [.agg [d,e,v,f],.int .i64 (pc:Nat),.int .i64 (ec:Nat),dx] st0 0) = .ok (.pan (iZ 0 y)) ⟨t,s,c,D13,none⟩∧LF t s c:=by
 have ld:=h.d.len;rw[←h.l]at ld;have i0:kF 1 (.ms 4 0 1 2 2) (.int .i64 0)=some (.ptr 4 0):=rfl;have i1:kF 1 (.ms 4 0 1 2 2) (.int .i64 1)=some (.ptr 4 1):=rfl;have l2:lenD false (.ms 4 0 1 2 2)=some 2:=rfl;have w1:dL .i64 (0+1)=1:=rfl;have w2:dL .i64 (1+1)=2:=rfl;have p1:decide (((pc:Nat):Int)<0)=false:=aK (by omega)
 have p2:decide (((us.length:Nat):Int)≤(pc:Nat))=false:=aK (by omega)
 have p3:decide (((ec:Nat):Int)<0)=false:=aK (by omega)
 have p4:decide (((us.length:Nat):Int)≤(ec:Nat))=false:=aK (by omega)
 simp only[H13,Lk1,Lk2,Lk3,Lk4,Lk5,Lk6,Ab.abq];unfold e2 at h42
 simp only[z0,↓reduceIte,Nat.reduceEqDiff,Nat.reduceAdd,Nat.reduceLeDiff,reduceCtorEq,h.d.nag,h.e.nag,hE.v.nag,hE.f.nag,h.d.fz,h.e.fz,hE.v.fz,hE.f.fz,hx.fz,aF (f:=22) rfl,aF (f:=42) rfl,aR,iR,h22,h42,eV,l2,show((2:Nat):Int)=2 from rfl,show decide ((0:Int)<2)=true from rfl,show decide ((1:Int)<2)=true from rfl,show decide ((2:Int)<2)=false from rfl,zun,i0,i1,p1,p2,p3,p4,ld,w1,w2,aD h0]
 refine⟨_,_,_,rfl,?_,?_,?_,?_,?_,⟨y,?_⟩,?_,?_⟩
 ·simp[aE]
 ·simp[aE]
 ·simp[aE]
 ·simp[aE];rfl
 ·simp[aE]
 ·simp[aE]
 ·intro m hm;have hm':5≤m:=hm;simp only[aO,aX];rw[aD (by omega),aD (by omega),aD (by omega),aD (by omega),aD (by omega),aD (by omega)];exact dU m
 ·decide
def S44(d e v f:D)(low pc ec:Nat):St:=sadd (sadd (sset (sset (sadd (sadd (sadd (sadd (sadd st0 0 (.fix 30 [d,e,v,f])) 1 (.fix 40 [.int .i64 0,.int .i64 0,.int .i64 0,.int .i64 0,.int .i64 0,.int .i64 0,.nils,.int .i64 0])) 2 (.fix 4 [.int .i64 0])) 3 (.fix 41 [.int .i64 0])) 4 (.fix 0 [.int .i64 (pc:Nat),.int .i64 (ec:Nat)])) 3 (.fix 41 [.int .i64 0])) 3 (.fix 41 [.int .i64 0])) 5 (.mp [] 0)) 6 (.fix 96 [d,e,.int .i64 1,.int .i64 0,.int .i64 (low:Nat),.int .i64 (low:Nat),.int .i64 (low:Nat),.int .i64 (pc:Nat),.int .i64 (ec:Nat),.int .i64 0,.mp 5,v,f,.nils])
theorem S44_get(d e v f:D)(low pc ec:Nat):sget (S44 d e v f low pc ec) 1=some (.fix 40 zl0)∧sget (S44 d e v f low pc ec) 2=some (.fix 4 [.int .i64 0])∧sget (S44 d e v f low pc ec) 3=some (.fix 41 [.int .i64 0])∧sget (S44 d e v f low pc ec) 5=some (.mp [] 0)∧sget (S44 d e v f low pc ec) 6=some (LkC.blk ⟨d,e,low,pc,5,v,f⟩ ⟨ec,0,[]⟩ .nils)∧mW (S44 d e v f low pc ec) 7:=by
 unfold S44;refine⟨?_,?_,?_,?_,?_,fun m hm=>?_⟩
 ·simp[aE];rfl
 ·simp[aE]
 ·simp[aE]
 ·simp[aE]
 ·simp[aE];rfl
 ·simp only[aO,aX];rw[aD (by omega),aD (by omega),aD (by omega),aD (by omega),aD (by omega),aD (by omega),aD (by omega),aD (by omega),aD (by omega)];exact dU m
structure LG (C:LkC) (p:Tl×Lk) (t:Tm) (s:St) (c:Nat):Prop where
 lf:LF t s c
 t14:tget t 14 = .ptr 6 0
 w:∃W,tget t 15 = .ptr W 0∧sget s W=some (.fix 37 (tlC p.1))∧7≤W∧W<c
 q:∃q,sget s 6=some (C.blk p.2 q)
 m:sget s 5=some (.mp (mpE 0 p.2.lm) p.2.lm.length)
theorem h13_ok(h:Lt ss us d e)(hE:uU vs fs v f)(h22:cl n 22 [.agg [d,e,v,f]]=some (.int .i64 0,true))(hp:pc<us.length)(he:ec<us.length)(hx:Sl 7 bU x dx){a:Int}(h42:cl n 42 [dx]=some (e2 a 0,true)){low:Nat}(h43:cl n 43 [.agg [d,e]]=some (e2 low 0,true)){r:Lo (Tl×Lk)}
  (h44:jP ⟨d,e,low,pc,5,v,f⟩ 6 r (fn (n+1) 4096 (.fn 44) [.ptr 6 0,dx] (S44 d e v f low pc ec) 7) (S44 d e v f low pc ec) 7) :
  match r with
  | .bad a b=>∃t s c,zC H13 (cxn (n+1)) (fn (n+1) 4096) KK (start [.agg [d,e,v,f],.int .i64 (pc:Nat),.int .i64 (ec:Nat),dx] st0 0) = .ok (.pan (iZ a b)) ⟨t,s,c,D13,none⟩∧LF t s c
  | .ok p=>∃t s c,zC H13 (cxn (n+1)) (fn (n+1) 4096) KK (start [.agg [d,e,v,f],.int .i64 (pc:Nat),.int .i64 (ec:Nat),dx] st0 0) = .ok .normal ⟨t,s,c,D13,none⟩∧LG ⟨d,e,low,pc,5,v,f⟩ p t s c:=by
 have ld:=h.d.len;rw[←h.l]at ld;have i0:kF 1 (.ms 4 0 1 2 2) (.int .i64 0)=some (.ptr 4 0):=rfl;have i1:kF 1 (.ms 4 0 1 2 2) (.int .i64 1)=some (.ptr 4 1):=rfl;have l2:lenD false (.ms 4 0 1 2 2)=some 2:=rfl;have w1:dL .i64 (0+1)=1:=rfl;have w2:dL .i64 (1+1)=2:=rfl;have p1:decide (((pc:Nat):Int)<0)=false:=aK (by omega)
 have p2:decide (((us.length:Nat):Int)≤(pc:Nat))=false:=aK (by omega)
 have p3:decide (((ec:Nat):Int)<0)=false:=aK (by omega)
 have p4:decide (((us.length:Nat):Int)≤(ec:Nat))=false:=aK (by omega)
 obtain⟨g1,g2,g3,g5,g6,gf⟩:=S44_get d e v f low pc ec;have hS:S44 d e v f low pc ec=_:=rfl;rw[S44]at hS;simp only[H13,Lk1,Lk2,Lk3,Lk4,Lk5,Lk6,Lk7,Lk8,Lk9,Lk10,Ab.abq];unfold e2 at h42 h43;cases r with
 | bad b1 b2=>
  obtain⟨s',c',h6,hB⟩:=h44;rw[S44]at h6
  simp only[z0,↓reduceIte,Nat.reduceEqDiff,Nat.reduceAdd,Nat.reduceLeDiff,reduceCtorEq,h.d.nag,h.e.nag,hE.v.nag,hE.f.nag,h.d.fz,h.e.fz,hE.v.fz,hE.f.fz,iI h.d.nag,iI h.e.nag,iI hE.v.nag,iI hE.f.nag,show(D.mp 5).cells?=some [.mp 5]from rfl,hx.fz,aF (f:=22) rfl,aF (f:=42) rfl,aF (f:=43) rfl,aR,iR,h22,h42,h43,eV,l2,show((2:Nat):Int)=2 from rfl,show decide ((0:Int)<2)=true from rfl,show decide ((1:Int)<2)=true from rfl,show decide ((2:Int)<2)=false from rfl,zun,i0,i1,p1,p2,p3,p4,ld,w1,w2,h6]
  refine⟨_,s',c',rfl,?_,?_,?_,by rw[hB.old 1 (by decide) (by decide) (by show(1:Nat)≠5;decide),g1],by rw[hB.old 2 (by decide) (by decide) (by show(2:Nat)≠5;decide),g2],⟨0,by rw[hB.old 3 (by decide) (by decide) (by show(3:Nat)≠5;decide),g3]⟩,hB.fr,by have:=hB.le;omega⟩
  all_goals simp[aE]
 | ok p=>
  obtain⟨s',c',q',h6,hC⟩:=h44;rw[S44]at h6;have hle:=hC.le;have e5:(5=c')=False:=aM (by omega)
  unfold tlC tyC tl at h6
  simp only[z0,↓reduceIte,Nat.reduceEqDiff,Nat.reduceAdd,Nat.reduceLeDiff,reduceCtorEq,h.d.nag,h.e.nag,hE.v.nag,hE.f.nag,h.d.fz,h.e.fz,hE.v.fz,hE.f.fz,iI h.d.nag,iI h.e.nag,iI hE.v.nag,iI hE.f.nag,show(D.mp 5).cells?=some [.mp 5]from rfl,hx.fz,aF (f:=22) rfl,aF (f:=42) rfl,aF (f:=43) rfl,aR,iR,h22,h42,h43,eV,l2,show((2:Nat):Int)=2 from rfl,show decide ((0:Int)<2)=true from rfl,show decide ((1:Int)<2)=true from rfl,show decide ((2:Int)<2)=false from rfl,zun,i0,i1,p1,p2,p3,p4,ld,w1,w2,h6]
  have o:∀(b b':Blk) m,m<7→sget (sset (sadd s' c' b) c' b') m=sget s' m:=fun b b' m hm=>by rw[aO,aD (by omega),aX,aD (by omega)]
  refine⟨_,_,_,rfl,⟨?_,?_,?_,by rw[o _ _ 1 (by decide),hC.old 1 (by decide) (by decide) (by show(1:Nat)≠5;decide),g1],by rw[o _ _ 2 (by decide),hC.old 2 (by decide) (by decide) (by show(2:Nat)≠5;decide),g2],⟨0,by rw[o _ _ 3 (by decide),hC.old 3 (by decide) (by decide) (by show(3:Nat)≠5;decide),g3]⟩,fun m hm=>?_,?_⟩,?_,⟨c',?_,?_,hle,Nat.lt_succ_self _⟩,⟨q',by rw[o _ _ 6 (by decide),hC.hK]⟩,by rw[o _ _ 5 (by decide)];exact hC.hM⟩
  ·simp[aE]
  ·simp[aE]
  ·simp[aE]
  ·have hm':c'+1≤m:=hm;rw[aO,aD (by omega),aX,aD (by omega)];exact hC.fr m (by omega)
  ·show 4≤c'+1;omega
  ·simp[aE]
  ·simp[aE]
  ·rw[aO,aH rfl];rfl
end
def nD(e:rL):Int×Int:=match e with|(.int _ a,.int _ b,_)=>(a,b)|_=>(0,0)
theorem pairM_mpE:∀(l:List (Int×Int)) (k:Nat),(mpE k l).map nD=l
 | [],_=>rfl
 | p::r,k=>by simp only[mpE,bO,pairM_mpE r];rfl
theorem mpE_form:∀(l:List (Int×Int)) (k:Nat),∀e∈mpE k l,e=(.int .i64 (nD e).1,.int .i64 (nD e).2,e.2.2)
 | [],_,e,h=>by simp[mpE]at h
 | p::r,k,e,h=>by
  simp only[mpE,bJ]at h;rcases h with rfl|h
  ·rfl
  ·exact mpE_form r (k+1) e h
theorem born_filter:∀{es:List rL} {e:rL},(borns es).Nodup→e∈es→∃r,(es.filter fun x=>Nat.beq x.2.2 e.2.2)=e::r
 | [],e,_,h=>by simp at h
 | x::l,e,hn,h=>by
  simp only[borns,bO,List.nodup_cons]at hn;rcases bJ.1 h with rfl|h
  ·exact⟨_,by rw[List.filter_cons,fF];rfl⟩
  ·have hne:x.2.2≠e.2.2:=fun h'=>hn.1 (by rw[h'];exact List.mem_map_of_mem h)
   obtain⟨r,hr⟩:=born_filter hn.2 h;exact⟨r,by rw[List.filter_cons,iW hne];exact hr⟩
theorem en2_frz(p:Bool)(k:Nat)(s:St):∀(l:List (Int×Int)),(en2 l).mapM (frz p (k+1) s)=some (en2 l)
 | []=>rfl
 | q::r=>by simp only[en2,List.mapM_cons,en2_frz p k s r];rfl
theorem enc_site:EncG 2 uO:=⟨fun _=>rfl,by decide,fun _=>rfl,fun _ _ _ _=>rfl⟩
theorem vG:∀l:List (Int×Int),cY uO l=en2 l
 | []=>rfl
 | p::r=>by
  have:=vG r;unfold cY at this ⊢;rw[bO,eH,this];rfl
theorem sort_row{L:List (Int×Int)}{s:St}{c ty:Nat}(hs:sget s c=some (.grow ty (en2 L)))(hn:(L.map Prod.fst).Nodup)(hl:L.length<10000):sortSt s c 0 L.length=some (sset s c (.grow ty (en2 (eG L)))):=by
 unfold sortSt;rw[hs];simp only[dV,fO];rw[cW (by rw[nR];exact aJ _),en2_row]
 simp only;rw[aH ⟨hn,trivial,by omega⟩]
 have hll:(en2 L).length=(en2 (eG L)).length:=by rw[nR,nR,(iV L).length_eq]
 have:stB (.grow ty (en2 L)) 0 (en2 (eG L))=some (.grow ty (en2 (eG L))):=by
  simp only[stB,en2_nag,cA,bL,hll,Nat.ble_self_eq_true,aS];have:=qV [] (en2 L) (en2 (eG L)) hll;simpa using this
 rw[this];rfl
theorem zend13_ret(n:Nat){t:Tm}{s:St}{c:Nat}{A:AF}:zbody (dfn n MM) A (.ok .ret ⟨t,s,c,D13,none⟩)=match results A ⟨t,s,c,D13,none⟩ with|some d=>.ok (.ret d) s c|none=>.no:=by
 have h1:dfn n MM 40 [.ptr 2 0,.ptr 3 0] none s c=_:=caughtN n 4095 2 3 s c;show oU (dfn n MM) A none ⟨t,s,c,D13,none⟩=_;unfold oU D13;simp only[zDs,bX,dC,h1,settle];cases results A ⟨t,s,c,[(.fn (.func 40) [] [],[.ptr 2 0,.ptr 3 0])],none⟩<;>rfl
def lookR(p:Tl×Lk):D:=.tup [.agg [.int .i64 p.1.k,.int .i64 p.1.r,.int .i64 (p.1.x:Nat),.int .i64 (p.1.y:Nat),.int .i64 (p.1.z:Nat),.int .i64 (p.2.ec:Nat),.sl false p.2.lm.length (en2 (eG p.2.lm)),.int .i64 (p.2.lk:Nat)],.int .i64 0,.int .i64 0]
theorem t13(n:Nat)(C:LkC)(hM:C.M=5){p:Tl×Lk}(hk:(p.2.lm.map Prod.fst).Nodup)(hlen:p.2.lm.length<10000)(hne:p.2.lm≠[]){t:Tm}{s:St}{c:Nat}(h:LG C p t s c):
  mX (bC (cxn (n+1)) (fn (n+1) 4096) KK T13 ⟨t,s,c,D13,none⟩) (xS (n+1) (lookR p)):=by
 obtain⟨q,hq⟩:=h.q;obtain⟨W,t15,sW,hW7,hWc⟩:=h.w;have hm:=h.m;obtain⟨z,s3⟩:=h.lf.s3;unfold LkC.blk lrC at hq;rw[hM]at hq;simp only[T13,Ab.abq];rw[W_seq1 (by rfl) (by rfl)]
 simp only[Lk11,Ab.abq];simp only[z0,seval,oS];rw[W_seq (by rfl)]
 simp only[Lk12,Ab.abq];rw[W_seq1 (by rfl) (by rfl)]
 simp only[z0,seval,h.t14,hq,hm,dO,oS];rw[W_block (by rfl)]
 have hel:(mpE 0 p.2.lm).length=p.2.lm.length:=mpE_len p.2.lm 0;have hle:=h.lf.le;have hn5:(5:Nat)≠c:=by omega
 refine bmap (es:=mpE 0 p.2.lm) (c0:=p.2.lm.length) (nI:=c) (nM:=5) (by rfl) (by rw[hel];exact fM (by omega)) (mpE_lt p.2.lm) (mpE_nodup p.2.lm)
  (fun done t' s' c'=>c+1≤c'∧mW s' c'∧(∀m,m<c→sget s' m=sget s m)∧(∃v,tget t' 16=v∧lZ 2 uO (c+1) s' v (done.map nD))∧tget t' 8 = .ptr 1 0∧tget t' 9 = .ptr 2 0∧tget t' 10 = .ptr 3 0∧tget t' 14 = .ptr 6 0∧tget t' 15 = .ptr W 0) (by decide) (by simp[aE]) (by simp only[aE];rw[aD hn5];exact hm) (by simp[aE]) (by omega) ⟨aJ _,fun m hm=>by rw[aX,aD (by omega)];exact h.lf.fr m (by omega),fun m hm=>by rw[aX,aD (by omega)],⟨.nils,by simp[aE],.inl ⟨rfl,rfl⟩⟩,?_,?_,?_,?_,?_⟩ ?_ ?_
 ·simp[aE,h.lf.t8]
 ·simp[aE,h.lf.t9]
 ·simp[aE,h.lf.t10]
 ·simp[aE,h.t14]
 ·simp[aE,t15]
 ·rintro done e t' s' c' ⟨hc',hf',ho',⟨v,q16,hv⟩,q8,q9,q10,q14,q15⟩ he hsub hnd hd1 hti hsM hsI;rw[hel]at hd1;obtain⟨rr,hf⟩:=born_filter (mpE_nodup p.2.lm) he;have hform:=mpE_form p.2.lm 0 e he;have hgl:(borns (done++[e])).getLast?=some e.2.2:=by simp[borns]
  have hI2:∀{b:Blk},sget (sset s' c b) 5=some (.mp (mpE 0 p.2.lm) p.2.lm.length):=by intro b;rw[aO,aD hn5];exact hsM
  have hf2:((mpE 0 p.2.lm).filter fun x=>Nat.beq x.2.2 e.2.2)=(.int .i64 (nD e).1,.int .i64 (nD e).2,e.2.2)::rr:=by rw[hf];exact congrArg (· :: rr) hform
  have hbd:(fun x:rL=>Nat.beq x.2.2 e.2.2)=fun x=>decide (x.2.2=e.2.2):=by funext x;rw[cZ];simp[Nat.beq_eq]
  rw[hbd]at hf2;have hcc:(c=c')=False:=aM (by omega)
  simp only[z1,seval,hti,q16,hsM,hsI,hI2,hgl,hf2,fF,show(c=5)=False from aM (by omega),show(5=c)=False from aM (by omega),show(5=c')=False from aM (by omega),hcc]
  generalize hA:nS _ 2 16 50 v _=Z;obtain⟨S,hS⟩:∃S,S=sadd (sset s' c (.mit (some 5) p.2.lm.length (borns (done++[e])) p.2.lm.length)) c' (.fix 0 [.int .i64 (nD e).1,.int .i64 (nD e).2]):=⟨_,rfl⟩
  have gS:∀m,m≠c→m≠c'→sget S m=sget s' m:=fun m h1 h2=>by rw[hS,aX,aD h2,aO,aD h1]
  rw[←hS]at hA;obtain⟨v',s2,k2,hZ,hv2,hk2,ho2,hf3⟩:=own_appG enc_site (B:=c+1) (l:=done.map nD) (l':=[nD e]) (by decide) hA (hv.keep fun m b hm hb=>by rw[gS m (by omega) (fun e=>by rw[e,hf' c' (aJ _)]at hb;cases hb),hb]) (by simp only[dA,hS,aX,aH];rfl) (by simp only[eY,List.length_singleton];omega) (by show c+1≤c'+1;omega) (fun m hm=>by
   have hm':c'+1≤m:=hm;show sget S m=none;rw[gS m (by omega) (by omega)];exact hf' m (by omega))
  have hk2':c'+1≤k2:=hk2;subst hZ;simp only[z1,seval];have g5:sget s2 5=some (.mp (mpE 0 p.2.lm) p.2.lm.length):=by rw[ho2 5 (by omega)];show sget S 5=_;rw[gS 5 (by omega) (by omega),hsM]
  have gc:sget s2 c=some (.mit (some 5) p.2.lm.length (borns (done++[e])) p.2.lm.length):=by rw[ho2 c (by omega)];show sget S c=_;rw[hS,aX,aD (by omega),aO,aH rfl]
  refine⟨trivial,trivial,hti,g5,gc,by omega,hf3,fun m hm=>?_,⟨v',rfl,by rw[List.map_append];exact hv2⟩,q8,q9,q10,q14,q15⟩
  rw[ho2 m (by omega)];show sget S m=_;rw[gS m (by omega) (by omega),ho' m hm]
 ·rintro done t' s' c' ⟨hc',hf',ho',⟨v,q16,hv⟩,q8,q9,q10,q14,q15⟩ hperm hti hsM;have hL:(done.map nD).Perm p.2.lm:=by have:=hperm.map nD;rwa [pairM_mpE]at this
  have hdl:(done.map nD).length=p.2.lm.length:=hL.length_eq;have hk2:((done.map nD).map Prod.fst).Nodup:=(hL.map Prod.fst).nodup_iff.2 hk;have hsp:eG (done.map nD)=eG p.2.lm:=asc_unique (tT hk2) (tT hk) ((iV _).trans (hL.trans (iV p.2.lm).symm));have hd0:done.map nD≠[]:=by intro e;rw[e]at hdl;exact hne (List.length_eq_zero_iff.1 hdl.symm)
  rcases hv with⟨_,e⟩|⟨m,_,_,_,e⟩|⟨V,ty,hV,rfl,hs,_⟩
  ·exact absurd e hd0
  ·exact absurd e hd0
  rw[vG]at hs;have hss:=sort_row hs hk2 (by omega)
  rw[hsp,hdl]at hss;rw[hdl]at q16;obtain⟨k,hkk⟩:∃k,p.2.lm.length=k+1:=⟨p.2.lm.length-1,by cases hl:p.2.lm with
   | nil=>exact absurd hl hne
   | cons a r=>simp⟩
  have hVc:V<c':=gP fun hh=>by rw[hf' V hh]at hs;cases hs
  simp only[eW,↓reduceIte,oS];rw[W_plain (by rfl)]
  unfold Lk13 Lk14 xS;rw[hkk]at q16 hss;have h6:sget s' 6=_:=(ho' 6 (by omega)).trans hq
  have h1:sget s' 1=_:=(ho' 1 (by omega)).trans h.lf.s1
  have h2:sget s' 2=_:=(ho' 2 (by omega)).trans h.lf.s2
  have h3:sget s' 3=_:=(ho' 3 (by omega)).trans s3
  have hW:sget s' W=_:=(ho' W hWc).trans sW;unfold zl0 at h1;unfold tlC tyC tl at hW;have v1:(1=V)=False:=aM (by omega)
  have v2:(2=V)=False:=aM (by omega)
  have v3:(3=V)=False:=aM (by omega)
  have v6:(6=V)=False:=aM (by omega)
  have vW:(W=V)=False:=aM (by omega)
  have w1:(1=W)=False:=aM (by omega)
  have w2:(W=1)=False:=aM (by omega)
  have w3:(W=2)=False:=aM (by omega)
  have w4:(W=3)=False:=aM (by omega)
  simp only[z0,seval,q16,fn_spec (f:=45) (g:=spSort 46) rfl rfl,spSort,own2,hss,q8,q9,q10,q14,q15,h6,h1,h2,h3,hW,v1,v2,v3,v6,vW,w1,w2,w3,w4,eJ,cV,AOp.kd,zop,tks,cD,eA,dO,aT,bP];rw[zend13_ret];generalize hS9:sset (sset (sset _ _ _) _ _) _ _=S9;have u1:(V=1)=False:=aM (by omega)
  have u2:(V=2)=False:=aM (by omega)
  have u3:(V=3)=False:=aM (by omega)
  have hSV:sget S9 V=some (.grow ty (en2 (eG p.2.lm))):=by rw[←hS9];simp only[z0,seval,u1,u2,u3]
  have hS1:sget S9 1=some (.fix 40 [.int .i64 p.1.k,.int .i64 p.1.r,.int .i64 (p.1.x:Nat),.int .i64 (p.1.y:Nat),.int .i64 (p.1.z:Nat),.int .i64 (p.2.ec:Nat),.gs V 0 2 (k+1),.int .i64 (p.2.lk:Nat)]):=by rw[←hS9];simp only[z0,seval]
  have hS2:sget S9 2=some (.fix 4 [.int .i64 0]):=by rw[←hS9];simp only[z0,seval]
  have hS3:sget S9 3=some (.fix 41 [.int .i64 0]):=by rw[←hS9];simp only[z0,seval]
  simp only[z0,seval,A13,q8,q9,q10,hS1,hS2,hS3];have hpl:(en2 (eG p.2.lm)).length=2*(k+1):=by rw[nR,(iV p.2.lm).length_eq,hkk]
  have hfz:∀j,frz true (j+2) S9 (.gs V 0 2 (k+1))=some (.sl false (k+1) (en2 (eG p.2.lm))):=fun j=>by
   rw[rF,hSV];simp only[bL,fO];rw[cE (by rw[hpl];omega),aS,cW (by rw[hpl];omega),en2_frz]
   rfl
  have h20:frz true 20 S9 (.tup [.agg [.int .i64 p.1.k,.int .i64 p.1.r,.int .i64 (p.1.x:Nat),.int .i64 (p.1.y:Nat),.int .i64 (p.1.z:Nat),.int .i64 (p.2.ec:Nat),.gs V 0 2 (k+1),.int .i64 (p.2.lk:Nat)],.int .i64 0,.int .i64 0])=some (lookR p):=by
   rw[show(20:Nat)=16+2+1+1 from rfl]
   unfold lookR;rw[hkk];simp only[aR,hfz,aN,bI]
  unfold pout;simp only[h20]
theorem exD_form(l:List Nd):∃x y,exD l=e2 x y:=by
 unfold exD;split
 ·exact⟨_,_,rfl⟩
 split
 ·exact⟨_,_,rfl⟩
 rcases eO (jZ l) (scan (lD l) (nX l) l.length 0) l.length 0 with⟨_,h2⟩|⟨j,r,_,_,h3,_,h4⟩
 ·rw[h2];rcases eO (lD l) (nX l) l.length 0 with⟨_,g2⟩|⟨j,r,_,_,g3,_,g4⟩
  ·rw[g2];unfold nX
   repeat' split
   all_goals exact⟨_,_,rfl⟩
  ·rw[g4];unfold lD at g3
   repeat' split at g3
   all_goals first|(cases g3;exact⟨_,_,rfl⟩)|cases g3
 ·rw[h4];unfold jZ at h3
  repeat' split at h3
  all_goals first|(cases h3;exact⟨_,_,rfl⟩)|cases h3
theorem exE_ok{l:List Nd}(h:exE l=0):XOk l:=by
 obtain⟨x,y,e⟩:=exD_form l;rw[exE_eq e]at h;exact⟨x,by rw[e,h]⟩
structure EnvG (us:List Nat) (vs:List Vr) (fs:List Fd):Prop where
 vl:vs.length≤32
 fl:fs.length≤16
 vt:∀x∈vs,tyE us (jK us) x.ty=0
 vn:∀(i:Nat) (h:i<vs.length),iP vs[i].name=true∧vs[i].name∉(vs.take i).map Vr.name
 fb:∀g∈fs,XOk g.body
theorem env_ok{us:List Nat}{vs:List Vr}{fs:List Fd}(h:envE us vs fs=0):EnvG us vs fs:=by
 unfold envE at h;split at h
 ·cases h
 rename_i hl;have nm:∀{s:List UInt8} {L:List (List UInt8)},oA s L=0→iP s=true∧s∉L:=fun {s L} hs=>by
  unfold oA at hs;split at hs
  ·rename_i h1;split at hs
   ·cases hs
   ·exact⟨h1,by assumption⟩
  ·cases hs
 rcases eO (vP us vs) (scan (dfP vs fs) 0 fs.length 0) vs.length 0 with⟨h1,h2⟩|⟨j,r,_,hj,h3,_,h4⟩
 ·rw[h2]at h;have hv:∀(i:Nat) (hi:i<vs.length),tyE us (jK us) vs[i].ty=0∧iP vs[i].name=true∧vs[i].name∉(vs.take i).map Vr.name:=fun i hi=>by
   have:=h1 i (dB _) (by omega)
   rw[vP,aI hi]at this;simp only at this;split at this
   ·rename_i hn;split at this
    ·exact⟨by assumption,nm hn⟩
    ·cases this
   ·cases this
  rcases eO (dfP vs fs) 0 fs.length 0 with⟨g1,g2⟩|⟨j,r,_,hj,g3,_,g4⟩
  ·refine⟨by omega,by omega,fun x hx=>?_,fun i hi=>(hv i hi).2,fun g hg=>?_⟩
   ·obtain⟨i,hi,rfl⟩:=fA hx;exact(hv i hi).1
   ·obtain⟨i,hi,rfl⟩:=fA hg;have:=g1 i (dB _) (by omega)
    rw[dfP,aI hi]at this;simp only at this;split at this
    ·split at this
     ·rename_i hd;unfold defE at hd;split at hd
      ·split at hd
       ·split at hd
        ·cases hd
        ·exact exE_ok hd
       ·cases hd
      ·cases hd
     ·cases this
    ·cases this
  ·rw[g4]at h;subst h;have hj':j<fs.length:=by omega
   rw[dfP,aI hj']at g3;simp only at g3;split at g3
   ·split at g3
    ·cases g3
    ·rename_i hne;exact absurd (Option.some.inj g3) hne
   ·rename_i hne;exact absurd (Option.some.inj g3) hne
 ·rw[h4]at h;subst h;have hj':j<vs.length:=by omega
  rw[vP,aI hj']at h3;simp only at h3;split at h3
  ·split at h3
   ·cases h3
   ·rename_i hne;exact absurd (Option.some.inj h3) hne
  ·rename_i hne;exact absurd (Option.some.inj h3) hne
def lookD(n:Nat)(d e:D)(us:List Nat)(low:Nat)(vs:List Vr)(fs:List Fd)(pc ec:Int)(x:List Nd):D:=
 if ¬((0≤pc∧pc<us.length)∧0≤ec∧ec<us.length) then .tup [.agg zl0,.int .i64 0,.int .i64 7]
 else if exE x≠0 then .tup [.agg zl0,.int .i64 0,.int .i64 (exE x)]
 else match uF ⟨us,low,pc.toNat,RDl n d e⟩ (fs.length+1) fs vs x ⟨ec.toNat,0,[]⟩ with
  | .ok p=>lookR p
  | .bad a b=>.tup [.agg zl0,.int .i64 a,.int .i64 b]
section
variable (n:Nat) {ss:List (List UInt8)} {us:List Nat} {d e v f dx:D} {vs:List Vr} {fs:List Fd} {x:List Nd} (pc ec:Int)
theorem c13e(hd:Sl 1 iA ss d)(he:Sl 1 u8C us e)(hE:uU vs fs v f){er:Int}(h22:cl n 22 [.agg [d,e,v,f]]=some (.int .i64 er,true))(h0:er≠0):cl (n+1) 13 [.agg [d,e,v,f],.int .i64 pc,.int .i64 ec,dx]=some (.tup [.agg zl0,.int .i64 0,.int .i64 er],true):=by
 refine pU (A:=A13) rfl rfl (n+1) _ rfl fun r hr=>?_
 refine(W_h13 (Q:=xS (n+1) (.tup [.agg zl0,.int .i64 0,.int .i64 er])) ?_) r hr;obtain⟨t,s,c,hz,hL⟩:=h13_env n (dx:=dx) pc ec ⟨hd.nag,hd.fz⟩ ⟨he.nag,he.fz⟩ ⟨hE.v.nag,hE.v.fz⟩ ⟨hE.f.nag,hE.f.fz⟩ h22 h0;rw[hz];exact uB (n+1) 0 er hL
theorem c13(h:Lt ss us d e)(hE:uU vs fs v f)(henv:envE us vs fs=0){low:Nat}(hlow:jK us=low)(hll:low<us.length)(hlb:∀i,i<us.length→(uM us low).testBit i=true)(hx:Sl 7 bU x dx)(hxl:x.length<4294967296)(hN:x.length≤400→NdOk x):
  cl (n+13) 13 [.agg [d,e,v,f],.int .i64 pc,.int .i64 ec,dx]=some (lookD n d e us low vs fs pc ec x,true):=by
 have h22:=c22 n h.d h.e h.u h.s h.c hE;rw[henv]at h22;have hG:=env_ok henv;have h42:=c42 (n+1) hx hxl hN;have h43:=c43 (n+5) h.d h.e h.u h.s h.c h.l h.h1 h.h8;obtain⟨b,hb,hb1,hb2,_⟩:=wU h.c;rw[hb2]at h43;have hbl:b=low:=by rw[hlow]at hb1;omega
 rw[hbl]at h43;obtain⟨xa,xe,hxD⟩:=exD_form x;rw[hxD]at h42;have hxe:=exE_eq hxD;unfold lookD;by_cases hr:¬((0≤pc∧pc<us.length)∧0≤ec∧ec<us.length)
 ·rw[aH hr];refine pU (A:=A13) rfl rfl (n+13) _ rfl fun r hr'=>?_
  refine(W_h13 (Q:=xS (n+13) (.tup [.agg zl0,.int .i64 0,.int .i64 7])) ?_) r hr';obtain⟨t,s,c,hz,hL⟩:=h13_rng (n+12) (dx:=dx) pc ec h hE h22 hr;rw[hz];exact uB (n+13) 0 7 hL
 rw[aD hr];obtain⟨⟨p1,p2⟩,p3,p4⟩:=Decidable.not_not.1 hr;obtain⟨pc,rfl⟩:∃k:Nat,pc=k:=⟨pc.toNat,by omega⟩
 obtain⟨ec,rfl⟩:∃k:Nat,ec=k:=⟨ec.toNat,by omega⟩
 rw[cQ,cQ];by_cases h0:exE x≠0
 ·rw[aH h0];refine pU (A:=A13) rfl rfl (n+13) _ rfl fun r hr'=>?_
  refine(W_h13 (Q:=xS (n+13) (.tup [.agg zl0,.int .i64 0,.int .i64 (exE x)])) ?_) r hr';rw[hxe]at h0 ⊢;obtain⟨t,s,c,hz,hL⟩:=h13_exp (n+12) pc ec h hE h22 (by omega) (by omega) hx h42 h0
  rw[hz];exact uB (n+13) 0 xe hL
 rw[aD h0];have hx0:exE x=0:=Decidable.not_not.1 h0;have hxo:=exE_ok hx0;rw[hxe]at hx0;rw[hx0]at h42;obtain⟨g1,g2,g3,g5,g6,gf⟩:=S44_get d e v f low pc ec;have hEO:EOk (EC n us ⟨d,e,low,pc,5,v,f⟩) ss d e:=⟨h,hlow,hll,hlb,by show pc<us.length;omega,fun p ts hl hg h0=>by
  obtain⟨t,w,c,er,e1,e2,e3⟩:=rd_ok n h p hl hg;have e1':(EC n us ⟨d,e,low,pc,5,v,f⟩).R p ts=(t,w,c,er):=e1;rw[e1']at h0 ⊢;exact e3 h0⟩
 have hxle:=hxo.ex.le;have hfo:∀g∈fs,FdOk g:=hE.fo
 have hlk:SG us (⟨ec,0,[]⟩:Lk):=⟨by show ec<us.length;omega,nofun,dB _⟩
 have hfl:=hG.fl;have h44:=f44 n (M:=5) (fs.length+1) 4096 (by omega) v f hEO fs (by omega) (by omega) hE.f hfo hG.fb vs x dx hx (hN hxle) hxo ⟨ec,0,[]⟩ .nils (S44 d e v f low pc ec) 7 6 hlk ⟨hE.v.nag,⟨v,hE.v,fun s2 _ k=>hE.v.fz (k+1) s2⟩,hE.vl,hG.vt⟩ g6 rfl g5 (by decide) (by decide) gf
 change jP _ 6 (uF ⟨us,low,pc,RDl n d e⟩ (fs.length+1) fs vs x ⟨ec,0,[]⟩) _ _ _ at h44;generalize hr2:uF ⟨us,low,pc,RDl n d e⟩ (fs.length+1) fs vs x ⟨ec,0,[]⟩=r2 at h44 ⊢;have hok:=h13_ok (n+12) pc ec h hE h22 (by omega) (by omega) hx h42 h43 h44
 cases r2 with
 | bad a b=>
  refine pU (A:=A13) rfl rfl (n+13) _ rfl fun r hr'=>?_
  refine(W_h13 (Q:=xS (n+13) (.tup [.agg zl0,.int .i64 a,.int .i64 b])) ?_) r hr';obtain⟨t,s,c,hz,hL⟩:=hok;rw[hz];exact uB (n+13) a b hL
 | ok p=>
  refine pU (A:=A13) rfl rfl (n+13) _ rfl fun r hr'=>?_
  refine(W_h13 (Q:=xS (n+13) (lookR p)) ?_) r hr';obtain⟨t,s,c,hz,hL⟩:=hok;rw[hz];have hgb:∀g∈fs,rM g.body:=fun g hg=>(hG.fb g hg).ex
  have hkp:=wV (kp_pres _) kp_tick (fs.length+1) fs hgb vs x _ p hxo.ex (kp_tick ⟨ec,0,[]⟩ ⟨List.nodup_nil,aJ _⟩) hr2;have hne:=wV (ne_pres _) (fun _ _=>trivial) (fs.length+1) fs hgb vs x _ p hxo.ex trivial hr2
  have hlk2:=(wW hEO (fs.length+1) fs hgb).2 vs x _ p hxo.ex hG.vt hlk hr2;exact t13 (n+12) _ rfl hkp.1 (by have:=hkp.2;have:=hlk2.2.lk;omega) hne hL
end
section
variable (n:Nat) {ss:List (List UInt8)} {us:List Nat} {d e:D} (h:Lt ss us d e) {a b:Nat} (ha:a<us.length) (hb:b<us.length)
include h ha hb
theorem c50:cl (n+4) 50 [.agg [d,e],.int .i64 (a:Nat),.int .i64 (b:Nat)]=some (.int .i64 0,true):=by
 rw[cN (A:=A50) rfl (n+4) _ rfl,show A50.body=B50 from rfl]
 simp only[B50,Ab.abq];have h54:=c54 n h.d h.e h.u h.s;rw[h.c]at h54;unfold e2 at h54;have ld:=h.d.len;rw[←h.l]at ld;have p1:decide (((a:Nat):Int)<0)=false:=aK (by omega)
 have p2:decide (((us.length:Nat):Int)≤(a:Nat))=false:=aK (by omega)
 have p3:decide (((b:Nat):Int)<0)=false:=aK (by omega)
 have p4:decide (((us.length:Nat):Int)≤(b:Nat))=false:=aK (by omega)
 simp only[z0,seval,h.d.nag,h.e.nag,h.d.fz,h.e.fz,aF (f:=54) rfl,aR,h54,ld,p1,p2,p3,p4,aW,A50];rfl
theorem c53:cl (n+2) 53 [.agg [d,e],.int .i64 (a:Nat),.int .i64 (b:Nat)]=some (.int .i64 (J us a b:Nat),true):=by
 rw[cN (A:=A53) rfl (n+2) _ rfl,show A53.body=B53 from rfl]
 simp only[B53,Ab.abq];have h52:=c52 (n+1) h.e h.u (by have:=h.h8;have:=h.l;omega) ha hb
 rw[(h.j ha hb).1]at h52;simp only[z0,seval,h.d.nag,h.e.nag,h.d.fz,h.e.fz,aF (f:=52) rfl,aR,h52,A53];rfl
theorem c17:cl (n+5) 17 [.agg [d,e],.int .i64 (a:Nat),.int .i64 (b:Nat)]=some (e2 (J us a b:Nat) 0,true):=by
 rw[cN (A:=A17) rfl (n+5) _ rfl,show A17.body=B17 from rfl]
 simp only[B17,Ab.abq];have h50:=c50 n h ha hb;have h53:=c53 (n+2) h ha hb;simp only[z0,seval,h.d.nag,h.e.nag,h.d.fz,h.e.fz,aF (f:=50) rfl,aF (f:=53) rfl,aR,h50,h53,show decide ((0:Int)≠0)=false from rfl,A17]
 rfl
end
inductive oJ {α:Type} (T:α→α→Prop):List α→List α→Prop
 | nil:oJ T [] []
 | cons {a b:α} {l m:List α}:T a b→oJ T l m→oJ T (a::l) (b::m)
theorem oJ.len{α:Type}{T:α→α→Prop}:∀{l m:List α},oJ T l m→l.length=m.length
 | _,_,.nil=>rfl
 | _,_,.cons _ h=>by simp[h.len]
theorem oJ.take{α:Type}{T:α→α→Prop}:∀{l m:List α},oJ T l m→∀n,oJ T (l.take n) (m.take n)∧oJ T (l.drop n) (m.drop n)
 | _,_,.nil,n=>by simp only[List.take_nil,List.drop_nil];exact⟨.nil,.nil⟩
 | _,_,.cons h h',0=>⟨.nil,.cons h h'⟩
 | _,_,.cons h h',n+1=>⟨.cons h (h'.take n).1,(h'.take n).2⟩
def VRl(T:Tl→Tl→Prop)(a b:Vr):Prop:=a.name=b.name∧T (toT a.ty) (toT b.ty)
theorem toT_tl(t:Tl):toT (tl t)=t:=by cases t;simp[toT,tl]
theorem zip_rel{T:Tl→Tl→Prop}:∀{ts us:List Tl} (ps:List (List UInt8)),oJ T ts us→oJ (VRl T) (oT ps ts) (oT ps us)
 | _,_,[],_=>.nil
 | _,_,_::_,.nil=>.nil
 | _,_,_::ps,.cons h h'=>.cons ⟨rfl,by rw[toT_tl,toT_tl];exact h⟩ (zip_rel ps h')
theorem vfd_rel{T:Tl→Tl→Prop}(s:List UInt8):∀{vs ws:List Vr},oJ (VRl T) vs ws→match vs.find? (fun v=>decide (v.name=s)) with
  | none=>True
  | some a=>∃b,ws.find? (fun v=>decide (v.name=s))=some b∧VRl T a b
 | _,_,.nil=>trivial
 | a::l,b::m,.cons h h'=>by
  have ih:=vfd_rel s h';rw[List.find?_cons,List.find?_cons,←h.1];cases hd:decide (a.name=s) with
  | true=>exact⟨b,rfl,h⟩
  | false=>exact ih
structure Rel2 (E F:LEn) (T:Tl→Tl→Prop) (S S':Lk→Lk→Prop):Prop where
 tick:∀s t,S s t→s.lk=t.lk∧S' s.tick t.tick
 mark:∀s t x,S' s t→S (s.mark E x) (t.mark F x)
 num:∀k r:Int,(k=1∨k=2)→(r=0∨r=1)→T ⟨k,r,E.low,E.low,E.low⟩ ⟨k,r,F.low,F.low,F.low⟩
 prim:∀x ts us s t p,oJ T ts us→(ts.length=1∨ts.length=2)→S' s t→nC E x ts s = .ok p→∃q,nC F x us t = .ok q∧T p.1 q.1∧S' p.2 q.2
def Ok2{α:Type}(R:α→α→Prop)(a b:Lo α):Prop:=∀p,a = .ok p→∃q,b = .ok q∧R p q
section
variable {E F:LEn} {T:Tl→Tl→Prop} {S S':Lk→Lk→Prop} (h:Rel2 E F T S S')
include h
def CalR(T:Tl→Tl→Prop)(S:Lk→Lk→Prop)(c c':Nat→List Vr→Lk→Lo (Tl×Lk)):Prop:=∀i vs ws s t,oJ (VRl T) vs ws→S s t→Ok2 (fun p q=>T p.1 q.1∧S p.2 q.2) (c i vs s) (c' i ws t)
theorem node_rel{c c':Nat→List Vr→Lk→Lo (Tl×Lk)}(hc:CalR T S c c'){fs:List Fd}{vs ws:List Vr}(hv:oJ (VRl T) vs ws){x:Nd}(hx:oR x)(hk:1≤x.kind∧x.kind≤6){st su:List Tl}(hst:oJ T st su)(hop:opN x≤st.length){s t:Lk}(hl:s.lk=t.lk)(hs:S' s.tick t.tick):
  Ok2 (fun p q=>oJ T p.1 q.1∧p.1.length=st.length-opN x+1∧S p.2 q.2) (mS E c fs vs x st s) (mS F c' fs ws x su t):=by
 intro p hp;unfold mS at hp ⊢;rw[←hl];split at hp
 ·cases hp
 rename_i hb;rw[aD hb];obtain⟨h1,h2⟩:=hst.take (opN x);have hargs:x.kind=5∨x.kind=6→(st.take (opN x)).length=1∨(st.take (opN x)).length=2:=fun h56=>by
  have hkk:=hx.kp h56;have:opN x=x.kids.toNat:=by unfold opN fH;rw[aH h56]
  rw[dI];omega
 generalize st.take (opN x)=ts at *;generalize su.take (opN x)=us at *;cases hq:rQ E c fs vs x ts s.tick with
 | bad a e=>rw[hq]at hp;cases hp
 | ok q=>
  rw[hq]at hp;cases hp;have key:∃q',rQ F c' fs ws x us t.tick = .ok q'∧T q.1 q'.1∧(if x.kind=6 then S q.2 q'.2 else S' q.2 q'.2):=by
   unfold rQ at hq ⊢;by_cases k1:x.kind=1
   ·rw[aH k1]at hq ⊢;cases hq;exact⟨_,rfl,h.num 1 0 (.inl rfl) (.inl rfl),by rw[aD (by omega)];exact hs⟩
   rw[aD k1]at hq ⊢;by_cases k3:x.kind=3
   ·rw[aH k3]at hq ⊢;cases hq;exact⟨_,rfl,h.num 1 1 (.inl rfl) (.inr rfl),by rw[aD (by omega)];exact hs⟩
   rw[aD k3]at hq ⊢;by_cases k2:x.kind=2
   ·rw[aH k2]at hq ⊢;cases hq;exact⟨_,rfl,h.num 2 1 (.inr rfl) (.inr rfl),by rw[aD (by omega)];exact hs⟩
   rw[aD k2]at hq ⊢;by_cases k4:x.kind=4
   ·rw[aH k4]at hq ⊢;have hf:=vfd_rel x.name hv;unfold nameM at hq ⊢;split at hq
    ·cases hq
    ·rename_i a ha;cases hq;rw[ha]at hf;obtain⟨b,hb,hab⟩:=hf;rw[hb];exact⟨_,rfl,hab.2,by rw[aD (by omega)];exact hs⟩
   rw[aD k4]at hq ⊢;by_cases k5:x.kind=5
   ·rw[aH k5]at hq ⊢;obtain⟨q',g1,g2,g3⟩:=h.prim x ts us _ _ q h1 (hargs (.inl k5)) hs hq;exact⟨q',g1,g2,by rw[aD (by omega)];exact g3⟩
   rw[aD k5]at hq ⊢;have k6:x.kind=6:=by omega
   unfold calM at hq ⊢;cases hfi:fs.findIdx? (fun f=>decide (f.name=x.name)) with
   | none=>rw[hfi]at hq;cases hq
   | some i=>
    rw[hfi]at hq;simp only at hq ⊢;cases hg:fs[i]? with
    | none=>rw[hg]at hq;cases hq
    | some g=>
     rw[hg]at hq;simp only at hq ⊢;rw[←h1.len];split at hq
     ·cases hq
     rename_i hps;rw[aD hps];obtain⟨q',g1,g2,g3⟩:=hc i _ _ _ _ (zip_rel g.ps h1) (h.mark _ _ x.site hs) q hq;exact⟨q',g1,g2,by rw[aH k6];exact g3⟩
  obtain⟨q',g1,g2,g3⟩:=key;rw[g1];refine⟨_,rfl,.cons g2 h2,by simp,?_⟩
  show S (if x.kind=6 then q.2 else q.2.mark E x.site) (if x.kind=6 then q'.2 else q'.2.mark F x.site)
  by_cases k6:x.kind=6
  ·rw[aH k6,aH k6];rw[aH k6]at g3;exact g3
  ·rw[aD k6,aD k6];rw[aD k6]at g3;exact h.mark _ _ _ g3
theorem run_rel{c c':Nat→List Vr→Lk→Lo (Tl×Lk)}(hc:CalR T S c c'){fs:List Fd}{vs ws:List Vr}(hv:oJ (VRl T) vs ws):∀(l:List Nd) (st su:List Tl) (s t:Lk) (b:Nat),(∀x∈l,oR x∧1≤x.kind∧x.kind≤6)→pV l st.length b→oJ T st su→(l≠[]∧s.lk=t.lk∧S' s.tick t.tick∨S s t) →
  Ok2 (fun p q=>oJ T p.1 q.1∧p.1.length=b∧S p.2 q.2) (kT E c fs vs l st s) (kT F c' fs ws l su t)
 | [],st,su,s,t,b,_,hS,hst,hs=>fun p hp=>by
  cases hp;rcases hs with⟨hn,_⟩|hs
  ·exact absurd rfl hn
  ·exact⟨_,rfl,hst,hS,hs⟩
 | x::r,st,su,s,t,b,hx,hS,hst,hs=>fun p hp=>by
  rw[kT]at hp ⊢;obtain⟨h1,h2⟩:=hx x (bG ..);have hs':s.lk=t.lk∧S' s.tick t.tick:=hs.elim (fun h=>h.2) (h.tick s t)
  cases hq:mS E c fs vs x st s with
  | bad a e=>rw[hq]at hp;cases hp
  | ok q=>
   rw[hq]at hp;obtain⟨q',g1,g2,g3,g4⟩:=node_rel h hc hv h1 h2 hst hS.1 hs'.1 hs'.2 q hq;rw[g1];exact run_rel hc hv r q.1 q'.1 q.2 q'.2 b (fun y hy=>hx y (bD _ hy)) (by rw[g3];exact hS.2) g2 (.inr g4) p hp
theorem lok_rel:∀(f:Nat) (fs:List Fd),(∀g∈fs,rM g.body)→∀(vs ws:List Vr) (x:List Nd) (s t:Lk),oJ (VRl T) vs ws→rM x→s.lk=t.lk→S' s.tick t.tick→Ok2 (fun p q=>T p.1 q.1∧S p.2 q.2) (uF E f fs vs x s) (uF F f fs ws x t)
 | 0,_,_,_,_,_,_,_,_,_,_,_=>fun p hp=>by cases hp
 | f+1,fs,hf,vs,ws,x,s,t,hv,hx,hl,hs=>fun p hp=>by
  rw[wX]at hp ⊢;have hc:CalR T S (pO E f fs) (pO F f fs):=fun i vs ws s t hv hs=>by
   unfold pO;cases hg:fs[i]? with
   | none=>exact fun p hp=>by cases hp
   | some g=>
    obtain⟨hi,rfl⟩:=cF.1 hg;have:=h.tick s t hs;exact lok_rel f (fs.take i) (fun g hg=>hf g (eP hg)) vs ws _ s t hv (hf _ (cG hi)) this.1 this.2
  cases hr:kT E (pO E f fs) fs vs (gJ x) [] s with
  | bad a e=>rw[hr]at hp;cases hp
  | ok q=>
   obtain⟨q',g1,g2,g3,g4⟩:=run_rel h hc hv (gJ x) [] [] s t 1 (pS hx) (mG hx) .nil (.inl ⟨nodes_ne hx,hl,hs⟩) q hr;rw[hr]at hp;rw[g1];obtain⟨st,sm⟩:=q;obtain⟨su,sn⟩:=q'
   match st,su,g2,g3 with
   | [u],[v],.cons g5 _,_=>cases hp;exact⟨_,rfl,g5,g4⟩
end
end
end Zv
