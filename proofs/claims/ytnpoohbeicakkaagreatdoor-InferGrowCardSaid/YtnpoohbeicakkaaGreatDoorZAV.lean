/- looker.call. Conditions: none. -/
import Derived.Test.YtnpoohbeicakkaaGreatDoorZAU
set_option linter.unusedVariables false
set_option linter.unusedSimpArgs false
set_option maxRecDepth 100000
namespace Zv
open Go
noncomputable section
theorem B88_z(cx:Cx)(cl:CL)(k:Nat)(x:AS):zC B88 cx cl k x=zbind (zC (.seq Lb1 Lb2) cx cl k x) fun x=>zbind (zC Lb3 cx cl k x) fun x=>zbind (zC (.seq Lb4 Lb5) cx cl k x) fun x=>zbind (zC (.seq Lb6 (.seq Lb7 (.seq Lb8 Lb9))) cx cl k x) fun x=>zbind (zC Lb10 cx cl k x) (zC (.seq Lb11 .ret) cx cl k):=by
 rw[B88_eq];simp only[zC_sq,vX]
theorem zbody_ret1{df:Nat→List D→dS→St→Nat→DR}{A:AF}{t:Tm}{s s':St}{c c' f:Nat}{r:Option Nat}{fs cs:List D}{v:D}(h:df f (fs++[]++cs) none s c = .ok (.ret v) none s' c'):
  zbody df A (.ok .ret ⟨t,s,c,[(.fn (.func f) fs cs,[])],r⟩)=match results A ⟨t,s',c',[(.fn (.func f) fs cs,[])],r⟩ with|some d=>.ok (.ret d) s' c'|none=>.no:=by
 show oX df A none ⟨t,s,c,[(.fn (.func f) fs cs,[])],r⟩=_;unfold oX;simp only[zDs,h,settle];cases results A ⟨t,s',c',[(.fn (.func f) fs cs,[])],r⟩<;>rfl
theorem zbody_pan1{df:Nat→List D→dS→St→Nat→DR}{A:AF}{t:Tm}{s s':St}{c c' f:Nat}{r:Option Nat}{fs cs:List D}{v:D}{a e:Int}(h:df f (fs++[]++cs) (some (jB a e)) s c = .ok (.ret v) (some (jB a e)) s' c'):
  zbody df A (.ok (.pan (jB a e)) ⟨t,s,c,[(.fn (.func f) fs cs,[])],r⟩) = .ok (.pan (jB a e)) s' c':=by
 show oX df A (some (jB a e)) ⟨t,s,c,[(.fn (.func f) fs cs,[])],r⟩=_;unfold oX;simp only[zDs,h];rfl
theorem vo_zip{us:List Nat}{C:LkC}{K V k ty:Nat}{s:St}{ps:List (List UInt8)}{ts:List Tl}{f:D}(hs:sget s V=some (.grow ty (cL vrC (oW ps ts))))(hl:ps.length=ts.length)(hb:ts.length<1000)(hVk:V<k)(hK:V≠K)(hM:V≠C.M)(hg:∀t∈ts,TG us t):VO us (C.vf (.gs V 0 6 ts.length) f) K s k (oW ps ts):=by
 have hzl:=pP hl;refine⟨rfl,⟨.sl false (oW ps ts).length (cL vrC (oW ps ts)),⟨fun r hr=>by obtain⟨u,_,rfl⟩:=cQ.1 hr;rfl,.inr ⟨false,by rw[fA];rfl⟩⟩,fun s2 h2 k=>?_⟩,by omega,fun x hx=>?_⟩
 ·show frz false (k+2) s2 (.gs V 0 6 ts.length)=_;rw[rI,h2 V hVk hK hM,hs];simp only[bK,fU];rw[bZ (by rw[rL.cells_len,hzl];exact aJ _),aS,cW (by rw[rL.cells_len,hzl];exact aJ _),rL.cells_frz,hzl];rfl
 ·obtain⟨i,hi,rfl⟩:=eO hx;have hi':i<ts.length:=by omega
  have e:(oW ps ts)[i]=⟨ps[i],tl ts[i]⟩:=List.getElem_zipWith;rw[e];exact(hg _ (cB hi')).2.2
theorem f88(n j:Nat){ss:List (List UInt8)}{us:List Nat}(C:LkC)(h:Lt ss us C.d C.e)(hp:C.pc<us.length)(R:Int→List Tl→Ty×Int×Int×Int){K:Nat}{y:Nd}{fs:List Fd}(hf:Sl 3 fdC fs C.f)(hfo:∀f∈fs,FdOk f)(hfl:fs.length<1000){vs:List Vr}{ts:List Tl}{sm:Lk}{s:St}{c:Nat}(hI:CI us C K sm vs ts s c)(hec:sm.ec<us.length)(hlb:LabN us sm.lm)(cal:Nat→List Vr→Lk→Lo (Tl×Lk))
  (hall:∀(i:Nat) (hi:i<fs.length) (v' fd:D),Sl 3 fdC (fs.take i) fd→∀vs' q s c,VO us (C.vf v' fd) K s c vs'→sget s K=some ((C.vf v' fd).blk (sm.mark ⟨us,C.low,C.pc,R⟩ y.site) q)→eU q=false→sget s C.M=some (.mp (mpE 0 (sm.mark ⟨us,C.low,C.pc,R⟩ y.site).lm) (sm.mark ⟨us,C.low,C.pc,R⟩ y.site).lm.length)→K<c→C.M<c→mF s c →
   jR (C.vf v' fd) K (cal i vs' (sm.mark ⟨us,C.low,C.pc,R⟩ y.site)) (fn (n+1) (j+3) (.fn 44) [.ptr K 0,fs[i].bd] s c) s c) :
  jR C K (calM ⟨us,C.low,C.pc,R⟩ cal fs y ts sm) (fn (n+1) (j+4) (.fn 88) [.ptr K 0,.agg (bU y)] s c) s c:=by
 rw[iN (A:=A88) rfl rfl rfl rfl (n+1) (j+3) _ s c rfl,show A88.body=B88 from rfl,B88_z]
 obtain⟨a,hK,ha⟩:=hI.a;have hKc:=hI.kc;have hMc:=hI.mc;have hl12:=hI.l;obtain⟨t1,s1,c1,hz1,hF1,h5⟩:=cB1 (n+1) (j+1) C hf (by omega) (y:=y) hK hKc hI.fr
 rw[show j+1+2=j+3 from rfl]at hz1
 rw[hz1];show jR C K _ (zbody _ _ (zbind (zC Lb3 _ _ _ _) _)) s c;have hKM:K≠C.M:=by rintro e;rw[e,hI.hM]at hK;cases hK
 have hle1:=hF1.le;have hK1:sget s1 K=some (C.blk sm (.gs a 0 5 ts.length)):=by rw[hF1.A.old K hKc,hK]
 have hac:a<c:=gQ fun hh=>by rw[hI.fr _ hh]at ha;cases ha
 have haK:a≠K:=by rintro rfl;rw[hK]at ha;cases ha
 have haM:a≠C.M:=by rintro rfl;rw[hI.hM]at ha;cases ha
 obtain⟨h3a,h3b⟩:=cB3 (n+1) (j+2) hF1 h5;rw[show j+2+1=j+3 from rfl]at h3a h3b
 rw[fx_find]at h3a h3b h5;unfold calM;cases hfi:fs.findIdx? (fun f=>decide (f.name=y.name)) with
 | none=>
  rw[hfi]at h3a;obtain⟨t2,hz2⟩:=h3a (by decide)
  rw[hz2];exact⟨s1,c1,rfl,Bad.of hF1.A hK hKc⟩
 | some i=>
  rw[hfi]at h3b;obtain⟨hi,_⟩:=List.findIdx?_eq_some_iff_getElem.1 hfi;obtain⟨t2,hz2,hF2,h52⟩:=h3b (by simp only;omega)
  rw[hz2];show jR C K _ (zbody _ _ (zbind (zC (.seq Lb4 Lb5) _ _ _ _) _)) s c;obtain⟨h4a,h4b⟩:=cB4 (n+1) (j+2) C hf hfo hF2 h52 hi hK1 hKc;rw[show j+2+1=j+3 from rfl]at h4a h4b
  simp only[aI hi];by_cases hps:fs[i].ps.length=ts.length
  case neg=>
   rw[aH hps];obtain⟨t3,s3,c3,hz3,hA3⟩:=h4a hps;rw[hz3];exact⟨s3,c3,rfl,Bad.of (hF1.A.trans hA3) hK hKc⟩
  rw[aD (fun e=>e hps)]
  obtain⟨t3,s3,c3,hz3,hA3,hc3,hF3,h53,h63,hb3⟩:=h4b hps;rw[hz3];show jR C K _ (zbody _ _ (zbind (zC (.seq Lb6 (.seq Lb7 (.seq Lb8 Lb9))) _ _ _ _) _)) s c;have hK3:sget s3 K=some (C.blk sm (.gs a 0 5 ts.length)):=by rw[hA3.old K (by omega),hK1]
  have hM3:sget s3 C.M=some (.mp (mpE 0 sm.lm) sm.lm.length):=by rw[hA3.old _ (by omega),hF1.A.old _ hMc,hI.hM]
  obtain⟨t4,s4,c4,A,B,fd,hz4,hG4,hfd,hK4,hM4⟩:=cB6 n j C h hp R hf hF3 h53 hi h63 hb3 (by omega) hK3 hM3 hKc hMc hec hlb hI.v.nag rfl
  rw[hz4];show jR C K _ (zbody _ _ (zbind (zC Lb10 _ _ _ _) _)) s c;have hg:=hfo _ (cB hi);have ha4:sget s4 a=some (.grow 37 (cL tlC ts)):=by rw[hG4.old a (by omega) haK haM,hA3.old a (by omega),hF1.A.old a hac,ha]
  obtain⟨t5,s5,c5,V,hz5,hG5,hK5,⟨ty,hV⟩,hkV,hVc,hM5⟩:=cB10 (n+1) (j+3) C hG4 (by omega) hc3 hKc hMc (by omega) (f:=fd) hK4 ha4 (by omega) hg.p hps (by rintro rfl;simp at hl12) hM4 [(.fn (.func 130) [] [.ptr A 0,.ptr B 0,.ptr c 0],[])]
  rw[hz5];show jR C K _ (zbody _ _ (zC (.seq Lb11 .ret) _ _ _ _)) s c;have hlA:=hG5.lA;have hlB:=hG5.lB;have hlA4:=hG4.lA;have hVO:VO us (C.vf (.gs V 0 6 ts.length) fd) K s5 c5 (oW fs[i].ps ts):=vo_zip hV hps (by omega) hVc (by omega) (by omega) hI.g
  have hcall:=hall i hi _ fd hfd _ _ s5 c5 hVO hK5 rfl hM5 (by omega) (by omega) hG5.fr
  have b2:=hG5.b2;have b6:=hG5.b6;have b4:=hG5.b4;unfold fdC at b6;unfold ty0 at b4;have hold:∀m,m<c→m≠K→m≠C.M→sget s5 m=sget s m:=fun m m1 m2 m3=>by rw[hG5.old m (by omega) m2 m3,hA3.old m (by omega),hF1.A.old m m1]
  cases hr:cal i (oW fs[i].ps ts) (sm.mark ⟨us,C.low,C.pc,R⟩ y.site) with
  | bad e1 e2=>
   rw[hr]at hcall;obtain⟨s6,c6,h6,hle6,hfr6,⟨cs,hcs,hcl⟩,ho6⟩:=hcall;have hz11:∃t6,zC (.seq Lb11 .ret) (cxn (n+1)) (fn (n+1) (j+3)) KK ⟨t5,s5,c5,[(.fn (.func 130) [] [.ptr A 0,.ptr B 0,.ptr c 0],[])],none⟩ = .ok (.pan (jB e1 e2)) ⟨t6,s6,c6,[(.fn (.func 130) [] [.ptr A 0,.ptr B 0,.ptr c 0],[])],none⟩:=by
    simp only[Lb11,Ab.abq];simp only[z0,seval,hG5.t2,hG5.t6,b2,b6,h6];exact⟨_,rfl⟩
   obtain⟨t6,hz6⟩:=hz11;rw[hz6];have h130:=f130 (n+1) (j+2) (md:=some (jB e1 e2)) (c:=c6) (by rw[ho6 A (by omega) (by omega) (by show A≠C.M;omega),hG5.bA]) (by rw[ho6 B (by omega) (by omega) (by show B≠C.M;omega),hG5.bB]) (by rw[ho6 c (by omega) (by omega) (by show c≠C.M;omega),b2]) hcs hcl hI.v.nag hf.nag (by omega) (by omega)
   rw[zbody_pan1 h130];exact⟨_,_,rfl,by omega,fun m hm=>by rw[aN,aD (by omega),aN,aD (by omega)];exact hfr6 m hm,⟨_,by rw[aN,aH rfl],by simp[hcl]⟩,fun m m1 m2 m3=>by rw[aN,aD m2,aN,aD m2,ho6 m (by omega) m2 m3,hold m m1 m2 m3]⟩
  | ok p=>
   rw[hr]at hcall;obtain⟨s6,c6,q6,h6,hC6⟩:=hcall;have hle6:=hC6.le;have e4:sget s6 (c+1+1)=some (.fix 37 [.int .i64 0,.int .i64 0,.int .i64 0,.int .i64 0,.int .i64 0]):=by rw[hC6.old _ (by omega) (by omega) (by show c+1+1≠C.M;omega),b4]
   have hz11:∃t6,zC (.seq Lb11 .ret) (cxn (n+1)) (fn (n+1) (j+3)) KK ⟨t5,s5,c5,[(.fn (.func 130) [] [.ptr A 0,.ptr B 0,.ptr c 0],[])],none⟩ = .ok .ret ⟨t6,sset s6 (c+1+1) (.fix 37 (tlC p.1)),c6,[(.fn (.func 130) [] [.ptr A 0,.ptr B 0,.ptr c 0],[])],none⟩∧tget t6 4 = .ptr (c+1+1) 0:=by
    simp only[Lb11,Ab.abq];unfold tlC tyC tl at *;simp only[z0,seval,hG5.t2,hG5.t4,hG5.t6,b2,b6,h6,e4];exact⟨_,rfl,by simp[aE,hG5.t4]⟩
   obtain⟨t6,hz6,h46⟩:=hz11;rw[hz6]
   have h130:=f130 (n+1) (j+2) (md:=none) (s:=sset s6 (c+1+1) (.fix 37 (tlC p.1))) (c:=c6) (a:=A) (b:=B) (e:=c) (K:=K) (by rw[aN,aD (by omega),hC6.old A (by omega) (by omega) (by show A≠C.M;omega),hG5.bA]) (by rw[aN,aD (by omega),hC6.old B (by omega) (by omega) (by show B≠C.M;omega),hG5.bB]) (by rw[aN,aD (by omega),hC6.old c (by omega) (by omega) (by show c≠C.M;omega),b2]) (by rw[aN,aD (by omega),hC6.hK];rfl) rfl hI.v.nag hf.nag (by omega) (by omega)
   rw[zbody_ret1 h130];obtain⟨s8,hs8⟩:∃s8,s8=sset (sset (sset s6 (c+1+1) (.fix 37 (tlC p.1))) K (.fix 96 ((lrC C.d C.e C.low C.pc p.2.ec (p.2.lk:Nat) (.mp C.M) (.gs V 0 6 ts.length) fd q6).set 11 C.v))) K (.fix 96 (((lrC C.d C.e C.low C.pc p.2.ec (p.2.lk:Nat) (.mp C.M) (.gs V 0 6 ts.length) fd q6).set 11 C.v).set 12 C.f)):=⟨_,rfl⟩
   have g8:∀m,sget s8 m=if m=K then some (C.blk p.2 q6) else if m=c+1+1 then some (.fix 37 (tlC p.1)) else sget s6 m:=fun m=>by
    rw[hs8,aN];split
    ·rfl
    ·rename_i hne;rw[aN,aD hne,aN]
   have e8:sget s8 (c+1+1)=some (.fix 37 (tlC p.1)):=by rw[g8,aD (by omega),aH rfl]
   have hres:results A88 ⟨t6,s8,c6,[(.fn (.func 130) [] [.ptr A 0,.ptr B 0,.ptr c 0],[])],none⟩=some (.agg (tlC p.1)):=by
    unfold tlC tyC tl at *;simp only[z0,seval,A88,h46,e8]
   show jR C K (.ok p) (match results A88 ⟨t6,sset (sset (sset s6 (c+1+1) (.fix 37 (tlC p.1))) K _) K _,c6,_,none⟩ with|some d=>FR.ok (.ret d) _ c6|none=>FR.no) s c
   have hs8':=hs8.symm;unfold LkC.vf at *;refine⟨s8,c6,q6,?_,by omega,by rw[g8,aH rfl],by rw[g8,aD (fun e=>hKM e.symm),aD (by omega),hC6.hM],fun m m1 m2 m3=>by rw[g8,aD m2,aD (by omega),hC6.old m (by omega) m2 m3,hold m m1 m2 m3],fun m hm=>by rw[g8,aD (by omega),aD (by omega)];exact hC6.fr m hm,hC6.nag⟩
   exact(congrArg (fun S=>match results A88 ⟨t6,S,c6,[(.fn (.func 130) [] [.ptr A 0,.ptr B 0,.ptr c 0],[])],none⟩ with|some d=>FR.ok (.ret d) S c6|none=>FR.no) hs8').trans (show _=FR.ok (.ret (.agg (tlC p.1))) s8 c6 by simp only[hres])
def pX:List Nd→Nat→Nat→Prop
 | [],a,b=>a=b
 | x::r,a,b=>opN x≤a∧pX r (a-opN x+1) b
theorem pX.app:∀{l l':List Nd} {a b c:Nat},pX l a b→pX l' b c→pX (l++l') a c
 | [],_,_,_,_,h,h'=>by cases h;exact h'
 | _::_,_,_,_,_,h,h'=>⟨h.1,pX.app h.2 h'⟩
def ndAt(x:List Nd)(i:Nat):Nd:=(x[i]?).getD ⟨0,0,0,[],[],0,0⟩
theorem ndAt_eq{x:List Nd}{i:Nat}(h:i<x.length):ndAt x i=x[i]:=by unfold ndAt;rw[aI h];rfl
theorem ch_stk{l:List Nd}(hg:jS l):∀(f i k:Nat),i<l.length→l.length≤f+i→itE l (k+1) i=l.length→pX ((chN l i).reverse.map (ndAt l)) 0 (k+1)
 | 0,i,k,h,hf,_=>by omega
 | f+1,i,k,h,hf,he=>by
  rw[op_step hg h]at he;have hn:=nx_le hg h;rw[chN_eq hg h,List.reverse_cons,List.map_append];refine pX.app (b:=opN l[i]+k) ?_ ?_
  ·by_cases hx:nxN l i<l.length
   ·cases hk:opN l[i]+k with
    | zero=>rw[hk]at he;have:nxN l i=l.length:=he;omega
    | succ m=>rw[hk]at he;exact ch_stk hg f (nxN l i) m hx (by omega) he
   ·rw[chN_ge (by omega)]
    cases hk:opN l[i]+k with
    | zero=>rfl
    | succ m=>rw[hk,itE_out l m _ (by omega)]at he;omega
  ·show opN (ndAt l i)≤_∧_=_;rw[ndAt_eq h];omega
theorem mK{l:List Nd}(h:rQ l):pX (gL l) 0 1:=by
 have:=ch_stk h.g l.length 0 0 h.pos (by omega) (by show itE l 0 (eN l 0)=_;exact h.e)
 exact this
theorem chF_mem{l:List Nd}:∀(f i k:Nat),k∈chF l f i→k<l.length
 | 0,i,k,h=>by simp[chF]at h
 | f+1,i,k,h=>by
  rw[chF]at h;split at h
  ·rcases bL.1 h with rfl|h
   ·assumption
   ·exact chF_mem f _ k h
  ·simp at h
theorem ord_mem{l:List Nd}{k:Nat}(h:k∈jC l):k<l.length:=chF_mem l.length 0 k (List.mem_reverse.1 h)
theorem nodes_get{l:List Nd}{i:Nat}(h:i<(jC l).length):∃hk:(jC l)[i]<l.length,(gL l)[i]?=some l[(jC l)[i]]:=by
 have hk:=ord_mem (cB h);refine⟨hk,?_⟩;unfold gL;rw[gX,aI h];show some (ndAt l _)=_;rw[ndAt_eq hk]
theorem nodes_len(l:List Nd):(gL l).length=(jC l).length:=by unfold gL;rw[fA]
structure EOk (E:LEn) (ss:List (List UInt8)) (d e:D):Prop where
 lt:Lt ss E.us d e
 low:gZ E.us=(E.low:Nat)
 ll:E.low<E.us.length
 lb:∀i,i<E.us.length→(uM E.us E.low).testBit i=true
 pc:E.pc<E.us.length
 R:∀p ts,(ts.length=1∨ts.length=2)→(∀t∈ts,TG E.us t)→(E.R p ts).2.2.2=0→Rg E.us.length (E.R p ts).2.1∧Rg E.us.length (E.R p ts).2.2.1
theorem EOk.tg{E:LEn}{ss:List (List UInt8)}{d e:D}(h:EOk E ss d e){k r:Int}(hk:k=1∨k=2)(hr:r=0∨r=1):TG E.us ⟨k,r,E.low,E.low,E.low⟩:=by
 have hl:=h.ll;refine⟨⟨hl,hl,hl⟩,⟨hk,by show 0≤r;omega,by show r≤2;omega⟩,?_⟩
 have hb:rB E.us.length ((E.low:Nat):Int)=true:=by unfold rB;simp only[bE,cI];omega
 have hq:xF E.us (E.low:Nat) (E.low:Nat)=true:=by unfold xF;rw[cU];exact h.lb _ hl
 unfold tyE tl;simp only[h.low];rw[aD (by rintro(⟨h1,h2⟩|h1|h1)<;>omega),aD (by rw[hb];simp),aD (by rintro(⟨_,h1⟩|⟨_,h1⟩)<;>exact h1 rfl),aD (by rw[hq];simp)]
theorem setM_mem:∀{l:List (Int×Int)} {j:Nat} {v:Int} {p:Int×Int},p∈setM l j v→p∈l∨p.2=v
 | [],_,_,_,h=>by simp[setM]at h
 | q::r,0,v,p,h=>by
  rcases bL.1 h with rfl|h
  ·exact .inr rfl
  ·exact .inl (bG _ h)
 | q::r,j+1,v,p,h=>by
  rcases bL.1 h with rfl|h
  ·exact .inl (bH ..)
  ·exact(setM_mem h).imp (bG _) id
theorem mkL_lab{E:LEn}{ss:List (List UInt8)}{d e:D}(h:EOk E ss d e){lm:List (Int×Int)}(hl:LabN E.us lm){x:Int}{now:Nat}(hn:now<E.us.length):LabN E.us (mkL E.us lm x now):=by
 unfold mkL;cases hq:qZ lm x 0 with
 | none=>
  intro p hp;rcases List.mem_append.1 hp with hp|hp
  ·exact hl p hp
  ·rw[eB.1 hp];exact⟨now,rfl,hn⟩
 | some q=>
  obtain⟨p',h1,h2,h3⟩:=uB hq;obtain⟨k,hk,hk2⟩:=hl p' h1;have:q.2.toNat=k:=by rw[←h3,hk,cU]
  intro p hp;rcases setM_mem hp with hp|hp
  ·exact hl p hp
  ·exact⟨_,hp,by rw[this];exact(h.lt.j hn hk2).2⟩
theorem SG.mark{E:LEn}{ss:List (List UInt8)}{d e:D}(h:EOk E ss d e){sm:Lk}(hs:SG E.us sm)(x:Int):SG E.us (sm.mark E x):=⟨hs.ec,mkL_lab h hs.lb (h.lt.j h.pc hs.ec).2,hs.lk⟩
section
variable {E:LEn} {ss:List (List UInt8)} {d e:D} (h:EOk E ss d e)
include h
def CalOk(E:LEn)(cal:Nat→List Vr→Lk→Lo (Tl×Lk)):Prop:=∀i vs s p,(∀v∈vs,tyE E.us (gZ E.us) v.ty=0)→SG E.us s→cal i vs s = .ok p→TG E.us p.1∧SG E.us p.2
theorem prim_inv{x:Nd}{ts:List Tl}{s:Lk}{p:Tl×Lk}(hl:ts.length=1∨ts.length=2)(hg:∀t∈ts,TG E.us t)(hs:SG E.us s)(hp:uV E x ts s = .ok p):TG E.us p.1∧SG E.us p.2:=by
 unfold uV at hp;split at hp
 ·cases hp
 split at hp
 ·cases hp
 rename_i h0 hE;obtain⟨⟨w,hw,hw2⟩,⟨c,hc,hc2⟩⟩:=h.R x.prim ts hl hg (Decidable.not_not.1 h0);cases hp;refine⟨(sC (Decidable.not_not.1 hE)).2,?_,hs.lb,hs.lk⟩;show afN E.us s.ec _ _<_;rw[hw,hc,cU,cU];exact(h.lt.j (h.lt.j hs.ec hw2).2 hc2).2
theorem look_inv{cal:Nat→List Vr→Lk→Lo (Tl×Lk)}(hc:CalOk E cal){fs:List Fd}{vs:List Vr}(hv:∀v∈vs,tyE E.us (gZ E.us) v.ty=0){x:Nd}{ts:List Tl}{s:Lk}{p:Tl×Lk}(hl:x.kind=5∨x.kind=6→ts.length=1∨ts.length=2)(hk:1≤x.kind∧x.kind≤6)(hg:∀t∈ts,TG E.us t)(hs:SG E.us s)(hp:rU E cal fs vs x ts s = .ok p):TG E.us p.1∧SG E.us p.2:=by
 unfold rU at hp;split at hp
 ·cases hp;exact⟨h.tg (.inl rfl) (.inl rfl),hs⟩
 split at hp
 ·cases hp;exact⟨h.tg (.inl rfl) (.inr rfl),hs⟩
 split at hp
 ·cases hp;exact⟨h.tg (.inr rfl) (.inr rfl),hs⟩
 split at hp
 ·unfold nameM at hp;split at hp
  ·cases hp
  ·rename_i v hf;cases hp;exact⟨(sC (hv v (List.mem_of_find?_eq_some hf))).2,hs⟩
 split at hp
 ·rename_i k5;exact prim_inv h (hl (.inl k5)) hg hs hp
 ·unfold calM at hp;split at hp
  ·cases hp
  split at hp
  ·cases hp
  split at hp
  ·cases hp
  rename_i g _ hps;refine hc _ _ _ _ (fun v hv=>?_) (hs.mark h _) hp
  obtain⟨i,hi,rfl⟩:=eO hv;have hgl:g.ps.length=ts.length:=Decidable.not_not.1 hps;have hi':i<ts.length:=by rw[pP hgl]at hi;exact hi
  have e:(oW g.ps ts)[i]=⟨g.ps[i],tl ts[i]⟩:=List.getElem_zipWith;rw[e];exact(hg _ (cB hi')).2.2
theorem node_inv{cal:Nat→List Vr→Lk→Lo (Tl×Lk)}(hc:CalOk E cal){fs:List Fd}{vs:List Vr}(hv:∀v∈vs,tyE E.us (gZ E.us) v.ty=0){x:Nd}{st:List Tl}{s:Lk}{p:List Tl×Lk}(hx:oU x)(hop:opN x≤st.length)(hk:1≤x.kind∧x.kind≤6)(hg:∀t∈st,TG E.us t)(hs:SG E.us s)(hp:mW E cal fs vs x st s = .ok p):
  (∀t∈p.1,TG E.us t)∧SG E.us p.2∧p.1.length=st.length-opN x+1:=by
 unfold mW at hp;split at hp
 ·cases hp
 rename_i hb;have htk:SG E.us s.tick:=⟨hs.ec,hs.lb,by show s.lk+1≤2000;omega⟩
 split at hp
 ·rename_i q hq;have hargs:x.kind=5∨x.kind=6→(st.take (opN x)).length=1∨(st.take (opN x)).length=2:=fun h56=>by
   have hkk:=hx.kp h56;have:opN x=x.kids.toNat:=by unfold opN fJ;rw[aH h56]
   rw[dG];omega
  obtain⟨h1,h2⟩:=look_inv h hc hv hargs hk (fun t ht=>hg t (eW ht)) htk hq
  cases hp;refine⟨fun t ht=>?_,?_,by simp⟩
  ·rcases bL.1 ht with rfl|ht
   ·exact h1
   ·exact hg t (List.mem_of_mem_drop ht)
  ·show SG E.us (if x.kind=6 then q.2 else q.2.mark E x.site)
   split
   ·exact h2
   ·exact h2.mark h _
 ·cases hp
theorem run_inv{cal:Nat→List Vr→Lk→Lo (Tl×Lk)}(hc:CalOk E cal){fs:List Fd}{vs:List Vr}(hv:∀v∈vs,tyE E.us (gZ E.us) v.ty=0):∀(l:List Nd) (st:List Tl) (s:Lk) (p:List Tl×Lk) (b:Nat),(∀x∈l,oU x∧1≤x.kind∧x.kind≤6)→pX l st.length b→(∀t∈st,TG E.us t)→SG E.us s→kX E cal fs vs l st s = .ok p →
  (∀t∈p.1,TG E.us t)∧SG E.us p.2∧p.1.length=b
 | [],st,s,p,b,_,hS,hg,hs,hp=>by cases hp;exact⟨hg,hs,hS⟩
 | x::r,st,s,p,b,hx,hS,hg,hs,hp=>by
  rw[kX]at hp;split at hp
  ·rename_i q hq;obtain⟨h1,h2,h3⟩:=hx x (bH ..);obtain⟨g1,g2,g3⟩:=node_inv h hc hv h1 hS.1 ⟨h2,h3⟩ hg hs hq;exact run_inv hc hv r q.1 q.2 p b (fun y hy=>hx y (bG _ hy)) (by rw[g3];exact hS.2) g1 g2 hp
  ·cases hp
end
end
end Zv
namespace Zv
open Go Ab
noncomputable section
theorem nd_ok{l:List Nd}(h:rQ l){i:Nat}(hi:i<l.length):oU l[i]∧1≤l[i].kind∧l[i].kind≤6:=by
 refine⟨h.g.nd i hi,?_⟩;have hw:=h.w i hi;rw[kG,aI hi]at hw;simp only at hw;split at hw
 case isFalse=>cases hw
 rename_i hz;unfold mJ at hz;cases h1:decide (l[i].kind<1)||(decide (6<l[i].kind)||surB l[i])
 case true=>rw[h1]at hz;cases hz
 simp only[Bool.or_eq_false_iff,bX]at h1;omega
theorem pU{l:List Nd}(h:rQ l):∀x∈gL l,oU x∧1≤x.kind∧x.kind≤6:=fun x hx=>by
 obtain⟨i,hi,rfl⟩:=eO hx;obtain⟨hk,e⟩:=nodes_get (l:=l) (i:=i) (by rw[←nodes_len];exact hi)
 rw[aI hi]at e;rw[Option.some.inj e];exact nd_ok h hk
def pS(E:LEn)(f:Nat)(fs:List Fd)(i:Nat)(vs:List Vr)(s:Lk):Lo (Tl×Lk):=match fs[i]? with|some g=>uL E f (fs.take i) vs g.body s|none=>.bad 0 0
theorem xE(E:LEn)(f:Nat)(fs:List Fd)(vs:List Vr)(x:List Nd)(s:Lk):uL E (f+1) fs vs x s=match kX E (pS E f fs) fs vs (gL x) [] s with
  | .ok (t::_,s')=>.ok (t,s')
  | .ok ([],_)=>.bad 0 0
  | .bad a e=>.bad a e:=rfl
theorem xD{E:LEn}{ss:List (List UInt8)}{d e:D}(h:EOk E ss d e):∀(f:Nat) (fs:List Fd),(∀g∈fs,rQ g.body)→CalOk E (pS E f fs)∧∀(vs:List Vr) (x:List Nd) (s:Lk) (p:Tl×Lk),rQ x→(∀v∈vs,tyE E.us (gZ E.us) v.ty=0)→SG E.us s→uL E f fs vs x s = .ok p→TG E.us p.1∧SG E.us p.2
 | 0,fs,hf=>by
  refine⟨fun i vs s p _ _ hp=>?_,fun vs x s p _ _ _ hp=>by cases hp⟩
  unfold pS at hp;split at hp<;>cases hp
 | f+1,fs,hf=>by
  have main:∀(fs:List Fd),(∀g∈fs,rQ g.body)→∀(vs:List Vr) (x:List Nd) (s:Lk) (p:Tl×Lk),rQ x→(∀v∈vs,tyE E.us (gZ E.us) v.ty=0)→SG E.us s→uL E (f+1) fs vs x s = .ok p→TG E.us p.1∧SG E.us p.2:=fun fs hf vs x s p hx hv hs hp=>by
   rw[xE]at hp;cases hr:kX E (pS E f fs) fs vs (gL x) [] s with
   | bad a e=>rw[hr]at hp;cases hp
   | ok q=>
    obtain⟨g1,g2,g3⟩:=run_inv h (xD h f fs hf).1 hv (gL x) [] s q 1 (pU hx) (mK hx) nofun hs hr;rw[hr]at hp;obtain⟨st,sm⟩:=q
    match st,g3 with
    | [t],_=>cases hp;exact⟨g1 t (by simp),g2⟩
  refine⟨fun i vs s p hv hs hp=>?_,main fs hf⟩
  unfold pS at hp;split at hp
  ·rename_i g hg;obtain⟨hi,rfl⟩:=cH.1 hg;exact main (fs.take i) (fun g hg=>hf g (eW hg)) vs _ s p (hf _ (cB hi)) hv hs hp
  ·cases hp
theorem run_app{E:LEn}{cal:Nat→List Vr→Lk→Lo (Tl×Lk)}{fs:List Fd}{vs:List Vr}:∀(l l':List Nd) (st:List Tl) (s:Lk),kX E cal fs vs (l++l') st s=match kX E cal fs vs l st s with | .ok p=>kX E cal fs vs l' p.1 p.2 | .bad a e=>.bad a e
 | [],l',st,s=>rfl
 | x::r,l',st,s=>by
  rw[cD,kX,kX];cases mW E cal fs vs x st s with
  | ok p=>exact run_app r l' p.1 p.2
  | bad a e=>rfl
def Lp44:AC:=.loop (s (r [b 37 .lss 36 35]) (s (.cond (.t 37) .skip (.exit 0)) (s (.block 2 LaB) (r [d 106 .add 36 (i 1),m 36 106]))))
def EC(n:Nat)(us:List Nat)(C:LkC):LEn:=⟨us,C.low,C.pc,RDl n C.d C.e⟩
def LoopR(C:LkC)(K By R4 B c0:Nat)(s0:St)(r:Lo (List Tl×Lk))(z:R):Prop:=match r with
 | .ok p=>∃t s c q8 q,z = .ok .normal ⟨t,s,c,[],none⟩∧SI C K By R4 B s0 c0 p.2 p.1 q8 q s c∧tget t 8=q8∧tget t 4 = .ptr R4 0
 | .bad a e=>∃t s c,z = .ok (.pan (jB a e)) ⟨t,s,c,[],none⟩∧Bad C K s0 c0 s c
theorem loop44(n j:Nat){ss:List (List UInt8)}{us:List Nat}(C:LkC)(hE:EOk (EC n us C) ss C.d C.e){K By R4 B c0:Nat}{s0:St}(hP:PI C K By R4 B c0){x:List Nd}{dx w:D}(hx:Sl 7 bU x dx)(hxo:rQ x)(hw:Sl 1 jK (jC x) w)
  {vs:List Vr} (hV:VO us C K s0 c0 vs) {fs:List Fd} {cal:Nat→List Vr→Lk→Lo (Tl×Lk)} (hcal:CalOk (EC n us C) cal) {q:D} {t:Tm} {s:St} {c:Nat} {sm:Lk} (hT:TI K By R4 dx w (jC x).length 0 .nils t) (hS:SI C K By R4 B s0 c0 sm [] .nils q s c) (hG:SG us sm)
  (hcall:∀(y:Nd) (ts:List Tl) (sm:Lk),SG us sm→∀s c,CI us C K sm vs ts s c→jR C K (calM (EC n us C) cal fs y ts sm) (fn (n+13) (j+3) (.fn 88) [.ptr K 0,.agg (bU y)] s c) s c) :
  LoopR C K By R4 B c0 s0 (kX (EC n us C) cal fs vs (gL x) [] sm) (mG 0 (zC Lp44 (cxn (n+13)) (fn (n+13) (j+3)) KK ⟨t,s,c,[],none⟩)):=by
 have hol:=ord_len hxo.g;have hle:=hxo.le;have hnl:=nodes_len x;simp only[Lp44,Ab.abq];rw[eZ.2.2.2.2.2.1];generalize hz:zloop KK _ _=rl
 refine zrange rl hz (jC x).length (fQ (by omega)) (by omega) (fun i t s c=>∃st sm' q8 q,kX (EC n us C) cal fs vs ((gL x).take i) [] sm = .ok (st,sm')∧SG us sm'∧(∀u∈st,TG us u)∧pX ((gL x).drop i) st.length 1∧st.length≤i∧SI C K By R4 B s0 c0 sm' st q8 q s c∧TI K By R4 dx w (jC x).length i q8 t) (by decide) hT.q36 hT.q35 ?_ ?_ ?_
 ·exact⟨[],sm,.nils,q,rfl,hG,nofun,mK hxo,aJ _,hS,hT⟩
 ·rintro i t s c hi ⟨st,sm',q8,q',hr,hG',hst,hsk,hsl,hS',hT'⟩ hti htn;obtain⟨hk,hget⟩:=nodes_get hi;have hil:i<(gL x).length:=by omega
  have hy:(gL x)[i]=x[(jC x)[i]]:=by rw[aI hil]at hget;exact Option.some.inj hget
  have hdrop:(gL x).drop i=x[(jC x)[i]]::(gL x).drop (i+1):=by rw[List.drop_eq_getElem_cons hil,hy]
  rw[hdrop]at hsk;obtain⟨g1,g2,g3⟩:=nd_ok hxo hk;have hT2:TI K By R4 dx w (jC x).length i q8 (tput t 37 (.bool true)):=⟨by simpa[aE]using hT'.q0,by simpa[aE]using hT'.q1,by simpa[aE]using hT'.q4,by simpa[aE]using hT'.q5,by simpa[aE]using hT'.q8,by simpa[aE]using hT'.q34,by simpa[aE]using hT'.q35,by simpa[aE]using hT'.q36⟩
  have htk:¬2000<sm'.lk+1→SG us sm'.tick:=fun hb=>⟨hG'.ec,hG'.lb,by show sm'.lk+1≤2000;omega⟩
  have hargs:x[(jC x)[i]].kind=5∨x[(jC x)[i]].kind=6→(st.take (opN x[(jC x)[i]])).length=1∨(st.take (opN x[(jC x)[i]])).length=2:=fun h56=>by
   have hkk:=g1.kp h56;have:opN x[(jC x)[i]]=x[(jC x)[i]].kids.toNat:=by unfold opN fJ;rw[aH h56]
   have:=hsk.1;rw[dG];omega
  have hst':=node_step n j (us:=us) C hE.lt hE.pc hP hx hw hi hk hV (fs:=fs) (cal:=cal) hT2 hS' hG' hst (by omega) g1 ⟨g2,g3⟩ hsk.1 (fun hb p hp=>by
    obtain⟨_,h2⟩:=look_inv hE hcal hV.good hargs ⟨g2,g3⟩ (fun u hu=>hst u (eW hu)) (htk hb) hp
    exact⟨h2.ec,h2.lb⟩) (fun hb _ s c hCI=>hcall _ _ _ (htk hb) s c hCI)
  have hsplit:gL x=(gL x).take i++x[(jC x)[i]]::(gL x).drop (i+1):=by rw[←hdrop,List.take_append_drop]
  have hrun:∀r,mW (EC n us C) cal fs vs x[(jC x)[i]] st sm'=r→kX (EC n us C) cal fs vs (gL x) [] sm=match r with | .ok p=>kX (EC n us C) cal fs vs ((gL x).drop (i+1)) p.1 p.2 | .bad a e=>.bad a e:=fun r hr'=>by
   refine(congrArg (fun l=>kX (EC n us C) cal fs vs l [] sm) hsplit).trans ?_
   simp only[run_app,hr,kX,hr'];cases r<;>rfl
  cases hn:mW (EC n us C) cal fs vs x[(jC x)[i]] st sm' with
  | bad a e=>
   rw[show(⟨us,C.low,C.pc,RDl n C.d C.e⟩:LEn)=EC n us C from rfl,hn]at hst'
   obtain⟨t',s',c',hz',hB⟩:=hst';rw[hz'];show LoopR C K By R4 B c0 s0 (kX (EC n us C) cal fs vs (gL x) [] sm) (.ok (.pan (jB a e)) ⟨t',s',c',[],none⟩);rw[hrun _ hn];exact⟨t',s',c',rfl,hB⟩
  | ok p=>
   rw[show(⟨us,C.low,C.pc,RDl n C.d C.e⟩:LEn)=EC n us C from rfl,hn]at hst'
   obtain⟨t',s',c',q8',q'',hz',hT3,hS3⟩:=hst';rw[hz'];obtain⟨i1,i2,i3⟩:=node_inv hE hcal hV.good g1 hsk.1 ⟨g2,g3⟩ hst hG' hn;show _∧_;refine⟨rfl,rfl,hT3.q36,.inr (.inr hT3.q35),by decide,by decide,p.1,p.2,q8',q'',?_,i2,i1,by rw[i3];exact hsk.2,by omega,hS3,⟨?_,?_,?_,?_,?_,?_,?_,?_⟩⟩
   ·rw[List.take_succ_eq_append_getElem hil,hy,run_app,hr];show kX _ _ _ _ [_] st sm'=_;rw[kX,hn];rfl
   ·simpa[aE]using hT3.q0
   ·simpa[aE]using hT3.q1
   ·simpa[aE]using hT3.q4
   ·simpa[aE]using hT3.q5
   ·simpa[aE]using hT3.q8
   ·simpa[aE]using hT3.q34
   ·simpa[aE]using hT3.q35
   ·simp[aE]
 ·rintro t s c ⟨st,sm',q8,q',hr,hG',hst,hsk,hsl,hS',hT'⟩ hti htn;rw[show(jC x).length=(gL x).length from hnl.symm,List.take_length]at hr
  rw[hr];exact⟨_,s,c,q8,q',rfl,hS',by simpa[aE]using hT'.q8,by simpa[aE]using hT'.q4⟩
end
end Zv
namespace Zv
open Go
noncomputable section
theorem B44_eq2:∃P1 P2,B44 = .seq P1 (.seq P2 (.seq (.reg none [⟨some 28,.mv (.t 1),none⟩,⟨some 29,.call 89 [.t 28],none⟩,⟨some 27,.mv (.t 29),none⟩,⟨some 30,.ext 0 (.t 27),none⟩,⟨some 31,.ext 1 (.t 27),none⟩,⟨some 6,.mv (.t 30),none⟩,⟨some 7,.mv (.t 31),none⟩]) (.seq (.reg none [⟨some 32,.mv (.t 7),none⟩,⟨some 33,.call 41 [.c (.int .i64 0),.t 32],none⟩]) (.seq (.reg none [⟨some 8,.mv (.c .nils),none⟩]) (.seq (.seq (.reg none [⟨some 34,.mv (.t 6),none⟩,⟨some 35,.len false (.t 34),none⟩,⟨some 36,.mv (.c (.int .i64 0)),none⟩]) (.block 0 Lp44)) (.seq (.reg none [⟨some 107,.mv (.t 8),none⟩,⟨some 108,.iaS 5 (.t 107) (.c (.int .i64 0)),none⟩,⟨some 109,.ld (some 5) (.t 108),none⟩,⟨none,.st 5 (.t 4) (.t 109),none⟩]) .ret)))))) ∧
  ∀(cx:Cx) (cl:CL) (k K:Nat) (dx:D) (s:St) (c:Nat),∃t s' ,zC (.seq P1 P2) cx cl k (start [.ptr K 0,dx] s c) = .ok .normal ⟨t,s',c+1+1,[],none⟩∧tget t 0 = .ptr K 0∧tget t 1=dx∧tget t 4 = .ptr c 0∧tget t 5 = .mp (c+1)∧sget s' c=some (.fix 37 ty0)∧sget s' (c+1)=some (.mp (byE K) 6)∧∀m,m≠c→m≠c+1→sget s' m=sget s m:=by
 refine⟨_,_,B44_eq,fun cx cl k K dx s c=>?_⟩
 have m0:mfind .int (.int .i64 1) [] 0=some none:=rfl;have m1:mfind .int (.int .i64 3) [(.int .i64 1,.fn (.func 83) [.ptr K 0] [],0)] 0=some none:=rfl;have m2:mfind .int (.int .i64 2) [(.int .i64 1,.fn (.func 83) [.ptr K 0] [],0),(.int .i64 3,.fn (.func 84) [.ptr K 0] [],1)] 0=some none:=rfl
 have m3:mfind .int (.int .i64 4) [(.int .i64 1,.fn (.func 83) [.ptr K 0] [],0),(.int .i64 3,.fn (.func 84) [.ptr K 0] [],1),(.int .i64 2,.fn (.func 85) [.ptr K 0] [],2)] 0=some none:=rfl
 have m4:mfind .int (.int .i64 5) [(.int .i64 1,.fn (.func 83) [.ptr K 0] [],0),(.int .i64 3,.fn (.func 84) [.ptr K 0] [],1),(.int .i64 2,.fn (.func 85) [.ptr K 0] [],2),(.int .i64 4,.fn (.func 86) [.ptr K 0] [],3)] 0=some none:=rfl
 have m5:mfind .int (.int .i64 6) [(.int .i64 1,.fn (.func 83) [.ptr K 0] [],0),(.int .i64 3,.fn (.func 84) [.ptr K 0] [],1),(.int .i64 2,.fn (.func 85) [.ptr K 0] [],2),(.int .i64 4,.fn (.func 86) [.ptr K 0] [],3),(.int .i64 5,.fn (.func 87) [.ptr K 0] [],4)] 0=some none:=rfl;simp only[z0,seval,m0,m1,m2,m3,m4,m5,bW,eX,cA,cD];have hc:c≠c+1:=by omega
 refine⟨_,_,rfl,?_,?_,?_,?_,?_,?_,fun m h1 h2=>?_⟩
 ·simp[aE]
 ·simp[aE]
 ·simp[aE]
 ·simp[aE]
 ·simp only[aN,aW,aD hc];rfl
 ·rw[aN,aH rfl];rfl
 ·simp only[aN,aW,aD h1,aD h2]
def XOk(l:List Nd):Prop:=∃a,exD l=e2 a 0
theorem XOk.ex{l:List Nd}(h:XOk l):rQ l:=by obtain⟨a,h⟩:=h;exact ex_ok h
set_option maxHeartbeats 1000000 in
theorem f44(n:Nat){ss:List (List UInt8)}{us:List Nat}{d e:D}{low pc M:Nat}:∀(F j:Nat),2*F+6≤j→∀(v f:D),EOk (EC n us ⟨d,e,low,pc,M,v,f⟩) ss d e→∀(fs:List Fd),fs.length<F→fs.length<1000→Sl 3 fdC fs f→(∀g∈fs,FdOk g)→(∀g∈fs,XOk g.body) →
  ∀(vs:List Vr) (x:List Nd) (dx:D),Sl 7 bU x dx→NdOk x→XOk x→∀(sm:Lk) (q:D) (s:St) (c K:Nat),SG us sm→VO us ⟨d,e,low,pc,M,v,f⟩ K s c vs→sget s K=some (LkC.blk ⟨d,e,low,pc,M,v,f⟩ sm q)→eU q=false→sget s M=some (.mp (mpE 0 sm.lm) sm.lm.length)→K<c→M<c→mF s c →
   jR ⟨d,e,low,pc,M,v,f⟩ K (uL (EC n us ⟨d,e,low,pc,M,v,f⟩) F fs vs x sm) (fn (n+13) j (.fn 44) [.ptr K 0,dx] s c) s c
 | 0=>fun j _ v f _ fs h=>by omega
 | F+1=>fun j hj v f hE fs hfF hfl hf hfo hfx vs x dx hx hN hxx sm q s c K hG hV hK hq hM hKc hMc hfr=>by
  obtain⟨j2,rfl⟩:∃j2,j=j2+5:=⟨j-5,by omega⟩
  obtain⟨P1,P2,hB,hP⟩:=B44_eq2;rw[iN (A:=A44) rfl rfl rfl rfl (n+13) (j2+4) _ s c rfl,show A44.body=B44 from rfl,hB]
  obtain⟨t0,s0,hz0,q0,q1,q4,q5,r4,rby,ro⟩:=hP (cxn (n+13)) (fn (n+13) (j2+4)) KK K dx s c;have hxo:=hxx.ex;obtain⟨xa,hxe⟩:=hxx;obtain⟨w,h89,hw⟩:=c89 (n+1) hx hN hxe;have hKM:K≠M:=by rintro e;rw[e,hM]at hK;cases hK
  have hPI:PI ⟨d,e,low,pc,M,v,f⟩ K (c+1) c (c+1+1) c:=⟨hKc,hMc,hKM,aJ _,Nat.lt_succ_self _,Nat.lt_succ_self _⟩;have ho:∀m,m<c→sget s0 m=sget s m:=fun m hm=>ro m (by omega) (by omega)
  have hSI:SI ⟨d,e,low,pc,M,v,f⟩ K (c+1) c (c+1+1) s c sm [] .nils q s0 (c+1+1):=⟨by rw[ho K hKc,hK],by rw[ho M hMc,hM],rby,r4,fun m m1 _ _=>ho m m1,.inl ⟨rfl,rfl⟩,fun m hm=>by rw[ro m (by omega) (by omega)];exact hfr m (by omega),aJ _,hq⟩
  have hinv:=xD hE F fs (fun g hg=>(hfx g hg).ex)
  have hcall:∀(y:Nd) (ts:List Tl) (sm:Lk),SG us sm→∀s c,CI us ⟨d,e,low,pc,M,v,f⟩ K sm vs ts s c→jR ⟨d,e,low,pc,M,v,f⟩ K (calM (EC n us ⟨d,e,low,pc,M,v,f⟩) (pS (EC n us ⟨d,e,low,pc,M,v,f⟩) F fs) fs y ts sm) (fn (n+13) (j2+1+3) (.fn 88) [.ptr K 0,.agg (bU y)] s c) s c:=fun y ts sm hG s c hCI=>
   f88 (n+12) j2 ⟨d,e,low,pc,M,v,f⟩ hE.lt hE.pc (RDl n d e) hf hfo hfl hCI hG.ec hG.lb (pS (EC n us ⟨d,e,low,pc,M,v,f⟩) F fs) fun i hi v' fd hfd vs' q s c hV' hK' hq' hM' hKc' hMc' hfr'=>by
    have hgi:=cB hi;have ht:(fs.take i).length<F:=by rw[dG];omega
    have hrec:pS (EC n us ⟨d,e,low,pc,M,v,f⟩) F fs i vs' (sm.mark ⟨us,low,pc,RDl n d e⟩ y.site)=uL (EC n us ⟨d,e,low,pc,M,v',fd⟩) F (fs.take i) vs' fs[i].body (sm.mark ⟨us,low,pc,RDl n d e⟩ y.site):=by
     unfold pS;rw[aI hi];rfl
    have hb:=(hfx _ hgi).ex.le;have:=f44 n F (j2+3) (by omega) v' fd hE (fs.take i) ht (by rw[dG];omega) hfd (fun g hg=>hfo g (eW hg)) (fun g hg=>hfx g (eW hg)) vs' fs[i].body fs[i].bd (hfo _ hgi).b ((hfo _ hgi).nd hb) (hfx _ hgi) (sm.mark ⟨us,low,pc,RDl n d e⟩ y.site) q s c K (hG.mark hE _) hV' hK' hq' hM' hKc' hMc' hfr'
    rw[←hrec]at this;exact this
  obtain⟨t3,ht3⟩:∃t3,t3=tput (tput (tput (tput (tput (tput (tput (tput (tput (tput (tput (tput (tput t0 28 dx) 29 (.tup [w,.int .i64 0])) 27 (.tup [w,.int .i64 0])) 30 w) 31 (.int .i64 0)) 6 w) 7 (.int .i64 0)) 32 (.int .i64 0)) 33 (.tup [])) 8 .nils) 34 w) 35 (.int .i64 ((jC x).length:Nat))) 36 (.int .i64 0):=⟨_,rfl⟩
  have hTI:TI K (c+1) c dx w (jC x).length 0 .nils t3:=by
   rw[ht3];refine⟨?_,?_,?_,?_,?_,?_,?_,?_⟩
   ·simpa[aE]using q0
   ·simpa[aE]using q1
   ·simpa[aE]using q4
   ·simpa[aE]using q5
   all_goals simp[aE]
  have hloop:=loop44 n (j2+1) ⟨d,e,low,pc,M,v,f⟩ hE hPI hx hxo hw hV (fs:=fs) hinv.1 hTI hSI hG hcall;rw[xE]
  have hz:∀R:AC,zC (.seq P1 (.seq P2 (.seq (.reg none [⟨some 28,.mv (.t 1),none⟩,⟨some 29,.call 89 [.t 28],none⟩,⟨some 27,.mv (.t 29),none⟩,⟨some 30,.ext 0 (.t 27),none⟩,⟨some 31,.ext 1 (.t 27),none⟩,⟨some 6,.mv (.t 30),none⟩,⟨some 7,.mv (.t 31),none⟩]) (.seq (.reg none [⟨some 32,.mv (.t 7),none⟩,⟨some 33,.call 41 [.c (.int .i64 0),.t 32],none⟩]) (.seq (.reg none [⟨some 8,.mv (.c .nils),none⟩]) (.seq (.seq (.reg none [⟨some 34,.mv (.t 6),none⟩,⟨some 35,.len false (.t 34),none⟩,⟨some 36,.mv (.c (.int .i64 0)),none⟩]) (.block 0 Lp44)) R)))))) (cxn (n+13)) (fn (n+13) (j2+4)) KK (start [.ptr K 0,dx] s c) =
    zbind (mG 0 (zC Lp44 (cxn (n+13)) (fn (n+13) (j2+1+3)) KK ⟨t3,s0,c+1+1,[],none⟩)) (zC R (cxn (n+13)) (fn (n+13) (j2+1+3)) KK):=fun R=>by
   have hz1:∀R:AC,zC (.seq P1 (.seq P2 R)) (cxn (n+13)) (fn (n+13) (j2+4)) KK (start [.ptr K 0,dx] s c)=zC R (cxn (n+13)) (fn (n+13) (j2+4)) KK ⟨t0,s0,c+1+1,[],none⟩:=fun R=>by
    rw[zC_sq]at hz0 ⊢;rw[zC_sq P2 R];simp only at hz0 ⊢;rw[←vX,hz0];rfl
   rw[hz1];have hf89:fn (n+13) (j2+4) (.fn 89) [dx] s0 (c+1+1) = .ok (.ret (.tup [w,.int .i64 0])) s0 (c+1+1):=by
    rw[show j2+4=j2+3+1 from rfl,show n+13=n+12+1 from rfl,aF (f:=89) rfl]
    simp only[aQ,hx.fz,aO,bJ,h89,Bool.true_or,aS]
   simp only[z0,seval,q1,hf89,eY,hw.len];rw[←ht3]
  rw[hz];cases hr:kX (EC n us ⟨d,e,low,pc,M,v,f⟩) (pS (EC n us ⟨d,e,low,pc,M,v,f⟩) F fs) fs vs (gL x) [] sm with
  | bad a b=>
   rw[hr]at hloop;obtain⟨t4,s4,c4,h4,hB4⟩:=hloop;rw[h4];exact⟨s4,c4,rfl,hB4⟩
  | ok p=>
   rw[hr]at hloop;obtain⟨t4,s4,c4,q8,q',h4,hS4,q48,q44⟩:=hloop;obtain⟨_,_,g3⟩:=run_inv hE hinv.1 hV.good (gL x) [] sm p 1 (pU hxo) (mK hxo) nofun hG hr;obtain⟨st,sm'⟩:=p
   match st,g3 with
   | [u],_=>
    rw[h4];have hst:=hS4.stk;rcases hst with⟨_,h⟩|⟨m,ty,cs,hm,rfl,hs,hl,htk⟩
    ·cases h
    have hl5:decide (5≤cs.length)=true:=bD (by simpa using hl)
    have htk5:cs.take 5=tlC u:=by have:cs.take (1*5)=cL tlC [u]:=htk;simpa[cL]using this
    have hR:=hS4.hR;have hle4:=hS4.le;unfold ty0 at hR;have mc:(c=m)=False:=aL (by omega)
    refine⟨sset s4 c (.fix 37 (tlC u)),c4,q',?_,?_⟩
    ·unfold tlC tyC tl at *;simp only[z0,seval,q48,q44,show kE 5 (.gs m 0 5 1) (.int .i64 0)=some (.ptr m 0) from rfl,hs,hl5,htk5,hR,aU,bN,A44]
    ·exact⟨by show c≤c4;omega,by rw[aN,aD (by omega),hS4.hK],by rw[aN,aD (by show M≠c;omega),hS4.hM],fun m m1 m2 m3=>by rw[aN,aD (by omega),hS4.old m m1 m2 m3],fun m hm=>by rw[aN,aD (by omega)];exact hS4.fr m hm,hS4.nag⟩
theorem caughtN(n j:Nat)(p q:Nat)(s:St)(c:Nat):dfn n (j+1) 40 [.ptr p 0,.ptr q 0] none s c = .ok (.ret (.tup [])) none s c:=by
 rw[dfn_in (A:=A40) rfl n j _ _ s c rfl];rfl
theorem caughtS(n j:Nat)(a e x y:Int){k k' p q:Nat}{s:St}{c:Nat}(h1:sget s q=some (.fix k [.int .i64 x]))(h2:sget s p=some (.fix k' [.int .i64 y]))(hf:mF s c)(hp:p<q)(hq:q<c):
  ∃s' c',dfn n (j+1) 40 [.ptr p 0,.ptr q 0] (some (jB a e)) s c = .ok (.ret (.tup [])) (some [(.iface 130 (.agg [.int .i64 a,.int .i64 e]),true)]) s' c'∧sget s' q=some (.fix k [.int .i64 e])∧sget s' p=some (.fix k' [.int .i64 a])∧∀m,m<c→m≠p→m≠q→sget s' m=sget s m:=by
 rw[dfn_in (A:=A40) rfl n j _ _ s c rfl,show A40.body=B40 from rfl]
 unfold B40 jB;have f1:(p=c)=False:=aL (by omega)
 have f2:(q=c)=False:=aL (by omega)
 have g1:(c=p)=False:=aL (by omega)
 have g2:(c=q)=False:=aL (by omega)
 have g3:(p=q)=False:=aL (by omega)
 have g4:(q=p)=False:=aL (by omega)
 have hcm:∀d,pN (.ifc true) (.iface 130 d) .nilif=some false:=fun _=>rfl
 simp only[z2,seval,ex_S,f1,f2,g1,g2,g3,g4,h1,h2,hcm,cD,cA,AC.noRcv,eG,cX,AOp.kd,zop,dP,tks,cC,dW,nb];refine⟨_,_,rfl,?_,?_,fun m m1 m2 m3=>?_⟩
 ·simp only[aE];simp
 ·simp only[aE];simp[g3]
 ·simp only[aN,aW];rw[aD m3,aD m2,aD (by omega),aD (by omega)]
structure Pres (E:LEn) (P P':Lk→Prop):Prop where
 ec:∀s ec,P' s→P' ⟨ec,s.lk,s.lm⟩
 mark:∀s x,P' s→P (s.mark E x)
theorem node_pres{E:LEn}{P P':Lk→Prop}(h:Pres E P P'){cal:Nat→List Vr→Lk→Lo (Tl×Lk)}(hc:∀i vs s p,P s→cal i vs s = .ok p→P p.2){fs:List Fd}{vs:List Vr}{x:Nd}(hk:1≤x.kind∧x.kind≤6){st:List Tl}{s:Lk}{p:List Tl×Lk}(hs:P' s.tick)(hp:mW E cal fs vs x st s = .ok p):P p.2:=by
 unfold mW at hp;split at hp
 ·cases hp
 split at hp
 case h_2=>cases hp
 rename_i q hq;cases hp;show P (if x.kind=6 then q.2 else q.2.mark E x.site)
 unfold rU at hq;by_cases h6:x.kind=6
 ·rw[aH h6];rw[aD (by omega),aD (by omega),aD (by omega),aD (by omega),aD (by omega)]at hq
  unfold calM at hq;split at hq
  ·cases hq
  split at hq
  ·cases hq
  split at hq
  ·cases hq
  exact hc _ _ _ _ (h.mark _ _ hs) hq
 ·rw[aD h6];refine h.mark _ _ ?_;split at hq
  ·cases hq;exact hs
  split at hq
  ·cases hq;exact hs
  split at hq
  ·cases hq;exact hs
  split at hq
  ·unfold nameM at hq;split at hq
   ·cases hq
   ·cases hq;exact hs
  split at hq
  ·unfold uV at hq;split at hq
   ·cases hq
   split at hq
   ·cases hq
   cases hq;exact h.ec _ _ hs
  ·omega
theorem run_pres{E:LEn}{P P':Lk→Prop}(h:Pres E P P')(ht:∀s,P s→P' s.tick){cal:Nat→List Vr→Lk→Lo (Tl×Lk)}(hc:∀i vs s p,P s→cal i vs s = .ok p→P p.2){fs:List Fd}{vs:List Vr}:∀(l:List Nd) (st:List Tl) (s:Lk) (p:List Tl×Lk),(∀x∈l,oU x∧1≤x.kind∧x.kind≤6)→(l≠[]∧P' s.tick∨P s)→kX E cal fs vs l st s = .ok p→P p.2
 | [],st,s,p,_,hs,hp=>by
  cases hp;rcases hs with⟨h,_⟩|hs
  ·exact absurd rfl h
  ·exact hs
 | x::r,st,s,p,hx,hs,hp=>by
  rw[kX]at hp;split at hp
  ·rename_i q hq;have:=node_pres h hc (hx x (bH ..)).2 (hs.elim (fun h=>h.2) (ht s)) hq
   exact run_pres h ht hc r q.1 q.2 p (fun y hy=>hx y (bG _ hy)) (.inr this) hp
  ·cases hp
theorem nodes_ne{x:List Nd}(h:rQ x):gL x≠[]:=by
 intro e;have:=mK h;rw[e]at this;cases this
theorem xC{E:LEn}{P P':Lk→Prop}(h:Pres E P P')(ht:∀s,P s→P' s.tick):∀(f:Nat) (fs:List Fd),(∀g∈fs,rQ g.body)→∀(vs:List Vr) (x:List Nd) (s:Lk) (p:Tl×Lk),rQ x→P' s.tick→uL E f fs vs x s = .ok p→P p.2
 | 0,_,_,_,_,_,_,_,_,hp=>by cases hp
 | f+1,fs,hf,vs,x,s,p,hx,hs,hp=>by
  rw[xE]at hp;have hc:∀i vs s p,P s→pS E f fs i vs s = .ok p→P p.2:=fun i vs s p hs hp=>by
   unfold pS at hp;split at hp
   ·rename_i g hg;obtain⟨hi,rfl⟩:=cH.1 hg;exact xC h ht f (fs.take i) (fun g hg=>hf g (eW hg)) vs _ s p (hf _ (cB hi)) (ht s hs) hp
   ·cases hp
  cases hr:kX E (pS E f fs) fs vs (gL x) [] s with
  | bad a e=>rw[hr]at hp;cases hp
  | ok q=>
   have:=run_pres h ht hc (gL x) [] s q (pU hx) (.inl ⟨nodes_ne hx,hs⟩) hr;rw[hr]at hp;obtain⟨st,sm⟩:=q
   match st with
   | []=>cases hp
   | t::r=>cases hp;exact this
def KeyL(l:List (Int×Int))(x:Int):List Int:=match qZ l x 0 with|none=>l.map Prod.fst++[x]|some _=>l.map Prod.fst
theorem mkL_keys(us:List Nat)(lm:List (Int×Int))(x:Int)(now:Nat):(mkL us lm x now).map Prod.fst=KeyL lm x:=by
 unfold mkL KeyL;cases qZ lm x 0 with
 | none=>simp
 | some q=>simp only[setM_keys]
theorem key_nodup{lm:List (Int×Int)}{x:Int}(h:(lm.map Prod.fst).Nodup):(KeyL lm x).Nodup:=by
 unfold KeyL;cases hq:qZ lm x 0 with
 | none=>
  have:=posM_none hq;refine List.nodup_append.2 ⟨h,by simp,fun a ha b hb=>?_⟩
  rw[eB.1 hb];rintro rfl;exact this ha
 | some q=>exact h
def KP(s:Lk):Prop:=(s.lm.map Prod.fst).Nodup∧s.lm.length≤s.lk
def KP'(s:Lk):Prop:=(s.lm.map Prod.fst).Nodup∧s.lm.length+1≤s.lk
theorem kp_pres(E:LEn):Pres E KP KP' where
 ec s ec h:=h
 mark s x h:=by
  refine⟨?_,?_⟩
  ·show((mkL E.us s.lm x _).map Prod.fst).Nodup;rw[mkL_keys];exact key_nodup h.1
  ·show(mkL E.us s.lm x _).length≤s.lk;have:(mkL E.us s.lm x (J E.us E.pc s.ec)).length=(KeyL s.lm x).length:=by rw[←mkL_keys E.us s.lm x (J E.us E.pc s.ec),fA]
   rw[this];have:=h.2;unfold KeyL;split<;>simp<;>omega
theorem kp_tick(s:Lk)(h:KP s):KP' s.tick:=⟨h.1,by show s.lm.length+1≤s.lk+1;have:=h.2;omega⟩
theorem ne_pres(E:LEn):Pres E (fun s=>s.lm≠[]) (fun _=>True) where
 ec _ _ _:=trivial
 mark s x _:=by
  show mkL E.us s.lm x _≠[];intro e;have:=mkL_keys E.us s.lm x (J E.us E.pc s.ec);rw[e]at this;unfold KeyL at this;split at this
  ·simp at this
  ·rename_i hq;obtain⟨p,hp,_⟩:=uB hq;have:s.lm=[]:=by simpa using this.symm
   rw[this]at hp;cases hp
def NotLong(l:List Nd):Prop:=l.length≤405∧(l.length≤400→∀x∈l,x.name.length≤500∧x.text.length≤500)
theorem c11(n:Nat){l:List Nd}{d:D}(hd:Sl 7 bU l d):∃b,cl n 11 [d]=some (.bool b,true)∧(b=false→NotLong l):=by
 rw[cK (A:=A11) rfl n _ rfl,show A11.body=B11 from rfl]
 simp only[B11,Ab.abq];simp only[z2,seval];generalize hz:zloop KK _ _=rl;have hN:min l.length 80≤80:=Nat.min_le_right _ _;refine zfor rl hz (min l.length 80) (fQ (by omega)) (by omega) (fun i t s c=>tget t 0=d∧∀j,j<i→∀h:j<l.length,l[j].name.length≤500∧l[j].text.length≤500) (by simp[aE]) ⟨by simp[aE],nofun⟩ ?_
 rintro i t s c hi ⟨q0,hn⟩ q3;by_cases hlt:i<l.length
 ·by_cases h80:i<80
  ·have k1:decide ((i:Int)<80)=true:=dT (by omega)
   have g3:=hd.cell hlt (show 3<7 by omega)
   have g4:=hd.cell hlt (show 4<7 by omega)
   by_cases e1:500<l[i].name.length
   ·have k2:decide ((500:Int)<(l[i].name.length:Nat))=true:=dT (by omega)
    simp only[z2,seval,q0,q3,hd.len,eD hlt,k1,hd.ia hlt,g3,g4,bU,k2,nb,A11];exact⟨true,rfl,nofun⟩
   ·have k2:decide ((500:Int)<(l[i].name.length:Nat))=false:=dF (by omega)
    by_cases e2:500<l[i].text.length
    ·have k3:decide ((500:Int)<(l[i].text.length:Nat))=true:=dT (by omega)
     simp only[z2,seval,q0,q3,hd.len,eD hlt,k1,hd.ia hlt,g3,g4,bU,k2,k3,nb,A11];exact⟨true,rfl,nofun⟩
    ·have k3:decide ((500:Int)<(l[i].text.length:Nat))=false:=dF (by omega)
     simp only[z2,seval,q0,q3,hd.len,eD hlt,k1,hd.ia hlt,g3,g4,bU,k2,k3,nb];refine⟨by omega,trivial,trivial,trivial,trivial,fun j hj h=>?_⟩
     rcases cY.1 hj with h'|rfl
     ·exact hn j h' h
     ·exact⟨by omega,by omega⟩
  ·have k1:decide ((i:Int)<80)=false:=dF (by omega)
   have k60:decide ((60:Int)<(l.length:Nat))=true:=dT (by omega)
   by_cases e4:l.length≤400
   ·have k4:decide (((l.length:Nat):Int)≤400)=true:=dT (by omega)
    simp only[z2,seval,q0,q3,hd.len,eD hlt,k1,k60,k4,nb,A11];exact⟨true,rfl,nofun⟩
   ·have k4:decide (((l.length:Nat):Int)≤400)=false:=dF (by omega)
    simp only[z2,seval,q0,q3,hd.len,eD hlt,k1,k60,k4,nb,A11];exact⟨decide ((405:Int)<(l.length:Nat)),rfl,fun h=>⟨by rw[bX]at h;omega,fun h'=>absurd h' e4⟩⟩
 ·have e1:i=l.length:=by omega
  subst e1;have h60:l.length≤80:=by omega
  have hall:∀x∈l,x.name.length≤500∧x.text.length≤500:=fun x hx=>by
   obtain⟨j,hj,rfl⟩:=eO hx;exact hn j hj hj
  have k4:decide (((l.length:Nat):Int)≤400)=true:=dT (by omega)
  have k5:decide ((405:Int)<(l.length:Nat))=false:=dF (by omega)
  by_cases e:60<l.length
  ·have k60:decide ((60:Int)<(l.length:Nat))=true:=dT (by omega)
   simp only[z2,seval,q0,q3,hd.len,kB (aJ l.length),k60,k4,k5,nb,A11];exact⟨true,rfl,nofun⟩
  ·have k60:decide ((60:Int)<(l.length:Nat))=false:=dF (by omega)
   simp only[z2,seval,q0,q3,hd.len,kB (aJ l.length),k60,k4,k5,nb,A11];exact⟨false,rfl,fun _=>⟨by omega,fun _=>hall⟩⟩
end
end Zv
namespace Zv
open Go Ab
noncomputable section
theorem B13_eq:B13=(s Lk1 (s Lk2 (s Lk3 (s Lk4 (s Lk5 (s Lk6 (s Lk7 (s Lk8 (s Lk9 (s Lk10 (s Lk11 (s Lk12 (s Lk13 (s Lk14 .ret)))))))))))))):=rfl
def H13:AC:=s Lk1 (s Lk2 (s Lk3 (s Lk4 (s Lk5 (s Lk6 (s Lk7 (s Lk8 (s Lk9 Lk10))))))))
def T13:AC:=s Lk11 (s Lk12 (s Lk13 (s Lk14 .ret)))
theorem zq_bind(K:AS→Prop)(Q:R→Prop)(r:R)(f:AS→R):zq (fun y=>zq K Q (f y)) Q r↔zq K Q (zbind r f):=by
 cases r with
 | no=>exact Iff.rfl
 | ok o x=>cases o<;>exact Iff.rfl
theorem W_h13{cx:Cx}{cl:CL}{k:Nat}{x:AS}{Q:R→Prop}(h:zq (fun y=>nB (bC cx cl k T13 y) Q) Q (zC H13 cx cl k x)):nB (bC cx cl k B13 x) Q:=by
 rw[B13_eq];simp only[Ab.abq];simp only[H13,Ab.abq]at h;rw[zC_sq]at h;rw[W_seq1 (by rfl) (by rfl)]
 simp only[zC_sq]at h;rw[←zq_bind]at h;have step:∀{r:R} {K K':AS→Prop},(∀y,K y→K' y)→zq K Q r→zq K' Q r:=fun {r} {K} {K'} hk hq=>by
  cases r with
  | no=>exact hq
  | ok o x=>cases o<;>first|exact hk _ hq|exact hq
 refine step (fun y hy=>?_) h
 iterate 8
  rw[W_seq1 (by rfl) (by rfl)]
  rw[←zq_bind]at hy;refine step (fun y hy=>?_) hy
 rw[W_seq1 (by rfl) (by rfl)]
 exact hy
def D13:List (D×List D):=[(.fn (.func 40) [] [],[.ptr 2 0,.ptr 3 0])]
def zl0:List D:=[.int .i64 0,.int .i64 0,.int .i64 0,.int .i64 0,.int .i64 0,.int .i64 0,.nils,.int .i64 0]
structure LF (t:Tm) (s:St) (c:Nat):Prop where
 t8:tget t 8 = .ptr 1 0
 t9:tget t 9 = .ptr 2 0
 t10:tget t 10 = .ptr 3 0
 s1:sget s 1=some (.fix 40 zl0)
 s2:sget s 2=some (.fix 4 [.int .i64 0])
 s3:∃z:Int,sget s 3=some (.fix 41 [.int .i64 z])
 fr:mF s c
 le:4≤c
def yA(n:Nat)(p:D)(r:R):Prop:=pout (zbody (dfn n MM) A13 r)=some (p,true)
theorem uH(n:Nat)(a e:Int){t:Tm}{s:St}{c:Nat}(h:LF t s c):yA n (.tup [.agg zl0,.int .i64 a,.int .i64 e]) (.ok (.pan (jB a e)) ⟨t,s,c,D13,none⟩):=by
 obtain⟨z,s3⟩:=h.s3;have hle:=h.le;obtain⟨s',c',h1,e3,e2,ho⟩:=caughtS n 4095 a e z 0 s3 h.s2 h.fr (by decide) (by omega)
 have h1:dfn n MM 40 [.ptr 2 0,.ptr 3 0] (some (jB a e)) s c=_:=h1;have e1:sget s' 1=some (.fix 40 zl0):=by rw[ho 1 (by omega) (by decide) (by decide),h.s1]
 have:zbody (dfn n MM) A13 (.ok (.pan (jB a e)) ⟨t,s,c,D13,none⟩) = .ok (.ret (.tup [.agg zl0,.int .i64 a,.int .i64 e])) s' c':=by
  show oX (dfn n MM) A13 (some (jB a e)) ⟨t,s,c,D13,none⟩=_;unfold oX D13;unfold zl0 at *;simp only[zDs,cA,dB,h1,settle];simp only[z0,↓reduceIte,Nat.reduceEqDiff,Nat.reduceAdd,Nat.reduceLeDiff,reduceCtorEq,A13,h.t8,h.t9,h.t10,e1,e2,e3]
 unfold yA;rw[this];rfl
section
variable (n:Nat) {ss:List (List UInt8)} {us:List Nat} {d e v f dx:D} {vs:List Vr} {fs:List Fd} (pc ec:Int)
theorem h13_env(hd:eU d=false∧∀k s,frz false (k+1) s d=some d)(he:eU e=false∧∀k s,frz false (k+1) s e=some e)(hv:eU v=false∧∀k s,frz false (k+1) s v=some v)(hf:eU f=false∧∀k s,frz false (k+1) s f=some f){er:Int}(h22:cl n 22 [.agg [d,e,v,f]]=some (.int .i64 er,true))(h0:er≠0):
  ∃t s c,zC H13 (cxn (n+1)) (fn (n+1) 4096) KK (start [.agg [d,e,v,f],.int .i64 pc,.int .i64 ec,dx] st0 0) = .ok (.pan (jB 0 er)) ⟨t,s,c,D13,none⟩∧LF t s c:=by
 simp only[H13,Lk1,Lk2,Lk3,Ab.abq];simp only[z0,↓reduceIte,Nat.reduceEqDiff,Nat.reduceAdd,Nat.reduceLeDiff,reduceCtorEq,hd.1,he.1,hv.1,hf.1,hd.2,he.2,hv.2,hf.2,aF (f:=22) rfl,aQ,iV,h22,eY,aD h0];refine⟨_,_,_,rfl,?_,?_,?_,?_,?_,⟨0,?_⟩,?_,by decide⟩
 ·simp[aE]
 ·simp[aE]
 ·simp[aE]
 ·simp[aE];rfl
 ·simp[aE]
 ·simp[aE]
 ·intro m hm;have hm':4≤m:=hm;simp only[aW];rw[aD (by omega),aD (by omega),aD (by omega),aD (by omega)];exact dU m
theorem h13_rng(h:Lt ss us d e)(hE:tR vs fs v f)(h22:cl n 22 [.agg [d,e,v,f]]=some (.int .i64 0,true))(hr:¬((0≤pc∧pc<us.length)∧0≤ec∧ec<us.length)):
  ∃t s c,zC H13 (cxn (n+1)) (fn (n+1) 4096) KK (start [.agg [d,e,v,f],.int .i64 pc,.int .i64 ec,dx] st0 0) = .ok (.pan (jB 0 7)) ⟨t,s,c,D13,none⟩∧LF t s c:=by
 have ld:=h.d.len;rw[←h.l]at ld;have i0:kE 1 (.ms 4 0 1 2 2) (.int .i64 0)=some (.ptr 4 0):=rfl;have i1:kE 1 (.ms 4 0 1 2 2) (.int .i64 1)=some (.ptr 4 1):=rfl;have l2:lenD false (.ms 4 0 1 2 2)=some 2:=rfl;have z7:((7:Int)=0)=False:=aL (by decide)
 have w1:dJ .i64 (0+1)=1:=rfl;have fin:∀(t:Tm) (s:St) (c:Nat),tget t 8 = .ptr 1 0→tget t 9 = .ptr 2 0→tget t 10 = .ptr 3 0→s=sadd (sadd (sadd (sadd (sadd st0 0 (.fix 30 [d,e,v,f])) 1 (.fix 40 zl0)) 2 (.fix 4 [.int .i64 0])) 3 (.fix 41 [.int .i64 0])) 4 (.fix 0 [.int .i64 pc,.int .i64 ec])→5≤c→LF t s c:=fun t s c h1 h2 h3 hs hc=>by
  subst hs;refine⟨h1,h2,h3,?_,?_,⟨0,?_⟩,?_,by omega⟩
  ·simp[aE]
  ·simp[aE]
  ·simp[aE]
  ·intro m hm;simp only[aW];rw[aD (by omega),aD (by omega),aD (by omega),aD (by omega),aD (by omega)];exact dU m
 simp only[H13,Lk1,Lk2,Lk3,Lk4,Ab.abq];by_cases p1:pc<0
 ·simp only[z0,↓reduceIte,Nat.reduceEqDiff,Nat.reduceAdd,Nat.reduceLeDiff,reduceCtorEq,h.d.nag,h.e.nag,hE.v.nag,hE.f.nag,h.d.fz,h.e.fz,hE.v.fz,hE.f.fz,aF (f:=22) rfl,aQ,iV,h22,eY,l2,show((2:Nat):Int)=2 from rfl,show decide ((0:Int)<2)=true from rfl,show decide ((1:Int)<2)=true from rfl,show decide ((2:Int)<2)=false from rfl,zun,i0,i1,bD p1,z7]
  refine⟨_,_,_,rfl,fin _ _ _ ?_ ?_ ?_ rfl (by decide)⟩<;>simp[aE]
 by_cases p2:((us.length:Nat):Int)≤pc
 ·simp only[z0,↓reduceIte,Nat.reduceEqDiff,Nat.reduceAdd,Nat.reduceLeDiff,reduceCtorEq,h.d.nag,h.e.nag,hE.v.nag,hE.f.nag,h.d.fz,h.e.fz,hE.v.fz,hE.f.fz,aF (f:=22) rfl,aQ,iV,h22,eY,l2,show((2:Nat):Int)=2 from rfl,show decide ((0:Int)<2)=true from rfl,show decide ((1:Int)<2)=true from rfl,show decide ((2:Int)<2)=false from rfl,zun,i0,i1,aK p1,ld,bD p2,z7,Int.reduceLT,aV]
  refine⟨_,_,_,rfl,fin _ _ _ ?_ ?_ ?_ rfl (by decide)⟩<;>simp[aE]
 by_cases p3:ec<0
 ·simp only[z0,↓reduceIte,Nat.reduceEqDiff,Nat.reduceAdd,Nat.reduceLeDiff,reduceCtorEq,h.d.nag,h.e.nag,hE.v.nag,hE.f.nag,h.d.fz,h.e.fz,hE.v.fz,hE.f.fz,aF (f:=22) rfl,aQ,iV,h22,eY,l2,show((2:Nat):Int)=2 from rfl,show decide ((0:Int)<2)=true from rfl,show decide ((1:Int)<2)=true from rfl,show decide ((2:Int)<2)=false from rfl,zun,i0,i1,aK p1,ld,aK p2,bD p3,z7,w1,Int.reduceLT,aV]
  refine⟨_,_,_,rfl,fin _ _ _ ?_ ?_ ?_ rfl (by decide)⟩<;>simp[aE]
 have p4:((us.length:Nat):Int)≤ec:=by omega
 simp only[z0,↓reduceIte,Nat.reduceEqDiff,Nat.reduceAdd,Nat.reduceLeDiff,reduceCtorEq,h.d.nag,h.e.nag,hE.v.nag,hE.f.nag,h.d.fz,h.e.fz,hE.v.fz,hE.f.fz,aF (f:=22) rfl,aQ,iV,h22,eY,l2,show((2:Nat):Int)=2 from rfl,show decide ((0:Int)<2)=true from rfl,show decide ((1:Int)<2)=true from rfl,show decide ((2:Int)<2)=false from rfl,zun,i0,i1,aK p1,ld,aK p2,aK p3,bD p4,z7,w1,Int.reduceLT,aV]
 refine⟨_,_,_,rfl,fin _ _ _ ?_ ?_ ?_ rfl (by decide)⟩<;>simp[aE]
end
end
end Zv
namespace Zv
open Go
noncomputable section
section
variable (n:Nat) {ss:List (List UInt8)} {us:List Nat} {d e v f dx:D} {vs:List Vr} {fs:List Fd} {x:List Nd} (pc ec:Nat)
theorem h13_exp(h:Lt ss us d e)(hE:tR vs fs v f)(h22:cl n 22 [.agg [d,e,v,f]]=some (.int .i64 0,true))(hp:pc<us.length)(he:ec<us.length)(hx:Sl 7 bU x dx){a y:Int}(h42:cl n 42 [dx]=some (e2 a y,true))(h0:y≠0):
  ∃t s c,zC H13 (cxn (n+1)) (fn (n+1) 4096) KK (start [.agg [d,e,v,f],.int .i64 (pc:Nat),.int .i64 (ec:Nat),dx] st0 0) = .ok (.pan (jB 0 y)) ⟨t,s,c,D13,none⟩∧LF t s c:=by
 have ld:=h.d.len;rw[←h.l]at ld;have i0:kE 1 (.ms 4 0 1 2 2) (.int .i64 0)=some (.ptr 4 0):=rfl;have i1:kE 1 (.ms 4 0 1 2 2) (.int .i64 1)=some (.ptr 4 1):=rfl;have l2:lenD false (.ms 4 0 1 2 2)=some 2:=rfl;have w1:dJ .i64 (0+1)=1:=rfl;have w2:dJ .i64 (1+1)=2:=rfl;have p1:decide (((pc:Nat):Int)<0)=false:=aK (by omega)
 have p2:decide (((us.length:Nat):Int)≤(pc:Nat))=false:=aK (by omega)
 have p3:decide (((ec:Nat):Int)<0)=false:=aK (by omega)
 have p4:decide (((us.length:Nat):Int)≤(ec:Nat))=false:=aK (by omega)
 simp only[H13,Lk1,Lk2,Lk3,Lk4,Lk5,Lk6,Ab.abq];unfold e2 at h42
 simp only[z0,↓reduceIte,Nat.reduceEqDiff,Nat.reduceAdd,Nat.reduceLeDiff,reduceCtorEq,h.d.nag,h.e.nag,hE.v.nag,hE.f.nag,h.d.fz,h.e.fz,hE.v.fz,hE.f.fz,hx.fz,aF (f:=22) rfl,aF (f:=42) rfl,aQ,iV,h22,h42,eY,l2,show((2:Nat):Int)=2 from rfl,show decide ((0:Int)<2)=true from rfl,show decide ((1:Int)<2)=true from rfl,show decide ((2:Int)<2)=false from rfl,zun,i0,i1,p1,p2,p3,p4,ld,w1,w2,aD h0]
 refine⟨_,_,_,rfl,?_,?_,?_,?_,?_,⟨y,?_⟩,?_,?_⟩
 ·simp[aE]
 ·simp[aE]
 ·simp[aE]
 ·simp[aE];rfl
 ·simp[aE]
 ·simp[aE]
 ·intro m hm;have hm':5≤m:=hm;simp only[aN,aW];rw[aD (by omega),aD (by omega),aD (by omega),aD (by omega),aD (by omega),aD (by omega)];exact dU m
 ·decide
def S44(d e v f:D)(low pc ec:Nat):St:=sadd (sadd (sset (sset (sadd (sadd (sadd (sadd (sadd st0 0 (.fix 30 [d,e,v,f])) 1 (.fix 40 [.int .i64 0,.int .i64 0,.int .i64 0,.int .i64 0,.int .i64 0,.int .i64 0,.nils,.int .i64 0])) 2 (.fix 4 [.int .i64 0])) 3 (.fix 41 [.int .i64 0])) 4 (.fix 0 [.int .i64 (pc:Nat),.int .i64 (ec:Nat)])) 3 (.fix 41 [.int .i64 0])) 3 (.fix 41 [.int .i64 0])) 5 (.mp [] 0)) 6 (.fix 96 [d,e,.int .i64 1,.int .i64 0,.int .i64 (low:Nat),.int .i64 (low:Nat),.int .i64 (low:Nat),.int .i64 (pc:Nat),.int .i64 (ec:Nat),.int .i64 0,.mp 5,v,f,.nils])
theorem S44_get(d e v f:D)(low pc ec:Nat):sget (S44 d e v f low pc ec) 1=some (.fix 40 zl0)∧sget (S44 d e v f low pc ec) 2=some (.fix 4 [.int .i64 0])∧sget (S44 d e v f low pc ec) 3=some (.fix 41 [.int .i64 0])∧sget (S44 d e v f low pc ec) 5=some (.mp [] 0)∧sget (S44 d e v f low pc ec) 6=some (LkC.blk ⟨d,e,low,pc,5,v,f⟩ ⟨ec,0,[]⟩ .nils)∧mF (S44 d e v f low pc ec) 7:=by
 unfold S44;refine⟨?_,?_,?_,?_,?_,fun m hm=>?_⟩
 ·simp[aE];rfl
 ·simp[aE]
 ·simp[aE]
 ·simp[aE]
 ·simp[aE];rfl
 ·simp only[aN,aW];rw[aD (by omega),aD (by omega),aD (by omega),aD (by omega),aD (by omega),aD (by omega),aD (by omega),aD (by omega),aD (by omega)];exact dU m
structure LG (C:LkC) (p:Tl×Lk) (t:Tm) (s:St) (c:Nat):Prop where
 lf:LF t s c
 t14:tget t 14 = .ptr 6 0
 w:∃W,tget t 15 = .ptr W 0∧sget s W=some (.fix 37 (tlC p.1))∧7≤W∧W<c
 q:∃q,sget s 6=some (C.blk p.2 q)
 m:sget s 5=some (.mp (mpE 0 p.2.lm) p.2.lm.length)
theorem h13_ok(h:Lt ss us d e)(hE:tR vs fs v f)(h22:cl n 22 [.agg [d,e,v,f]]=some (.int .i64 0,true))(hp:pc<us.length)(he:ec<us.length)(hx:Sl 7 bU x dx){a:Int}(h42:cl n 42 [dx]=some (e2 a 0,true)){low:Nat}(h43:cl n 43 [.agg [d,e]]=some (e2 low 0,true)){r:Lo (Tl×Lk)}
  (h44:jR ⟨d,e,low,pc,5,v,f⟩ 6 r (fn (n+1) 4096 (.fn 44) [.ptr 6 0,dx] (S44 d e v f low pc ec) 7) (S44 d e v f low pc ec) 7) :
  match r with
  | .bad a b=>∃t s c,zC H13 (cxn (n+1)) (fn (n+1) 4096) KK (start [.agg [d,e,v,f],.int .i64 (pc:Nat),.int .i64 (ec:Nat),dx] st0 0) = .ok (.pan (jB a b)) ⟨t,s,c,D13,none⟩∧LF t s c
  | .ok p=>∃t s c,zC H13 (cxn (n+1)) (fn (n+1) 4096) KK (start [.agg [d,e,v,f],.int .i64 (pc:Nat),.int .i64 (ec:Nat),dx] st0 0) = .ok .normal ⟨t,s,c,D13,none⟩∧LG ⟨d,e,low,pc,5,v,f⟩ p t s c:=by
 have ld:=h.d.len;rw[←h.l]at ld;have i0:kE 1 (.ms 4 0 1 2 2) (.int .i64 0)=some (.ptr 4 0):=rfl;have i1:kE 1 (.ms 4 0 1 2 2) (.int .i64 1)=some (.ptr 4 1):=rfl;have l2:lenD false (.ms 4 0 1 2 2)=some 2:=rfl;have w1:dJ .i64 (0+1)=1:=rfl;have w2:dJ .i64 (1+1)=2:=rfl;have p1:decide (((pc:Nat):Int)<0)=false:=aK (by omega)
 have p2:decide (((us.length:Nat):Int)≤(pc:Nat))=false:=aK (by omega)
 have p3:decide (((ec:Nat):Int)<0)=false:=aK (by omega)
 have p4:decide (((us.length:Nat):Int)≤(ec:Nat))=false:=aK (by omega)
 obtain⟨g1,g2,g3,g5,g6,gf⟩:=S44_get d e v f low pc ec;have hS:S44 d e v f low pc ec=_:=rfl;rw[S44]at hS;simp only[H13,Lk1,Lk2,Lk3,Lk4,Lk5,Lk6,Lk7,Lk8,Lk9,Lk10,Ab.abq];unfold e2 at h42 h43;cases r with
 | bad b1 b2=>
  obtain⟨s',c',h6,hB⟩:=h44;rw[S44]at h6
  simp only[z0,↓reduceIte,Nat.reduceEqDiff,Nat.reduceAdd,Nat.reduceLeDiff,reduceCtorEq,h.d.nag,h.e.nag,hE.v.nag,hE.f.nag,h.d.fz,h.e.fz,hE.v.fz,hE.f.fz,iJ h.d.nag,iJ h.e.nag,iJ hE.v.nag,iJ hE.f.nag,show(D.mp 5).cells?=some [.mp 5]from rfl,hx.fz,aF (f:=22) rfl,aF (f:=42) rfl,aF (f:=43) rfl,aQ,iV,h22,h42,h43,eY,l2,show((2:Nat):Int)=2 from rfl,show decide ((0:Int)<2)=true from rfl,show decide ((1:Int)<2)=true from rfl,show decide ((2:Int)<2)=false from rfl,zun,i0,i1,p1,p2,p3,p4,ld,w1,w2,h6]
  refine⟨_,s',c',rfl,?_,?_,?_,by rw[hB.old 1 (by decide) (by decide) (by show(1:Nat)≠5;decide),g1],by rw[hB.old 2 (by decide) (by decide) (by show(2:Nat)≠5;decide),g2],⟨0,by rw[hB.old 3 (by decide) (by decide) (by show(3:Nat)≠5;decide),g3]⟩,hB.fr,by have:=hB.le;omega⟩
  all_goals simp[aE]
 | ok p=>
  obtain⟨s',c',q',h6,hC⟩:=h44;rw[S44]at h6;have hle:=hC.le;have e5:(5=c')=False:=aL (by omega)
  unfold tlC tyC tl at h6
  simp only[z0,↓reduceIte,Nat.reduceEqDiff,Nat.reduceAdd,Nat.reduceLeDiff,reduceCtorEq,h.d.nag,h.e.nag,hE.v.nag,hE.f.nag,h.d.fz,h.e.fz,hE.v.fz,hE.f.fz,iJ h.d.nag,iJ h.e.nag,iJ hE.v.nag,iJ hE.f.nag,show(D.mp 5).cells?=some [.mp 5]from rfl,hx.fz,aF (f:=22) rfl,aF (f:=42) rfl,aF (f:=43) rfl,aQ,iV,h22,h42,h43,eY,l2,show((2:Nat):Int)=2 from rfl,show decide ((0:Int)<2)=true from rfl,show decide ((1:Int)<2)=true from rfl,show decide ((2:Int)<2)=false from rfl,zun,i0,i1,p1,p2,p3,p4,ld,w1,w2,h6]
  have o:∀(b b':Blk) m,m<7→sget (sset (sadd s' c' b) c' b') m=sget s' m:=fun b b' m hm=>by rw[aN,aD (by omega),aW,aD (by omega)]
  refine⟨_,_,_,rfl,⟨?_,?_,?_,by rw[o _ _ 1 (by decide),hC.old 1 (by decide) (by decide) (by show(1:Nat)≠5;decide),g1],by rw[o _ _ 2 (by decide),hC.old 2 (by decide) (by decide) (by show(2:Nat)≠5;decide),g2],⟨0,by rw[o _ _ 3 (by decide),hC.old 3 (by decide) (by decide) (by show(3:Nat)≠5;decide),g3]⟩,fun m hm=>?_,?_⟩,?_,⟨c',?_,?_,hle,Nat.lt_succ_self _⟩,⟨q',by rw[o _ _ 6 (by decide),hC.hK]⟩,by rw[o _ _ 5 (by decide)];exact hC.hM⟩
  ·simp[aE]
  ·simp[aE]
  ·simp[aE]
  ·have hm':c'+1≤m:=hm;rw[aN,aD (by omega),aW,aD (by omega)];exact hC.fr m (by omega)
  ·show 4≤c'+1;omega
  ·simp[aE]
  ·simp[aE]
  ·rw[aN,aH rfl];rfl
end
def nJ(e:rP):Int×Int:=match e with|(.int _ a,.int _ b,_)=>(a,b)|_=>(0,0)
theorem pairM_mpE:∀(l:List (Int×Int)) (k:Nat),(mpE k l).map nJ=l
 | [],_=>rfl
 | p::r,k=>by simp only[mpE,bW,pairM_mpE r];rfl
theorem mpE_form:∀(l:List (Int×Int)) (k:Nat),∀e∈mpE k l,e=(.int .i64 (nJ e).1,.int .i64 (nJ e).2,e.2.2)
 | [],_,e,h=>by simp[mpE]at h
 | p::r,k,e,h=>by
  simp only[mpE,bL]at h;rcases h with rfl|h
  ·rfl
  ·exact mpE_form r (k+1) e h
theorem born_filter:∀{es:List rP} {e:rP},(borns es).Nodup→e∈es→∃r,(es.filter fun x=>Nat.beq x.2.2 e.2.2)=e::r
 | [],e,_,h=>by simp at h
 | x::l,e,hn,h=>by
  simp only[borns,bW,List.nodup_cons]at hn;rcases bL.1 h with rfl|h
  ·exact⟨_,by rw[List.filter_cons,fG];rfl⟩
  ·have hne:x.2.2≠e.2.2:=fun h'=>hn.1 (by rw[h'];exact List.mem_map_of_mem h)
   obtain⟨r,hr⟩:=born_filter hn.2 h;exact⟨r,by rw[List.filter_cons,iY hne];exact hr⟩
theorem en2_frz(p:Bool)(k:Nat)(s:St):∀(l:List (Int×Int)),(en2 l).mapM (frz p (k+1) s)=some (en2 l)
 | []=>rfl
 | q::r=>by simp only[en2,List.mapM_cons,en2_frz p k s r];rfl
theorem enc_site:EncG 2 siteC:=⟨fun _=>rfl,by decide,fun _=>rfl,fun _ _ _ _=>rfl⟩
theorem vL:∀l:List (Int×Int),cL siteC l=en2 l
 | []=>rfl
 | p::r=>by
  have:=vL r;unfold cL at this ⊢;rw[bW,eI,this];rfl
theorem sort_row{L:List (Int×Int)}{s:St}{c ty:Nat}(hs:sget s c=some (.grow ty (en2 L)))(hn:(L.map Prod.fst).Nodup)(hl:L.length<10000):sortSt s c 0 L.length=some (sset s c (.grow ty (en2 (fI L)))):=by
 unfold sortSt;rw[hs];simp only[dX,fU];rw[cW (by rw[nW];exact aJ _),en2_row]
 simp only;rw[aH ⟨hn,trivial,by omega⟩]
 have hll:(en2 L).length=(en2 (fI L)).length:=by rw[nW,nW,(jI L).length_eq]
 have:stB (.grow ty (en2 L)) 0 (en2 (fI L))=some (.grow ty (en2 (fI L))):=by
  simp only[stB,en2_nag,cF,bK,hll,Nat.ble_self_eq_true,aS];have:=qW [] (en2 L) (en2 (fI L)) hll;simpa using this
 rw[this];rfl
theorem zend13_ret(n:Nat){t:Tm}{s:St}{c:Nat}{A:AF}:zbody (dfn n MM) A (.ok .ret ⟨t,s,c,D13,none⟩)=match results A ⟨t,s,c,D13,none⟩ with|some d=>.ok (.ret d) s c|none=>.no:=by
 have h1:dfn n MM 40 [.ptr 2 0,.ptr 3 0] none s c=_:=caughtN n 4095 2 3 s c;show oX (dfn n MM) A none ⟨t,s,c,D13,none⟩=_;unfold oX D13;simp only[zDs,cA,dB,h1,settle];cases results A ⟨t,s,c,[(.fn (.func 40) [] [],[.ptr 2 0,.ptr 3 0])],none⟩<;>rfl
def xB(p:Tl×Lk):D:=.tup [.agg [.int .i64 p.1.k,.int .i64 p.1.r,.int .i64 (p.1.x:Nat),.int .i64 (p.1.y:Nat),.int .i64 (p.1.z:Nat),.int .i64 (p.2.ec:Nat),.sl false p.2.lm.length (en2 (fI p.2.lm)),.int .i64 (p.2.lk:Nat)],.int .i64 0,.int .i64 0]
theorem t13(n:Nat)(C:LkC)(hM:C.M=5){p:Tl×Lk}(hk:(p.2.lm.map Prod.fst).Nodup)(hlen:p.2.lm.length<10000)(hne:p.2.lm≠[]){t:Tm}{s:St}{c:Nat}(h:LG C p t s c):
  nB (bC (cxn (n+1)) (fn (n+1) 4096) KK T13 ⟨t,s,c,D13,none⟩) (yA (n+1) (xB p)):=by
 obtain⟨q,hq⟩:=h.q;obtain⟨W,t15,sW,hW7,hWc⟩:=h.w;have hm:=h.m;obtain⟨z,s3⟩:=h.lf.s3;unfold LkC.blk lrC at hq;rw[hM]at hq;simp only[T13,Ab.abq];rw[W_seq1 (by rfl) (by rfl)]
 simp only[Lk11,Ab.abq];simp only[z0,seval,oV];rw[W_seq (by rfl)]
 simp only[Lk12,Ab.abq];rw[W_seq1 (by rfl) (by rfl)]
 simp only[z0,seval,h.t14,hq,hm,dP,oV];rw[W_block (by rfl)]
 have hel:(mpE 0 p.2.lm).length=p.2.lm.length:=mpE_len p.2.lm 0;have hle:=h.lf.le;have hn5:(5:Nat)≠c:=by omega
 refine bmap (es:=mpE 0 p.2.lm) (c0:=p.2.lm.length) (nI:=c) (nM:=5) (by rfl) (by rw[hel];exact fQ (by omega)) (mpE_lt p.2.lm) (mpE_nodup p.2.lm)
  (fun done t' s' c'=>c+1≤c'∧mF s' c'∧(∀m,m<c→sget s' m=sget s m)∧(∃v,tget t' 16=v∧lG 2 siteC (c+1) s' v (done.map nJ))∧tget t' 8 = .ptr 1 0∧tget t' 9 = .ptr 2 0∧tget t' 10 = .ptr 3 0∧tget t' 14 = .ptr 6 0∧tget t' 15 = .ptr W 0) (by decide) (by simp[aE]) (by simp only[aE];rw[aD hn5];exact hm) (by simp[aE]) (by omega) ⟨aJ _,fun m hm=>by rw[aW,aD (by omega)];exact h.lf.fr m (by omega),fun m hm=>by rw[aW,aD (by omega)],⟨.nils,by simp[aE],.inl ⟨rfl,rfl⟩⟩,?_,?_,?_,?_,?_⟩ ?_ ?_
 ·simp[aE,h.lf.t8]
 ·simp[aE,h.lf.t9]
 ·simp[aE,h.lf.t10]
 ·simp[aE,h.t14]
 ·simp[aE,t15]
 ·rintro done e t' s' c' ⟨hc',hf',ho',⟨v,q16,hv⟩,q8,q9,q10,q14,q15⟩ he hsub hnd hd1 hti hsM hsI;rw[hel]at hd1;obtain⟨rr,hf⟩:=born_filter (mpE_nodup p.2.lm) he;have hform:=mpE_form p.2.lm 0 e he;have hgl:(borns (done++[e])).getLast?=some e.2.2:=by simp[borns]
  have hI2:∀{b:Blk},sget (sset s' c b) 5=some (.mp (mpE 0 p.2.lm) p.2.lm.length):=by intro b;rw[aN,aD hn5];exact hsM
  have hf2:((mpE 0 p.2.lm).filter fun x=>Nat.beq x.2.2 e.2.2)=(.int .i64 (nJ e).1,.int .i64 (nJ e).2,e.2.2)::rr:=by rw[hf];exact congrArg (· :: rr) hform
  have hbd:(fun x:rP=>Nat.beq x.2.2 e.2.2)=fun x=>decide (x.2.2=e.2.2):=by funext x;rw[dC];simp[Nat.beq_eq]
  rw[hbd]at hf2;have hcc:(c=c')=False:=aL (by omega)
  simp only[z1,seval,hti,q16,hsM,hsI,hI2,hgl,hf2,fG,show(c=5)=False from aL (by omega),show(5=c)=False from aL (by omega),show(5=c')=False from aL (by omega),hcc]
  generalize hA:nG _ 2 16 50 v _=Z;obtain⟨S,hS⟩:∃S,S=sadd (sset s' c (.mit (some 5) p.2.lm.length (borns (done++[e])) p.2.lm.length)) c' (.fix 0 [.int .i64 (nJ e).1,.int .i64 (nJ e).2]):=⟨_,rfl⟩
  have gS:∀m,m≠c→m≠c'→sget S m=sget s' m:=fun m h1 h2=>by rw[hS,aW,aD h2,aN,aD h1]
  rw[←hS]at hA;obtain⟨v',s2,k2,hZ,hv2,hk2,ho2,hf3⟩:=wZ enc_site (B:=c+1) (l:=done.map nJ) (l':=[nJ e]) (by decide) hA (hv.keep fun m b hm hb=>by rw[gS m (by omega) (fun e=>by rw[e,hf' c' (aJ _)]at hb;cases hb),hb]) (by simp only[cZ,hS,aW,aH];rfl) (by simp only[fA,List.length_singleton];omega) (by show c+1≤c'+1;omega) (fun m hm=>by
   have hm':c'+1≤m:=hm;show sget S m=none;rw[gS m (by omega) (by omega)];exact hf' m (by omega))
  have hk2':c'+1≤k2:=hk2;subst hZ;simp only[z1,seval];have g5:sget s2 5=some (.mp (mpE 0 p.2.lm) p.2.lm.length):=by rw[ho2 5 (by omega)];show sget S 5=_;rw[gS 5 (by omega) (by omega),hsM]
  have gc:sget s2 c=some (.mit (some 5) p.2.lm.length (borns (done++[e])) p.2.lm.length):=by rw[ho2 c (by omega)];show sget S c=_;rw[hS,aW,aD (by omega),aN,aH rfl]
  refine⟨trivial,trivial,hti,g5,gc,by omega,hf3,fun m hm=>?_,⟨v',rfl,by rw[List.map_append];exact hv2⟩,q8,q9,q10,q14,q15⟩
  rw[ho2 m (by omega)];show sget S m=_;rw[gS m (by omega) (by omega),ho' m hm]
 ·rintro done t' s' c' ⟨hc',hf',ho',⟨v,q16,hv⟩,q8,q9,q10,q14,q15⟩ hperm hti hsM;have hL:(done.map nJ).Perm p.2.lm:=by have:=hperm.map nJ;rwa [pairM_mpE]at this
  have hdl:(done.map nJ).length=p.2.lm.length:=hL.length_eq;have hk2:((done.map nJ).map Prod.fst).Nodup:=(hL.map Prod.fst).nodup_iff.2 hk;have hsp:fI (done.map nJ)=fI p.2.lm:=asc_unique (tZ hk2) (tZ hk) ((jI _).trans (hL.trans (jI p.2.lm).symm));have hd0:done.map nJ≠[]:=by intro e;rw[e]at hdl;exact hne (List.length_eq_zero_iff.1 hdl.symm)
  rcases hv with⟨_,e⟩|⟨m,_,_,_,e⟩|⟨V,ty,hV,rfl,hs,_⟩
  ·exact absurd e hd0
  ·exact absurd e hd0
  rw[vL]at hs;have hss:=sort_row hs hk2 (by omega)
  rw[hsp,hdl]at hss;rw[hdl]at q16;obtain⟨k,hkk⟩:∃k,p.2.lm.length=k+1:=⟨p.2.lm.length-1,by cases hl:p.2.lm with
   | nil=>exact absurd hl hne
   | cons a r=>simp⟩
  have hVc:V<c':=gQ fun hh=>by rw[hf' V hh]at hs;cases hs
  simp only[eZ,↓reduceIte,oV];rw[W_plain (by rfl)]
  unfold Lk13 Lk14 yA;rw[hkk]at q16 hss;have h6:sget s' 6=_:=(ho' 6 (by omega)).trans hq
  have h1:sget s' 1=_:=(ho' 1 (by omega)).trans h.lf.s1
  have h2:sget s' 2=_:=(ho' 2 (by omega)).trans h.lf.s2
  have h3:sget s' 3=_:=(ho' 3 (by omega)).trans s3
  have hW:sget s' W=_:=(ho' W hWc).trans sW;unfold zl0 at h1;unfold tlC tyC tl at hW;have v1:(1=V)=False:=aL (by omega)
  have v2:(2=V)=False:=aL (by omega)
  have v3:(3=V)=False:=aL (by omega)
  have v6:(6=V)=False:=aL (by omega)
  have vW:(W=V)=False:=aL (by omega)
  have w1:(1=W)=False:=aL (by omega)
  have w2:(W=1)=False:=aL (by omega)
  have w3:(W=2)=False:=aL (by omega)
  have w4:(W=3)=False:=aL (by omega)
  simp only[z0,seval,q16,fn_spec (f:=45) (g:=spSort 46) rfl rfl,spSort,own2,hss,q8,q9,q10,q14,q15,h6,h1,h2,h3,hW,v1,v2,v3,v6,vW,w1,w2,w3,w4,eG,cX,AOp.kd,zop,tks,cC,dW,dP,aU,bN];rw[zend13_ret];generalize hS9:sset (sset (sset _ _ _) _ _) _ _=S9;have u1:(V=1)=False:=aL (by omega)
  have u2:(V=2)=False:=aL (by omega)
  have u3:(V=3)=False:=aL (by omega)
  have hSV:sget S9 V=some (.grow ty (en2 (fI p.2.lm))):=by rw[←hS9];simp only[z0,seval,u1,u2,u3]
  have hS1:sget S9 1=some (.fix 40 [.int .i64 p.1.k,.int .i64 p.1.r,.int .i64 (p.1.x:Nat),.int .i64 (p.1.y:Nat),.int .i64 (p.1.z:Nat),.int .i64 (p.2.ec:Nat),.gs V 0 2 (k+1),.int .i64 (p.2.lk:Nat)]):=by rw[←hS9];simp only[z0,seval]
  have hS2:sget S9 2=some (.fix 4 [.int .i64 0]):=by rw[←hS9];simp only[z0,seval]
  have hS3:sget S9 3=some (.fix 41 [.int .i64 0]):=by rw[←hS9];simp only[z0,seval]
  simp only[z0,seval,A13,q8,q9,q10,hS1,hS2,hS3];have hpl:(en2 (fI p.2.lm)).length=2*(k+1):=by rw[nW,(jI p.2.lm).length_eq,hkk]
  have hfz:∀j,frz true (j+2) S9 (.gs V 0 2 (k+1))=some (.sl false (k+1) (en2 (fI p.2.lm))):=fun j=>by
   rw[rI,hSV];simp only[bK,fU];rw[bZ (by rw[hpl];omega),aS,cW (by rw[hpl];omega),en2_frz]
   rfl
  have h20:frz true 20 S9 (.tup [.agg [.int .i64 p.1.k,.int .i64 p.1.r,.int .i64 (p.1.x:Nat),.int .i64 (p.1.y:Nat),.int .i64 (p.1.z:Nat),.int .i64 (p.2.ec:Nat),.gs V 0 2 (k+1),.int .i64 (p.2.lk:Nat)],.int .i64 0,.int .i64 0])=some (xB p):=by
   rw[show(20:Nat)=16+2+1+1 from rfl]
   unfold xB;rw[hkk];simp only[aQ,hfz,aO,bJ]
  unfold pout;simp only[h20]
end
end Zv
