/- What functions come to: a lattice is checked, by the program. Conditions: none. -/
import Derived.Test.YtnpoohbeicakkaaGreatDoorZAN
set_option linter.unusedVariables false
set_option linter.unusedSimpArgs false
set_option maxRecDepth 100000
namespace Zv
open Go
noncomputable section
theorem ord17_st(n:Nat)(f g:Nat→Nat)(zs:List D)(h:zs.length=17)(ty:Nat):stB (.fix ty zs) 0 (ord17 n f g)=some (.fix ty (ord17 n f g)):=stB_full h rfl
theorem ord17_tu(n:Nat)(f g:Nat→Nat):dH (ord17 n f g) 1 (some 8)=some (.agg (row8 f)):=rfl
theorem ord17_td(n:Nat)(f g:Nat→Nat):dH (ord17 n f g) 9 (some 8)=some (.agg (row8 g)):=rfl
theorem xA(p:Bool)(n:Nat)(f:Nat→Nat)(s:St):(row8 f).mapM (frz p (n+1) s)=some (row8 f):=rfl
theorem fJ(a e:Int):e2 a e = .tup [.int .i64 a,.int .i64 e]:=rfl
theorem c59(n:Nat){ss:List (List UInt8)}{us:List Nat}{d e:D}(hd:Sl 1 hY ss d)(he:Sl 1 u8C us e)(hu:iL us)(hs:pX ss):cl (n+5) 59 [.agg [d,e]]=some (CHK ss us,true):=by
 rw[cN (A:=A59) rfl (n+5) _ rfl,show A59.body=B59 from rfl]
 simp only[B59,Ab.abq];rcases lT ss with⟨h1,h2⟩|⟨h1,a,er,h2,h3⟩
 ·have hn:=kV.1 h1;obtain⟨v,hv1,hv2⟩:=all_u8 ss.length hn.1.1 hn.1.2;simp only[gL,jW,ex,iT,hd.len,he.len,↓reduceIte,Nat.reduceEqDiff,Nat.reduceAdd,Nat.reduceLeDiff,reduceCtorEq,bP,eL,eq_self,aY,aZ,hd.nag,he.nag,aF (f:=106) rfl,aQ,hd.fz,c106 n hd hs,h2,fJ,hv1,hv2];by_cases hl:us.length=ss.length
  ·simp only[eq_true (show(((us.length:Nat):Int)=(ss.length:Nat)) by omega),gL,jW,ex,iT,hd.len,he.len,↓reduceIte,Nat.reduceEqDiff,Nat.reduceAdd,Nat.reduceLeDiff,reduceCtorEq,bP,eL,eq_self,aY,aZ,hv1,hv2]
   generalize zC (AC.skip.seq _) _ _ _=F;generalize hz:zloop KK _ _=rl;have hall:2 ^ ss.length-1<256:=by
    have:2 ^ ss.length≤2 ^ 8:=Nat.pow_le_pow_right (by omega) hn.1.2
    omega
   have hlast:cT .i64 ((ss.length:Int)-1)=((ss.length-1:Nat):Int):=by
    rw[gU (by omega) (by omega)];omega
   have hret:∀{i:Nat},i<ss.length→kN ss.length (uM us) i=false→(∀j,j<i→pE ss.length (uM us) j=none)→CHK ss us=e2 i 6:=fun {i} hi ho hb=>by
    rw[CHK,aH h1,aH hl,ordD,fX hi (by rw[pE,ho];rfl) hb]
   have huM:=mD hu;refine zrange rl hz us.length (fI (by omega)) (by omega) (fun i t s c=>s=sadd st0 0 (.fix 26 [d,e])∧c=1∧tget t 1 = .ptr 0 0∧tget t 6 = .int .i64 (ss.length:Nat)∧tget t 7 = .int .u8 ((2 ^ ss.length-1:Nat):Int)∧tget t 37=e∧∀j,j<i→pE ss.length (uM us) j=none) (by decide) (by simp[aE]) (by simp[aE]) ?_ ?_ ?_
   ·simp only[aE,↓reduceIte,Nat.reduceEqDiff,Nat.not_lt_zero];exact⟨trivial,trivial,trivial,trivial,trivial,trivial,nofun⟩
   ·rintro i t s c hi ⟨rfl,rfl,q1,q6,q7,q37,hb⟩ q39 q38;have hx:us[i]=uM us i:=(jV hi 0).symm;obtain⟨w,hw1,hw2⟩:=c107 (n+4) (uM us i) (huM i);simp only[ex,iT,↓reduceIte,Nat.reduceEqDiff,Nat.reduceAdd,Nat.reduceLeDiff,reduceCtorEq,q1,q6,q7,q37,q38,q39,he.ia1 hi,he.at1 hi,u8C,aT,hx,aF (f:=107) rfl,aQ,hw1,hw2 _ hn.1.2];cases hlt:Nat.blt (uM us i) (2 ^ ss.length)
    ·simp only[ex,iT,↓reduceIte,Nat.reduceEqDiff,Nat.reduceAdd,Nat.reduceLeDiff,reduceCtorEq,q1,q6,q7,q37,q38,q39,bI,bM,gQ,beq_iff_eq,A59];rw[hret (by omega) (by rw[kN,hlt];rfl) hb];rfl
    simp only[ex,iT,↓reduceIte,Nat.reduceEqDiff,Nat.reduceAdd,Nat.reduceLeDiff,reduceCtorEq,q1,q6,q7,q37,q38,q39,bI,bM,gQ,beq_iff_eq,gJ i (huM i),gV i (huM i),pJ];cases hbit:(uM us i).testBit i
    ·simp only[ex,iT,↓reduceIte,Nat.reduceEqDiff,Nat.reduceAdd,Nat.reduceLeDiff,reduceCtorEq,q1,q6,q7,q37,q38,q39,bI,bM,A59];rw[hret (by omega) (by rw[kN,hlt,hbit];rfl) hb];rfl
    simp only[ex,iT,↓reduceIte,Nat.reduceEqDiff,Nat.reduceAdd,Nat.reduceLeDiff,reduceCtorEq,q1,q6,q7,q37,q38,q39,bI,bM,he.len];generalize hz2:zloop KK _ _=rl2;have hgo:∀{t:Tm} {s:St} {c:Nat},s=sadd st0 0 (.fix 26 [d,e])→c=1→tget t 1 = .ptr 0 0→tget t 6 = .int .i64 (ss.length:Nat)→tget t 7 = .int .u8 ((2 ^ ss.length-1:Nat):Int)→tget t 37=e→True:=fun _ _ _ _ _ _=>trivial
    refine zrange rl2 hz2 us.length (fI (by omega)) (by omega) (fun j t s c=>s=sadd st0 0 (.fix 26 [d,e])∧c=1∧tget t 1 = .ptr 0 0∧tget t 6 = .int .i64 (ss.length:Nat)∧tget t 7 = .int .u8 ((2 ^ ss.length-1:Nat):Int)∧tget t 37=e∧tget t 38 = .int .i64 (us.length:Nat)∧tget t 39 = .int .i64 (i:Nat)∧tget t 57=e∧tget t 8 = .int .i64 (i:Nat)∧tget t 9 = .int .u8 (uM us i:Nat)∧∀k,k<j→okA ss.length (uM us) i k=true) (by decide) (by simp[aE]) (by simp[aE]) ?_ ?_ ?_
    ·simp only[aE,↓reduceIte,Nat.reduceEqDiff,Nat.not_lt_zero,q1,q6,q7,q37,q38,q39];exact⟨trivial,trivial,trivial,trivial,trivial,trivial,trivial,trivial,trivial,trivial,trivial,nofun⟩
    ·rintro j t s c hj ⟨rfl,rfl,q1,q6,q7,q37,q38,q39,q57,q8,q9,hob⟩ q59 q58;have hx':us[j]=uM us j:=(jV hj 0).symm;have h8:uM us j&&&(2 ^ ss.length-1)<256:=Nat.lt_of_le_of_lt Nat.and_le_left (huM j);have hstep:okA ss.length (uM us) i j=true→∀k,k<j+1→okA ss.length (uM us) i k=true:=fun h k hk=>by
      rcases dB.1 hk with h1|rfl
      ·exact hob k h1
      ·exact h
     have hbad:okA ss.length (uM us) i j=false→kN ss.length (uM us) i=false:=fun h=>by
      rw[kN,tH (show j<ss.length by omega) h,Bool.and_false,Bool.and_false]
     have hall':okA ss.length (uM us) i j=true→j=ss.length-1→pE ss.length (uM us) i=none:=fun h e=>by
      rw[pE,kN,hlt,hbit,jA.2 fun k hk=>hstep h k (by omega)];rfl
     have hend:okA ss.length (uM us) i j=true→decide (((j:Nat):Int)=((ss.length-1:Nat):Int))=true∧pE ss.length (uM us) i=none∨decide (((j:Nat):Int)=((ss.length-1:Nat):Int))=false:=fun h=>by
      by_cases e:j=ss.length-1
      ·exact .inl ⟨by simp[e],hall' h e⟩
      ·exact .inr (by simp[oG,e])
     cases hb1:(uM us i).testBit j
     ·have h:okA ss.length (uM us) i j=true:=by rw[okA,hb1];rfl
      simp only[ex,iT,↓reduceIte,Nat.reduceEqDiff,Nat.reduceAdd,Nat.reduceLeDiff,reduceCtorEq,q1,q6,q7,q8,q9,q37,q38,q39,q57,q58,q59,he.ia1 hj,he.at1 hj,u8C,aT,hx',gJ j (huM i),gV j (huM i),pJ,hb1,bM,bI,hlast];rcases hend h with⟨e,hp⟩|e
      ·simp only[e,ex,go1,↓reduceIte,Nat.reduceEqDiff,reduceCtorEq,q1,q6,q7,q37,q38,q39];exact⟨trivial,trivial,trivial,.inr (.inr trivial),nofun,nofun,trivial,trivial,trivial,trivial,trivial,trivial,eE hb hp⟩
      ·simp only[e,ex,go1,↓reduceIte,Nat.reduceEqDiff,reduceCtorEq,q1,q6,q7,q8,q9,q37,q38,q39,q57,q58,q59];exact⟨trivial,trivial,trivial,.inr (.inr trivial),nofun,nofun,trivial,trivial,trivial,trivial,trivial,trivial,trivial,trivial,trivial,trivial,trivial,hstep h⟩
     ·have hok:okA ss.length (uM us) i j=((Nat.beq j i || !(uM us j).testBit i)&&Nat.beq ((uM us j&&&(2 ^ ss.length-1))&&&uM us i) (uM us j&&&(2 ^ ss.length-1))):=by rw[okA,hb1];rfl
      have hb3:=andN_0 h8 (huM i);cases hb4:Nat.beq ((uM us j&&&(2 ^ ss.length-1))&&&uM us i) (uM us j&&&(2 ^ ss.length-1))
      ·have h:okA ss.length (uM us) i j=false:=by rw[hok,hb4,Bool.and_false]
       rw[hb4]at hb3;by_cases hji:j=i
       ·have hb5:decide (((j:Nat):Int)≠(i:Nat))=false:=by simp[oG,hji]
        cases hb2:(uM us j).testBit i
        ·simp only[ex,iT,↓reduceIte,Nat.reduceEqDiff,Nat.reduceAdd,Nat.reduceLeDiff,reduceCtorEq,q1,q6,q7,q8,q9,q37,q38,q39,q57,q58,q59,he.ia1 hj,he.at1 hj,u8C,aT,hx',gJ j (huM i),gV j (huM i),pJ,hb1,bM,bI,hlast,gJ i (huM j),gV i (huM j),oH,hb2,iJ (huM j) hall,lJ,hb3,gQ,beq_iff_eq,show(true==false)=false from rfl,show(false==true)=false from rfl,hb5,A59]
         rw[hret (by omega) (hbad h) hb];rfl
        ·simp only[ex,iT,↓reduceIte,Nat.reduceEqDiff,Nat.reduceAdd,Nat.reduceLeDiff,reduceCtorEq,q1,q6,q7,q8,q9,q37,q38,q39,q57,q58,q59,he.ia1 hj,he.at1 hj,u8C,aT,hx',gJ j (huM i),gV j (huM i),pJ,hb1,bM,bI,hlast,gJ i (huM j),gV i (huM j),oH,hb2,iJ (huM j) hall,lJ,hb3,gQ,beq_iff_eq,show(true==false)=false from rfl,show(false==true)=false from rfl,hb5,A59]
         rw[hret (by omega) (hbad h) hb];rfl
       ·have hb5:decide (((j:Nat):Int)≠(i:Nat))=true:=by simp[oG,hji]
        cases hb2:(uM us j).testBit i
        ·simp only[ex,iT,↓reduceIte,Nat.reduceEqDiff,Nat.reduceAdd,Nat.reduceLeDiff,reduceCtorEq,q1,q6,q7,q8,q9,q37,q38,q39,q57,q58,q59,he.ia1 hj,he.at1 hj,u8C,aT,hx',gJ j (huM i),gV j (huM i),pJ,hb1,bM,bI,hlast,gJ i (huM j),gV i (huM j),oH,hb2,iJ (huM j) hall,lJ,hb3,gQ,beq_iff_eq,show(true==false)=false from rfl,show(false==true)=false from rfl,hb5,A59]
         rw[hret (by omega) (hbad h) hb];rfl
        ·simp only[ex,iT,↓reduceIte,Nat.reduceEqDiff,Nat.reduceAdd,Nat.reduceLeDiff,reduceCtorEq,q1,q6,q7,q8,q9,q37,q38,q39,q57,q58,q59,he.ia1 hj,he.at1 hj,u8C,aT,hx',gJ j (huM i),gV j (huM i),pJ,hb1,bM,bI,hlast,gJ i (huM j),gV i (huM j),oH,hb2,iJ (huM j) hall,lJ,hb3,gQ,beq_iff_eq,show(true==false)=false from rfl,show(false==true)=false from rfl,hb5,A59]
         rw[hret (by omega) (hbad h) hb];rfl
      ·rw[hb4]at hb3;by_cases hji:j=i
       ·have hb5:decide (((j:Nat):Int)≠(i:Nat))=false:=by simp[oG,hji]
        have h:okA ss.length (uM us) i j=true:=by rw[hok,hb4,hji,fF];rfl
        cases hb2:(uM us j).testBit i
        ·skip
         simp only[ex,iT,↓reduceIte,Nat.reduceEqDiff,Nat.reduceAdd,Nat.reduceLeDiff,reduceCtorEq,q1,q6,q7,q8,q9,q37,q38,q39,q57,q58,q59,he.ia1 hj,he.at1 hj,u8C,aT,hx',gJ j (huM i),gV j (huM i),pJ,hb1,bM,bI,hlast,gJ i (huM j),gV i (huM j),oH,hb2,iJ (huM j) hall,lJ,hb3,gQ,beq_iff_eq,show(true==false)=false from rfl,show(false==true)=false from rfl,hb5]
         rcases hend h with⟨e,hp⟩|e
         ·simp only[e,ex,go1,↓reduceIte,Nat.reduceEqDiff,reduceCtorEq,q1,q6,q7,q37,q38,q39];exact⟨trivial,trivial,trivial,.inr (.inr trivial),nofun,nofun,trivial,trivial,trivial,trivial,trivial,trivial,eE hb hp⟩
         ·simp only[e,ex,go1,↓reduceIte,Nat.reduceEqDiff,reduceCtorEq,q1,q6,q7,q8,q9,q37,q38,q39,q57,q58,q59];exact⟨trivial,trivial,trivial,.inr (.inr trivial),nofun,nofun,trivial,trivial,trivial,trivial,trivial,trivial,trivial,trivial,trivial,trivial,trivial,hstep h⟩
        ·skip
         simp only[ex,iT,↓reduceIte,Nat.reduceEqDiff,Nat.reduceAdd,Nat.reduceLeDiff,reduceCtorEq,q1,q6,q7,q8,q9,q37,q38,q39,q57,q58,q59,he.ia1 hj,he.at1 hj,u8C,aT,hx',gJ j (huM i),gV j (huM i),pJ,hb1,bM,bI,hlast,gJ i (huM j),gV i (huM j),oH,hb2,iJ (huM j) hall,lJ,hb3,gQ,beq_iff_eq,show(true==false)=false from rfl,show(false==true)=false from rfl,hb5]
         rcases hend h with⟨e,hp⟩|e
         ·simp only[e,ex,go1,↓reduceIte,Nat.reduceEqDiff,reduceCtorEq,q1,q6,q7,q37,q38,q39];exact⟨trivial,trivial,trivial,.inr (.inr trivial),nofun,nofun,trivial,trivial,trivial,trivial,trivial,trivial,eE hb hp⟩
         ·simp only[e,ex,go1,↓reduceIte,Nat.reduceEqDiff,reduceCtorEq,q1,q6,q7,q8,q9,q37,q38,q39,q57,q58,q59];exact⟨trivial,trivial,trivial,.inr (.inr trivial),nofun,nofun,trivial,trivial,trivial,trivial,trivial,trivial,trivial,trivial,trivial,trivial,trivial,hstep h⟩
       ·have hb5:decide (((j:Nat):Int)≠(i:Nat))=true:=by simp[oG,hji]
        cases hb2:(uM us j).testBit i
        ·have h:okA ss.length (uM us) i j=true:=by rw[hok,hb4,hb2,iZ hji];rfl
         simp only[ex,iT,↓reduceIte,Nat.reduceEqDiff,Nat.reduceAdd,Nat.reduceLeDiff,reduceCtorEq,q1,q6,q7,q8,q9,q37,q38,q39,q57,q58,q59,he.ia1 hj,he.at1 hj,u8C,aT,hx',gJ j (huM i),gV j (huM i),pJ,hb1,bM,bI,hlast,gJ i (huM j),gV i (huM j),oH,hb2,iJ (huM j) hall,lJ,hb3,gQ,beq_iff_eq,show(true==false)=false from rfl,show(false==true)=false from rfl,hb5]
         rcases hend h with⟨e,hp⟩|e
         ·simp only[e,ex,go1,↓reduceIte,Nat.reduceEqDiff,reduceCtorEq,q1,q6,q7,q37,q38,q39];exact⟨trivial,trivial,trivial,.inr (.inr trivial),nofun,nofun,trivial,trivial,trivial,trivial,trivial,trivial,eE hb hp⟩
         ·simp only[e,ex,go1,↓reduceIte,Nat.reduceEqDiff,reduceCtorEq,q1,q6,q7,q8,q9,q37,q38,q39,q57,q58,q59];exact⟨trivial,trivial,trivial,.inr (.inr trivial),nofun,nofun,trivial,trivial,trivial,trivial,trivial,trivial,trivial,trivial,trivial,trivial,trivial,hstep h⟩
        ·have h:okA ss.length (uM us) i j=false:=by rw[hok,hb4,hb2,iZ hji];rfl
         simp only[ex,iT,↓reduceIte,Nat.reduceEqDiff,Nat.reduceAdd,Nat.reduceLeDiff,reduceCtorEq,q1,q6,q7,q8,q9,q37,q38,q39,q57,q58,q59,he.ia1 hj,he.at1 hj,u8C,aT,hx',gJ j (huM i),gV j (huM i),pJ,hb1,bM,bI,hlast,gJ i (huM j),gV i (huM j),oH,hb2,iJ (huM j) hall,lJ,hb3,gQ,beq_iff_eq,show(true==false)=false from rfl,show(false==true)=false from rfl,hb5,A59]
         rw[hret (by omega) (hbad h) hb];rfl
    ·rintro t s c ⟨rfl,rfl,q1,q6,q7,q37,q38,q39,q57,q8,q9,hob⟩ q59 q58;have hp:pE ss.length (uM us) i=none:=by
      rw[pE,kN,hlt,hbit,jA.2 fun k hk=>hob k (by omega)];rfl
     simp only[ex,go1,↓reduceIte,Nat.reduceEqDiff,reduceCtorEq,q1,q6,q7,q37,q38,q39];exact⟨trivial,trivial,trivial,.inr (.inr trivial),nofun,nofun,trivial,trivial,trivial,trivial,trivial,trivial,eE hb hp⟩
   ·rintro t s c ⟨rfl,rfl,q1,q6,q7,q37,hb⟩ q39 q38;have hord:∀a,a<ss.length→kN ss.length (uM us) a=true:=fun a ha=>by
     have:=hb a (by omega)
     rw[pE]at this;cases ho:kN ss.length (uM us) a
     ·rw[ho]at this;cases this
     ·rfl
    have hself:∀a,a<ss.length→(uM us a).testBit a=true:=fun a ha=>by
     have:=hord a ha;simp only[kN,bK]at this;exact this.2.1
    have hself':∀a,a<ss.length→(dnM (uM us) ss.length ss.length a).testBit a=true:=fun a ha=>by
     rw[xH,hself a ha];simp[ha]
    have h99:=c81 (n+4) hd he hu hn.1.2 (by omega)
    rw[hl]at h99;have hCHK:CHK ss us=rS ss.length (uM us):=by
     rw[CHK,aH h1,aH hl,ordD,gN fun j hj=>hb j (by omega)]
    rw[hCHK];simp only[exq,↓reduceIte,Nat.reduceEqDiff,Nat.reduceAdd,Nat.reduceLeDiff,reduceCtorEq,q1,q6,q7,q37,q38,q39,aF (f:=81) rfl,aQ,hd.fz,he.fz,h99,tR,ord17_st _ _ _ [_,_,_,_,_,_,_,_,_,_,_,_,_,_,_,_,_] rfl];generalize hz3:zloop KK _ _=rl3;have hu8:∀i,dnM (uM us) ss.length ss.length i<256:=fun i=>dnM_u8 i hn.1.2
    refine zrange rl3 hz3 ss.length (fI (by omega)) (by omega) (fun i t s c=>sget s 1=some (.fix 144 (ord17 ss.length (uM us) (dnM (uM us) ss.length ss.length)))∧tget t 6 = .int .i64 (ss.length:Nat)∧tget t 12 = .ptr 1 0∧∀j,j<i→wV ss.length (uM us) j=none) (by decide) (by simp[aE]) (by simp[aE,q6]) ?_ ?_ ?_
    ·simp only[aE,↓reduceIte,Nat.reduceEqDiff,Nat.not_lt_zero,q6];exact⟨trivial,trivial,trivial,nofun⟩
    ·rintro i t s c hi ⟨hs1,q6,q12,hb⟩ q96 q95;have hret:lat2 ss.length (uM us) i=lat2 ss.length (uM us) i:=rfl;simp only[exq,iT,↓reduceIte,Nat.reduceEqDiff,Nat.reduceAdd,Nat.reduceLeDiff,reduceCtorEq,hs1,q6,q12,q95,q96];generalize hz4:zloop KK _ _=rl4
     refine zrange rl4 hz4 ss.length (fI (by omega)) (by omega) (fun j t s c=>sget s 1=some (.fix 144 (ord17 ss.length (uM us) (dnM (uM us) ss.length ss.length)))∧tget t 6 = .int .i64 (ss.length:Nat)∧tget t 12 = .ptr 1 0∧tget t 13 = .int .i64 (i:Nat)∧tget t 95 = .int .i64 (ss.length:Nat)∧tget t 96 = .int .i64 (i:Nat)∧∀k,k<j→lat2 ss.length (uM us) i k=true) (by decide) (by simp[aE]) (by simp[aE,q6]) ?_ ?_ ?_
     ·simp only[aE,↓reduceIte,Nat.reduceEqDiff,Nat.not_lt_zero,q6,q12,q95,q96];exact⟨hs1,trivial,trivial,trivial,trivial,trivial,nofun⟩
     ·rintro j t s c hj ⟨hs1,q6,q12,q13,q95,q96,hob⟩ q100 q99;have r1:=c108 (n+4) (uM us) huM hn.1.2 (show i<8 by omega) (show j<8 by omega)
      have r2:=c109 (n+4) (dnM (uM us) ss.length ss.length) hu8 hn.1.2 (show i<8 by omega) (show j<8 by omega)
      rw[bound_near hself]at r1;rw[bound_near hself']at r2;have hbad:lat2 ss.length (uM us) i j=false→rS ss.length (uM us)=e2 i 4:=fun h=>by
       rw[rS,fX hi (by rw[wV,latB,tH hj h];rfl) hb]
      cases hn1:decide (kC (uM us) ss.length i j<0)
      ·cases hn2:decide (kC (dnM (uM us) ss.length ss.length) ss.length i j<0)
       ·have h:lat2 ss.length (uM us) i j=true:=by rw[lat2,hn1,hn2];rfl
        simp only[exq,iT,↓reduceIte,Nat.reduceEqDiff,Nat.reduceAdd,Nat.reduceLeDiff,reduceCtorEq,hs1,q6,q12,q13,q95,q96,q99,q100,ord17_tu,ord17_td,aF (f:=108) rfl,aF (f:=109) rfl,aQ,xA,r1,r2,hn1,hn2,Bool.true_or,gQ,A59];exact⟨trivial,trivial,trivial,.inr (.inr trivial),nofun,nofun,trivial,trivial,trivial,trivial,trivial,trivial,fun k hk=>by
         rcases dB.1 hk with h1|rfl
         ·exact hob k h1
         ·exact h⟩
       ·have h:lat2 ss.length (uM us) i j=false:=by rw[lat2,hn1,hn2];rfl
        simp only[exq,iT,↓reduceIte,Nat.reduceEqDiff,Nat.reduceAdd,Nat.reduceLeDiff,reduceCtorEq,hs1,q6,q12,q13,q95,q96,q99,q100,ord17_tu,ord17_td,aF (f:=108) rfl,aF (f:=109) rfl,aQ,xA,r1,r2,hn1,hn2,Bool.true_or,gQ,A59];rw[hbad h];rfl
      ·have h:lat2 ss.length (uM us) i j=false:=by rw[lat2,hn1];rfl
       simp only[exq,iT,↓reduceIte,Nat.reduceEqDiff,Nat.reduceAdd,Nat.reduceLeDiff,reduceCtorEq,hs1,q6,q12,q13,q95,q96,q99,q100,ord17_tu,ord17_td,aF (f:=108) rfl,aF (f:=109) rfl,aQ,xA,r1,r2,hn1,Bool.true_or,gQ,show(true==false)=false from rfl,A59]
       rw[hbad h];rfl
     ·rintro t s c ⟨hs1,q6,q12,q13,q95,q96,hob⟩ q100 q99;have hp:wV ss.length (uM us) i=none:=by rw[wV,latB,jA.2 hob];rfl
      simp only[exq,iT,↓reduceIte,Nat.reduceEqDiff,Nat.reduceAdd,Nat.reduceLeDiff,reduceCtorEq,q6,q12,q95,q96];exact⟨trivial,trivial,trivial,.inr (.inr trivial),nofun,nofun,hs1,trivial,trivial,eE hb hp⟩
    ·rintro t s c ⟨hs1,q6,q12,hb⟩ q96 q95;simp only[exq,iT,↓reduceIte,Nat.reduceEqDiff,Nat.reduceAdd,Nat.reduceLeDiff,reduceCtorEq,q6,q12,q95,q96,A59];rw[rS,gN hb];rfl
  ·simp only[aL (show ¬(((us.length:Nat):Int)=(ss.length:Nat)) by omega),gL,jW,ex,iT,hd.len,he.len,↓reduceIte,Nat.reduceEqDiff,Nat.reduceAdd,Nat.reduceLeDiff,reduceCtorEq,bP,eL,eq_self,aY,aZ,A59]
   rw[CHK,aH h1,aD hl];rfl
 ·simp only[gL,jW,ex,iT,hd.len,he.len,↓reduceIte,Nat.reduceEqDiff,Nat.reduceAdd,Nat.reduceLeDiff,reduceCtorEq,bP,eL,eq_self,aY,aZ,hd.nag,he.nag,aF (f:=106) rfl,aQ,hd.fz,c106 n hd hs,h2,fJ,aL h3,A59];rw[CHK,aD (by rw[h1];decide),h2];rfl
theorem le_nat(a b:Nat):decide (((a:Nat):Int)≤(b:Nat))=Nat.ble a b:=by rw[dA];simp[Nat.ble_eq]
theorem lowerB_eq(b:UInt8):kW b=(decide ((97:Int)≤(b.toNat:Int))&&decide ((b.toNat:Int)≤(122:Int))):=by
 rw[kW,←le_nat,←le_nat];rfl
theorem digitB_eq(b:UInt8):tC b=(decide ((48:Int)≤(b.toNat:Int))&&decide ((b.toNat:Int)≤(57:Int))):=by
 rw[tC,←le_nat,←le_nat];rfl
theorem c183(n:Nat)(b:UInt8):cl n 183 [.int .u8 b.toNat]=some (.bool (kW b),true):=by
 rw[cN (A:=A183) rfl n _ rfl,show A183.body=B183 from rfl,lowerB_eq]
 simp only[B183,Ab.abq];cases h3:decide ((97:Int)≤(b.toNat:Int))
 ·simp only[z0,seval,h3,A183];rfl
 ·simp only[z0,seval,h3,A183];rfl
theorem c184(n:Nat)(b:UInt8):cl n 184 [.int .u8 b.toNat]=some (.bool (tC b),true):=by
 rw[cN (A:=A184) rfl n _ rfl,show A184.body=B184 from rfl,digitB_eq]
 simp only[B184,Ab.abq];cases h3:decide ((48:Int)≤(b.toNat:Int))
 ·simp only[z0,seval,h3,A184];rfl
 ·simp only[z0,seval,h3,A184];rfl
theorem c152(n:Nat)(s:List UInt8)(hs:s.length<9223372036854775807):cl (n+1) 152 [.str s]=some (.bool (nA s),true):=by
 rw[cN (A:=A152) rfl (n+1) _ rfl,show A152.body=B152 from rfl]
 simp only[B152,Ab.abq];cases s with
 | nil=>
  simp only[z0,seval,A152,bU];rfl
 | cons b r=>
  have h1:decide (((b::r).length:Int)<1)=false:=by simp;omega
  have hi0:kG (b::r).length (.int .i64 0)=some 0:=idxD_0 (by simp)
  have hn:nA (b::r)=(Nat.ble (b::r).length 16&&(kW b&&(b::r).all fZ)):=rfl;cases h16:decide ((16:Int)<((b::r).length:Int))
  ·have e16:Nat.ble (b::r).length 16=true:=cG (by simp at h16;simp;omega)
   cases hb:kW b
   ·simp only[z0,seval,h1,h16,hi0,aT,aF (f:=183) rfl,aQ,c183,hb,A152];rw[hn,hb,Bool.false_and,Bool.and_false];rfl
   ·simp only[z0,seval,h1,h16,hi0,aT,aF (f:=183) rfl,aQ,c183,hb];generalize hz:zloop KK _ _=rl;refine zfor rl hz (b::r).length (fI hs) hs (fun i t s c=>tget t 0 = .str (b::r)∧∀j (h:j<(b::r).length),j<i→fZ (b::r)[j]=true) (by simp[aE]) (by simp[aE]) ?_
    rintro i t s c hi ⟨h0,hall⟩ h3;have hall':∀(h:i<(b::r).length),fZ (b::r)[i]=true→∀j (h:j<(b::r).length),j<i+1→fZ (b::r)[j]=true:=fun h hc j hj hj2=>by
     rcases dB.1 hj2 with h'|rfl
     ·exact hall j hj h'
     ·exact hc
    by_cases hlt:i<(b::r).length
    ·have hd:decide ((i:Int)<((b::r).length:Int))=true:=by rw[cI];omega
     have hg:(b::r)[i]?=some (b::r)[i]:=aJ hlt;have hbad:fZ (b::r)[i]=false→nA (b::r)=false:=fun h=>by
      rw[hn,show(b::r).all fZ=false from ?_,Bool.and_false,Bool.and_false]
      rw[←eW,cC];intro h';rw[h' _ (cA hlt)]at h;cases h
     generalize hch:(b::r)[i]=ch at hg hbad hall';cases h1:kW ch
     ·cases h2:tC ch
      ·cases h3':decide ((ch.toNat:Int)=45)
       ·have hc:fZ ch=false:=by
         rw[fZ,h1,h2,Bool.false_or,Bool.false_or,←eW,Nat.beq_eq];intro h;rw[h]at h3';cases h3'
        simp only[z0,seval,hd,h0,h3,fS hlt,hg,aF (f:=183) rfl,aF (f:=184) rfl,aQ,c183,c184,h1,h2,h3',eL,cF,A152];rw[hbad hc];rfl
       ·have hc:fZ ch=true:=by
         rw[fZ,h1,h2,Bool.false_or,Bool.false_or,Nat.beq_eq];rw[cI]at h3';exact Int.ofNat_inj.1 h3'
        simp only[z0,seval,hd,h0,h3,fS hlt,hg,aF (f:=183) rfl,aF (f:=184) rfl,aQ,c183,c184,h1,h2,h3',eL,cF];exact⟨hlt,trivial,trivial,trivial,trivial,hall' hlt (hch▸hc)⟩
      ·have hc:fZ ch=true:=by rw[fZ,h1,h2];rfl
       simp only[z0,seval,hd,h0,h3,fS hlt,hg,aF (f:=183) rfl,aF (f:=184) rfl,aQ,c183,c184,h1,h2];exact⟨hlt,trivial,trivial,trivial,trivial,hall' hlt (hch▸hc)⟩
     ·have hc:fZ ch=true:=by rw[fZ,h1];rfl
      simp only[z0,seval,hd,h0,h3,fS hlt,hg,aF (f:=183) rfl,aF (f:=184) rfl,aQ,c183,c184,h1];exact⟨hlt,trivial,trivial,trivial,trivial,hall' hlt (hch▸hc)⟩
    ·have hd:decide ((i:Int)<((b::r).length:Int))=false:=by rw[cE];omega
     have hok:nA (b::r)=true:=by
      rw[hn,e16,hb,cC.2];· rfl
      intro x hx;obtain⟨j,hj,rfl⟩:=List.mem_iff_getElem.1 hx;exact hall j hj (by omega)
     simp only[z0,seval,hd,h0,h3,A152];rw[hok];rfl
  ·have e16:Nat.ble (b::r).length 16=false:=by rw[←eW,Nat.ble_eq];simp at h16;simp;omega
   simp only[z0,seval,h1,h16,A152];rw[hn,e16];rfl
theorem eD{i n:Nat}(h:i<n):decide ((i:Int)<(n:Int))=true:=by rw[cI];omega
theorem jY{i n:Nat}(h:n≤i):decide ((i:Int)<(n:Int))=false:=by rw[cE];omega
theorem uO{ss:List (List UInt8)}{i:Nat}(x:List UInt8):(ss.take i).contains x=true↔∃j,∃h:j<ss.length,j<i∧ss[j]=x:=by
 rw[List.contains_iff_mem,List.mem_iff_getElem];constructor
 ·rintro⟨j,hj,e⟩;rw[dM]at hj;rw[List.getElem_take]at e;exact⟨j,by omega,by omega,e⟩
 ·rintro⟨j,hj,h2,e⟩;exact⟨j,by rw[dM];omega,by rw[List.getElem_take];exact e⟩
theorem c102(n:Nat){ss:List (List UInt8)}{d:D}(hd:Sl 1 hY ss d)(hs:pX ss):cl (n+2) 102 [d]=some (mI ss,true):=by
 rw[cN (A:=A102) rfl (n+2) _ rfl,show A102.body=B102 from rfl]
 simp only[B102,Ab.abq];by_cases h1:((ss.length:Nat):Int)<1
 ·simp only[z0,seval,h1,aR,hd.len,A102];unfold mI;rw[aD (by omega)];rfl
 by_cases h8:(8:Int)<((ss.length:Nat):Int)
 ·simp only[z0,seval,h1,h8,aR,bD,hd.len,A102];unfold mI;rw[aD (by omega)];rfl
 simp only[z0,seval,h1,h8,bD,hd.len];have hnd:mI ss=scan (jE ss) (e2 0 0) ss.length 0:=aH ⟨by omega,by omega⟩
 generalize hz:zloop KK _ _=rl;refine zfor rl hz ss.length (fI (by omega)) (by omega) (fun i t s' c=>tget t 0=d∧∀j,j<i→jE ss j=none) (by simp[aE]) (by simp[aE]) ?_
 rintro i t s' c hi ⟨h0,hb⟩ h4;by_cases hlt:i<ss.length
 ·have hsi:(ss[i]).length<9223372036854775807:=hs _ (cA hlt);cases hok:nA ss[i]
  ·have hp:jE ss i=some (e2 i 6):=by unfold jE;rw[jV hlt,hok];rfl
   simp only[z0,seval,h0,h4,hd.len,eD hlt,hd.ia1 hlt,hd.at1 hlt,hY,aT,aF (f:=152) rfl,aQ,c152 n _ hsi,hok,A102];rw[hnd,fX hlt hp hb];rfl
  ·simp only[z0,seval,h0,h4,hd.len,eD hlt,hd.ia1 hlt,hd.at1 hlt,hY,aT,aF (f:=152) rfl,aQ,c152 n _ hsi,hok];generalize hz2:zloop KK _ _=rl2;refine zfor rl2 hz2 i (fI (by omega)) (by omega) (fun k t s' c=>tget t 0=d∧tget t 4 = .int .i64 (i:Nat)∧∀j (h:j<ss.length),j<k→ss[j]≠ss[i]) (by simp[aE]) (by simp[aE,h0,h4]) ?_
   rintro k t s' c hk ⟨h0,h4,hne⟩ h5;by_cases hkl:k<i
   ·have hkn:k<ss.length:=by omega
    by_cases he:ss[k]=ss[i]
    ·have hp:jE ss i=some (e2 i 8):=by
      unfold jE;rw[jV hlt,hok,(uO _).2 ⟨k,hkn,hkl,he⟩];rfl
     simp only[z0,seval,h0,h4,h5,eD hkl,dU,cP,iH,AOp.kd,fU,gY,fV,eS,dE,eO,hd.ia1 hlt,hd.at1 hlt,hd.ia1 hkn,hd.at1 hkn,hY,aT,he,A102];rw[hnd,fX hlt hp hb];rfl
    ·simp only[z0,seval,h0,h4,h5,eD hkl,dU,cP,iH,AOp.kd,fU,gY,fV,eS,dE,eO,hd.ia1 hlt,hd.at1 hlt,hd.ia1 hkn,hd.at1 hkn,hY,aT,he,bD];refine⟨hkl,trivial,trivial,trivial,trivial,trivial,fun j hj hj2=>?_⟩
     rcases dB.1 hj2 with h|rfl
     ·exact hne j hj h
     ·exact he
   ·have hp:jE ss i=none:=by
     unfold jE;rw[jV hlt,hok];have:(ss.take i).contains ss[i]=false:=by
      rw[←eW,uO];rintro⟨j,h1,h2,h3⟩;exact hne j h1 (by omega) h3
     rw[this];rfl
    simp only[z0,seval,h0,h4,h5,jY (show i≤k by omega)]
    exact⟨hlt,trivial,trivial,trivial,trivial,eE hb hp⟩
 ·simp only[z0,seval,h0,h4,hd.len,jY (show ss.length≤i by omega),A102]
  have e:i=ss.length:=by omega
  subst e;rw[hnd,gN hb];rfl
theorem b_rem_u8{x b:Nat}(hx:x<256):kA .rem (.int .u8 ((x >>> b:Nat):Int)) (.int .u8 2)=some (.int .u8 ((bitN x b:Nat):Int)):=by
 have h:(x >>> b) % 2=bitN x b:=by
  rw[←Nat.and_one_is_mod,bit_eq];rfl
 have h2:bitN x b<2:=by unfold bitN;split<;>omega
 show(if(2:Int)=0 then none else some (D.int .u8 (Int.tmod ((x >>> b:Nat):Int) 2)))=_
 rw[aD (by omega),show Int.tmod ((x >>> b:Nat):Int) 2=(((x >>> b) % 2:Nat):Int) from rfl,h]
theorem c56(n:Nat){us:List Nat}{d e:D}(hdn:eP d=false)(he:Sl 1 u8C us e)(hu:iL us){a:Nat}(ha:a<us.length)(b:Nat):
  cl n 56 [.agg [d,e],.int .i64 (a:Int),.int .i64 (b:Int)]=some (.bool ((uM us a).testBit b),true):=by
 rw[cN (A:=A56) rfl n _ rfl,show A56.body=B56 from rfl]
 simp only[B56,Ab.abq];have hx:us[a]=uM us a:=(jV ha 0).symm;have h0:∀k:Nat,decide ((0:Int)≤(k:Int))=true:=fun k=>by simp
 simp only[z0,seval,h0,he.len,eD ha,he.ia1 ha,he.at1 ha,u8C,aT,hx,gJ b (mD hu a),b_rem_u8 (mD hu a),oH,A56];rfl
theorem c52(n:Nat){us:List Nat}{e:D}(he:Sl 1 u8C us e)(hu:iL us)(hl:us.length≤8){a b:Nat}(ha:a<us.length)(hb:b<us.length):
  cl n 52 [e,.int .i64 (a:Int),.int .i64 (b:Int)]=some (.int .i64 (kC (uM us) us.length a b),true):=by
 rw[cN (A:=A52) rfl n _ rfl,show A52.body=B52 from rfl]
 simp only[B52,Ab.abq];have hx:∀c (hc:c<us.length),us[c]=uM us c:=fun c hc=>(jV hc 0).symm
 simp only[z0,seval,dU,cP,iH,AOp.kd,fU,gY,fV,eS,dE,eO,he.len,he.ia1 ha,he.at1 ha,he.ia1 hb,he.at1 hb,u8C,aT,hx _ ha,hx _ hb,iJ (mD hu a) (mD hu b)];generalize hz:zloop KK _ _=rl
 refine zfor rl hz us.length (fI (by omega)) (by omega) (fun i t s c=>tget t 0=e∧tget t 7 = .int .u8 ((uM us a&&&uM us b:Nat):Int)∧∀j,j<i→lR (uM us) a b j=none) (by simp[aE]) (by simp[aE]) ?_
 rintro i t s c hi ⟨h0,h7,hn⟩ h8;by_cases hlt:i<us.length
 ·by_cases e1:uM us i=uM us a&&&uM us b
  ·have hp:lR (uM us) a b i=some (i:Int):=by unfold lR;rw[e1,fF];rfl
   simp only[z0,seval,h0,h7,h8,he.len,eD hlt,he.ia1 hlt,he.at1 hlt,u8C,aT,hx _ hlt,oG,bH e1,A52];unfold kC;rw[fX hlt hp hn];rfl
  ·have hp:lR (uM us) a b i=none:=by unfold lR;rw[iZ e1];rfl
   simp only[z0,seval,h0,h7,h8,he.len,eD hlt,he.ia1 hlt,he.at1 hlt,u8C,aT,hx _ hlt,oG,aK e1];exact⟨hlt,trivial,trivial,trivial,trivial,trivial,eE hn hp⟩
 ·have e1:i=us.length:=by omega
  subst e1;simp only[z0,seval,h0,h7,h8,he.len,jY (aI us.length),A52];unfold kC;rw[gN hn];rfl
def cells8(g:Nat→Nat)(n:Nat):List D:=(List.range n).map fun b=>.int .u8 (g b:Nat)
theorem mM(g:Nat→Nat)(n:Nat):(cells8 g n).length=n:=by simp[cells8]
theorem cells8_at(g:Nat→Nat){n b:Nat}(h:b<n):(cells8 g n)[b]?=some (.int .u8 (g b:Nat)):=by simp[cells8,h]
theorem cells8_set(g:Nat→Nat){n b:Nat}(v:Nat)(h:b<n):(cells8 g n).set b (.int .u8 (v:Nat))=cells8 (upd g b v) n:=by
 apply List.ext_getElem?;intro i;rw[List.getElem?_set,mM];by_cases hi:i<n
 ·rw[cells8_at _ hi,cells8_at _ hi];by_cases e:b=i
  ·subst e;rw[aH rfl,aH hi];simp[upd]
  ·rw[aD e];simp[upd,Ne.symm e]
 ·rw[gO (by rw[mM];omega),gO (by rw[mM];omega)]
  split
  ·omega
  ·rfl
theorem rep8(n:Nat):rep n [.int .u8 0]=cells8 (fun _=>0) n:=by
 have:∀n,(List.replicate n [D.int .u8 0]).flatten=List.replicate n (D.int .u8 0):=fun n=>by
  induction n with
  | zero=>rfl
  | succ n ih=>rw[List.replicate_succ,eH,ih,List.replicate_succ];rfl
 rw[rep,this,cells8,List.map_const',List.length_range];rfl
theorem iI(p:Bool)(n:Nat)(s:St)(nm off sz len cap:Nat):frz p (n+1) s (.ms nm off sz len cap)=(match sget s nm with
   | some (.fix _ cs)=>bif Nat.ble (off+len*sz) cs.length then(((cs.drop off).take (len*sz)).mapM (frz p n s)).map (.sl (Nat.beq cap len) len) else none
   | some (.grow _ cs)=>bif Nat.ble (off+len*sz) cs.length then(((cs.drop off).take (len*sz)).mapM (frz p n s)).map (.sl (Nat.beq cap len) len) else none
   | _=>none):=rfl
theorem rC(p:Bool)(n:Nat)(s:St)(nm off sz len:Nat):frz p (n+1) s (.gs nm off sz len)=(match sget s nm with
   | some (.grow _ cs)=>bif Nat.ble (off+len*sz) cs.length then(((cs.drop off).take (len*sz)).mapM (frz p n s)).map (.sl false len) else none
   | _=>none):=rfl
theorem frz_cells8(p:Bool)(k:Nat)(s:St)(g:Nat→Nat)(n:Nat):(cells8 g n).mapM (frz p (k+1) s)=some (cells8 g n):=by
 have:∀l:List Nat,(l.map fun b=>D.int .u8 (g b:Nat)).mapM (frz p (k+1) s)=some (l.map fun b=>D.int .u8 (g b:Nat)):=by
  intro l
  induction l with
  | nil=>rfl
  | cons a l ih=>rw[bY,List.mapM_cons,ih];rfl
 exact this _
theorem one_u8:∀n:Nat,n<8→kA .shl (.int .u8 1) (.int .i64 (n:Int))=some (.int .u8 ((2 ^ n:Nat):Int))
 | 0,_=>rfl
 | 1,_=>rfl
 | 2,_=>rfl
 | 3,_=>rfl
 | 4,_=>rfl
 | 5,_=>rfl
 | 6,_=>rfl
 | 7,_=>rfl
 | n+8,h=>by omega
def xG(n:Nat)(us:List Nat):List Nat:=(List.range n).map (dnM (uM us) n n)
theorem Sl8(g:Nat→Nat)(n:Nat):Sl 1 u8C ((List.range n).map g) (.sl true n (cells8 g n)):=by
 have hc:cells8 g n=(((List.range n).map g).map u8C).flatten:=by
  unfold cells8
  induction (List.range n) with
  | nil=>rfl
  | cons a l ih=>simp only[bY,eH,ih];rfl
 refine⟨fun r hr=>?_,.inr ⟨true,by rw[hc];simp⟩⟩
 obtain⟨x,_,rfl⟩:=cR.1 hr;rfl
theorem c51(n:Nat){ss:List (List UInt8)}{us:List Nat}{d e:D}(hd:Sl 1 hY ss d)(he:Sl 1 u8C us e)(hu:iL us)(hs:ss.length≤8)(hl:us.length=ss.length):
  cl (n+1) 51 [.agg [d,e]]=some (.sl true ss.length (cells8 (dnM (uM us) ss.length ss.length) ss.length),true):=by
 rw[cN (A:=A51) rfl (n+1) _ rfl,show A51.body=B51 from rfl]
 simp only[B51,Ab.abq];have hmk:(0≤(ss.length:Int)∧(ss.length:Int)≤(ss.length:Int)∧((1:Nat):Int)*(ss.length:Int)≤1099511627776∧(ss.length:Int)≤4294967296)=True:=eq_true (by omega)
 simp only[z0,↓reduceIte,Nat.reduceEqDiff,Nat.reduceAdd,Nat.reduceLeDiff,reduceCtorEq,hd.len,he.len,hd.nag,he.nag,hmk,cW,rep8];generalize hz:zloop KK _ _=rl
 refine zfor rl hz ss.length (fI (by omega)) (by omega) (fun i t s c=>sget s 0=some (.fix 26 [d,e])∧sget s 1=some (.fix 0 (cells8 (dnM (uM us) ss.length i) ss.length))∧tget t 1 = .ptr 0 0∧tget t 3 = .ms 1 0 1 ss.length ss.length) (by simp[aE]) (by simp[aE];rfl) ?_
 rintro i t s c hi ⟨s0,s1,h1,h3⟩ h4;by_cases hlt:i<ss.length
 ·simp only[z0,↓reduceIte,Nat.reduceEqDiff,Nat.reduceAdd,Nat.reduceLeDiff,reduceCtorEq,hd.len,he.len,h1,h3,h4,s0,s1,eD hlt];generalize hz2:zloop KK _ _=rl2
  refine zfor rl2 hz2 ss.length (fI (by omega)) (by omega) (fun j t s c=>sget s 0=some (.fix 26 [d,e])∧sget s 1=some (.fix 0 (cells8 (fun b=>if b<j then dnM (uM us) ss.length (i+1) b else dnM (uM us) ss.length i b) ss.length))∧tget t 1 = .ptr 0 0∧tget t 3 = .ms 1 0 1 ss.length ss.length∧tget t 4 = .int .i64 (i:Nat)) (by simp[aE]) (by simp[aE,s0,s1,h1,h3,h4]) ?_
  rintro j t s c hj ⟨s0,s1,h1,h3,h4⟩ h5;by_cases hjl:j<ss.length
  ·have hmid:∀v,v=dnM (uM us) ss.length (i+1) j→(upd (fun b=>if b<j then dnM (uM us) ss.length (i+1) b else dnM (uM us) ss.length i b) j v)=fun b=>if b<j+1 then dnM (uM us) ss.length (i+1) b else dnM (uM us) ss.length i b:=fun v hv=>by
    funext b
    simp only[upd];by_cases e1:b=j
    ·subst e1;rw[aH rfl,aH (Nat.lt_succ_self b),hv]
    ·rw[aD e1];by_cases e2:b<j
     ·rw[aH e2,aH (by omega)]
     ·rw[aD e2,aD (by omega)]
   have g8:dnM (uM us) ss.length i j<256:=dnM_u8 _ (by omega)
   have hcell:=cells8_at (fun b=>if b<j then dnM (uM us) ss.length (i+1) b else dnM (uM us) ss.length i b) hjl
   simp only[Nat.lt_irrefl,gF]at hcell;cases hbit:(uM us i).testBit j
   ·have hsame:(fun b=>if b<j then dnM (uM us) ss.length (i+1) b else dnM (uM us) ss.length i b)=fun b=>if b<j+1 then dnM (uM us) ss.length (i+1) b else dnM (uM us) ss.length i b:=by
     rw[←hmid (dnM (uM us) ss.length (i+1) j) rfl]
     funext b
     simp only[upd];by_cases e1:b=j
     ·subst e1;rw[aH rfl,aD (Nat.lt_irrefl b)];simp only[dnM,hbit,Bool.false_and,cK,gF,Nat.or_zero]
     ·rw[aD e1]
    rw[hsame]at s1;simp only[z0,↓reduceIte,Nat.reduceEqDiff,Nat.reduceAdd,Nat.reduceLeDiff,reduceCtorEq,hd.len,he.len,hd.fz,he.fz,h1,h3,h4,h5,s0,eD hjl,aF (f:=56) rfl,aQ,c56 n hd.nag he hu (show i<us.length by omega) j,hbit]
    exact⟨hjl,trivial,trivial,trivial,trivial,s1,trivial,trivial,trivial⟩
   ·have hv:(dnM (uM us) ss.length i j ||| 2 ^ i)=dnM (uM us) ss.length (i+1) j:=by simp only[dnM,hbit,hjl,aR,Bool.and_true,if_true]
    have hst:stB (.fix 0 (cells8 (fun b=>if b<j then dnM (uM us) ss.length (i+1) b else dnM (uM us) ss.length i b) ss.length)) j [.int .u8 ((dnM (uM us) ss.length i j ||| 2 ^ i:Nat):Int)] =
      some (.fix 0 (cells8 (fun b=>if b<j+1 then dnM (uM us) ss.length (i+1) b else dnM (uM us) ss.length i b) ss.length)):=by
     rw[stB_1 (by rw[mM];exact hjl) rfl,cells8_set _ _ hjl,hmid _ hv]
    simp only[z1,↓reduceIte,Nat.reduceEqDiff,Nat.reduceAdd,Nat.reduceLeDiff,reduceCtorEq,hd.len,he.len,hd.fz,he.fz,h1,h3,h4,h5,s0,s1,eD hjl,aF (f:=56) rfl,aQ,c56 n hd.nag he hu (show i<us.length by omega) j,hbit,
     dU,cP,iH,AOp.kd,fU,gY,fV,eS,dE,eO,kE,fS hjl,dI,hcell,one_u8 i (by omega),b_or_u8 g8 (uR (show i<8 by omega)),hst,aV,bU]
    exact⟨hjl,trivial,trivial,trivial,trivial,trivial,trivial,trivial,trivial⟩
  ·have hg:(fun b=>if b<j then dnM (uM us) ss.length (i+1) b else dnM (uM us) ss.length i b)=dnM (uM us) ss.length (i+1):=by
    funext b
    by_cases e2:b<j
    ·rw[aH e2]
    ·rw[aD e2];simp[dnM,show ¬b<ss.length by omega]
   rw[hg]at s1;simp only[z0,↓reduceIte,Nat.reduceEqDiff,Nat.reduceAdd,Nat.reduceLeDiff,reduceCtorEq,hd.len,he.len,h1,h3,h4,h5,s0,s1,jY (show ss.length≤j by omega)]
   exact⟨hlt,trivial,trivial,trivial,trivial,trivial,trivial,trivial⟩
 ·have e1:i=ss.length:=by omega
  subst e1;simp only[z0,↓reduceIte,Nat.reduceEqDiff,Nat.reduceAdd,Nat.reduceLeDiff,reduceCtorEq,hd.len,he.len,h1,h3,h4,s0,s1,jY (aI ss.length),A51];have hf:frz true 20 s (.ms 1 0 1 ss.length ss.length)=some (.sl true ss.length (cells8 (dnM (uM us) ss.length ss.length) ss.length)):=by
   rw[iI,s1];simp only[mM,bP,dI,Nat.ble_self_eq_true,aU,fM];rw[cX (by rw[mM];exact aI _),frz_cells8,fF]
   rfl
  unfold pout;simp only[hf]
theorem b_shr_i64{x:Nat}(b:Nat)(hx:x<9223372036854775808){j:IntKind}:kA .shr (.int .i64 (x:Int)) (.int j (b:Int))=some (.int .i64 ((x >>> b:Nat):Int)):=by
 rw[binD_shr];simp only[shD];rw[aD (by omega),cW,show((2:Int) ^ (min b (IntKind.bits .i64)))=((2 ^ (min b 64):Nat):Int) by rw[Int.natCast_pow];rfl,fdiv_nat,shr_small b 64 (by omega)]
theorem iB{x y:Nat}(hx:x<9223372036854775808)(hy:y<9223372036854775808):kA .and (.int .i64 (x:Int)) (.int .i64 (y:Int))=some (.int .i64 ((x&&&y:Nat):Int)):=by
 have h:x&&&y<9223372036854775808:=Nat.lt_of_le_of_lt Nat.and_le_left hx;rw[uB _ _ _ (.inl rfl)];simp only[xL,BitVec.ofInt_natCast,BitVec.toNat_and,BitVec.toNat_ofNat];rw[Nat.mod_eq_of_lt (show x<2 ^ IntKind.bits .i64 from Nat.lt_trans hx (by decide)),Nat.mod_eq_of_lt (show y<2 ^ IntKind.bits .i64 from Nat.lt_trans hy (by decide)),vR (show _≤9223372036854775807 by omega)]
theorem shr_pos(x n:Nat):decide ((0:Int)<((x >>> n:Nat):Int)) = !(Nat.blt x (2 ^ n)):=by
 rw[Nat.shiftRight_eq_div_pow,dA,cI,Bool.not_eq_true',←eW,Nat.blt_eq,Nat.not_lt];have h:=@Nat.div_pos_iff x (2 ^ n);have:=Nat.two_pow_pos n;omega
theorem all_i64:∀n:Nat,1≤n→n≤8→∃v,kA .shl (.int .i64 1) (.int .i64 (n:Int))=some (.int .i64 v)∧cT .i64 (v-1)=((2 ^ n-1:Nat):Int)
 | 1,_,_=>⟨_,rfl,rfl⟩
 | 2,_,_=>⟨_,rfl,rfl⟩
 | 3,_,_=>⟨_,rfl,rfl⟩
 | 4,_,_=>⟨_,rfl,rfl⟩
 | 5,_,_=>⟨_,rfl,rfl⟩
 | 6,_,_=>⟨_,rfl,rfl⟩
 | 7,_,_=>⟨_,rfl,rfl⟩
 | 8,_,_=>⟨_,rfl,rfl⟩
 | 0,h,_=>by omega
 | n+9,_,h=>by omega
theorem c103(n:Nat){ss:List (List UInt8)}{us:List Nat}{d e:D}(hd:Sl 1 hY ss d)(he:Sl 1 u8C us e)(hu:iL us)(hs:ss.length≤8)(hl:us.length=ss.length){a:Nat}(ha:a<ss.length):
  cl (n+1) 103 [.agg [d,e],.int .i64 (a:Int)]=some (.bool (kN ss.length (uM us) a),true):=by
 rw[cN (A:=A103) rfl (n+1) _ rfl,show A103.body=B103 from rfl]
 simp only[B103,Ab.abq];have ha':a<us.length:=by omega
 have hx:∀c (hc:c<us.length),us[c]=uM us c:=fun c hc=>(jV hc 0).symm
 have h63:∀c,uM us c<9223372036854775808:=fun c=>Nat.lt_trans (mD hu c) (by omega)
 have hw:∀c,cT .i64 ((uM us c:Nat):Int)=((uM us c:Nat):Int):=fun c=>gU (by omega) (by have:=mD hu c;omega)
 cases h1:Nat.blt (uM us a) (2 ^ ss.length)
 ·simp only[z0,seval,hd.len,he.len,hd.nag,he.nag,he.ia1 ha',he.at1 ha',u8C,hx _ ha',hw,b_shr_i64 _ (h63 a),shr_pos,h1,A103];rw[kN,h1];rfl
 cases h2:(uM us a).testBit a
 ·simp only[z0,seval,hd.len,he.len,hd.nag,he.nag,he.ia1 ha',he.at1 ha',u8C,hx _ ha',hw,b_shr_i64 _ (h63 a),shr_pos,h1,aF (f:=56) rfl,aQ,hd.fz,he.fz,c56 n hd.nag he hu ha' a,h2,A103];rw[kN,h1,h2];rfl
 simp only[z0,seval,hd.len,he.len,hd.nag,he.nag,he.ia1 ha',he.at1 ha',u8C,hx _ ha',hw,b_shr_i64 _ (h63 a),shr_pos,h1,aF (f:=56) rfl,aQ,hd.fz,he.fz,c56 n hd.nag he hu ha' a,h2];generalize hz:zloop KK _ _=rl;obtain⟨v,hv1,hv2⟩:=all_i64 ss.length (by omega) hs
 have hall:2 ^ ss.length-1<9223372036854775808:=by
  have:2 ^ ss.length≤2 ^ 8:=Nat.pow_le_pow_right (by omega) hs
  omega
 refine zfor rl hz ss.length (fI (by omega)) (by omega) (fun i t s c=>sget s 0=some (.fix 26 [d,e])∧tget t 2 = .ptr 0 0∧tget t 5 = .int .i64 (ss.length:Nat)∧tget t 6 = .int .i64 (uM us a:Nat)∧tget t 1 = .int .i64 (a:Nat)∧∀b,b<i→okA ss.length (uM us) a b=true) (by simp[aE]) (by simp[aE]) ?_
 rintro i t s c hi ⟨s0,q2,q5,q6,q1,hob⟩ q7;by_cases hlt:i<ss.length
 ·have hi':i<us.length:=by omega
  have h64:uM us i&&&(2 ^ ss.length-1)<9223372036854775808:=Nat.lt_of_le_of_lt Nat.and_le_left (h63 i);have hstep:okA ss.length (uM us) a i=true→∀k,k<i+1→okA ss.length (uM us) a k=true:=fun h k hk=>by
   rcases dB.1 hk with h1|rfl
   ·exact hob k h1
   ·exact h
  have hbad:okA ss.length (uM us) a i=false→kN ss.length (uM us) a=false:=fun h=>by
   rw[kN,tH hlt h,Bool.and_false,Bool.and_false]
  cases hb1:(uM us a).testBit i
  ·have h:okA ss.length (uM us) a i=true:=by rw[okA,hb1];rfl
   simp only[z1,seval,hd.len,he.len,hd.fz,he.fz,s0,q1,q2,q5,q6,q7,eD hlt,aF (f:=56) rfl,aQ,c56 n hd.nag he hu ha' i,hb1];exact⟨hlt,trivial,trivial,trivial,trivial,trivial,trivial,trivial,trivial,hstep h⟩
  ·have hok:okA ss.length (uM us) a i=((Nat.beq i a || !(uM us i).testBit a)&&Nat.beq ((uM us i&&&(2 ^ ss.length-1))&&&uM us a) (uM us i&&&(2 ^ ss.length-1))):=by rw[okA,hb1];rfl
   have hb5:∀{x y:Nat},Nat.beq x y=true→decide (((x:Nat):Int)=(y:Nat))=true:=fun h=>by rw[aS h];simp
   have hb6:∀{x y:Nat},Nat.beq x y=false→decide (((x:Nat):Int)=(y:Nat))=false:=fun {x y} h=>by
    rw[cE,Int.ofNat_inj];intro e;rw[e,fF]at h;cases h
   cases e3:Nat.beq ((uM us i&&&(2 ^ ss.length-1))&&&uM us a) (uM us i&&&(2 ^ ss.length-1))
   ·have hq:=hb6 e3;cases e1:Nat.beq i a
    ·have hji:=hb6 e1;cases hb2:(uM us i).testBit a
     ·have h:okA ss.length (uM us) a i=false:=by rw[hok,e3,e1,hb2];rfl
      simp only[z1,seval,hd.len,he.len,hd.fz,he.fz,s0,q1,q2,q5,q6,q7,eD hlt,aF (f:=56) rfl,aQ,c56 n hd.nag he hu ha' i,hb1,dU,cP,iH,AOp.kd,fU,iA,iX,gY,fV,eS,dE,eO,he.ia1 hi',he.at1 hi',u8C,hx _ hi',hw,hv1,hv2,iB (h63 i) hall,iB h64 (h63 a),c56 n hd.nag he hu hi' a,hb2,eL,cF,hji,hq,A103]
      rw[hbad h];rfl
     ·have h:okA ss.length (uM us) a i=false:=by rw[hok,e3,e1,hb2];rfl
      simp only[z1,seval,hd.len,he.len,hd.fz,he.fz,s0,q1,q2,q5,q6,q7,eD hlt,aF (f:=56) rfl,aQ,c56 n hd.nag he hu ha' i,hb1,dU,cP,iH,AOp.kd,fU,iA,iX,gY,fV,eS,dE,eO,he.ia1 hi',he.at1 hi',u8C,hx _ hi',hw,hv1,hv2,iB (h63 i) hall,iB h64 (h63 a),c56 n hd.nag he hu hi' a,hb2,eL,cF,hji,hq,A103]
      rw[hbad h];rfl
    ·have hji:=hb5 e1;cases hb2:(uM us i).testBit a
     ·have h:okA ss.length (uM us) a i=false:=by rw[hok,e3,e1,hb2];rfl
      simp only[z1,seval,hd.len,he.len,hd.fz,he.fz,s0,q1,q2,q5,q6,q7,eD hlt,aF (f:=56) rfl,aQ,c56 n hd.nag he hu ha' i,hb1,dU,cP,iH,AOp.kd,fU,iA,iX,gY,fV,eS,dE,eO,he.ia1 hi',he.at1 hi',u8C,hx _ hi',hw,hv1,hv2,iB (h63 i) hall,iB h64 (h63 a),c56 n hd.nag he hu hi' a,hb2,eL,cF,hji,hq,A103]
      rw[hbad h];rfl
     ·have h:okA ss.length (uM us) a i=false:=by rw[hok,e3,e1,hb2];rfl
      simp only[z1,seval,hd.len,he.len,hd.fz,he.fz,s0,q1,q2,q5,q6,q7,eD hlt,aF (f:=56) rfl,aQ,c56 n hd.nag he hu ha' i,hb1,dU,cP,iH,AOp.kd,fU,iA,iX,gY,fV,eS,dE,eO,he.ia1 hi',he.at1 hi',u8C,hx _ hi',hw,hv1,hv2,iB (h63 i) hall,iB h64 (h63 a),c56 n hd.nag he hu hi' a,hb2,eL,cF,hji,hq,A103]
      rw[hbad h];rfl
   ·have hq:=hb5 e3;cases e1:Nat.beq i a
    ·have hji:=hb6 e1;cases hb2:(uM us i).testBit a
     ·have h:okA ss.length (uM us) a i=true:=by rw[hok,e3,e1,hb2];rfl
      simp only[z1,seval,hd.len,he.len,hd.fz,he.fz,s0,q1,q2,q5,q6,q7,eD hlt,aF (f:=56) rfl,aQ,c56 n hd.nag he hu ha' i,hb1,dU,cP,iH,AOp.kd,fU,iA,iX,gY,fV,eS,dE,eO,he.ia1 hi',he.at1 hi',u8C,hx _ hi',hw,hv1,hv2,iB (h63 i) hall,iB h64 (h63 a),c56 n hd.nag he hu hi' a,hb2,eL,cF,hji,hq]
      exact⟨hlt,trivial,trivial,trivial,trivial,trivial,trivial,trivial,trivial,hstep h⟩
     ·have h:okA ss.length (uM us) a i=false:=by rw[hok,e3,e1,hb2];rfl
      simp only[z1,seval,hd.len,he.len,hd.fz,he.fz,s0,q1,q2,q5,q6,q7,eD hlt,aF (f:=56) rfl,aQ,c56 n hd.nag he hu ha' i,hb1,dU,cP,iH,AOp.kd,fU,iA,iX,gY,fV,eS,dE,eO,he.ia1 hi',he.at1 hi',u8C,hx _ hi',hw,hv1,hv2,iB (h63 i) hall,iB h64 (h63 a),c56 n hd.nag he hu hi' a,hb2,eL,cF,hji,hq,A103]
      rw[hbad h];rfl
    ·have hji:=hb5 e1;cases hb2:(uM us i).testBit a
     ·have h:okA ss.length (uM us) a i=true:=by rw[hok,e3,e1,hb2];rfl
      simp only[z1,seval,hd.len,he.len,hd.fz,he.fz,s0,q1,q2,q5,q6,q7,eD hlt,aF (f:=56) rfl,aQ,c56 n hd.nag he hu ha' i,hb1,dU,cP,iH,AOp.kd,fU,iA,iX,gY,fV,eS,dE,eO,he.ia1 hi',he.at1 hi',u8C,hx _ hi',hw,hv1,hv2,iB (h63 i) hall,iB h64 (h63 a),c56 n hd.nag he hu hi' a,hb2,eL,cF,hji,hq]
      exact⟨hlt,trivial,trivial,trivial,trivial,trivial,trivial,trivial,trivial,hstep h⟩
     ·have h:okA ss.length (uM us) a i=true:=by rw[hok,e3,e1,hb2];rfl
      simp only[z1,seval,hd.len,he.len,hd.fz,he.fz,s0,q1,q2,q5,q6,q7,eD hlt,aF (f:=56) rfl,aQ,c56 n hd.nag he hu ha' i,hb1,dU,cP,iH,AOp.kd,fU,iA,iX,gY,fV,eS,dE,eO,he.ia1 hi',he.at1 hi',u8C,hx _ hi',hw,hv1,hv2,iB (h63 i) hall,iB h64 (h63 a),c56 n hd.nag he hu hi' a,hb2,eL,cF,hji,hq]
      exact⟨hlt,trivial,trivial,trivial,trivial,trivial,trivial,trivial,trivial,hstep h⟩
 ·simp only[z0,seval,hd.len,he.len,s0,q1,q2,q5,q6,q7,jY (show ss.length≤i by omega),A103]
  rw[kN,h1,h2,jA.2 fun k hk=>hob k (by omega)];rfl
theorem nearD_congr{f g:Nat→Nat}{n a b:Nat}(h:∀c,c<n→f c=g c)(ha:a<n)(hb:b<n):kC f n a b=kC g n a b:=by
 unfold kC;refine uU fun c _ hc=>?_
 unfold lR;rw[h a ha,h b hb,h c (by omega)]
theorem down_uM(n:Nat)(us:List Nat){i:Nat}(h:i<n):uM (xG n us) i=dnM (uM us) n n i:=by
 show(xG n us).getD i 0=_;unfold xG;rw[jV (by simpa using h)];simp only[List.getElem_map,List.getElem_range]
theorem down_bytes{n:Nat}(us:List Nat)(h:n≤8):iL (xG n us):=fun u hu=>by
 obtain⟨i,_,rfl⟩:=cR.1 hu;exact dnM_u8 i h
theorem xF(n:Nat)(us:List Nat):(xG n us).length=n:=by simp[xG]
theorem c54(n:Nat){ss:List (List UInt8)}{us:List Nat}{d e:D}(hd:Sl 1 hY ss d)(he:Sl 1 u8C us e)(hu:iL us)(hs:pX ss):cl (n+3) 54 [.agg [d,e]]=some (CHK ss us,true):=by
 rw[cN (A:=A54) rfl (n+3) _ rfl,show A54.body=B54 from rfl]
 simp only[B54,Ab.abq];rcases lT ss with⟨h1,h2⟩|⟨h1,a,er,h2,h3⟩
 ·have hn:=kV.1 h1;by_cases hl:us.length=ss.length
  ·simp only[z0,seval,eq_true (show(((us.length:Nat):Int)=(ss.length:Nat)) by omega),eL,eq_self,aY,aZ,hd.len,he.len,hd.nag,he.nag,aF (f:=102) rfl,aQ,hd.fz,c102 n hd hs,h2,fJ]
   generalize hz:zloop KK _ _=rl;refine zfor rl hz ss.length (fI (by omega)) (by omega) (fun i t s c=>sget s 0=some (.fix 26 [d,e])∧tget t 1 = .ptr 0 0∧tget t 6 = .int .i64 (ss.length:Nat)∧∀j,j<i→pE ss.length (uM us) j=none) (by simp[aE]) (by simp[aE]) ?_
   rintro i t s c hi ⟨s0,q1,q6,hb⟩ q7;by_cases hlt:i<ss.length
   ·cases ho:kN ss.length (uM us) i
    ·simp only[z1,seval,hd.len,he.len,hd.fz,he.fz,s0,q1,q6,q7,eD hlt,aF (f:=103) rfl,aQ,c103 (n+1) hd he hu hn.1.2 hl hlt,ho,A54];rw[CHK,aH h1,aH hl,ordD,fX hlt (by rw[pE,ho];rfl) hb];rfl
    ·simp only[z1,seval,hd.len,he.len,hd.fz,he.fz,s0,q1,q6,q7,eD hlt,aF (f:=103) rfl,aQ,c103 (n+1) hd he hu hn.1.2 hl hlt,ho];exact⟨hlt,trivial,trivial,trivial,trivial,trivial,trivial,eE hb (by rw[pE,ho];rfl)⟩
   ·have e1:i=ss.length:=by omega
    subst e1;have hCHK:CHK ss us=rS ss.length (uM us):=by rw[CHK,aH h1,aH hl,ordD,gN hb]
    rw[hCHK];simp only[z1,seval,hd.len,he.len,hd.fz,he.fz,s0,q1,q6,q7,jY (aI ss.length),aF (f:=51) rfl,aQ,c51 (n+1) hd he hu hn.1.2 hl];generalize hz2:zloop KK _ _=rl2;have hS8:Sl 1 u8C (xG ss.length us) (.sl true ss.length (cells8 (dnM (uM us) ss.length ss.length) ss.length)):=Sl8 _ _
    generalize hdw:D.sl true ss.length (cells8 (dnM (uM us) ss.length ss.length) ss.length)=dw at hS8 hz2;refine zfor rl2 hz2 ss.length (fI (by omega)) (by omega) (fun i t s c=>sget s 0=some (.fix 26 [d,e])∧tget t 1 = .ptr 0 0∧tget t 6 = .int .i64 (ss.length:Nat)∧tget t 8=dw∧∀j,j<i→wV ss.length (uM us) j=none) (by simp[aE]) (by simp[aE,s0,q1,q6]) ?_
    rintro i t s c hi ⟨s0,q1,q6,q8,hb2⟩ q9;by_cases hlt:i<ss.length
    ·simp only[z0,seval,s0,q1,q6,q8,q9,eD hlt];generalize hz3:zloop KK _ _=rl3;refine zfor rl3 hz3 ss.length (fI (by omega)) (by omega) (fun j t s c=>sget s 0=some (.fix 26 [d,e])∧tget t 1 = .ptr 0 0∧tget t 6 = .int .i64 (ss.length:Nat)∧tget t 8=dw∧tget t 9 = .int .i64 (i:Nat)∧∀k,k<j→lat2 ss.length (uM us) i k=true) (by simp[aE]) (by simp[aE,s0,q1,q6,q8,q9]) ?_
     rintro j t s c hj ⟨s0,q1,q6,q8,q9,hob⟩ q10;by_cases hjl:j<ss.length
     ·have hbad:lat2 ss.length (uM us) i j=false→rS ss.length (uM us)=e2 i 4:=fun h=>by
       rw[rS,fX hlt (by rw[wV,latB,tH hjl h];rfl) hb2]
      have r1:=c52 (n+2) he hu (by omega) (show i<us.length by omega) (show j<us.length by omega)
      have r2:=c52 (n+2) hS8 (down_bytes us hn.1.2) (by rw[xF];omega) (show i<(xG ss.length us).length by rw[xF];omega) (show j<(xG ss.length us).length by rw[xF];omega)
      rw[hl]at r1;rw[xF,nearD_congr (fun c hc=>down_uM _ us hc) hlt hjl]at r2
      cases hn1:decide (kC (uM us) ss.length i j<0)
      ·cases hn2:decide (kC (dnM (uM us) ss.length ss.length) ss.length i j<0)
       ·have h:lat2 ss.length (uM us) i j=true:=by rw[lat2,hn1,hn2];rfl
        simp only[z0,seval,s0,q1,q6,q8,q9,q10,eD hjl,aF (f:=52) rfl,aQ,he.fz,hS8.fz,r1,r2,hn1,hn2];refine⟨hjl,trivial,trivial,trivial,trivial,trivial,trivial,trivial,trivial,fun k hk=>?_⟩
        rcases dB.1 hk with h1|rfl
        ·exact hob k h1
        ·exact h
       ·have h:lat2 ss.length (uM us) i j=false:=by rw[lat2,hn1,hn2];rfl
        simp only[z0,seval,s0,q1,q6,q8,q9,q10,eD hjl,aF (f:=52) rfl,aQ,he.fz,hS8.fz,r1,r2,hn1,hn2,A54];rw[hbad h];rfl
      ·have h:lat2 ss.length (uM us) i j=false:=by rw[lat2,hn1];rfl
       simp only[z0,seval,s0,q1,q6,q8,q9,q10,eD hjl,aF (f:=52) rfl,aQ,he.fz,hS8.fz,r1,r2,hn1,A54];rw[hbad h];rfl
     ·have hp:wV ss.length (uM us) i=none:=by rw[wV,latB,jA.2 fun k hk=>hob k (by omega)];rfl
      simp only[z0,seval,s0,q1,q6,q8,q9,q10,jY (show ss.length≤j by omega)]
      exact⟨hlt,trivial,trivial,trivial,trivial,trivial,trivial,trivial,eE hb2 hp⟩
    ·have e1:i=ss.length:=by omega
     subst e1;simp only[z0,seval,s0,q1,q6,q8,q9,jY (aI ss.length),A54];rw[rS,gN hb2];rfl
  ·simp only[z0,seval,aL (show ¬(((us.length:Nat):Int)=(ss.length:Nat)) by omega),eL,eq_self,aY,aZ,hd.len,he.len,hd.nag,he.nag,aF (f:=102) rfl,aQ,hd.fz,c102 n hd hs,h2,fJ,A54]
   rw[CHK,aH h1,aD hl];rfl
 ·simp only[z0,seval,aL h3,eL,aY,aZ,hd.len,he.len,hd.nag,he.nag,aF (f:=102) rfl,aQ,hd.fz,c102 n hd hs,h2,fJ,A54];rw[CHK,aD (by rw[h1];decide),h2];rfl
-- without what a part of a row is
theorem ex_ls1:(∀(a:D) (l:List D),(a::l).length=l.length+1)∧(([]:List D).length=0)∧(∀(a v:D) (l:List D),(a::l).set 0 v=v::l)∧(∀(a v:D) (l:List D) (n:Nat),(a::l).set (n+1) v=a::l.set n v) ∧
  (∀(a:D) (l:List D),(a::l)[0]?=some a)∧(∀(a:D) (l:List D) (n:Nat),(a::l)[n+1]?=l[n]?)∧(∀(n:Nat),([]:List D)[n]?=none)∧(∀(a:D) (l:List D),(a::l).any eP=(eP a||l.any eP))∧(([]:List D).any eP=false) ∧
  (∀(l:List D),l.drop 0=l)∧(∀(a:D) (l:List D) (n:Nat),(a::l).drop (n+1)=l.drop n)∧(∀(l:List D),l.take 0=[])∧(∀(a:D) (l:List D) (n:Nat),(a::l).take (n+1)=a::l.take n)∧(∀(n:Nat),([]:List D).take n=[])∧(∀(n:Nat),([]:List D).drop n=[]) ∧
  (∀(G:List (Nat×List D)) (t:Tm),parts G t []=[])∧(∀(G:List (Nat×List D)) (t:Tm) (o n:Nat) (a:Arg) (l:List (Nat×Nat×Arg)),parts G t ((o,n,a)::l)=(o,n,a.ev G t)::parts G t l) ∧
  (∀(cs:List D),place cs []=some cs)∧(∀(cells:List D) (off n:Nat) (d:D) (r:List (Nat×Nat×D)),place cells ((off,n,d)::r)=(match d.cells? with
   | some cs=>bif Nat.beq cs.length n&&Nat.ble (off+n) cells.length then place (eU cells off cs) r else none
   | none=>none)) ∧
  (∀(ty off:Nat) (cs vs:List D),stB (.fix ty cs) off vs=bif vs.any eP then none else bif Nat.ble (off+vs.length) cs.length then some (.fix ty (eU cs off vs)) else none):=by
 refine⟨fun _ _=>rfl,rfl,fun _ _ _=>rfl,fun _ _ _ _=>rfl,fun _ _=>rfl,fun _ _ _=>rfl,fun _=>rfl,fun _ _=>rfl,rfl,fun _=>rfl,fun _ _ _=>rfl,fun _=>rfl,fun _ _ _=>rfl,fun _=>List.take_nil,fun _=>List.drop_nil,fun _ _=>rfl,fun _ _ _ _ _ _=>rfl,fun _=>rfl,fun _ _ _ _ _=>rfl,fun _ _ _ _=>rfl⟩
def siteC(p:Int×Int):List D:=[.int .i64 p.1,.int .i64 p.2]
def vK(ss:List (List UInt8))(us:List Nat):Bool:=(List.range (min ss.length 30)).any (fun i=>decide (50<(ss.getD i []).length))||(decide (20<ss.length)||decide (20<us.length))
theorem z2:type_of% gL∧type_of% at_c∧type_of% exq∧type_of% ex_ls1∧type_of% exb∧type_of% Ab.abq:=⟨gL,at_c,exq,ex_ls1,exb,Ab.abq⟩
theorem c47(n:Nat){ss:List (List UInt8)}{us:List Nat}{d e:D}(hd:Sl 1 hY ss d)(he:Sl 1 u8C us e)(a:Int):
  cl n 47 [.agg [d,e],.int .i64 a]=some (.bool (decide (0≤a)&&decide (a<(ss.length:Int))),true):=by
 rw[cN (A:=A47) rfl n _ rfl,show A47.body=B47 from rfl]
 simp only[B47,Ab.abq];cases h:decide (0≤a)
 ·simp only[z0,seval,hd.len,hd.nag,he.nag,h,A47];rfl
 ·simp only[z0,seval,hd.len,hd.nag,he.nag,h,A47];rfl
theorem c69(n:Nat){us:List Nat}{e:D}(he:Sl 1 u8C us e)(hl:us.length<9223372036854775807)(a b:Nat):
  cl n 69 [e,.int .u8 ((uM us a&&&uM us b:Nat):Int)]=some (.int .i64 (kC (uM us) us.length a b),true):=by
 rw[cN (A:=A69) rfl n _ rfl,show A69.body=B69 from rfl]
 simp only[B69,Ab.abq];have hx:∀c (hc:c<us.length),us[c]=uM us c:=fun c hc=>(jV hc 0).symm
 simp only[z0,seval,he.len];generalize hz:zloop KK _ _=rl;refine zrange rl hz us.length (fI hl) hl (fun i t s c=>tget t 0=e∧tget t 1 = .int .u8 ((uM us a&&&uM us b:Nat):Int)∧∀j,j<i→lR (uM us) a b j=none) (by decide) (by simp[aE]) (by simp[aE]) (by simp[aE]) ?_ ?_
 ·rintro i t s c hi ⟨q0,q1,hn⟩ hti htn;by_cases e1:uM us a&&&uM us b=uM us i
  ·have hp:lR (uM us) a b i=some (i:Int):=by unfold lR;rw[←e1,fF];rfl
   simp only[z0,seval,q0,q1,hti,htn,he.ia1 hi,he.at1 hi,u8C,hx _ hi,oG,bH e1,A69];unfold kC;rw[fX hi hp hn];rfl
  ·have hp:lR (uM us) a b i=none:=by unfold lR;rw[iZ (Ne.symm e1)];rfl
   simp only[z0,seval,q0,q1,hti,htn,he.ia1 hi,he.at1 hi,u8C,hx _ hi,oG,aK e1];exact⟨trivial,trivial,trivial,.inr (.inr trivial),nofun,nofun,trivial,trivial,eE hn hp⟩
 ·rintro t s c ⟨q0,q1,hn⟩ hti htn;simp only[z0,seval,q0,q1,hti,htn,A69];unfold kC;rw[gN hn];rfl
theorem c28(n:Nat){ss:List (List UInt8)}{us:List Nat}{d e:D}(hd:Sl 1 hY ss d)(he:Sl 1 u8C us e):
  cl n 28 [.agg [d,e]]=some (.bool (vK ss us),true):=by
 rw[cN (A:=A28) rfl n _ rfl,show A28.body=B28 from rfl]
 simp only[B28,Ab.abq];simp only[z0,seval,hd.nag,he.nag];generalize hz:zloop KK _ _=rl;refine zfor rl hz (min ss.length 30) (fI (by omega)) (by omega) (fun i t s c=>sget s 0=some (.fix 26 [d,e])∧tget t 1 = .ptr 0 0∧∀j,j<i→decide (50<(ss.getD j []).length)=false) (by simp[aE]) (by simp[aE]) ?_
 rintro i t s c hi ⟨s0,q1,hn⟩ q3;by_cases hlt:i<min ss.length 30
 ·have hl1:i<ss.length:=by omega
  have h30:decide ((i:Int)<30)=true:=by rw[cI];omega
  cases h50:decide ((50:Int)<((ss[i]).length:Int))
  ·have h:decide (50<(ss.getD i []).length)=false:=by rw[jV hl1];rw[cE]at h50 ⊢;omega
   simp only[z0,seval,s0,q1,q3,hd.len,eD hl1,h30,hd.ia1 hl1,hd.at1 hl1,hY,h50];refine⟨hlt,trivial,trivial,trivial,trivial,trivial,fun j hj=>?_⟩
   rcases dB.1 hj with h1|rfl
   ·exact hn j h1
   ·exact h
  ·have h:decide (50<(ss.getD i []).length)=true:=by rw[jV hl1];rw[cI]at h50 ⊢;omega
   simp only[z0,seval,s0,q1,q3,hd.len,eD hl1,h30,hd.ia1 hl1,hd.at1 hl1,hY,h50,A28];have:vK ss us=true:=by
    rw[vK,List.any_eq_true.2 ⟨i,List.mem_range.2 hlt,h⟩];rfl
   rw[this];rfl
 ·have e1:i=min ss.length 30:=by omega
  have hany:(List.range (min ss.length 30)).any (fun i=>decide (50<(ss.getD i []).length))=false:=by
   rw[List.any_eq_false];intro j hj;rw[hn j (by rw[e1];exact List.mem_range.1 hj)];decide
  have hstop:decide ((i:Int)<(ss.length:Int))=false∨(decide ((i:Int)<(ss.length:Int))=true∧decide ((i:Int)<30)=false):=by
   by_cases h:i<ss.length
   ·exact .inr ⟨eD h,by rw[cE];omega⟩
   ·exact .inl (jY (by omega))
  have h20:decide ((20:Int)<(ss.length:Int))=decide (20<ss.length):=by rw[dA,cI,cI];omega
  have h21:decide ((20:Int)<(us.length:Int))=decide (20<us.length):=by rw[dA,cI,cI];omega
  rw[vK,hany,Bool.false_or];cases h22:decide (20<ss.length)
  ·rcases hstop with hs|⟨hs,hs2⟩
   ·simp only[z0,seval,s0,q1,q3,hd.len,he.len,hs,h20,h21,h22,A28];rfl
   ·simp only[z0,seval,s0,q1,q3,hd.len,he.len,hs,hs2,h20,h21,h22,A28];rfl
  ·rcases hstop with hs|⟨hs,hs2⟩
   ·simp only[z0,seval,s0,q1,q3,hd.len,he.len,hs,h20,h21,h22,A28];rfl
   ·simp only[z0,seval,s0,q1,q3,hd.len,he.len,hs,hs2,h20,h21,h22,A28];rfl
theorem dT{p:Prop}[Decidable p](h:p):decide p=true:=bH h
theorem dF{p:Prop}[Decidable p](h:¬p):decide p=false:=aK h
theorem lW{a e a' e':Int}(h:e2 a e=e2 a' e'):a=a'∧e=e':=by
 unfold e2 at h;cases h;exact⟨rfl,rfl⟩
theorem dO(z:D):(sameD 1000 z z||@decide (z=z) (Classical.propDecidable _))=true:=by simp
theorem latD_good{n:Nat}{u:Nat→Nat}(h:rS n u=e2 0 0):∀a,a<n→∀b,b<n→lat2 n u a b=true:=by
 unfold rS at h;rcases eV (wV n u) (e2 0 0) n 0 with⟨hb,_⟩|⟨m,r,_,h2,h3,_,h5⟩
 ·intro a ha;have:=hb a (by omega) (by omega)
  unfold wV at this;cases hl:latB n u a
  ·rw[hl]at this;cases this
  ·exact jA.1 hl
 ·rw[h5]at h;unfold wV at h3;cases hb:latB n u m<;>rw[hb]at h3
  ·cases h3;exact absurd (lW h).2 (by decide)
  ·cases h3
theorem CHK_lat{ss:List (List UInt8)}{us:List Nat}(h:CHK ss us=e2 0 0):rS ss.length (uM us)=e2 0 0:=by
 have h0:=h;unfold CHK at h;rcases lT ss with⟨h1,h2⟩|⟨h1,a,er,h2,h3⟩
 ·rw[aH h1]at h;by_cases hl:us.length=ss.length
  ·rw[aH hl]at h;unfold ordD at h;rcases eV (pE ss.length (uM us)) (rS ss.length (uM us)) ss.length 0 with⟨hb,h'⟩|⟨m,r,_,h2,h3,_,h5⟩
   ·rw[h']at h;exact h
   ·rw[h5]at h;unfold pE at h3;cases hb:kN ss.length (uM us) m<;>rw[hb]at h3
    ·cases h3;exact absurd (lW h).2 (by decide)
    ·cases h3
  ·rw[aD hl]at h;exact absurd (lW h).2 (by decide)
 ·rw[aD (by rw[h1];decide),h2]at h;exact absurd (lW h).2 h3
theorem near_nat{ss:List (List UInt8)}{us:List Nat}(h:CHK ss us=e2 0 0){a b:Nat}(ha:a<ss.length)(hb:b<ss.length):∃k:Nat,kC (uM us) ss.length a b=k∧k<ss.length:=by
 have h1:=latD_good (CHK_lat h) a ha b hb;unfold lat2 at h1;simp only[bK,Bool.not_eq_true',cE]at h1;unfold kC at h1 ⊢;rcases eV (lR (uM us) a b) (-1) ss.length 0 with⟨_,h'⟩|⟨m,r,_,h2,h3,_,h5⟩
 ·rw[h']at h1;exact absurd (by decide) h1.1
 ·refine⟨m,?_,by omega⟩
  rw[h5];unfold lR at h3;split at h3
  ·cases h3;rfl
  ·cases h3
/-! Sites in a map. -/
def mpE:Nat→List (Int×Int)→List rJ
 | _,[]=>[]
 | k,p::r=>(.int .i64 p.1,.int .i64 p.2,k)::mpE (k+1) r
def rR:List (Int×Int)→Int→Nat→Option (Nat×Int)
 | [],_,_=>none
 | p::r,x,n=>if x=p.1 then some (n,p.2) else rR r x (n+1)
def setM:List (Int×Int)→Nat→Int→List (Int×Int)
 | [],_,_=>[]
 | p::r,0,v=>(p.1,v)::r
 | p::r,n+1,v=>p::setM r n v
theorem mfind_mpE(x:Int):∀(l:List (Int×Int)) (k n:Nat),mfind .int (.int .i64 x) (mpE k l) n=some ((rR l x n).map fun q=>(q.1,.int .i64 q.2))
 | [],k,n=>rfl
 | p::r,k,n=>by
  have h:keyEq .int (.int .i64 x) (.int .i64 p.1)=some (decide (x=p.1)):=by
   show(if IntKind.i64=IntKind.i64 then some (x==p.1) else none)=_
   rw[aH rfl];congr 1
  simp only[mpE,mfind,h,rR];by_cases e:x=p.1
  ·rw[aH e,bH e];rfl
  ·rw[aD e,aK e];exact mfind_mpE x r (k+1) (n+1)
theorem mset_mpE:∀(l:List (Int×Int)) (k j:Nat) (v:Int),mset (mpE k l) j (.int .i64 v)=mpE k (setM l j v)
 | [],_,_,_=>rfl
 | p::r,k,0,v=>rfl
 | p::r,k,j+1,v=>by simp only[mpE,mset,setM,mset_mpE r]
theorem mpE_snoc:∀(l:List (Int×Int)) (k:Nat) (p:Int×Int),mpE k l++[(.int .i64 p.1,.int .i64 p.2,k+l.length)]=mpE k (l++[p])
 | [],k,p=>rfl
 | q::r,k,p=>by
  simp only[mpE,cB,aV];rw[show k+(r.length+1)=k+1+r.length by omega,mpE_snoc r (k+1) p]
theorem mpE_len:∀(l:List (Int×Int)) (k:Nat),(mpE k l).length=l.length
 | [],_=>rfl
 | p::r,k=>by simp only[mpE,aV,mpE_len r]
theorem setM_len:∀(l:List (Int×Int)) (j:Nat) (v:Int),(setM l j v).length=l.length
 | [],_,_=>rfl
 | p::r,0,v=>rfl
 | p::r,j+1,v=>by simp only[setM,aV,setM_len r]
theorem setM_keys:∀(l:List (Int×Int)) (j:Nat) (v:Int),(setM l j v).map Prod.fst=l.map Prod.fst
 | [],_,_=>rfl
 | p::r,0,v=>rfl
 | p::r,j+1,v=>by simp only[setM,bY,setM_keys r]
theorem posM_none:∀{l:List (Int×Int)} {x:Int} {n:Nat},rR l x n=none→x∉l.map Prod.fst
 | [],_,_,_=>by simp
 | p::r,x,n,h=>by
  unfold rR at h;split at h
  ·cases h
  ·rename_i hne;rw[bY,bN,not_or];exact⟨hne,posM_none h⟩
theorem mpE_borns:∀(l:List (Int×Int)) (k:Nat),borns (mpE k l)=(List.range l.length).map (· + k)
 | [],_=>rfl
 | p::r,k=>by
  have ih:=mpE_borns r (k+1);unfold borns at ih ⊢;simp only[mpE,bY,ih,aV,List.range_succ_eq_map,List.map_map,bP]
  congr 1
  apply List.map_congr_left;intro a _;simp only[Function.comp];omega
theorem mpE_nodup(l:List (Int×Int)):(borns (mpE 0 l)).Nodup:=by
 rw[mpE_borns];simp only[Nat.add_zero,List.map_id'];exact List.nodup_range
theorem mpE_lt(l:List (Int×Int)):∀e∈mpE 0 l,e.2.2<l.length:=fun e he=>by
 have:e.2.2∈borns (mpE 0 l):=List.mem_map_of_mem he;rw[mpE_borns]at this;simpa using this
end
end Zv
